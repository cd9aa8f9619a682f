-- Written for the seat Ytlkkgikjghkcmaa by this session's program hyb.py (the print's functions, with externals typed by hand).
import Derived.Test.YtlkkgikjghkcmaaPAx0
import Derived.Test.YtlkkgikjghkcmaaPAx2
import Derived.Test.YtlkkgikjghkcmaaPAx3
import Derived.Test.YtlkkgikjghkcmaaPAx4
import Derived.Test.YtlkkgikjghkcmaaPAx6
import Derived.Test.YtlkkgikjghkcmaaPAx9
import Derived.Test.YtlkkgikjghkcmaaPAx10
namespace Go.Proofs.Ytlkkgikjghkcmaa.PA
open Go.RowKit Go.Proofs.YtlkkgikjghkcmaaW.PrintWords Go.Proofs.YtlkkgikjghkcmaaW.PrintLast Go.Proofs.YtlkkgikjghkcmaaW.PrintMore
attribute [local go_sem] max2_int min2_int max_two min_two max_three min_three max_four min_four   -- for this text's walks alone
set_option linter.unusedVariables false
set_option linter.unusedSimpArgs false

/-! ### tidewaylaw04_TimerBack: function 7 -/
def tidewaylaw04_TimerBack.f (k : Nat) (l0 : List (S38)) (a1 : Int) (a2 : Int) : Option (Bool) := (timer_Set.f l0 a1 a2).bind fun bt283 => (if bt283.2 = 0 then ((timer_When.f bt283.1 a1).bind fun bt288 => ((timer_Stop.f bt283.1 a1).bind fun bt290 => ((timer_Stop.f l0 a1).bind fun bt294 => ((timer_When.f bt290.1 a1).bind fun bt298 => ((timer_Set.f bt283.1 a1 a2).bind fun bt300 => (if bt288.2 = true then (if bt288.1 = a2 then (if bt290.2 = 0 then (if bt294.2 = 0 then ((tidewayref04_Same.f k bt290.1 bt294.1).bind fun t304 => (if t304 = true then (if bt298.2 = true then (some false) else (if bt300.2 = 0 then ((tidewayref04_Same.f k bt300.1 bt283.1).bind fun t305 => (if t305 = true then ((timer_Check.f k bt283.1).bind fun t306 => (if t306 = 0 then ((tidewaylaw04_heads.f k).bind fun t307 => (some t307)) else (some false))) else (some false))) else (some false))) else (some false))) else (some false)) else (some false)) else (some false)) else (some false))))))) else (if (bt283.1.length : Int) = 0 then ((tidewaylaw04_heads.f k).bind fun t287 => (some t287)) else (some false)))
theorem tidewaylaw04_TimerBack.mono : ∀ a0 a1 a2 k, LeO (tidewaylaw04_TimerBack.f k a0 a1 a2) (tidewaylaw04_TimerBack.f (k + 1) a0 a1 a2) := by
 intro a0 a1 a2 k
 unfold tidewaylaw04_TimerBack.f
 repeat' first
   | (with_reducible exact tidewaylaw04_heads.mono _)
   | (with_reducible exact tidewayref04_Same.mono _ _ _)
   | (with_reducible exact timer_Check.mono _ _)
   | (with_reducible exact LeO.refl _)
   | (with_reducible exact LeO.none _)
   | (with_reducible refine LeO.ite ?_ ?_)
   | (with_reducible refine LeO.bind ?_ (fun _ => ?_))
   | exact tidewaylaw04_heads.mono _
   | exact tidewayref04_Same.mono _ _ _
   | exact timer_Check.mono _ _
   | exact LeO.none _
   | refine LeO.ite ?_ ?_
   | refine LeO.bind ?_ (fun _ => ?_)
set_option maxHeartbeats 8000000 in
set_option maxRecDepth 100000 in
theorem tidewaylaw04_TimerBack.calls (k : Nat) (A0 : Option Addr) (c0 : Nat) (l0 : List (S38)) (a1 : Int) (a2 : Int) (r : Bool) (w : World) (hr0 : Kd.C k38 w A0 l0.length l0) (hc0 : l0.length ≤ c0) (h : tidewaylaw04_TimerBack.f k l0 a1 a2 = some r) (hrT : r = true := by rfl) :
  Calls Try.prog 7 #[.slice A0 l0.length c0, .int .i64 a1, .int .i64 a2] w fun e w' => e = .returned (.bool r) ∧ Below w.heap.size w w' := by
 have HRT := Aside0.mk hrT
 clear hrT
 have HR0 := Aside0.mk hr0
 have HC0 := Aside0.mk hc0
 clear hr0 hc0
 have HB := Aside0.mk (Below.refl w.heap.size w)
 have H : ((timer_Set.f l0 a1 a2).bind fun bt283 => (if bt283.2 = 0 then ((timer_When.f bt283.1 a1).bind fun bt288 => ((timer_Stop.f bt283.1 a1).bind fun bt290 => ((timer_Stop.f l0 a1).bind fun bt294 => ((timer_When.f bt290.1 a1).bind fun bt298 => ((timer_Set.f bt283.1 a1 a2).bind fun bt300 => (if bt288.2 = true then (if bt288.1 = a2 then (if bt290.2 = 0 then (if bt294.2 = 0 then ((tidewayref04_Same.f k bt290.1 bt294.1).bind fun t304 => (if t304 = true then (if bt298.2 = true then (some false) else (if bt300.2 = 0 then ((tidewayref04_Same.f k bt300.1 bt283.1).bind fun t305 => (if t305 = true then ((timer_Check.f k bt283.1).bind fun t306 => (if t306 = 0 then ((tidewaylaw04_heads.f k).bind fun t307 => (some t307)) else (some false))) else (some false))) else (some false))) else (some false))) else (some false)) else (some false)) else (some false)) else (some false))))))) else (if (bt283.1.length : Int) = 0 then ((tidewaylaw04_heads.f k).bind fun t287 => (some t287)) else (some false)))) = some r := h
 clear h
 replace H := Option.bind_eq_some_iff.mp H
 obtain ⟨⟨t283, t284⟩, A40, H⟩ := H
 replace H : (if t284 = 0 then ((timer_When.f t283 a1).bind fun bt288 => ((timer_Stop.f t283 a1).bind fun bt290 => ((timer_Stop.f l0 a1).bind fun bt294 => ((timer_When.f bt290.1 a1).bind fun bt298 => ((timer_Set.f t283 a1 a2).bind fun bt300 => (if bt288.2 = true then (if bt288.1 = a2 then (if bt290.2 = 0 then (if bt294.2 = 0 then ((tidewayref04_Same.f k bt290.1 bt294.1).bind fun t304 => (if t304 = true then (if bt298.2 = true then (some false) else (if bt300.2 = 0 then ((tidewayref04_Same.f k bt300.1 t283).bind fun t305 => (if t305 = true then ((timer_Check.f k t283).bind fun t306 => (if t306 = 0 then ((tidewaylaw04_heads.f k).bind fun t307 => (some t307)) else (some false))) else (some false))) else (some false))) else (some false))) else (some false)) else (some false)) else (some false)) else (some false))))))) else (if (t283.length : Int) = 0 then ((tidewaylaw04_heads.f k).bind fun t287 => (some t287)) else (some false))) = some r := H
 have A4 := Aside0.mk A40
 clear A40
 by_cases c5 : t284 = 0
 ·rw [if_pos c5] at H
  have c5b0 : (t284 == 0) = true := beq_iff_eq.mpr c5
  have c5b1 : (t284 != 0) = false := bne_eq_false_iff_eq.mpr c5
  clear c5
  replace H := Option.bind_eq_some_iff.mp H
  obtain ⟨⟨t288, t289⟩, A60, H⟩ := H
  replace H : ((timer_Stop.f t283 a1).bind fun bt290 => ((timer_Stop.f l0 a1).bind fun bt294 => ((timer_When.f bt290.1 a1).bind fun bt298 => ((timer_Set.f t283 a1 a2).bind fun bt300 => (if t289 = true then (if t288 = a2 then (if bt290.2 = 0 then (if bt294.2 = 0 then ((tidewayref04_Same.f k bt290.1 bt294.1).bind fun t304 => (if t304 = true then (if bt298.2 = true then (some false) else (if bt300.2 = 0 then ((tidewayref04_Same.f k bt300.1 t283).bind fun t305 => (if t305 = true then ((timer_Check.f k t283).bind fun t306 => (if t306 = 0 then ((tidewaylaw04_heads.f k).bind fun t307 => (some t307)) else (some false))) else (some false))) else (some false))) else (some false))) else (some false)) else (some false)) else (some false)) else (some false)))))) = some r := H
  have A6 := Aside0.mk A60
  clear A60
  replace H := Option.bind_eq_some_iff.mp H
  obtain ⟨⟨t290, t291⟩, A70, H⟩ := H
  replace H : ((timer_Stop.f l0 a1).bind fun bt294 => ((timer_When.f t290 a1).bind fun bt298 => ((timer_Set.f t283 a1 a2).bind fun bt300 => (if t289 = true then (if t288 = a2 then (if t291 = 0 then (if bt294.2 = 0 then ((tidewayref04_Same.f k t290 bt294.1).bind fun t304 => (if t304 = true then (if bt298.2 = true then (some false) else (if bt300.2 = 0 then ((tidewayref04_Same.f k bt300.1 t283).bind fun t305 => (if t305 = true then ((timer_Check.f k t283).bind fun t306 => (if t306 = 0 then ((tidewaylaw04_heads.f k).bind fun t307 => (some t307)) else (some false))) else (some false))) else (some false))) else (some false))) else (some false)) else (some false)) else (some false)) else (some false))))) = some r := H
  have A7 := Aside0.mk A70
  clear A70
  replace H := Option.bind_eq_some_iff.mp H
  obtain ⟨⟨t294, t295⟩, A80, H⟩ := H
  replace H : ((timer_When.f t290 a1).bind fun bt298 => ((timer_Set.f t283 a1 a2).bind fun bt300 => (if t289 = true then (if t288 = a2 then (if t291 = 0 then (if t295 = 0 then ((tidewayref04_Same.f k t290 t294).bind fun t304 => (if t304 = true then (if bt298.2 = true then (some false) else (if bt300.2 = 0 then ((tidewayref04_Same.f k bt300.1 t283).bind fun t305 => (if t305 = true then ((timer_Check.f k t283).bind fun t306 => (if t306 = 0 then ((tidewaylaw04_heads.f k).bind fun t307 => (some t307)) else (some false))) else (some false))) else (some false))) else (some false))) else (some false)) else (some false)) else (some false)) else (some false)))) = some r := H
  have A8 := Aside0.mk A80
  clear A80
  replace H := Option.bind_eq_some_iff.mp H
  obtain ⟨⟨t298, t299⟩, A90, H⟩ := H
  replace H : ((timer_Set.f t283 a1 a2).bind fun bt300 => (if t289 = true then (if t288 = a2 then (if t291 = 0 then (if t295 = 0 then ((tidewayref04_Same.f k t290 t294).bind fun t304 => (if t304 = true then (if t299 = true then (some false) else (if bt300.2 = 0 then ((tidewayref04_Same.f k bt300.1 t283).bind fun t305 => (if t305 = true then ((timer_Check.f k t283).bind fun t306 => (if t306 = 0 then ((tidewaylaw04_heads.f k).bind fun t307 => (some t307)) else (some false))) else (some false))) else (some false))) else (some false))) else (some false)) else (some false)) else (some false)) else (some false))) = some r := H
  have A9 := Aside0.mk A90
  clear A90
  replace H := Option.bind_eq_some_iff.mp H
  obtain ⟨⟨t300, t301⟩, A100, H⟩ := H
  replace H : (if t289 = true then (if t288 = a2 then (if t291 = 0 then (if t295 = 0 then ((tidewayref04_Same.f k t290 t294).bind fun t304 => (if t304 = true then (if t299 = true then (some false) else (if t301 = 0 then ((tidewayref04_Same.f k t300 t283).bind fun t305 => (if t305 = true then ((timer_Check.f k t283).bind fun t306 => (if t306 = 0 then ((tidewaylaw04_heads.f k).bind fun t307 => (some t307)) else (some false))) else (some false))) else (some false))) else (some false))) else (some false)) else (some false)) else (some false)) else (some false)) = some r := H
  have A10 := Aside0.mk A100
  clear A100
  by_cases c11 : t289 = true
  ·subst c11
   have H1 : (if t288 = a2 then (if t291 = 0 then (if t295 = 0 then ((tidewayref04_Same.f k t290 t294).bind fun t304 => (if t304 = true then (if t299 = true then (some false) else (if t301 = 0 then ((tidewayref04_Same.f k t300 t283).bind fun t305 => (if t305 = true then ((timer_Check.f k t283).bind fun t306 => (if t306 = 0 then ((tidewaylaw04_heads.f k).bind fun t307 => (some t307)) else (some false))) else (some false))) else (some false))) else (some false))) else (some false)) else (some false)) else (some false)) = some r := by rw [if_pos rfl] at H; exact H
   clear H
   have H := H1
   clear H1
   by_cases c12 : t288 = a2
   ·rw [if_pos c12] at H
    have c12b0 : (t288 == a2) = true := beq_iff_eq.mpr c12
    have c12b1 : (t288 != a2) = false := bne_eq_false_iff_eq.mpr c12
    clear c12
    by_cases c13 : t291 = 0
    ·rw [if_pos c13] at H
     have c13b0 : (t291 == 0) = true := beq_iff_eq.mpr c13
     have c13b1 : (t291 != 0) = false := bne_eq_false_iff_eq.mpr c13
     clear c13
     by_cases c14 : t295 = 0
     ·rw [if_pos c14] at H
      have c14b0 : (t295 == 0) = true := beq_iff_eq.mpr c14
      have c14b1 : (t295 != 0) = false := bne_eq_false_iff_eq.mpr c14
      clear c14
      replace H := Option.bind_eq_some_iff.mp H
      obtain ⟨t304, A150, H⟩ := H
      replace H : (if t304 = true then (if t299 = true then (some false) else (if t301 = 0 then ((tidewayref04_Same.f k t300 t283).bind fun t305 => (if t305 = true then ((timer_Check.f k t283).bind fun t306 => (if t306 = 0 then ((tidewaylaw04_heads.f k).bind fun t307 => (some t307)) else (some false))) else (some false))) else (some false))) else (some false)) = some r := H
      have A15 := Aside0.mk A150
      clear A150
      by_cases c16 : t304 = true
      ·subst c16
       have H1 : (if t299 = true then (some false) else (if t301 = 0 then ((tidewayref04_Same.f k t300 t283).bind fun t305 => (if t305 = true then ((timer_Check.f k t283).bind fun t306 => (if t306 = 0 then ((tidewaylaw04_heads.f k).bind fun t307 => (some t307)) else (some false))) else (some false))) else (some false))) = some r := by rw [if_pos rfl] at H; exact H
       clear H
       have H := H1
       clear H1
       by_cases c17 : t299 = true
       ·subst c17
        have H1 : (some false) = some r := by rw [if_pos rfl] at H; exact H
        clear H
        have H := H1
        clear H1
        exact absurd ((Option.some.inj H).trans HRT.out) (by decide)
       ·replace c17 := Bool.eq_false_iff.mpr c17
        subst c17
        have H1 : (if t301 = 0 then ((tidewayref04_Same.f k t300 t283).bind fun t305 => (if t305 = true then ((timer_Check.f k t283).bind fun t306 => (if t306 = 0 then ((tidewaylaw04_heads.f k).bind fun t307 => (some t307)) else (some false))) else (some false))) else (some false)) = some r := by rw [if_neg (show ¬ (false = true) by decide)] at H; exact H
        clear H
        have H := H1
        clear H1
        by_cases c18 : t301 = 0
        ·rw [if_pos c18] at H
         have c18b0 : (t301 == 0) = true := beq_iff_eq.mpr c18
         have c18b1 : (t301 != 0) = false := bne_eq_false_iff_eq.mpr c18
         clear c18
         replace H := Option.bind_eq_some_iff.mp H
         obtain ⟨t305, A190, H⟩ := H
         replace H : (if t305 = true then ((timer_Check.f k t283).bind fun t306 => (if t306 = 0 then ((tidewaylaw04_heads.f k).bind fun t307 => (some t307)) else (some false))) else (some false)) = some r := H
         have A19 := Aside0.mk A190
         clear A190
         by_cases c20 : t305 = true
         ·subst c20
          have H1 : ((timer_Check.f k t283).bind fun t306 => (if t306 = 0 then ((tidewaylaw04_heads.f k).bind fun t307 => (some t307)) else (some false))) = some r := by rw [if_pos rfl] at H; exact H
          clear H
          have H := H1
          clear H1
          replace H := Option.bind_eq_some_iff.mp H
          obtain ⟨t306, A210, H⟩ := H
          replace H : (if t306 = 0 then ((tidewaylaw04_heads.f k).bind fun t307 => (some t307)) else (some false)) = some r := H
          have A21 := Aside0.mk A210
          clear A210
          by_cases c22 : t306 = 0
          ·rw [if_pos c22] at H
           have c22b0 : (t306 == 0) = true := beq_iff_eq.mpr c22
           have c22b1 : (t306 != 0) = false := bne_eq_false_iff_eq.mpr c22
           clear c22
           replace H := Option.bind_eq_some_iff.mp H
           obtain ⟨t307, A230, H⟩ := H
           replace H : (some t307) = some r := H
           have A23 := Aside0.mk A230
           clear A230
           obtain rfl := Option.some.inj H
           go_enter Try.func7, Try.ntmps7
           go_wp2_with (first | ((with_reducible refine gate_callee (f := 10) rfl ?_); refine goesL_ (some 23) rfl rfl Try.func10 (by kernel_rfl) rfl #[.slice A0 l0.length c0, .int .i64 a1, .int .i64 a2] rfl (by (try simp only [List.map_toArray, List.map_cons, List.map_nil]); first | done | rfl | (simp only [List.length_drop, List.length_take]; rfl)) ?_; (with_reducible refine (timer_Set.calls _ _ l0 a1 a2 t283 t284 _ ?side1 ?side2 A4.out).mono ?_); (case side1 => repeat (first | exact HR0.out | (with_reducible refine Kd.C_alloc ?_ _) | (with_reducible refine Kd.C_drewN ?_ _) | (with_reducible refine Kd.C_drew ?_))); (case side2 => exact HC0.out); rintro e w24 ⟨v285, rfl, ho0, hb⟩; refine ⟨_, rfl, ?_⟩; have n0_ := Aside0.mk (Kd.R_lower ho0 (below_size (by repeat (first | (with_reducible first | exact HB.out | apply below_alloc | apply pw_below_drewN | apply below_drew1) | exact HB.out | exact Below.refl _ _)))); have n1_ := Aside0.mk (below_step (by repeat (first | (with_reducible first | exact HB.out | apply below_alloc | apply pw_below_drewN | apply below_drew1) | exact HB.out | exact Below.refl _ _)) hb); clear HB; have HO286 := n0_; have HB := n1_; clear n0_ n1_; (try clear hb); (try clear hb2); (try clear hk); (try clear hi); (try clear ho0); obtain ⟨Ao25, co25, eo25⟩ := Kd.R_slice HO286.out; subst eo25) | ((with_reducible refine gate_callee (f := 17) rfl ?_); refine goesL_ (some 37) rfl rfl Try.func17 (by kernel_rfl) rfl #[.slice Ao25 t283.length co25, .int .i64 a1] rfl (by (try simp only [List.map_toArray, List.map_cons, List.map_nil]); first | done | rfl | (simp only [List.length_drop, List.length_take]; rfl)) ?_; (with_reducible refine (timer_When.calls _ _ t283 a1 t288 true _ ?side1 ?side2 A6.out).mono ?_); (case side1 => repeat (first | exact (Kd.R_reads' HO286.out).2.2 | (with_reducible refine Kd.C_alloc ?_ _) | (with_reducible refine Kd.C_drewN ?_ _) | (with_reducible refine Kd.C_drew ?_))); (case side2 => exact (Kd.R_reads' HO286.out).2.1); rintro e w26 ⟨rfl, hb⟩; refine ⟨_, rfl, ?_⟩; have n0_ := Aside0.mk (Kd.R_below (by (with_reducible repeat (first | apply Kd.R_alloc | apply Kd.R_drewN | apply Kd.R_drew)); exact HO286.out) hb); have n1_ := Aside0.mk (below_step (by repeat (first | (with_reducible first | exact HB.out | apply below_alloc | apply pw_below_drewN | apply below_drew1) | exact HB.out | exact Below.refl _ _)) hb); clear HO286; clear HB; have HO286 := n0_; have HB := n1_; clear n0_ n1_; (try clear hb); (try clear hb2); (try clear hk); (try clear hi)) | ((with_reducible refine gate_callee (f := 13) rfl ?_); refine goesL_ (some 43) rfl rfl Try.func13 (by kernel_rfl) rfl #[.slice Ao25 t283.length co25, .int .i64 a1] rfl (by (try simp only [List.map_toArray, List.map_cons, List.map_nil]); first | done | rfl | (simp only [List.length_drop, List.length_take]; rfl)) ?_; (with_reducible refine (timer_Stop.calls _ _ t283 a1 t290 t291 _ ?side1 ?side2 A7.out).mono ?_); (case side1 => repeat (first | exact (Kd.R_reads' HO286.out).2.2 | (with_reducible refine Kd.C_alloc ?_ _) | (with_reducible refine Kd.C_drewN ?_ _) | (with_reducible refine Kd.C_drew ?_))); (case side2 => exact (Kd.R_reads' HO286.out).2.1); rintro e w27 ⟨v292, rfl, ho0, hb⟩; refine ⟨_, rfl, ?_⟩; have n0_ := Aside0.mk (Kd.R_elder' (by (with_reducible repeat (first | apply Kd.R_alloc | apply Kd.R_drewN | apply Kd.R_drew)); exact HO286.out) (Kd.R_base ho0) hb); have n1_ := Aside0.mk (Kd.R_lower (Kd.R_new' ho0 (Kd.R_lt (by (with_reducible repeat (first | apply Kd.R_alloc | apply Kd.R_drewN | apply Kd.R_drew)); exact HO286.out))) (below_size (by repeat (first | (with_reducible first | exact HB.out | apply below_alloc | apply pw_below_drewN | apply below_drew1) | exact HB.out | exact Below.refl _ _)))); have n2_ := Aside0.mk (below_step (by repeat (first | (with_reducible first | exact HB.out | apply below_alloc | apply pw_below_drewN | apply below_drew1) | exact HB.out | exact Below.refl _ _)) hb); clear HO286; clear HB; have HO286 := n0_; have HO293 := n1_; have HB := n2_; clear n0_ n1_ n2_; (try clear hb); (try clear hb2); (try clear hk); (try clear hi); (try clear ho0)) | ((with_reducible refine gate_callee (f := 13) rfl ?_); refine goesL_ (some 49) rfl rfl Try.func13 (by kernel_rfl) rfl #[.slice A0 l0.length c0, .int .i64 a1] rfl (by (try simp only [List.map_toArray, List.map_cons, List.map_nil]); first | done | rfl | (simp only [List.length_drop, List.length_take]; rfl)) ?_; (with_reducible refine (timer_Stop.calls _ _ l0 a1 t294 t295 _ ?side1 ?side2 A8.out).mono ?_); (case side1 => repeat (first | exact (Kd.C_below HR0.out HB.out) | exact HR0.out | (with_reducible refine Kd.C_alloc ?_ _) | (with_reducible refine Kd.C_drewN ?_ _) | (with_reducible refine Kd.C_drew ?_))); (case side2 => exact HC0.out); rintro e w28 ⟨v296, rfl, ho0, hb⟩; refine ⟨_, rfl, ?_⟩; have n0_ := Aside0.mk (Kd.R_elder' (by (with_reducible repeat (first | apply Kd.R_alloc | apply Kd.R_drewN | apply Kd.R_drew)); exact HO286.out) (Kd.R_base ho0) hb); have n1_ := Aside0.mk (Kd.R_elder' (by (with_reducible repeat (first | apply Kd.R_alloc | apply Kd.R_drewN | apply Kd.R_drew)); exact HO293.out) (Kd.R_base ho0) hb); have n2_ := Aside0.mk (Kd.R_lower (Kd.R_new' (Kd.R_new' ho0 (Kd.R_lt (by (with_reducible repeat (first | apply Kd.R_alloc | apply Kd.R_drewN | apply Kd.R_drew)); exact HO286.out))) (Kd.R_lt (by (with_reducible repeat (first | apply Kd.R_alloc | apply Kd.R_drewN | apply Kd.R_drew)); exact HO293.out))) (below_size (by repeat (first | (with_reducible first | exact HB.out | apply below_alloc | apply pw_below_drewN | apply below_drew1) | exact HB.out | exact Below.refl _ _)))); have n3_ := Aside0.mk (below_step (by repeat (first | (with_reducible first | exact HB.out | apply below_alloc | apply pw_below_drewN | apply below_drew1) | exact HB.out | exact Below.refl _ _)) hb); clear HO286; clear HO293; clear HB; have HO286 := n0_; have HO293 := n1_; have HO297 := n2_; have HB := n3_; clear n0_ n1_ n2_ n3_; (try clear hb); (try clear hb2); (try clear hk); (try clear hi); (try clear ho0); obtain ⟨Ao29, co29, eo29⟩ := Kd.R_slice HO293.out; subst eo29) | ((with_reducible refine gate_callee (f := 17) rfl ?_); refine goesL_ (some 55) rfl rfl Try.func17 (by kernel_rfl) rfl #[.slice Ao29 t290.length co29, .int .i64 a1] rfl (by (try simp only [List.map_toArray, List.map_cons, List.map_nil]); first | done | rfl | (simp only [List.length_drop, List.length_take]; rfl)) ?_; (with_reducible refine (timer_When.calls _ _ t290 a1 t298 false _ ?side1 ?side2 A9.out).mono ?_); (case side1 => repeat (first | exact (Kd.R_reads' HO293.out).2.2 | (with_reducible refine Kd.C_alloc ?_ _) | (with_reducible refine Kd.C_drewN ?_ _) | (with_reducible refine Kd.C_drew ?_))); (case side2 => exact (Kd.R_reads' HO293.out).2.1); rintro e w30 ⟨rfl, hb⟩; refine ⟨_, rfl, ?_⟩; have n0_ := Aside0.mk (Kd.R_below (by (with_reducible repeat (first | apply Kd.R_alloc | apply Kd.R_drewN | apply Kd.R_drew)); exact HO286.out) hb); have n1_ := Aside0.mk (Kd.R_below (by (with_reducible repeat (first | apply Kd.R_alloc | apply Kd.R_drewN | apply Kd.R_drew)); exact HO293.out) hb); have n2_ := Aside0.mk (Kd.R_below (by (with_reducible repeat (first | apply Kd.R_alloc | apply Kd.R_drewN | apply Kd.R_drew)); exact HO297.out) hb); have n3_ := Aside0.mk (below_step (by repeat (first | (with_reducible first | exact HB.out | apply below_alloc | apply pw_below_drewN | apply below_drew1) | exact HB.out | exact Below.refl _ _)) hb); clear HO286; clear HO293; clear HO297; clear HB; have HO286 := n0_; have HO293 := n1_; have HO297 := n2_; have HB := n3_; clear n0_ n1_ n2_ n3_; (try clear hb); (try clear hb2); (try clear hk); (try clear hi)) | ((with_reducible refine gate_callee (f := 10) rfl ?_); refine goesL_ (some 62) rfl rfl Try.func10 (by kernel_rfl) rfl #[.slice Ao25 t283.length co25, .int .i64 a1, .int .i64 a2] rfl (by (try simp only [List.map_toArray, List.map_cons, List.map_nil]); first | done | rfl | (simp only [List.length_drop, List.length_take]; rfl)) ?_; (with_reducible refine (timer_Set.calls _ _ t283 a1 a2 t300 t301 _ ?side1 ?side2 A10.out).mono ?_); (case side1 => repeat (first | exact (Kd.R_reads' HO286.out).2.2 | (with_reducible refine Kd.C_alloc ?_ _) | (with_reducible refine Kd.C_drewN ?_ _) | (with_reducible refine Kd.C_drew ?_))); (case side2 => exact (Kd.R_reads' HO286.out).2.1); rintro e w31 ⟨v302, rfl, ho0, hb⟩; refine ⟨_, rfl, ?_⟩; have n0_ := Aside0.mk (Kd.R_elder' (by (with_reducible repeat (first | apply Kd.R_alloc | apply Kd.R_drewN | apply Kd.R_drew)); exact HO286.out) (Kd.R_base ho0) hb); have n1_ := Aside0.mk (Kd.R_elder' (by (with_reducible repeat (first | apply Kd.R_alloc | apply Kd.R_drewN | apply Kd.R_drew)); exact HO293.out) (Kd.R_base ho0) hb); have n2_ := Aside0.mk (Kd.R_elder' (by (with_reducible repeat (first | apply Kd.R_alloc | apply Kd.R_drewN | apply Kd.R_drew)); exact HO297.out) (Kd.R_base ho0) hb); have n3_ := Aside0.mk (Kd.R_lower (Kd.R_new' (Kd.R_new' (Kd.R_new' ho0 (Kd.R_lt (by (with_reducible repeat (first | apply Kd.R_alloc | apply Kd.R_drewN | apply Kd.R_drew)); exact HO286.out))) (Kd.R_lt (by (with_reducible repeat (first | apply Kd.R_alloc | apply Kd.R_drewN | apply Kd.R_drew)); exact HO293.out))) (Kd.R_lt (by (with_reducible repeat (first | apply Kd.R_alloc | apply Kd.R_drewN | apply Kd.R_drew)); exact HO297.out))) (below_size (by repeat (first | (with_reducible first | exact HB.out | apply below_alloc | apply pw_below_drewN | apply below_drew1) | exact HB.out | exact Below.refl _ _)))); have n4_ := Aside0.mk (below_step (by repeat (first | (with_reducible first | exact HB.out | apply below_alloc | apply pw_below_drewN | apply below_drew1) | exact HB.out | exact Below.refl _ _)) hb); clear HO286; clear HO293; clear HO297; clear HB; have HO286 := n0_; have HO293 := n1_; have HO297 := n2_; have HO303 := n3_; have HB := n4_; clear n0_ n1_ n2_ n3_ n4_; (try clear hb); (try clear hb2); (try clear hk); (try clear hi); (try clear ho0); obtain ⟨Ao32, co32, eo32⟩ := Kd.R_slice HO297.out; subst eo32) | (go_at_call 11; (with_reducible refine (tidewayref04_Same.calls k _ _ t290 _ _ t294 true _ ?side1 ?side2 ?side3 ?side4 A15.out).mono ?_); (case side1 => repeat (first | exact (Kd.R_reads' HO293.out).2.2 | (with_reducible refine Kd.C_alloc ?_ _) | (with_reducible refine Kd.C_drewN ?_ _) | (with_reducible refine Kd.C_drew ?_))); (case side2 => exact (Kd.R_reads' HO293.out).2.1); (case side3 => repeat (first | exact (Kd.R_reads' HO297.out).2.2 | (with_reducible refine Kd.C_alloc ?_ _) | (with_reducible refine Kd.C_drewN ?_ _) | (with_reducible refine Kd.C_drew ?_))); (case side4 => exact (Kd.R_reads' HO297.out).2.1); rintro e w' ⟨rfl, ⟨nd, rfl⟩⟩; obtain ⟨Ao33, co33, eo33⟩ := Kd.R_slice HO303.out; subst eo33) | (go_at_call 11; (with_reducible refine (tidewayref04_Same.calls k _ _ t300 _ _ t283 true _ ?side1 ?side2 ?side3 ?side4 A19.out).mono ?_); (case side1 => repeat (first | exact (Kd.R_reads' HO303.out).2.2 | (with_reducible refine Kd.C_alloc ?_ _) | (with_reducible refine Kd.C_drewN ?_ _) | (with_reducible refine Kd.C_drew ?_))); (case side2 => exact (Kd.R_reads' HO303.out).2.1); (case side3 => repeat (first | exact (Kd.R_reads' HO286.out).2.2 | (with_reducible refine Kd.C_alloc ?_ _) | (with_reducible refine Kd.C_drewN ?_ _) | (with_reducible refine Kd.C_drew ?_))); (case side4 => exact (Kd.R_reads' HO286.out).2.1); rintro e w' ⟨rfl, ⟨nd, rfl⟩⟩) | (go_at_call 8; (with_reducible refine (timer_Check.calls k _ _ t283 t306 _ ?side1 ?side2 A21.out).mono ?_); (case side1 => repeat (first | exact (Kd.R_reads' HO286.out).2.2 | (with_reducible refine Kd.C_alloc ?_ _) | (with_reducible refine Kd.C_drewN ?_ _) | (with_reducible refine Kd.C_drew ?_))); (case side2 => exact (Kd.R_reads' HO286.out).2.1); rintro e w34 ⟨rfl, hb⟩; have n0_ := Aside0.mk (Kd.R_below (by (with_reducible repeat (first | apply Kd.R_alloc | apply Kd.R_drewN | apply Kd.R_drew)); exact HO286.out) hb); have n1_ := Aside0.mk (Kd.R_below (by (with_reducible repeat (first | apply Kd.R_alloc | apply Kd.R_drewN | apply Kd.R_drew)); exact HO293.out) hb); have n2_ := Aside0.mk (Kd.R_below (by (with_reducible repeat (first | apply Kd.R_alloc | apply Kd.R_drewN | apply Kd.R_drew)); exact HO297.out) hb); have n3_ := Aside0.mk (Kd.R_below (by (with_reducible repeat (first | apply Kd.R_alloc | apply Kd.R_drewN | apply Kd.R_drew)); exact HO303.out) hb); have n4_ := Aside0.mk (below_step (by repeat (first | (with_reducible first | exact HB.out | apply below_alloc | apply pw_below_drewN | apply below_drew1) | exact HB.out | exact Below.refl _ _)) hb); clear HO286; clear HO293; clear HO297; clear HO303; clear HB; have HO286 := n0_; have HO293 := n1_; have HO297 := n2_; have HO303 := n3_; have HB := n4_; clear n0_ n1_ n2_ n3_ n4_; (try clear hb); (try clear hb2); (try clear hk); (try clear hi)) | (go_at_call 9; (with_reducible refine (tidewaylaw04_heads.calls k  t307 _ A23.out).mono ?_); rintro e w35 ⟨rfl, hb⟩; have n0_ := Aside0.mk (Kd.R_below (by (with_reducible repeat (first | apply Kd.R_alloc | apply Kd.R_drewN | apply Kd.R_drew)); exact HO286.out) hb); have n1_ := Aside0.mk (Kd.R_below (by (with_reducible repeat (first | apply Kd.R_alloc | apply Kd.R_drewN | apply Kd.R_drew)); exact HO293.out) hb); have n2_ := Aside0.mk (Kd.R_below (by (with_reducible repeat (first | apply Kd.R_alloc | apply Kd.R_drewN | apply Kd.R_drew)); exact HO297.out) hb); have n3_ := Aside0.mk (Kd.R_below (by (with_reducible repeat (first | apply Kd.R_alloc | apply Kd.R_drewN | apply Kd.R_drew)); exact HO303.out) hb); have n4_ := Aside0.mk (below_step (by repeat (first | (with_reducible first | exact HB.out | apply below_alloc | apply pw_below_drewN | apply below_drew1) | exact HB.out | exact Below.refl _ _)) hb); clear HO286; clear HO293; clear HO297; clear HO303; clear HB; have HO286 := n0_; have HO293 := n1_; have HO297 := n2_; have HO303 := n3_; have HB := n4_; clear n0_ n1_ n2_ n3_ n4_; (try clear hb); (try clear hb2); (try clear hk); (try clear hi)))
           go_ret
           exact ⟨by first | rfl | (simp [errW_none, errW_some] <;> rfl) | (simp [*, errW_none, errW_some] <;> rfl), by repeat (first | (with_reducible first | exact HB.out | apply below_alloc | apply pw_below_drewN | apply below_drew1) | exact HB.out | exact Below.refl _ _)⟩
          ·rw [if_neg c22] at H
           have c22b0 : (t306 == 0) = false := beq_eq_false_iff_ne.mpr c22
           have c22b1 : (t306 != 0) = true := bne_iff_ne.mpr c22
           exact absurd ((Option.some.inj H).trans HRT.out) (by decide)
         ·replace c20 := Bool.eq_false_iff.mpr c20
          subst c20
          have H1 : (some false) = some r := by rw [if_neg (show ¬ (false = true) by decide)] at H; exact H
          clear H
          have H := H1
          clear H1
          exact absurd ((Option.some.inj H).trans HRT.out) (by decide)
        ·rw [if_neg c18] at H
         have c18b0 : (t301 == 0) = false := beq_eq_false_iff_ne.mpr c18
         have c18b1 : (t301 != 0) = true := bne_iff_ne.mpr c18
         exact absurd ((Option.some.inj H).trans HRT.out) (by decide)
      ·replace c16 := Bool.eq_false_iff.mpr c16
       subst c16
       have H1 : (some false) = some r := by rw [if_neg (show ¬ (false = true) by decide)] at H; exact H
       clear H
       have H := H1
       clear H1
       exact absurd ((Option.some.inj H).trans HRT.out) (by decide)
     ·rw [if_neg c14] at H
      have c14b0 : (t295 == 0) = false := beq_eq_false_iff_ne.mpr c14
      have c14b1 : (t295 != 0) = true := bne_iff_ne.mpr c14
      exact absurd ((Option.some.inj H).trans HRT.out) (by decide)
    ·rw [if_neg c13] at H
     have c13b0 : (t291 == 0) = false := beq_eq_false_iff_ne.mpr c13
     have c13b1 : (t291 != 0) = true := bne_iff_ne.mpr c13
     exact absurd ((Option.some.inj H).trans HRT.out) (by decide)
   ·rw [if_neg c12] at H
    have c12b0 : (t288 == a2) = false := beq_eq_false_iff_ne.mpr c12
    have c12b1 : (t288 != a2) = true := bne_iff_ne.mpr c12
    exact absurd ((Option.some.inj H).trans HRT.out) (by decide)
  ·replace c11 := Bool.eq_false_iff.mpr c11
   subst c11
   have H1 : (some false) = some r := by rw [if_neg (show ¬ (false = true) by decide)] at H; exact H
   clear H
   have H := H1
   clear H1
   exact absurd ((Option.some.inj H).trans HRT.out) (by decide)
 ·rw [if_neg c5] at H
  have c5b0 : (t284 == 0) = false := beq_eq_false_iff_ne.mpr c5
  have c5b1 : (t284 != 0) = true := bne_iff_ne.mpr c5
  by_cases c36 : (t283.length : Int) = 0
  ·rw [if_pos c36] at H
   have c36b0 : ((t283.length : Int) == 0) = true := beq_iff_eq.mpr c36
   have c36b1 : ((t283.length : Int) != 0) = false := bne_eq_false_iff_eq.mpr c36
   clear c36
   replace H := Option.bind_eq_some_iff.mp H
   obtain ⟨t287, A370, H⟩ := H
   replace H : (some t287) = some r := H
   have A37 := Aside0.mk A370
   clear A370
   obtain rfl := Option.some.inj H
   go_enter Try.func7, Try.ntmps7
   go_wp2_with (first | ((with_reducible refine gate_callee (f := 10) rfl ?_); refine goesL_ (some 23) rfl rfl Try.func10 (by kernel_rfl) rfl #[.slice A0 l0.length c0, .int .i64 a1, .int .i64 a2] rfl (by (try simp only [List.map_toArray, List.map_cons, List.map_nil]); first | done | rfl | (simp only [List.length_drop, List.length_take]; rfl)) ?_; (with_reducible refine (timer_Set.calls _ _ l0 a1 a2 t283 t284 _ ?side1 ?side2 A4.out).mono ?_); (case side1 => repeat (first | exact HR0.out | (with_reducible refine Kd.C_alloc ?_ _) | (with_reducible refine Kd.C_drewN ?_ _) | (with_reducible refine Kd.C_drew ?_))); (case side2 => exact HC0.out); rintro e w38 ⟨v285, rfl, ho0, hb⟩; refine ⟨_, rfl, ?_⟩; have n0_ := Aside0.mk (Kd.R_lower ho0 (below_size (by repeat (first | (with_reducible first | exact HB.out | apply below_alloc | apply pw_below_drewN | apply below_drew1) | exact HB.out | exact Below.refl _ _)))); have n1_ := Aside0.mk (below_step (by repeat (first | (with_reducible first | exact HB.out | apply below_alloc | apply pw_below_drewN | apply below_drew1) | exact HB.out | exact Below.refl _ _)) hb); clear HB; have HO286 := n0_; have HB := n1_; clear n0_ n1_; (try clear hb); (try clear hb2); (try clear hk); (try clear hi); (try clear ho0); obtain ⟨Ao39, co39, eo39⟩ := Kd.R_slice HO286.out; subst eo39) | (go_at_call 9; (with_reducible refine (tidewaylaw04_heads.calls k  t287 _ A37.out).mono ?_); rintro e w40 ⟨rfl, hb⟩; have n0_ := Aside0.mk (Kd.R_below (by (with_reducible repeat (first | apply Kd.R_alloc | apply Kd.R_drewN | apply Kd.R_drew)); exact HO286.out) hb); have n1_ := Aside0.mk (below_step (by repeat (first | (with_reducible first | exact HB.out | apply below_alloc | apply pw_below_drewN | apply below_drew1) | exact HB.out | exact Below.refl _ _)) hb); clear HO286; clear HB; have HO286 := n0_; have HB := n1_; clear n0_ n1_; (try clear hb); (try clear hb2); (try clear hk); (try clear hi)))
   go_ret
   exact ⟨by first | rfl | (simp [errW_none, errW_some] <;> rfl) | (simp [*, errW_none, errW_some] <;> rfl), by repeat (first | (with_reducible first | exact HB.out | apply below_alloc | apply pw_below_drewN | apply below_drew1) | exact HB.out | exact Below.refl _ _)⟩
  ·rw [if_neg c36] at H
   have c36b0 : ((t283.length : Int) == 0) = false := beq_eq_false_iff_ne.mpr c36
   have c36b1 : ((t283.length : Int) != 0) = true := bne_iff_ne.mpr c36
   have c36b2 : ¬ (t283 = []) := fun h_ => c36 (by rw [h_]; rfl)
   exact absurd ((Option.some.inj H).trans HRT.out) (by decide)

end Go.Proofs.Ytlkkgikjghkcmaa.PA

-- Written for the seat Ytgpbighdegdlfaa by this session's program hyb.py (the print's functions, with externals typed by hand).
import Derived.Test.YtgpbighdegdlfaaPAx0
import Derived.Test.YtgpbighdegdlfaaPAx6
import Derived.Test.YtgpbighdegdlfaaPAx9
import Derived.Test.YtgpbighdegdlfaaPAx10
import Derived.Test.YtgpbighdegdlfaaPAx12
import Derived.Test.YtgpbighdegdlfaaPAx14
import Derived.Test.YtgpbighdegdlfaaPAx15
import Derived.Test.YtgpbighdegdlfaaPAx18
import Derived.Test.YtgpbighdegdlfaaPAx20
import Derived.Test.YtgpbighdegdlfaaPAx22
import Derived.Test.YtgpbighdegdlfaaPAx24
import Derived.Test.YtgpbighdegdlfaaPAx25
import Derived.Test.YtgpbighdegdlfaaPAx26
import Derived.Test.YtgpbighdegdlfaaPAx27
namespace Go.Proofs.Ytgpbighdegdlfaa.PA
open Go.RowKit Go.Proofs.YtgpbighdegdlfaaW.PrintWords Go.Proofs.YtgpbighdegdlfaaW.PrintLast Go.Proofs.YtgpbighdegdlfaaW.PrintMore
attribute [local go_sem] max2_int min2_int max_two min_two max_three min_three max_four min_four   -- for this text's walks alone
set_option linter.unusedVariables false
set_option linter.unusedSimpArgs false

/-! ### tidewaylaw10_BoardAcks: function 3 -/
def tidewaylaw10_BoardAcks.j0 : Nat → List (S38) → Bool → Option (Bool)
 | 0, _, _ => none
 | k + 1, x0, x87 => if x87 = true then (some false) else ((board_Pipe.f x0).bind fun t323 => ((tidewayref10_Pipe.f k x0).bind fun t324 => (if t323 = t324 then ((board_Lost.f x0).bind fun t325 => ((tidewayref10_Lost.f k x0).bind fun t326 => (if t325 = t326 then ((board_High.f x0).bind fun t327 => ((tidewayref10_High.f k x0).bind fun t328 => (if t327 = t328 then ((board_Sacked.f x0).bind fun t329 => ((tidewayref10_Sacked.f k x0).bind fun t330 => (if t329 = t330 then ((tidewaylaw10_heads.f k).bind fun t331 => (some t331)) else (some false)))) else (some false)))) else (some false)))) else (some false))))
def tidewaylaw10_BoardAcks.f (k : Nat) (l0 : List (S38)) (a1 : Int) (l2 : List (S56)) : Option (Bool) := (tidewayref10_Copy.f l0).bind fun t287 => ((board_Ack.f k t287 a1).bind fun bt290 => ((tidewayref10_Ack.f k l0 a1).bind fun bt297 => ((board_Sack.f k t287 l2).bind fun bt304 => ((tidewayref10_Sack.f k l0 l2).bind fun bt311 => ((tidewayref10_Same.f k bt290.1 bt297.1).bind fun t318 => (if t318 = true then ((tidewayref10_Same.f k bt290.2.1 bt297.2.1).bind fun t319 => (if t319 = true then (if bt290.2.2 = bt297.2.2 then ((tidewayref10_Same.f k bt304.1 bt311.1).bind fun t320 => (if t320 = true then ((tidewayref10_Same.f k bt304.2.1 bt311.2.1).bind fun t321 => (if t321 = true then (if bt304.2.2 = bt311.2.2 then ((tidewayref10_Same.f k t287 l0).bind fun t322 => (tidewaylaw10_BoardAcks.j0 k l0 (!t322))) else (tidewaylaw10_BoardAcks.j0 k l0 true)) else (tidewaylaw10_BoardAcks.j0 k l0 true))) else (tidewaylaw10_BoardAcks.j0 k l0 true))) else (tidewaylaw10_BoardAcks.j0 k l0 true)) else (tidewaylaw10_BoardAcks.j0 k l0 true))) else (tidewaylaw10_BoardAcks.j0 k l0 true)))))))
set_option maxHeartbeats 8000000 in
set_option maxRecDepth 100000 in
theorem tidewaylaw10_BoardAcks.calls (k : Nat) (A0 : Option Addr) (c0 : Nat) (l0 : List (S38)) (a1 : Int) (A2 : Option Addr) (c2 : Nat) (l2 : List (S56)) (r : Bool) (w : World) (hr0 : Kd.C k38 w A0 l0.length l0) (hc0 : l0.length ≤ c0) (hr2 : Kd.C k56 w A2 l2.length l2) (hc2 : l2.length ≤ c2) (h : tidewaylaw10_BoardAcks.f k l0 a1 l2 = some r) (hrT : r = true := by rfl) :
  Calls Try.prog 3 #[.slice A0 l0.length c0, .int .i64 a1, .slice A2 l2.length c2] w fun e w' => e = .returned (.bool r) ∧ Below w.heap.size w w' := by
 have HRT := Aside0.mk hrT
 clear hrT
 have HR0 := Aside0.mk hr0
 have HC0 := Aside0.mk hc0
 clear hr0 hc0
 have HR2 := Aside0.mk hr2
 have HC2 := Aside0.mk hc2
 clear hr2 hc2
 have HB := Aside0.mk (Below.refl w.heap.size w)
 have H : ((tidewayref10_Copy.f l0).bind fun t287 => ((board_Ack.f k t287 a1).bind fun bt290 => ((tidewayref10_Ack.f k l0 a1).bind fun bt297 => ((board_Sack.f k t287 l2).bind fun bt304 => ((tidewayref10_Sack.f k l0 l2).bind fun bt311 => ((tidewayref10_Same.f k bt290.1 bt297.1).bind fun t318 => (if t318 = true then ((tidewayref10_Same.f k bt290.2.1 bt297.2.1).bind fun t319 => (if t319 = true then (if bt290.2.2 = bt297.2.2 then ((tidewayref10_Same.f k bt304.1 bt311.1).bind fun t320 => (if t320 = true then ((tidewayref10_Same.f k bt304.2.1 bt311.2.1).bind fun t321 => (if t321 = true then (if bt304.2.2 = bt311.2.2 then ((tidewayref10_Same.f k t287 l0).bind fun t322 => (tidewaylaw10_BoardAcks.j0 k l0 (!t322))) else (tidewaylaw10_BoardAcks.j0 k l0 true)) else (tidewaylaw10_BoardAcks.j0 k l0 true))) else (tidewaylaw10_BoardAcks.j0 k l0 true))) else (tidewaylaw10_BoardAcks.j0 k l0 true)) else (tidewaylaw10_BoardAcks.j0 k l0 true))) else (tidewaylaw10_BoardAcks.j0 k l0 true)))))))) = some r := h
 clear h
 replace H := Option.bind_eq_some_iff.mp H
 obtain ⟨t287, A40, H⟩ := H
 replace H : ((board_Ack.f k t287 a1).bind fun bt290 => ((tidewayref10_Ack.f k l0 a1).bind fun bt297 => ((board_Sack.f k t287 l2).bind fun bt304 => ((tidewayref10_Sack.f k l0 l2).bind fun bt311 => ((tidewayref10_Same.f k bt290.1 bt297.1).bind fun t318 => (if t318 = true then ((tidewayref10_Same.f k bt290.2.1 bt297.2.1).bind fun t319 => (if t319 = true then (if bt290.2.2 = bt297.2.2 then ((tidewayref10_Same.f k bt304.1 bt311.1).bind fun t320 => (if t320 = true then ((tidewayref10_Same.f k bt304.2.1 bt311.2.1).bind fun t321 => (if t321 = true then (if bt304.2.2 = bt311.2.2 then ((tidewayref10_Same.f k t287 l0).bind fun t322 => (tidewaylaw10_BoardAcks.j0 k l0 (!t322))) else (tidewaylaw10_BoardAcks.j0 k l0 true)) else (tidewaylaw10_BoardAcks.j0 k l0 true))) else (tidewaylaw10_BoardAcks.j0 k l0 true))) else (tidewaylaw10_BoardAcks.j0 k l0 true)) else (tidewaylaw10_BoardAcks.j0 k l0 true))) else (tidewaylaw10_BoardAcks.j0 k l0 true))))))) = some r := H
 have A4 := Aside0.mk A40
 clear A40
 replace H := Option.bind_eq_some_iff.mp H
 obtain ⟨⟨t290, t291, t292⟩, A50, H⟩ := H
 replace H : ((tidewayref10_Ack.f k l0 a1).bind fun bt297 => ((board_Sack.f k t287 l2).bind fun bt304 => ((tidewayref10_Sack.f k l0 l2).bind fun bt311 => ((tidewayref10_Same.f k t290 bt297.1).bind fun t318 => (if t318 = true then ((tidewayref10_Same.f k t291 bt297.2.1).bind fun t319 => (if t319 = true then (if t292 = bt297.2.2 then ((tidewayref10_Same.f k bt304.1 bt311.1).bind fun t320 => (if t320 = true then ((tidewayref10_Same.f k bt304.2.1 bt311.2.1).bind fun t321 => (if t321 = true then (if bt304.2.2 = bt311.2.2 then ((tidewayref10_Same.f k t287 l0).bind fun t322 => (tidewaylaw10_BoardAcks.j0 k l0 (!t322))) else (tidewaylaw10_BoardAcks.j0 k l0 true)) else (tidewaylaw10_BoardAcks.j0 k l0 true))) else (tidewaylaw10_BoardAcks.j0 k l0 true))) else (tidewaylaw10_BoardAcks.j0 k l0 true)) else (tidewaylaw10_BoardAcks.j0 k l0 true))) else (tidewaylaw10_BoardAcks.j0 k l0 true)))))) = some r := H
 have A5 := Aside0.mk A50
 clear A50
 replace H := Option.bind_eq_some_iff.mp H
 obtain ⟨⟨t297, t298, t299⟩, A60, H⟩ := H
 replace H : ((board_Sack.f k t287 l2).bind fun bt304 => ((tidewayref10_Sack.f k l0 l2).bind fun bt311 => ((tidewayref10_Same.f k t290 t297).bind fun t318 => (if t318 = true then ((tidewayref10_Same.f k t291 t298).bind fun t319 => (if t319 = true then (if t292 = t299 then ((tidewayref10_Same.f k bt304.1 bt311.1).bind fun t320 => (if t320 = true then ((tidewayref10_Same.f k bt304.2.1 bt311.2.1).bind fun t321 => (if t321 = true then (if bt304.2.2 = bt311.2.2 then ((tidewayref10_Same.f k t287 l0).bind fun t322 => (tidewaylaw10_BoardAcks.j0 k l0 (!t322))) else (tidewaylaw10_BoardAcks.j0 k l0 true)) else (tidewaylaw10_BoardAcks.j0 k l0 true))) else (tidewaylaw10_BoardAcks.j0 k l0 true))) else (tidewaylaw10_BoardAcks.j0 k l0 true)) else (tidewaylaw10_BoardAcks.j0 k l0 true))) else (tidewaylaw10_BoardAcks.j0 k l0 true))))) = some r := H
 have A6 := Aside0.mk A60
 clear A60
 replace H := Option.bind_eq_some_iff.mp H
 obtain ⟨⟨t304, t305, t306⟩, A70, H⟩ := H
 replace H : ((tidewayref10_Sack.f k l0 l2).bind fun bt311 => ((tidewayref10_Same.f k t290 t297).bind fun t318 => (if t318 = true then ((tidewayref10_Same.f k t291 t298).bind fun t319 => (if t319 = true then (if t292 = t299 then ((tidewayref10_Same.f k t304 bt311.1).bind fun t320 => (if t320 = true then ((tidewayref10_Same.f k t305 bt311.2.1).bind fun t321 => (if t321 = true then (if t306 = bt311.2.2 then ((tidewayref10_Same.f k t287 l0).bind fun t322 => (tidewaylaw10_BoardAcks.j0 k l0 (!t322))) else (tidewaylaw10_BoardAcks.j0 k l0 true)) else (tidewaylaw10_BoardAcks.j0 k l0 true))) else (tidewaylaw10_BoardAcks.j0 k l0 true))) else (tidewaylaw10_BoardAcks.j0 k l0 true)) else (tidewaylaw10_BoardAcks.j0 k l0 true))) else (tidewaylaw10_BoardAcks.j0 k l0 true)))) = some r := H
 have A7 := Aside0.mk A70
 clear A70
 replace H := Option.bind_eq_some_iff.mp H
 obtain ⟨⟨t311, t312, t313⟩, A80, H⟩ := H
 replace H : ((tidewayref10_Same.f k t290 t297).bind fun t318 => (if t318 = true then ((tidewayref10_Same.f k t291 t298).bind fun t319 => (if t319 = true then (if t292 = t299 then ((tidewayref10_Same.f k t304 t311).bind fun t320 => (if t320 = true then ((tidewayref10_Same.f k t305 t312).bind fun t321 => (if t321 = true then (if t306 = t313 then ((tidewayref10_Same.f k t287 l0).bind fun t322 => (tidewaylaw10_BoardAcks.j0 k l0 (!t322))) else (tidewaylaw10_BoardAcks.j0 k l0 true)) else (tidewaylaw10_BoardAcks.j0 k l0 true))) else (tidewaylaw10_BoardAcks.j0 k l0 true))) else (tidewaylaw10_BoardAcks.j0 k l0 true)) else (tidewaylaw10_BoardAcks.j0 k l0 true))) else (tidewaylaw10_BoardAcks.j0 k l0 true))) = some r := H
 have A8 := Aside0.mk A80
 clear A80
 have HC9 := Aside0.mk H
 clear H
 go_enter Try.func3, Try.ntmps3
 go_upto_region 6 with (first | ((with_reducible refine gate_callee (f := 8) rfl ?_); refine goesL_ (some 21) rfl rfl Try.func8 (by kernel_rfl) rfl #[.slice A0 l0.length c0] rfl (by (try simp only [List.map_toArray, List.map_cons, List.map_nil]); first | done | rfl | (simp only [List.length_drop, List.length_take]; rfl)) ?_; (with_reducible refine (tidewayref10_Copy.calls _ _ l0 t287 _ ?side1 ?side2 A4.out).mono ?_); (case side1 => repeat (first | exact HR0.out | (with_reducible refine Kd.C_alloc ?_ _) | (with_reducible refine Kd.C_drewN ?_ _) | (with_reducible refine Kd.C_drew ?_))); (case side2 => exact HC0.out); rintro e w10 ⟨v288, rfl, ho0, hb⟩; refine ⟨_, rfl, ?_⟩; have n0_ := Aside0.mk (Kd.R_lower ho0 (below_size (by repeat (first | (with_reducible first | exact HB.out | apply below_alloc | apply pw_below_drewN | apply below_drew1) | exact HB.out | exact Below.refl _ _)))); have n1_ := Aside0.mk (below_step (by repeat (first | (with_reducible first | exact HB.out | apply below_alloc | apply pw_below_drewN | apply below_drew1) | exact HB.out | exact Below.refl _ _)) hb); clear HB; have HO289 := n0_; have HB := n1_; clear n0_ n1_; (try clear hb); (try clear hb2); (try clear hk); (try clear hi); (try clear ho0); obtain ⟨Ao11, co11, eo11⟩ := Kd.R_slice HO289.out; subst eo11) | ((with_reducible refine gate_callee (f := 9) rfl ?_); refine goesL_ (some 25) rfl rfl Try.func9 (by kernel_rfl) rfl #[.slice Ao11 t287.length co11, .int .i64 a1] rfl (by (try simp only [List.map_toArray, List.map_cons, List.map_nil]); first | done | rfl | (simp only [List.length_drop, List.length_take]; rfl)) ?_; (with_reducible refine (board_Ack.calls k _ _ t287 a1 t290 t291 t292 _ ?side1 ?side2 A5.out).mono ?_); (case side1 => repeat (first | exact (Kd.R_reads' HO289.out).2.2 | (with_reducible refine Kd.C_alloc ?_ _) | (with_reducible refine Kd.C_drewN ?_ _) | (with_reducible refine Kd.C_drew ?_))); (case side2 => exact (Kd.R_reads' HO289.out).2.1); rintro e w12 ⟨v293, v295, rfl, ho0, ho1, hb⟩; refine ⟨_, rfl, ?_⟩; have n0_ := Aside0.mk (Kd.R_mono (Kd.R_told (Kd.R_told (Kd.R_old (by (with_reducible repeat (first | apply Kd.R_alloc | apply Kd.R_drewN | apply Kd.R_drew)); exact HO289.out) hb) (Kd.R_base ho0)) (Kd.R_base ho1)) (fun _ h_ => h_.1)); have n1_ := Aside0.mk (Kd.R_lower (Kd.R_new' ho0 (Kd.R_lt (by (with_reducible repeat (first | apply Kd.R_alloc | apply Kd.R_drewN | apply Kd.R_drew)); exact HO289.out))) (below_size (by repeat (first | (with_reducible first | exact HB.out | apply below_alloc | apply pw_below_drewN | apply below_drew1) | exact HB.out | exact Below.refl _ _)))); have n2_ := Aside0.mk (Kd.R_lower (Kd.R_new' ho1 (Kd.R_lt (by (with_reducible repeat (first | apply Kd.R_alloc | apply Kd.R_drewN | apply Kd.R_drew)); exact HO289.out))) (below_size (by repeat (first | (with_reducible first | exact HB.out | apply below_alloc | apply pw_below_drewN | apply below_drew1) | exact HB.out | exact Below.refl _ _)))); have n3_ := Aside0.mk (below_step (by repeat (first | (with_reducible first | exact HB.out | apply below_alloc | apply pw_below_drewN | apply below_drew1) | exact HB.out | exact Below.refl _ _)) hb); clear HO289; clear HB; have HO289 := n0_; have HO294 := n1_; have HO296 := n2_; have HB := n3_; clear n0_ n1_ n2_ n3_; (try clear hb); (try clear hb2); (try clear hk); (try clear hi); (try clear ho0); (try clear ho1)) | ((with_reducible refine gate_callee (f := 10) rfl ?_); refine goesL_ (some 32) rfl rfl Try.func10 (by kernel_rfl) rfl #[.slice A0 l0.length c0, .int .i64 a1] rfl (by (try simp only [List.map_toArray, List.map_cons, List.map_nil]); first | done | rfl | (simp only [List.length_drop, List.length_take]; rfl)) ?_; (with_reducible refine (tidewayref10_Ack.calls k _ _ l0 a1 t297 t298 t299 _ ?side1 ?side2 A6.out).mono ?_); (case side1 => repeat (first | exact (Kd.C_below HR0.out HB.out) | exact HR0.out | (with_reducible refine Kd.C_alloc ?_ _) | (with_reducible refine Kd.C_drewN ?_ _) | (with_reducible refine Kd.C_drew ?_))); (case side2 => exact HC0.out); rintro e w13 ⟨v300, v302, rfl, ho0, ho1, hb⟩; refine ⟨_, rfl, ?_⟩; have n0_ := Aside0.mk (Kd.R_mono (Kd.R_told (Kd.R_told (Kd.R_old (by (with_reducible repeat (first | apply Kd.R_alloc | apply Kd.R_drewN | apply Kd.R_drew)); exact HO289.out) hb) (Kd.R_base ho0)) (Kd.R_base ho1)) (fun _ h_ => h_.1)); have n1_ := Aside0.mk (Kd.R_mono (Kd.R_told (Kd.R_told (Kd.R_old (by (with_reducible repeat (first | apply Kd.R_alloc | apply Kd.R_drewN | apply Kd.R_drew)); exact HO294.out) hb) (Kd.R_base ho0)) (Kd.R_base ho1)) (fun _ h_ => h_.1)); have n2_ := Aside0.mk (Kd.R_mono (Kd.R_told (Kd.R_told (Kd.R_old (by (with_reducible repeat (first | apply Kd.R_alloc | apply Kd.R_drewN | apply Kd.R_drew)); exact HO296.out) hb) (Kd.R_base ho0)) (Kd.R_base ho1)) (fun _ h_ => h_.1)); have n3_ := Aside0.mk (Kd.R_lower (Kd.R_new' (Kd.R_new' (Kd.R_new' ho0 (Kd.R_lt (by (with_reducible repeat (first | apply Kd.R_alloc | apply Kd.R_drewN | apply Kd.R_drew)); exact HO289.out))) (Kd.R_lt (by (with_reducible repeat (first | apply Kd.R_alloc | apply Kd.R_drewN | apply Kd.R_drew)); exact HO294.out))) (Kd.R_lt (by (with_reducible repeat (first | apply Kd.R_alloc | apply Kd.R_drewN | apply Kd.R_drew)); exact HO296.out))) (below_size (by repeat (first | (with_reducible first | exact HB.out | apply below_alloc | apply pw_below_drewN | apply below_drew1) | exact HB.out | exact Below.refl _ _)))); have n4_ := Aside0.mk (Kd.R_lower (Kd.R_new' (Kd.R_new' (Kd.R_new' ho1 (Kd.R_lt (by (with_reducible repeat (first | apply Kd.R_alloc | apply Kd.R_drewN | apply Kd.R_drew)); exact HO289.out))) (Kd.R_lt (by (with_reducible repeat (first | apply Kd.R_alloc | apply Kd.R_drewN | apply Kd.R_drew)); exact HO294.out))) (Kd.R_lt (by (with_reducible repeat (first | apply Kd.R_alloc | apply Kd.R_drewN | apply Kd.R_drew)); exact HO296.out))) (below_size (by repeat (first | (with_reducible first | exact HB.out | apply below_alloc | apply pw_below_drewN | apply below_drew1) | exact HB.out | exact Below.refl _ _)))); have n5_ := Aside0.mk (below_step (by repeat (first | (with_reducible first | exact HB.out | apply below_alloc | apply pw_below_drewN | apply below_drew1) | exact HB.out | exact Below.refl _ _)) hb); clear HO289; clear HO294; clear HO296; clear HB; have HO289 := n0_; have HO294 := n1_; have HO296 := n2_; have HO301 := n3_; have HO303 := n4_; have HB := n5_; clear n0_ n1_ n2_ n3_ n4_ n5_; (try clear hb); (try clear hb2); (try clear hk); (try clear hi); (try clear ho0); (try clear ho1)) | ((with_reducible refine gate_callee (f := 11) rfl ?_); refine goesL_ (some 39) rfl rfl Try.func11 (by kernel_rfl) rfl #[.slice Ao11 t287.length co11, .slice A2 l2.length c2] rfl (by (try simp only [List.map_toArray, List.map_cons, List.map_nil]); first | done | rfl | (simp only [List.length_drop, List.length_take]; rfl)) ?_; (with_reducible refine (board_Sack.calls k _ _ t287 _ _ l2 t304 t305 t306 _ ?side1 ?side2 ?side3 ?side4 A7.out).mono ?_); (case side1 => repeat (first | exact (Kd.R_reads' HO289.out).2.2 | (with_reducible refine Kd.C_alloc ?_ _) | (with_reducible refine Kd.C_drewN ?_ _) | (with_reducible refine Kd.C_drew ?_))); (case side2 => exact (Kd.R_reads' HO289.out).2.1); (case side3 => repeat (first | exact (Kd.C_below HR2.out HB.out) | exact HR2.out | (with_reducible refine Kd.C_alloc ?_ _) | (with_reducible refine Kd.C_drewN ?_ _) | (with_reducible refine Kd.C_drew ?_))); (case side4 => exact HC2.out); rintro e w14 ⟨v307, v309, rfl, ho0, ho1, hb⟩; refine ⟨_, rfl, ?_⟩; have n0_ := Aside0.mk (Kd.R_mono (Kd.R_told (Kd.R_told (Kd.R_old (by (with_reducible repeat (first | apply Kd.R_alloc | apply Kd.R_drewN | apply Kd.R_drew)); exact HO289.out) hb) (Kd.R_base ho0)) (Kd.R_base ho1)) (fun _ h_ => h_.1)); have n1_ := Aside0.mk (Kd.R_mono (Kd.R_told (Kd.R_told (Kd.R_old (by (with_reducible repeat (first | apply Kd.R_alloc | apply Kd.R_drewN | apply Kd.R_drew)); exact HO294.out) hb) (Kd.R_base ho0)) (Kd.R_base ho1)) (fun _ h_ => h_.1)); have n2_ := Aside0.mk (Kd.R_mono (Kd.R_told (Kd.R_told (Kd.R_old (by (with_reducible repeat (first | apply Kd.R_alloc | apply Kd.R_drewN | apply Kd.R_drew)); exact HO296.out) hb) (Kd.R_base ho0)) (Kd.R_base ho1)) (fun _ h_ => h_.1)); have n3_ := Aside0.mk (Kd.R_mono (Kd.R_told (Kd.R_told (Kd.R_old (by (with_reducible repeat (first | apply Kd.R_alloc | apply Kd.R_drewN | apply Kd.R_drew)); exact HO301.out) hb) (Kd.R_base ho0)) (Kd.R_base ho1)) (fun _ h_ => h_.1)); have n4_ := Aside0.mk (Kd.R_mono (Kd.R_told (Kd.R_told (Kd.R_old (by (with_reducible repeat (first | apply Kd.R_alloc | apply Kd.R_drewN | apply Kd.R_drew)); exact HO303.out) hb) (Kd.R_base ho0)) (Kd.R_base ho1)) (fun _ h_ => h_.1)); have n5_ := Aside0.mk (Kd.R_lower (Kd.R_new' (Kd.R_new' (Kd.R_new' (Kd.R_new' (Kd.R_new' ho0 (Kd.R_lt (by (with_reducible repeat (first | apply Kd.R_alloc | apply Kd.R_drewN | apply Kd.R_drew)); exact HO289.out))) (Kd.R_lt (by (with_reducible repeat (first | apply Kd.R_alloc | apply Kd.R_drewN | apply Kd.R_drew)); exact HO294.out))) (Kd.R_lt (by (with_reducible repeat (first | apply Kd.R_alloc | apply Kd.R_drewN | apply Kd.R_drew)); exact HO296.out))) (Kd.R_lt (by (with_reducible repeat (first | apply Kd.R_alloc | apply Kd.R_drewN | apply Kd.R_drew)); exact HO301.out))) (Kd.R_lt (by (with_reducible repeat (first | apply Kd.R_alloc | apply Kd.R_drewN | apply Kd.R_drew)); exact HO303.out))) (below_size (by repeat (first | (with_reducible first | exact HB.out | apply below_alloc | apply pw_below_drewN | apply below_drew1) | exact HB.out | exact Below.refl _ _)))); have n6_ := Aside0.mk (Kd.R_lower (Kd.R_new' (Kd.R_new' (Kd.R_new' (Kd.R_new' (Kd.R_new' ho1 (Kd.R_lt (by (with_reducible repeat (first | apply Kd.R_alloc | apply Kd.R_drewN | apply Kd.R_drew)); exact HO289.out))) (Kd.R_lt (by (with_reducible repeat (first | apply Kd.R_alloc | apply Kd.R_drewN | apply Kd.R_drew)); exact HO294.out))) (Kd.R_lt (by (with_reducible repeat (first | apply Kd.R_alloc | apply Kd.R_drewN | apply Kd.R_drew)); exact HO296.out))) (Kd.R_lt (by (with_reducible repeat (first | apply Kd.R_alloc | apply Kd.R_drewN | apply Kd.R_drew)); exact HO301.out))) (Kd.R_lt (by (with_reducible repeat (first | apply Kd.R_alloc | apply Kd.R_drewN | apply Kd.R_drew)); exact HO303.out))) (below_size (by repeat (first | (with_reducible first | exact HB.out | apply below_alloc | apply pw_below_drewN | apply below_drew1) | exact HB.out | exact Below.refl _ _)))); have n7_ := Aside0.mk (below_step (by repeat (first | (with_reducible first | exact HB.out | apply below_alloc | apply pw_below_drewN | apply below_drew1) | exact HB.out | exact Below.refl _ _)) hb); clear HO289; clear HO294; clear HO296; clear HO301; clear HO303; clear HB; have HO289 := n0_; have HO294 := n1_; have HO296 := n2_; have HO301 := n3_; have HO303 := n4_; have HO308 := n5_; have HO310 := n6_; have HB := n7_; clear n0_ n1_ n2_ n3_ n4_ n5_ n6_ n7_; (try clear hb); (try clear hb2); (try clear hk); (try clear hi); (try clear ho0); (try clear ho1)) | ((with_reducible refine gate_callee (f := 12) rfl ?_); refine goesL_ (some 46) rfl rfl Try.func12 (by kernel_rfl) rfl #[.slice A0 l0.length c0, .slice A2 l2.length c2] rfl (by (try simp only [List.map_toArray, List.map_cons, List.map_nil]); first | done | rfl | (simp only [List.length_drop, List.length_take]; rfl)) ?_; (with_reducible refine (tidewayref10_Sack.calls k _ _ l0 _ _ l2 t311 t312 t313 _ ?side1 ?side2 ?side3 ?side4 A8.out).mono ?_); (case side1 => repeat (first | exact (Kd.C_below HR0.out HB.out) | exact HR0.out | (with_reducible refine Kd.C_alloc ?_ _) | (with_reducible refine Kd.C_drewN ?_ _) | (with_reducible refine Kd.C_drew ?_))); (case side2 => exact HC0.out); (case side3 => repeat (first | exact (Kd.C_below HR2.out HB.out) | exact HR2.out | (with_reducible refine Kd.C_alloc ?_ _) | (with_reducible refine Kd.C_drewN ?_ _) | (with_reducible refine Kd.C_drew ?_))); (case side4 => exact HC2.out); rintro e w15 ⟨v314, v316, rfl, ho0, ho1, hb⟩; refine ⟨_, rfl, ?_⟩; have n0_ := Aside0.mk (Kd.R_mono (Kd.R_told (Kd.R_told (Kd.R_old (by (with_reducible repeat (first | apply Kd.R_alloc | apply Kd.R_drewN | apply Kd.R_drew)); exact HO289.out) hb) (Kd.R_base ho0)) (Kd.R_base ho1)) (fun _ h_ => h_.1)); have n1_ := Aside0.mk (Kd.R_mono (Kd.R_told (Kd.R_told (Kd.R_old (by (with_reducible repeat (first | apply Kd.R_alloc | apply Kd.R_drewN | apply Kd.R_drew)); exact HO294.out) hb) (Kd.R_base ho0)) (Kd.R_base ho1)) (fun _ h_ => h_.1)); have n2_ := Aside0.mk (Kd.R_mono (Kd.R_told (Kd.R_told (Kd.R_old (by (with_reducible repeat (first | apply Kd.R_alloc | apply Kd.R_drewN | apply Kd.R_drew)); exact HO296.out) hb) (Kd.R_base ho0)) (Kd.R_base ho1)) (fun _ h_ => h_.1)); have n3_ := Aside0.mk (Kd.R_mono (Kd.R_told (Kd.R_told (Kd.R_old (by (with_reducible repeat (first | apply Kd.R_alloc | apply Kd.R_drewN | apply Kd.R_drew)); exact HO301.out) hb) (Kd.R_base ho0)) (Kd.R_base ho1)) (fun _ h_ => h_.1)); have n4_ := Aside0.mk (Kd.R_mono (Kd.R_told (Kd.R_told (Kd.R_old (by (with_reducible repeat (first | apply Kd.R_alloc | apply Kd.R_drewN | apply Kd.R_drew)); exact HO303.out) hb) (Kd.R_base ho0)) (Kd.R_base ho1)) (fun _ h_ => h_.1)); have n5_ := Aside0.mk (Kd.R_mono (Kd.R_told (Kd.R_told (Kd.R_old (by (with_reducible repeat (first | apply Kd.R_alloc | apply Kd.R_drewN | apply Kd.R_drew)); exact HO308.out) hb) (Kd.R_base ho0)) (Kd.R_base ho1)) (fun _ h_ => h_.1)); have n6_ := Aside0.mk (Kd.R_mono (Kd.R_told (Kd.R_told (Kd.R_old (by (with_reducible repeat (first | apply Kd.R_alloc | apply Kd.R_drewN | apply Kd.R_drew)); exact HO310.out) hb) (Kd.R_base ho0)) (Kd.R_base ho1)) (fun _ h_ => h_.1)); have n7_ := Aside0.mk (Kd.R_lower (Kd.R_new' (Kd.R_new' (Kd.R_new' (Kd.R_new' (Kd.R_new' (Kd.R_new' (Kd.R_new' ho0 (Kd.R_lt (by (with_reducible repeat (first | apply Kd.R_alloc | apply Kd.R_drewN | apply Kd.R_drew)); exact HO289.out))) (Kd.R_lt (by (with_reducible repeat (first | apply Kd.R_alloc | apply Kd.R_drewN | apply Kd.R_drew)); exact HO294.out))) (Kd.R_lt (by (with_reducible repeat (first | apply Kd.R_alloc | apply Kd.R_drewN | apply Kd.R_drew)); exact HO296.out))) (Kd.R_lt (by (with_reducible repeat (first | apply Kd.R_alloc | apply Kd.R_drewN | apply Kd.R_drew)); exact HO301.out))) (Kd.R_lt (by (with_reducible repeat (first | apply Kd.R_alloc | apply Kd.R_drewN | apply Kd.R_drew)); exact HO303.out))) (Kd.R_lt (by (with_reducible repeat (first | apply Kd.R_alloc | apply Kd.R_drewN | apply Kd.R_drew)); exact HO308.out))) (Kd.R_lt (by (with_reducible repeat (first | apply Kd.R_alloc | apply Kd.R_drewN | apply Kd.R_drew)); exact HO310.out))) (below_size (by repeat (first | (with_reducible first | exact HB.out | apply below_alloc | apply pw_below_drewN | apply below_drew1) | exact HB.out | exact Below.refl _ _)))); have n8_ := Aside0.mk (Kd.R_lower (Kd.R_new' (Kd.R_new' (Kd.R_new' (Kd.R_new' (Kd.R_new' (Kd.R_new' (Kd.R_new' ho1 (Kd.R_lt (by (with_reducible repeat (first | apply Kd.R_alloc | apply Kd.R_drewN | apply Kd.R_drew)); exact HO289.out))) (Kd.R_lt (by (with_reducible repeat (first | apply Kd.R_alloc | apply Kd.R_drewN | apply Kd.R_drew)); exact HO294.out))) (Kd.R_lt (by (with_reducible repeat (first | apply Kd.R_alloc | apply Kd.R_drewN | apply Kd.R_drew)); exact HO296.out))) (Kd.R_lt (by (with_reducible repeat (first | apply Kd.R_alloc | apply Kd.R_drewN | apply Kd.R_drew)); exact HO301.out))) (Kd.R_lt (by (with_reducible repeat (first | apply Kd.R_alloc | apply Kd.R_drewN | apply Kd.R_drew)); exact HO303.out))) (Kd.R_lt (by (with_reducible repeat (first | apply Kd.R_alloc | apply Kd.R_drewN | apply Kd.R_drew)); exact HO308.out))) (Kd.R_lt (by (with_reducible repeat (first | apply Kd.R_alloc | apply Kd.R_drewN | apply Kd.R_drew)); exact HO310.out))) (below_size (by repeat (first | (with_reducible first | exact HB.out | apply below_alloc | apply pw_below_drewN | apply below_drew1) | exact HB.out | exact Below.refl _ _)))); have n9_ := Aside0.mk (below_step (by repeat (first | (with_reducible first | exact HB.out | apply below_alloc | apply pw_below_drewN | apply below_drew1) | exact HB.out | exact Below.refl _ _)) hb); clear HO289; clear HO294; clear HO296; clear HO301; clear HO303; clear HO308; clear HO310; clear HB; have HO289 := n0_; have HO294 := n1_; have HO296 := n2_; have HO301 := n3_; have HO303 := n4_; have HO308 := n5_; have HO310 := n6_; have HO315 := n7_; have HO317 := n8_; have HB := n9_; clear n0_ n1_ n2_ n3_ n4_ n5_ n6_ n7_ n8_ n9_; (try clear hb); (try clear hb2); (try clear hk); (try clear hi); (try clear ho0); (try clear ho1)))
 (try simp only [Act.put, List.setIfInBounds_toArray, List.set_cons_zero, List.set_cons_succ])
 go_cut [87] (fun v87 wc => ∃ (kq : Nat) (x87_8 : Bool), v87 = .bool x87_8 ∧ Aside0 (tidewaylaw10_BoardAcks.j0 kq l0 x87_8 = some r) ∧ Aside0 (kq ≤ k) ∧ Aside0 (Below w.heap.size w wc))
 case first =>
  have H := HC9.out
  clear HC9
  replace H := Option.bind_eq_some_iff.mp H
  obtain ⟨t318, A160, H⟩ := H
  replace H : (if t318 = true then ((tidewayref10_Same.f k t291 t298).bind fun t319 => (if t319 = true then (if t292 = t299 then ((tidewayref10_Same.f k t304 t311).bind fun t320 => (if t320 = true then ((tidewayref10_Same.f k t305 t312).bind fun t321 => (if t321 = true then (if t306 = t313 then ((tidewayref10_Same.f k t287 l0).bind fun t322 => (tidewaylaw10_BoardAcks.j0 k l0 (!t322))) else (tidewaylaw10_BoardAcks.j0 k l0 true)) else (tidewaylaw10_BoardAcks.j0 k l0 true))) else (tidewaylaw10_BoardAcks.j0 k l0 true))) else (tidewaylaw10_BoardAcks.j0 k l0 true)) else (tidewaylaw10_BoardAcks.j0 k l0 true))) else (tidewaylaw10_BoardAcks.j0 k l0 true)) = some r := H
  have A16 := Aside0.mk A160
  clear A160
  by_cases c17 : t318 = true
  ·subst c17
   have H1 : ((tidewayref10_Same.f k t291 t298).bind fun t319 => (if t319 = true then (if t292 = t299 then ((tidewayref10_Same.f k t304 t311).bind fun t320 => (if t320 = true then ((tidewayref10_Same.f k t305 t312).bind fun t321 => (if t321 = true then (if t306 = t313 then ((tidewayref10_Same.f k t287 l0).bind fun t322 => (tidewaylaw10_BoardAcks.j0 k l0 (!t322))) else (tidewaylaw10_BoardAcks.j0 k l0 true)) else (tidewaylaw10_BoardAcks.j0 k l0 true))) else (tidewaylaw10_BoardAcks.j0 k l0 true))) else (tidewaylaw10_BoardAcks.j0 k l0 true)) else (tidewaylaw10_BoardAcks.j0 k l0 true))) = some r := by rw [if_pos rfl] at H; exact H
   clear H
   have H := H1
   clear H1
   replace H := Option.bind_eq_some_iff.mp H
   obtain ⟨t319, A180, H⟩ := H
   replace H : (if t319 = true then (if t292 = t299 then ((tidewayref10_Same.f k t304 t311).bind fun t320 => (if t320 = true then ((tidewayref10_Same.f k t305 t312).bind fun t321 => (if t321 = true then (if t306 = t313 then ((tidewayref10_Same.f k t287 l0).bind fun t322 => (tidewaylaw10_BoardAcks.j0 k l0 (!t322))) else (tidewaylaw10_BoardAcks.j0 k l0 true)) else (tidewaylaw10_BoardAcks.j0 k l0 true))) else (tidewaylaw10_BoardAcks.j0 k l0 true))) else (tidewaylaw10_BoardAcks.j0 k l0 true)) else (tidewaylaw10_BoardAcks.j0 k l0 true)) = some r := H
   have A18 := Aside0.mk A180
   clear A180
   by_cases c19 : t319 = true
   ·subst c19
    have H1 : (if t292 = t299 then ((tidewayref10_Same.f k t304 t311).bind fun t320 => (if t320 = true then ((tidewayref10_Same.f k t305 t312).bind fun t321 => (if t321 = true then (if t306 = t313 then ((tidewayref10_Same.f k t287 l0).bind fun t322 => (tidewaylaw10_BoardAcks.j0 k l0 (!t322))) else (tidewaylaw10_BoardAcks.j0 k l0 true)) else (tidewaylaw10_BoardAcks.j0 k l0 true))) else (tidewaylaw10_BoardAcks.j0 k l0 true))) else (tidewaylaw10_BoardAcks.j0 k l0 true)) = some r := by rw [if_pos rfl] at H; exact H
    clear H
    have H := H1
    clear H1
    by_cases c20 : t292 = t299
    ·rw [if_pos c20] at H
     have c20b0 : (t292 == t299) = true := beq_iff_eq.mpr c20
     have c20b1 : (t292 != t299) = false := bne_eq_false_iff_eq.mpr c20
     clear c20
     (first | rw [c20b0] | (simp only [i64_w, i32_w]; rw [c20b0]) | skip)
     replace H := Option.bind_eq_some_iff.mp H
     obtain ⟨t320, A210, H⟩ := H
     replace H : (if t320 = true then ((tidewayref10_Same.f k t305 t312).bind fun t321 => (if t321 = true then (if t306 = t313 then ((tidewayref10_Same.f k t287 l0).bind fun t322 => (tidewaylaw10_BoardAcks.j0 k l0 (!t322))) else (tidewaylaw10_BoardAcks.j0 k l0 true)) else (tidewaylaw10_BoardAcks.j0 k l0 true))) else (tidewaylaw10_BoardAcks.j0 k l0 true)) = some r := H
     have A21 := Aside0.mk A210
     clear A210
     by_cases c22 : t320 = true
     ·subst c22
      have H1 : ((tidewayref10_Same.f k t305 t312).bind fun t321 => (if t321 = true then (if t306 = t313 then ((tidewayref10_Same.f k t287 l0).bind fun t322 => (tidewaylaw10_BoardAcks.j0 k l0 (!t322))) else (tidewaylaw10_BoardAcks.j0 k l0 true)) else (tidewaylaw10_BoardAcks.j0 k l0 true))) = some r := by rw [if_pos rfl] at H; exact H
      clear H
      have H := H1
      clear H1
      replace H := Option.bind_eq_some_iff.mp H
      obtain ⟨t321, A230, H⟩ := H
      replace H : (if t321 = true then (if t306 = t313 then ((tidewayref10_Same.f k t287 l0).bind fun t322 => (tidewaylaw10_BoardAcks.j0 k l0 (!t322))) else (tidewaylaw10_BoardAcks.j0 k l0 true)) else (tidewaylaw10_BoardAcks.j0 k l0 true)) = some r := H
      have A23 := Aside0.mk A230
      clear A230
      by_cases c24 : t321 = true
      ·subst c24
       have H1 : (if t306 = t313 then ((tidewayref10_Same.f k t287 l0).bind fun t322 => (tidewaylaw10_BoardAcks.j0 k l0 (!t322))) else (tidewaylaw10_BoardAcks.j0 k l0 true)) = some r := by rw [if_pos rfl] at H; exact H
       clear H
       have H := H1
       clear H1
       by_cases c25 : t306 = t313
       ·rw [if_pos c25] at H
        have c25b0 : (t306 == t313) = true := beq_iff_eq.mpr c25
        have c25b1 : (t306 != t313) = false := bne_eq_false_iff_eq.mpr c25
        clear c25
        replace H := Option.bind_eq_some_iff.mp H
        obtain ⟨t322, A260, H⟩ := H
        replace H : (tidewaylaw10_BoardAcks.j0 k l0 (!t322)) = some r := H
        have A26 := Aside0.mk A260
        clear A260
        have H' := Aside0.mk H
        clear H
        obtain ⟨Ao27, co27, eo27⟩ := Kd.R_slice HO294.out
        subst eo27
        obtain ⟨Ao28, co28, eo28⟩ := Kd.R_slice HO301.out
        subst eo28
        go_wp2_with (first | ((with_reducible refine gate_callee (f := 13) rfl ?_); refine goesL_ (some 52) rfl rfl Try.func13 (by kernel_rfl) rfl #[.slice Ao27 t290.length co27, .slice Ao28 t297.length co28] rfl (by (try simp only [List.map_toArray, List.map_cons, List.map_nil]); first | done | rfl | (simp only [List.length_drop, List.length_take]; rfl)) ?_; (with_reducible refine (tidewayref10_Same.calls k _ _ t290 _ _ t297 true _ ?side1 ?side2 ?side3 ?side4 A16.out).mono ?_); (case side1 => repeat (first | exact (Kd.R_reads' HO294.out).2.2 | (with_reducible refine Kd.C_alloc ?_ _) | (with_reducible refine Kd.C_drewN ?_ _) | (with_reducible refine Kd.C_drew ?_))); (case side2 => exact (Kd.R_reads' HO294.out).2.1); (case side3 => repeat (first | exact (Kd.R_reads' HO301.out).2.2 | (with_reducible refine Kd.C_alloc ?_ _) | (with_reducible refine Kd.C_drewN ?_ _) | (with_reducible refine Kd.C_drew ?_))); (case side4 => exact (Kd.R_reads' HO301.out).2.1); rintro e w' ⟨rfl, ⟨nd, rfl⟩⟩; refine ⟨_, rfl, ?_⟩; obtain ⟨Ao29, co29, eo29⟩ := Kd.R_slice HO296.out; subst eo29; obtain ⟨Ao30, co30, eo30⟩ := Kd.R_slice HO303.out; subst eo30) | (go_at_call 13; (with_reducible refine (tidewayref10_Same.calls k _ _ t291 _ _ t298 true _ ?side1 ?side2 ?side3 ?side4 A18.out).mono ?_); (case side1 => repeat (first | exact (Kd.R_reads' HO296.out).2.2 | (with_reducible refine Kd.C_alloc ?_ _) | (with_reducible refine Kd.C_drewN ?_ _) | (with_reducible refine Kd.C_drew ?_))); (case side2 => exact (Kd.R_reads' HO296.out).2.1); (case side3 => repeat (first | exact (Kd.R_reads' HO303.out).2.2 | (with_reducible refine Kd.C_alloc ?_ _) | (with_reducible refine Kd.C_drewN ?_ _) | (with_reducible refine Kd.C_drew ?_))); (case side4 => exact (Kd.R_reads' HO303.out).2.1); rintro e w' ⟨rfl, ⟨nd, rfl⟩⟩; obtain ⟨Ao31, co31, eo31⟩ := Kd.R_slice HO308.out; subst eo31; obtain ⟨Ao32, co32, eo32⟩ := Kd.R_slice HO315.out; subst eo32) | (go_at_call 13; (with_reducible refine (tidewayref10_Same.calls k _ _ t304 _ _ t311 true _ ?side1 ?side2 ?side3 ?side4 A21.out).mono ?_); (case side1 => repeat (first | exact (Kd.R_reads' HO308.out).2.2 | (with_reducible refine Kd.C_alloc ?_ _) | (with_reducible refine Kd.C_drewN ?_ _) | (with_reducible refine Kd.C_drew ?_))); (case side2 => exact (Kd.R_reads' HO308.out).2.1); (case side3 => repeat (first | exact (Kd.R_reads' HO315.out).2.2 | (with_reducible refine Kd.C_alloc ?_ _) | (with_reducible refine Kd.C_drewN ?_ _) | (with_reducible refine Kd.C_drew ?_))); (case side4 => exact (Kd.R_reads' HO315.out).2.1); rintro e w' ⟨rfl, ⟨nd, rfl⟩⟩; obtain ⟨Ao33, co33, eo33⟩ := Kd.R_slice HO310.out; subst eo33; obtain ⟨Ao34, co34, eo34⟩ := Kd.R_slice HO317.out; subst eo34) | (go_at_call 13; (with_reducible refine (tidewayref10_Same.calls k _ _ t305 _ _ t312 true _ ?side1 ?side2 ?side3 ?side4 A23.out).mono ?_); (case side1 => repeat (first | exact (Kd.R_reads' HO310.out).2.2 | (with_reducible refine Kd.C_alloc ?_ _) | (with_reducible refine Kd.C_drewN ?_ _) | (with_reducible refine Kd.C_drew ?_))); (case side2 => exact (Kd.R_reads' HO310.out).2.1); (case side3 => repeat (first | exact (Kd.R_reads' HO317.out).2.2 | (with_reducible refine Kd.C_alloc ?_ _) | (with_reducible refine Kd.C_drewN ?_ _) | (with_reducible refine Kd.C_drew ?_))); (case side4 => exact (Kd.R_reads' HO317.out).2.1); rintro e w' ⟨rfl, ⟨nd, rfl⟩⟩) | (go_at_call 13; (with_reducible refine (tidewayref10_Same.calls k _ _ t287 _ _ l0 t322 _ ?side1 ?side2 ?side3 ?side4 A26.out).mono ?_); (case side1 => repeat (first | exact (Kd.R_reads' HO289.out).2.2 | (with_reducible refine Kd.C_alloc ?_ _) | (with_reducible refine Kd.C_drewN ?_ _) | (with_reducible refine Kd.C_drew ?_))); (case side2 => exact (Kd.R_reads' HO289.out).2.1); (case side3 => repeat (first | exact (Kd.C_below HR0.out (by repeat (first | (with_reducible first | exact HB.out | apply below_alloc | apply pw_below_drewN | apply below_drew1) | exact HB.out | exact Below.refl _ _))) | (with_reducible refine Kd.C_alloc ?_ _) | (with_reducible refine Kd.C_drewN ?_ _) | (with_reducible refine Kd.C_drew ?_))); (case side4 => exact HC0.out); rintro e w' ⟨rfl, ⟨nd, rfl⟩⟩))
        go_meet
        case rel => exact ⟨_, (!t322), (by first | rfl | (simp; done) | (simp [*]; done)), H', ⟨by first | omega | exact Nat.le_refl _⟩, ⟨by repeat (first | (with_reducible first | exact HB.out | apply below_alloc | apply pw_below_drewN | apply below_drew1) | exact HB.out | exact Below.refl _ _)⟩⟩
       ·rw [if_neg c25] at H
        have c25b0 : (t306 == t313) = false := beq_eq_false_iff_ne.mpr c25
        have c25b1 : (t306 != t313) = true := bne_iff_ne.mpr c25
        have H' := Aside0.mk H
        clear H
        obtain ⟨Ao35, co35, eo35⟩ := Kd.R_slice HO294.out
        subst eo35
        obtain ⟨Ao36, co36, eo36⟩ := Kd.R_slice HO301.out
        subst eo36
        go_wp2_with (first | ((with_reducible refine gate_callee (f := 13) rfl ?_); refine goesL_ (some 52) rfl rfl Try.func13 (by kernel_rfl) rfl #[.slice Ao35 t290.length co35, .slice Ao36 t297.length co36] rfl (by (try simp only [List.map_toArray, List.map_cons, List.map_nil]); first | done | rfl | (simp only [List.length_drop, List.length_take]; rfl)) ?_; (with_reducible refine (tidewayref10_Same.calls k _ _ t290 _ _ t297 true _ ?side1 ?side2 ?side3 ?side4 A16.out).mono ?_); (case side1 => repeat (first | exact (Kd.R_reads' HO294.out).2.2 | (with_reducible refine Kd.C_alloc ?_ _) | (with_reducible refine Kd.C_drewN ?_ _) | (with_reducible refine Kd.C_drew ?_))); (case side2 => exact (Kd.R_reads' HO294.out).2.1); (case side3 => repeat (first | exact (Kd.R_reads' HO301.out).2.2 | (with_reducible refine Kd.C_alloc ?_ _) | (with_reducible refine Kd.C_drewN ?_ _) | (with_reducible refine Kd.C_drew ?_))); (case side4 => exact (Kd.R_reads' HO301.out).2.1); rintro e w' ⟨rfl, ⟨nd, rfl⟩⟩; refine ⟨_, rfl, ?_⟩; obtain ⟨Ao37, co37, eo37⟩ := Kd.R_slice HO296.out; subst eo37; obtain ⟨Ao38, co38, eo38⟩ := Kd.R_slice HO303.out; subst eo38) | (go_at_call 13; (with_reducible refine (tidewayref10_Same.calls k _ _ t291 _ _ t298 true _ ?side1 ?side2 ?side3 ?side4 A18.out).mono ?_); (case side1 => repeat (first | exact (Kd.R_reads' HO296.out).2.2 | (with_reducible refine Kd.C_alloc ?_ _) | (with_reducible refine Kd.C_drewN ?_ _) | (with_reducible refine Kd.C_drew ?_))); (case side2 => exact (Kd.R_reads' HO296.out).2.1); (case side3 => repeat (first | exact (Kd.R_reads' HO303.out).2.2 | (with_reducible refine Kd.C_alloc ?_ _) | (with_reducible refine Kd.C_drewN ?_ _) | (with_reducible refine Kd.C_drew ?_))); (case side4 => exact (Kd.R_reads' HO303.out).2.1); rintro e w' ⟨rfl, ⟨nd, rfl⟩⟩; obtain ⟨Ao39, co39, eo39⟩ := Kd.R_slice HO308.out; subst eo39; obtain ⟨Ao40, co40, eo40⟩ := Kd.R_slice HO315.out; subst eo40) | (go_at_call 13; (with_reducible refine (tidewayref10_Same.calls k _ _ t304 _ _ t311 true _ ?side1 ?side2 ?side3 ?side4 A21.out).mono ?_); (case side1 => repeat (first | exact (Kd.R_reads' HO308.out).2.2 | (with_reducible refine Kd.C_alloc ?_ _) | (with_reducible refine Kd.C_drewN ?_ _) | (with_reducible refine Kd.C_drew ?_))); (case side2 => exact (Kd.R_reads' HO308.out).2.1); (case side3 => repeat (first | exact (Kd.R_reads' HO315.out).2.2 | (with_reducible refine Kd.C_alloc ?_ _) | (with_reducible refine Kd.C_drewN ?_ _) | (with_reducible refine Kd.C_drew ?_))); (case side4 => exact (Kd.R_reads' HO315.out).2.1); rintro e w' ⟨rfl, ⟨nd, rfl⟩⟩; obtain ⟨Ao41, co41, eo41⟩ := Kd.R_slice HO310.out; subst eo41; obtain ⟨Ao42, co42, eo42⟩ := Kd.R_slice HO317.out; subst eo42) | (go_at_call 13; (with_reducible refine (tidewayref10_Same.calls k _ _ t305 _ _ t312 true _ ?side1 ?side2 ?side3 ?side4 A23.out).mono ?_); (case side1 => repeat (first | exact (Kd.R_reads' HO310.out).2.2 | (with_reducible refine Kd.C_alloc ?_ _) | (with_reducible refine Kd.C_drewN ?_ _) | (with_reducible refine Kd.C_drew ?_))); (case side2 => exact (Kd.R_reads' HO310.out).2.1); (case side3 => repeat (first | exact (Kd.R_reads' HO317.out).2.2 | (with_reducible refine Kd.C_alloc ?_ _) | (with_reducible refine Kd.C_drewN ?_ _) | (with_reducible refine Kd.C_drew ?_))); (case side4 => exact (Kd.R_reads' HO317.out).2.1); rintro e w' ⟨rfl, ⟨nd, rfl⟩⟩))
        go_meet
        case rel => exact ⟨_, (true), (by first | rfl | (simp; done) | (simp [*]; done)), H', ⟨by first | omega | exact Nat.le_refl _⟩, ⟨by repeat (first | (with_reducible first | exact HB.out | apply below_alloc | apply pw_below_drewN | apply below_drew1) | exact HB.out | exact Below.refl _ _)⟩⟩
      ·replace c24 := Bool.eq_false_iff.mpr c24
       subst c24
       have H1 : (tidewaylaw10_BoardAcks.j0 k l0 true) = some r := by rw [if_neg (show ¬ (false = true) by decide)] at H; exact H
       clear H
       have H := H1
       clear H1
       have H' := Aside0.mk H
       clear H
       obtain ⟨Ao43, co43, eo43⟩ := Kd.R_slice HO294.out
       subst eo43
       obtain ⟨Ao44, co44, eo44⟩ := Kd.R_slice HO301.out
       subst eo44
       go_wp2_with (first | ((with_reducible refine gate_callee (f := 13) rfl ?_); refine goesL_ (some 52) rfl rfl Try.func13 (by kernel_rfl) rfl #[.slice Ao43 t290.length co43, .slice Ao44 t297.length co44] rfl (by (try simp only [List.map_toArray, List.map_cons, List.map_nil]); first | done | rfl | (simp only [List.length_drop, List.length_take]; rfl)) ?_; (with_reducible refine (tidewayref10_Same.calls k _ _ t290 _ _ t297 true _ ?side1 ?side2 ?side3 ?side4 A16.out).mono ?_); (case side1 => repeat (first | exact (Kd.R_reads' HO294.out).2.2 | (with_reducible refine Kd.C_alloc ?_ _) | (with_reducible refine Kd.C_drewN ?_ _) | (with_reducible refine Kd.C_drew ?_))); (case side2 => exact (Kd.R_reads' HO294.out).2.1); (case side3 => repeat (first | exact (Kd.R_reads' HO301.out).2.2 | (with_reducible refine Kd.C_alloc ?_ _) | (with_reducible refine Kd.C_drewN ?_ _) | (with_reducible refine Kd.C_drew ?_))); (case side4 => exact (Kd.R_reads' HO301.out).2.1); rintro e w' ⟨rfl, ⟨nd, rfl⟩⟩; refine ⟨_, rfl, ?_⟩; obtain ⟨Ao45, co45, eo45⟩ := Kd.R_slice HO296.out; subst eo45; obtain ⟨Ao46, co46, eo46⟩ := Kd.R_slice HO303.out; subst eo46) | (go_at_call 13; (with_reducible refine (tidewayref10_Same.calls k _ _ t291 _ _ t298 true _ ?side1 ?side2 ?side3 ?side4 A18.out).mono ?_); (case side1 => repeat (first | exact (Kd.R_reads' HO296.out).2.2 | (with_reducible refine Kd.C_alloc ?_ _) | (with_reducible refine Kd.C_drewN ?_ _) | (with_reducible refine Kd.C_drew ?_))); (case side2 => exact (Kd.R_reads' HO296.out).2.1); (case side3 => repeat (first | exact (Kd.R_reads' HO303.out).2.2 | (with_reducible refine Kd.C_alloc ?_ _) | (with_reducible refine Kd.C_drewN ?_ _) | (with_reducible refine Kd.C_drew ?_))); (case side4 => exact (Kd.R_reads' HO303.out).2.1); rintro e w' ⟨rfl, ⟨nd, rfl⟩⟩; obtain ⟨Ao47, co47, eo47⟩ := Kd.R_slice HO308.out; subst eo47; obtain ⟨Ao48, co48, eo48⟩ := Kd.R_slice HO315.out; subst eo48) | (go_at_call 13; (with_reducible refine (tidewayref10_Same.calls k _ _ t304 _ _ t311 true _ ?side1 ?side2 ?side3 ?side4 A21.out).mono ?_); (case side1 => repeat (first | exact (Kd.R_reads' HO308.out).2.2 | (with_reducible refine Kd.C_alloc ?_ _) | (with_reducible refine Kd.C_drewN ?_ _) | (with_reducible refine Kd.C_drew ?_))); (case side2 => exact (Kd.R_reads' HO308.out).2.1); (case side3 => repeat (first | exact (Kd.R_reads' HO315.out).2.2 | (with_reducible refine Kd.C_alloc ?_ _) | (with_reducible refine Kd.C_drewN ?_ _) | (with_reducible refine Kd.C_drew ?_))); (case side4 => exact (Kd.R_reads' HO315.out).2.1); rintro e w' ⟨rfl, ⟨nd, rfl⟩⟩; obtain ⟨Ao49, co49, eo49⟩ := Kd.R_slice HO310.out; subst eo49; obtain ⟨Ao50, co50, eo50⟩ := Kd.R_slice HO317.out; subst eo50) | (go_at_call 13; (with_reducible refine (tidewayref10_Same.calls k _ _ t305 _ _ t312 false _ ?side1 ?side2 ?side3 ?side4 A23.out).mono ?_); (case side1 => repeat (first | exact (Kd.R_reads' HO310.out).2.2 | (with_reducible refine Kd.C_alloc ?_ _) | (with_reducible refine Kd.C_drewN ?_ _) | (with_reducible refine Kd.C_drew ?_))); (case side2 => exact (Kd.R_reads' HO310.out).2.1); (case side3 => repeat (first | exact (Kd.R_reads' HO317.out).2.2 | (with_reducible refine Kd.C_alloc ?_ _) | (with_reducible refine Kd.C_drewN ?_ _) | (with_reducible refine Kd.C_drew ?_))); (case side4 => exact (Kd.R_reads' HO317.out).2.1); rintro e w' ⟨rfl, ⟨nd, rfl⟩⟩))
       go_meet
       case rel => exact ⟨_, (true), (by first | rfl | (simp; done) | (simp [*]; done)), H', ⟨by first | omega | exact Nat.le_refl _⟩, ⟨by repeat (first | (with_reducible first | exact HB.out | apply below_alloc | apply pw_below_drewN | apply below_drew1) | exact HB.out | exact Below.refl _ _)⟩⟩
     ·replace c22 := Bool.eq_false_iff.mpr c22
      subst c22
      have H1 : (tidewaylaw10_BoardAcks.j0 k l0 true) = some r := by rw [if_neg (show ¬ (false = true) by decide)] at H; exact H
      clear H
      have H := H1
      clear H1
      have H' := Aside0.mk H
      clear H
      obtain ⟨Ao51, co51, eo51⟩ := Kd.R_slice HO294.out
      subst eo51
      obtain ⟨Ao52, co52, eo52⟩ := Kd.R_slice HO301.out
      subst eo52
      go_wp2_with (first | ((with_reducible refine gate_callee (f := 13) rfl ?_); refine goesL_ (some 52) rfl rfl Try.func13 (by kernel_rfl) rfl #[.slice Ao51 t290.length co51, .slice Ao52 t297.length co52] rfl (by (try simp only [List.map_toArray, List.map_cons, List.map_nil]); first | done | rfl | (simp only [List.length_drop, List.length_take]; rfl)) ?_; (with_reducible refine (tidewayref10_Same.calls k _ _ t290 _ _ t297 true _ ?side1 ?side2 ?side3 ?side4 A16.out).mono ?_); (case side1 => repeat (first | exact (Kd.R_reads' HO294.out).2.2 | (with_reducible refine Kd.C_alloc ?_ _) | (with_reducible refine Kd.C_drewN ?_ _) | (with_reducible refine Kd.C_drew ?_))); (case side2 => exact (Kd.R_reads' HO294.out).2.1); (case side3 => repeat (first | exact (Kd.R_reads' HO301.out).2.2 | (with_reducible refine Kd.C_alloc ?_ _) | (with_reducible refine Kd.C_drewN ?_ _) | (with_reducible refine Kd.C_drew ?_))); (case side4 => exact (Kd.R_reads' HO301.out).2.1); rintro e w' ⟨rfl, ⟨nd, rfl⟩⟩; refine ⟨_, rfl, ?_⟩; obtain ⟨Ao53, co53, eo53⟩ := Kd.R_slice HO296.out; subst eo53; obtain ⟨Ao54, co54, eo54⟩ := Kd.R_slice HO303.out; subst eo54) | (go_at_call 13; (with_reducible refine (tidewayref10_Same.calls k _ _ t291 _ _ t298 true _ ?side1 ?side2 ?side3 ?side4 A18.out).mono ?_); (case side1 => repeat (first | exact (Kd.R_reads' HO296.out).2.2 | (with_reducible refine Kd.C_alloc ?_ _) | (with_reducible refine Kd.C_drewN ?_ _) | (with_reducible refine Kd.C_drew ?_))); (case side2 => exact (Kd.R_reads' HO296.out).2.1); (case side3 => repeat (first | exact (Kd.R_reads' HO303.out).2.2 | (with_reducible refine Kd.C_alloc ?_ _) | (with_reducible refine Kd.C_drewN ?_ _) | (with_reducible refine Kd.C_drew ?_))); (case side4 => exact (Kd.R_reads' HO303.out).2.1); rintro e w' ⟨rfl, ⟨nd, rfl⟩⟩; obtain ⟨Ao55, co55, eo55⟩ := Kd.R_slice HO308.out; subst eo55; obtain ⟨Ao56, co56, eo56⟩ := Kd.R_slice HO315.out; subst eo56) | (go_at_call 13; (with_reducible refine (tidewayref10_Same.calls k _ _ t304 _ _ t311 false _ ?side1 ?side2 ?side3 ?side4 A21.out).mono ?_); (case side1 => repeat (first | exact (Kd.R_reads' HO308.out).2.2 | (with_reducible refine Kd.C_alloc ?_ _) | (with_reducible refine Kd.C_drewN ?_ _) | (with_reducible refine Kd.C_drew ?_))); (case side2 => exact (Kd.R_reads' HO308.out).2.1); (case side3 => repeat (first | exact (Kd.R_reads' HO315.out).2.2 | (with_reducible refine Kd.C_alloc ?_ _) | (with_reducible refine Kd.C_drewN ?_ _) | (with_reducible refine Kd.C_drew ?_))); (case side4 => exact (Kd.R_reads' HO315.out).2.1); rintro e w' ⟨rfl, ⟨nd, rfl⟩⟩))
      go_meet
      case rel => exact ⟨_, (true), (by first | rfl | (simp; done) | (simp [*]; done)), H', ⟨by first | omega | exact Nat.le_refl _⟩, ⟨by repeat (first | (with_reducible first | exact HB.out | apply below_alloc | apply pw_below_drewN | apply below_drew1) | exact HB.out | exact Below.refl _ _)⟩⟩
    ·rw [if_neg c20] at H
     have c20b0 : (t292 == t299) = false := beq_eq_false_iff_ne.mpr c20
     have c20b1 : (t292 != t299) = true := bne_iff_ne.mpr c20
     (first | rw [c20b0] | (simp only [i64_w, i32_w]; rw [c20b0]) | skip)
     have H' := Aside0.mk H
     clear H
     obtain ⟨Ao57, co57, eo57⟩ := Kd.R_slice HO294.out
     subst eo57
     obtain ⟨Ao58, co58, eo58⟩ := Kd.R_slice HO301.out
     subst eo58
     go_wp2_with (first | ((with_reducible refine gate_callee (f := 13) rfl ?_); refine goesL_ (some 52) rfl rfl Try.func13 (by kernel_rfl) rfl #[.slice Ao57 t290.length co57, .slice Ao58 t297.length co58] rfl (by (try simp only [List.map_toArray, List.map_cons, List.map_nil]); first | done | rfl | (simp only [List.length_drop, List.length_take]; rfl)) ?_; (with_reducible refine (tidewayref10_Same.calls k _ _ t290 _ _ t297 true _ ?side1 ?side2 ?side3 ?side4 A16.out).mono ?_); (case side1 => repeat (first | exact (Kd.R_reads' HO294.out).2.2 | (with_reducible refine Kd.C_alloc ?_ _) | (with_reducible refine Kd.C_drewN ?_ _) | (with_reducible refine Kd.C_drew ?_))); (case side2 => exact (Kd.R_reads' HO294.out).2.1); (case side3 => repeat (first | exact (Kd.R_reads' HO301.out).2.2 | (with_reducible refine Kd.C_alloc ?_ _) | (with_reducible refine Kd.C_drewN ?_ _) | (with_reducible refine Kd.C_drew ?_))); (case side4 => exact (Kd.R_reads' HO301.out).2.1); rintro e w' ⟨rfl, ⟨nd, rfl⟩⟩; refine ⟨_, rfl, ?_⟩; obtain ⟨Ao59, co59, eo59⟩ := Kd.R_slice HO296.out; subst eo59; obtain ⟨Ao60, co60, eo60⟩ := Kd.R_slice HO303.out; subst eo60) | (go_at_call 13; (with_reducible refine (tidewayref10_Same.calls k _ _ t291 _ _ t298 true _ ?side1 ?side2 ?side3 ?side4 A18.out).mono ?_); (case side1 => repeat (first | exact (Kd.R_reads' HO296.out).2.2 | (with_reducible refine Kd.C_alloc ?_ _) | (with_reducible refine Kd.C_drewN ?_ _) | (with_reducible refine Kd.C_drew ?_))); (case side2 => exact (Kd.R_reads' HO296.out).2.1); (case side3 => repeat (first | exact (Kd.R_reads' HO303.out).2.2 | (with_reducible refine Kd.C_alloc ?_ _) | (with_reducible refine Kd.C_drewN ?_ _) | (with_reducible refine Kd.C_drew ?_))); (case side4 => exact (Kd.R_reads' HO303.out).2.1); rintro e w' ⟨rfl, ⟨nd, rfl⟩⟩))
     go_meet
     case rel => exact ⟨_, (true), (by first | rfl | (simp; done) | (simp [*]; done)), H', ⟨by first | omega | exact Nat.le_refl _⟩, ⟨by repeat (first | (with_reducible first | exact HB.out | apply below_alloc | apply pw_below_drewN | apply below_drew1) | exact HB.out | exact Below.refl _ _)⟩⟩
   ·replace c19 := Bool.eq_false_iff.mpr c19
    subst c19
    have H1 : (tidewaylaw10_BoardAcks.j0 k l0 true) = some r := by rw [if_neg (show ¬ (false = true) by decide)] at H; exact H
    clear H
    have H := H1
    clear H1
    have H' := Aside0.mk H
    clear H
    obtain ⟨Ao61, co61, eo61⟩ := Kd.R_slice HO294.out
    subst eo61
    obtain ⟨Ao62, co62, eo62⟩ := Kd.R_slice HO301.out
    subst eo62
    go_wp2_with (first | ((with_reducible refine gate_callee (f := 13) rfl ?_); refine goesL_ (some 52) rfl rfl Try.func13 (by kernel_rfl) rfl #[.slice Ao61 t290.length co61, .slice Ao62 t297.length co62] rfl (by (try simp only [List.map_toArray, List.map_cons, List.map_nil]); first | done | rfl | (simp only [List.length_drop, List.length_take]; rfl)) ?_; (with_reducible refine (tidewayref10_Same.calls k _ _ t290 _ _ t297 true _ ?side1 ?side2 ?side3 ?side4 A16.out).mono ?_); (case side1 => repeat (first | exact (Kd.R_reads' HO294.out).2.2 | (with_reducible refine Kd.C_alloc ?_ _) | (with_reducible refine Kd.C_drewN ?_ _) | (with_reducible refine Kd.C_drew ?_))); (case side2 => exact (Kd.R_reads' HO294.out).2.1); (case side3 => repeat (first | exact (Kd.R_reads' HO301.out).2.2 | (with_reducible refine Kd.C_alloc ?_ _) | (with_reducible refine Kd.C_drewN ?_ _) | (with_reducible refine Kd.C_drew ?_))); (case side4 => exact (Kd.R_reads' HO301.out).2.1); rintro e w' ⟨rfl, ⟨nd, rfl⟩⟩; refine ⟨_, rfl, ?_⟩; obtain ⟨Ao63, co63, eo63⟩ := Kd.R_slice HO296.out; subst eo63; obtain ⟨Ao64, co64, eo64⟩ := Kd.R_slice HO303.out; subst eo64) | (go_at_call 13; (with_reducible refine (tidewayref10_Same.calls k _ _ t291 _ _ t298 false _ ?side1 ?side2 ?side3 ?side4 A18.out).mono ?_); (case side1 => repeat (first | exact (Kd.R_reads' HO296.out).2.2 | (with_reducible refine Kd.C_alloc ?_ _) | (with_reducible refine Kd.C_drewN ?_ _) | (with_reducible refine Kd.C_drew ?_))); (case side2 => exact (Kd.R_reads' HO296.out).2.1); (case side3 => repeat (first | exact (Kd.R_reads' HO303.out).2.2 | (with_reducible refine Kd.C_alloc ?_ _) | (with_reducible refine Kd.C_drewN ?_ _) | (with_reducible refine Kd.C_drew ?_))); (case side4 => exact (Kd.R_reads' HO303.out).2.1); rintro e w' ⟨rfl, ⟨nd, rfl⟩⟩))
    go_meet
    case rel => exact ⟨_, (true), (by first | rfl | (simp; done) | (simp [*]; done)), H', ⟨by first | omega | exact Nat.le_refl _⟩, ⟨by repeat (first | (with_reducible first | exact HB.out | apply below_alloc | apply pw_below_drewN | apply below_drew1) | exact HB.out | exact Below.refl _ _)⟩⟩
  ·replace c17 := Bool.eq_false_iff.mpr c17
   subst c17
   have H1 : (tidewaylaw10_BoardAcks.j0 k l0 true) = some r := by rw [if_neg (show ¬ (false = true) by decide)] at H; exact H
   clear H
   have H := H1
   clear H1
   have H' := Aside0.mk H
   clear H
   obtain ⟨Ao65, co65, eo65⟩ := Kd.R_slice HO294.out
   subst eo65
   obtain ⟨Ao66, co66, eo66⟩ := Kd.R_slice HO301.out
   subst eo66
   go_wp2_with (first | ((with_reducible refine gate_callee (f := 13) rfl ?_); refine goesL_ (some 52) rfl rfl Try.func13 (by kernel_rfl) rfl #[.slice Ao65 t290.length co65, .slice Ao66 t297.length co66] rfl (by (try simp only [List.map_toArray, List.map_cons, List.map_nil]); first | done | rfl | (simp only [List.length_drop, List.length_take]; rfl)) ?_; (with_reducible refine (tidewayref10_Same.calls k _ _ t290 _ _ t297 false _ ?side1 ?side2 ?side3 ?side4 A16.out).mono ?_); (case side1 => repeat (first | exact (Kd.R_reads' HO294.out).2.2 | (with_reducible refine Kd.C_alloc ?_ _) | (with_reducible refine Kd.C_drewN ?_ _) | (with_reducible refine Kd.C_drew ?_))); (case side2 => exact (Kd.R_reads' HO294.out).2.1); (case side3 => repeat (first | exact (Kd.R_reads' HO301.out).2.2 | (with_reducible refine Kd.C_alloc ?_ _) | (with_reducible refine Kd.C_drewN ?_ _) | (with_reducible refine Kd.C_drew ?_))); (case side4 => exact (Kd.R_reads' HO301.out).2.1); rintro e w' ⟨rfl, ⟨nd, rfl⟩⟩; refine ⟨_, rfl, ?_⟩))
   go_meet
   case rel => exact ⟨_, (true), (by first | rfl | (simp; done) | (simp [*]; done)), H', ⟨by first | omega | exact Nat.le_refl _⟩, ⟨by repeat (first | (with_reducible first | exact HB.out | apply below_alloc | apply pw_below_drewN | apply below_drew1) | exact HB.out | exact Below.refl _ _)⟩⟩
 case rest =>
  clear HC9
  try clear c1
  try clear c2
  try clear p2
  try clear c3
  try clear c8
  try clear c9
  try clear c10
  try clear c11
  try clear c12
  try clear c13
  try clear c17
  try clear c19
  try clear c20
  try clear c20b0
  try clear c20b1
  try clear c22
  try clear c24
  try clear c25
  try clear c25b0
  try clear c25b1
  obtain ⟨kq, x87_8, rfl, HA, HJ8, HB⟩ := hcut
  cases kq with
  | zero => exact absurd HA.out (by simp [tidewaylaw10_BoardAcks.j0])
  | succ kj8 =>
   have H := HA.out
   clear HA
   simp only [tidewaylaw10_BoardAcks.j0] at H
   by_cases c67 : x87_8 = true
   ·subst c67
    have H1 : (some false) = some r := by rw [if_pos rfl] at H; exact H
    clear H
    have H := H1
    clear H1
    exact absurd ((Option.some.inj H).trans HRT.out) (by decide)
   ·replace c67 := Bool.eq_false_iff.mpr c67
    subst c67
    have H1 : ((board_Pipe.f l0).bind fun t323 => ((tidewayref10_Pipe.f kj8 l0).bind fun t324 => (if t323 = t324 then ((board_Lost.f l0).bind fun t325 => ((tidewayref10_Lost.f kj8 l0).bind fun t326 => (if t325 = t326 then ((board_High.f l0).bind fun t327 => ((tidewayref10_High.f kj8 l0).bind fun t328 => (if t327 = t328 then ((board_Sacked.f l0).bind fun t329 => ((tidewayref10_Sacked.f kj8 l0).bind fun t330 => (if t329 = t330 then ((tidewaylaw10_heads.f kj8).bind fun t331 => (some t331)) else (some false)))) else (some false)))) else (some false)))) else (some false)))) = some r := by rw [if_neg (show ¬ (false = true) by decide)] at H; exact H
    clear H
    have H := H1
    clear H1
    replace H := Option.bind_eq_some_iff.mp H
    obtain ⟨t323, A680, H⟩ := H
    replace H : ((tidewayref10_Pipe.f kj8 l0).bind fun t324 => (if t323 = t324 then ((board_Lost.f l0).bind fun t325 => ((tidewayref10_Lost.f kj8 l0).bind fun t326 => (if t325 = t326 then ((board_High.f l0).bind fun t327 => ((tidewayref10_High.f kj8 l0).bind fun t328 => (if t327 = t328 then ((board_Sacked.f l0).bind fun t329 => ((tidewayref10_Sacked.f kj8 l0).bind fun t330 => (if t329 = t330 then ((tidewaylaw10_heads.f kj8).bind fun t331 => (some t331)) else (some false)))) else (some false)))) else (some false)))) else (some false))) = some r := H
    have A68 := Aside0.mk A680
    clear A680
    replace H := Option.bind_eq_some_iff.mp H
    obtain ⟨t324, A690, H⟩ := H
    replace H : (if t323 = t324 then ((board_Lost.f l0).bind fun t325 => ((tidewayref10_Lost.f kj8 l0).bind fun t326 => (if t325 = t326 then ((board_High.f l0).bind fun t327 => ((tidewayref10_High.f kj8 l0).bind fun t328 => (if t327 = t328 then ((board_Sacked.f l0).bind fun t329 => ((tidewayref10_Sacked.f kj8 l0).bind fun t330 => (if t329 = t330 then ((tidewaylaw10_heads.f kj8).bind fun t331 => (some t331)) else (some false)))) else (some false)))) else (some false)))) else (some false)) = some r := H
    have A69 := Aside0.mk A690
    clear A690
    by_cases c70 : t323 = t324
    ·rw [if_pos c70] at H
     have c70b0 : (t323 == t324) = true := beq_iff_eq.mpr c70
     have c70b1 : (t323 != t324) = false := bne_eq_false_iff_eq.mpr c70
     clear c70
     replace H := Option.bind_eq_some_iff.mp H
     obtain ⟨t325, A710, H⟩ := H
     replace H : ((tidewayref10_Lost.f kj8 l0).bind fun t326 => (if t325 = t326 then ((board_High.f l0).bind fun t327 => ((tidewayref10_High.f kj8 l0).bind fun t328 => (if t327 = t328 then ((board_Sacked.f l0).bind fun t329 => ((tidewayref10_Sacked.f kj8 l0).bind fun t330 => (if t329 = t330 then ((tidewaylaw10_heads.f kj8).bind fun t331 => (some t331)) else (some false)))) else (some false)))) else (some false))) = some r := H
     have A71 := Aside0.mk A710
     clear A710
     replace H := Option.bind_eq_some_iff.mp H
     obtain ⟨t326, A720, H⟩ := H
     replace H : (if t325 = t326 then ((board_High.f l0).bind fun t327 => ((tidewayref10_High.f kj8 l0).bind fun t328 => (if t327 = t328 then ((board_Sacked.f l0).bind fun t329 => ((tidewayref10_Sacked.f kj8 l0).bind fun t330 => (if t329 = t330 then ((tidewaylaw10_heads.f kj8).bind fun t331 => (some t331)) else (some false)))) else (some false)))) else (some false)) = some r := H
     have A72 := Aside0.mk A720
     clear A720
     by_cases c73 : t325 = t326
     ·rw [if_pos c73] at H
      have c73b0 : (t325 == t326) = true := beq_iff_eq.mpr c73
      have c73b1 : (t325 != t326) = false := bne_eq_false_iff_eq.mpr c73
      clear c73
      replace H := Option.bind_eq_some_iff.mp H
      obtain ⟨t327, A740, H⟩ := H
      replace H : ((tidewayref10_High.f kj8 l0).bind fun t328 => (if t327 = t328 then ((board_Sacked.f l0).bind fun t329 => ((tidewayref10_Sacked.f kj8 l0).bind fun t330 => (if t329 = t330 then ((tidewaylaw10_heads.f kj8).bind fun t331 => (some t331)) else (some false)))) else (some false))) = some r := H
      have A74 := Aside0.mk A740
      clear A740
      replace H := Option.bind_eq_some_iff.mp H
      obtain ⟨t328, A750, H⟩ := H
      replace H : (if t327 = t328 then ((board_Sacked.f l0).bind fun t329 => ((tidewayref10_Sacked.f kj8 l0).bind fun t330 => (if t329 = t330 then ((tidewaylaw10_heads.f kj8).bind fun t331 => (some t331)) else (some false)))) else (some false)) = some r := H
      have A75 := Aside0.mk A750
      clear A750
      by_cases c76 : t327 = t328
      ·rw [if_pos c76] at H
       have c76b0 : (t327 == t328) = true := beq_iff_eq.mpr c76
       have c76b1 : (t327 != t328) = false := bne_eq_false_iff_eq.mpr c76
       clear c76
       replace H := Option.bind_eq_some_iff.mp H
       obtain ⟨t329, A770, H⟩ := H
       replace H : ((tidewayref10_Sacked.f kj8 l0).bind fun t330 => (if t329 = t330 then ((tidewaylaw10_heads.f kj8).bind fun t331 => (some t331)) else (some false))) = some r := H
       have A77 := Aside0.mk A770
       clear A770
       replace H := Option.bind_eq_some_iff.mp H
       obtain ⟨t330, A780, H⟩ := H
       replace H : (if t329 = t330 then ((tidewaylaw10_heads.f kj8).bind fun t331 => (some t331)) else (some false)) = some r := H
       have A78 := Aside0.mk A780
       clear A780
       by_cases c79 : t329 = t330
       ·rw [if_pos c79] at H
        have c79b0 : (t329 == t330) = true := beq_iff_eq.mpr c79
        have c79b1 : (t329 != t330) = false := bne_eq_false_iff_eq.mpr c79
        clear c79
        replace H := Option.bind_eq_some_iff.mp H
        obtain ⟨t331, A800, H⟩ := H
        replace H : (some t331) = some r := H
        have A80 := Aside0.mk A800
        clear A800
        obtain rfl := Option.some.inj H
        go_wp2_with (first | ((with_reducible refine gate_callee (f := 14) rfl ?_); refine goesL_ (some 89) rfl rfl Try.func14 (by kernel_rfl) rfl #[.slice A0 l0.length c0] rfl (by (try simp only [List.map_toArray, List.map_cons, List.map_nil]); first | done | rfl | (simp only [List.length_drop, List.length_take]; rfl)) ?_; (with_reducible refine (board_Pipe.calls _ _ l0 t323 _ ?side1 ?side2 A68.out).mono ?_); (case side1 => repeat (first | exact (Kd.C_below HR0.out HB.out) | exact HR0.out | (with_reducible refine Kd.C_alloc ?_ _) | (with_reducible refine Kd.C_drewN ?_ _) | (with_reducible refine Kd.C_drew ?_))); (case side2 => exact HC0.out); rintro e w81 ⟨rfl, hb⟩; refine ⟨_, rfl, ?_⟩; have n0_ := Aside0.mk (below_step (by repeat (first | (with_reducible first | exact HB.out | apply below_alloc | apply pw_below_drewN | apply below_drew1) | exact HB.out | exact Below.refl _ _)) hb); clear HB; have HB := n0_; clear n0_; (try clear hb); (try clear hb2); (try clear hk); (try clear hi)) | ((with_reducible refine gate_callee (f := 15) rfl ?_); refine goesL_ (some 91) rfl rfl Try.func15 (by kernel_rfl) rfl #[.slice A0 l0.length c0] rfl (by (try simp only [List.map_toArray, List.map_cons, List.map_nil]); first | done | rfl | (simp only [List.length_drop, List.length_take]; rfl)) ?_; (with_reducible refine (tidewayref10_Pipe.calls kj8 _ _ l0 t324 _ ?side1 ?side2 A69.out).mono ?_); (case side1 => repeat (first | exact (Kd.C_below HR0.out HB.out) | exact HR0.out | (with_reducible refine Kd.C_alloc ?_ _) | (with_reducible refine Kd.C_drewN ?_ _) | (with_reducible refine Kd.C_drew ?_))); (case side2 => exact HC0.out); rintro e w82 ⟨rfl, hb⟩; refine ⟨_, rfl, ?_⟩; have n0_ := Aside0.mk (below_step (by repeat (first | (with_reducible first | exact HB.out | apply below_alloc | apply pw_below_drewN | apply below_drew1) | exact HB.out | exact Below.refl _ _)) hb); clear HB; have HB := n0_; clear n0_; (try clear hb); (try clear hb2); (try clear hk); (try clear hi)) | (go_at_call 16; (with_reducible refine (board_Lost.calls _ _ l0 t325 _ ?side1 ?side2 A71.out).mono ?_); (case side1 => repeat (first | exact (Kd.C_below HR0.out HB.out) | exact HR0.out | (with_reducible refine Kd.C_alloc ?_ _) | (with_reducible refine Kd.C_drewN ?_ _) | (with_reducible refine Kd.C_drew ?_))); (case side2 => exact HC0.out); rintro e w83 ⟨rfl, hb⟩; have n0_ := Aside0.mk (below_step (by repeat (first | (with_reducible first | exact HB.out | apply below_alloc | apply pw_below_drewN | apply below_drew1) | exact HB.out | exact Below.refl _ _)) hb); clear HB; have HB := n0_; clear n0_; (try clear hb); (try clear hb2); (try clear hk); (try clear hi)) | (go_at_call 17; (with_reducible refine (tidewayref10_Lost.calls kj8 _ _ l0 t326 _ ?side1 ?side2 A72.out).mono ?_); (case side1 => repeat (first | exact (Kd.C_below HR0.out HB.out) | exact HR0.out | (with_reducible refine Kd.C_alloc ?_ _) | (with_reducible refine Kd.C_drewN ?_ _) | (with_reducible refine Kd.C_drew ?_))); (case side2 => exact HC0.out); rintro e w84 ⟨rfl, hb⟩; have n0_ := Aside0.mk (below_step (by repeat (first | (with_reducible first | exact HB.out | apply below_alloc | apply pw_below_drewN | apply below_drew1) | exact HB.out | exact Below.refl _ _)) hb); clear HB; have HB := n0_; clear n0_; (try clear hb); (try clear hb2); (try clear hk); (try clear hi)) | (go_at_call 18; (with_reducible refine (board_High.calls _ _ l0 t327 _ ?side1 ?side2 A74.out).mono ?_); (case side1 => repeat (first | exact (Kd.C_below HR0.out HB.out) | exact HR0.out | (with_reducible refine Kd.C_alloc ?_ _) | (with_reducible refine Kd.C_drewN ?_ _) | (with_reducible refine Kd.C_drew ?_))); (case side2 => exact HC0.out); rintro e w85 ⟨rfl, hb⟩; have n0_ := Aside0.mk (below_step (by repeat (first | (with_reducible first | exact HB.out | apply below_alloc | apply pw_below_drewN | apply below_drew1) | exact HB.out | exact Below.refl _ _)) hb); clear HB; have HB := n0_; clear n0_; (try clear hb); (try clear hb2); (try clear hk); (try clear hi)) | (go_at_call 19; (with_reducible refine (tidewayref10_High.calls kj8 _ _ l0 t328 _ ?side1 ?side2 A75.out).mono ?_); (case side1 => repeat (first | exact (Kd.C_below HR0.out HB.out) | exact HR0.out | (with_reducible refine Kd.C_alloc ?_ _) | (with_reducible refine Kd.C_drewN ?_ _) | (with_reducible refine Kd.C_drew ?_))); (case side2 => exact HC0.out); rintro e w86 ⟨rfl, hb⟩; have n0_ := Aside0.mk (below_step (by repeat (first | (with_reducible first | exact HB.out | apply below_alloc | apply pw_below_drewN | apply below_drew1) | exact HB.out | exact Below.refl _ _)) hb); clear HB; have HB := n0_; clear n0_; (try clear hb); (try clear hb2); (try clear hk); (try clear hi)) | (go_at_call 20; (with_reducible refine (board_Sacked.calls _ _ l0 t329 _ ?side1 ?side2 A77.out).mono ?_); (case side1 => repeat (first | exact (Kd.C_below HR0.out HB.out) | exact HR0.out | (with_reducible refine Kd.C_alloc ?_ _) | (with_reducible refine Kd.C_drewN ?_ _) | (with_reducible refine Kd.C_drew ?_))); (case side2 => exact HC0.out); rintro e w87 ⟨rfl, hb⟩; have n0_ := Aside0.mk (below_step (by repeat (first | (with_reducible first | exact HB.out | apply below_alloc | apply pw_below_drewN | apply below_drew1) | exact HB.out | exact Below.refl _ _)) hb); clear HB; have HB := n0_; clear n0_; (try clear hb); (try clear hb2); (try clear hk); (try clear hi)) | (go_at_call 21; (with_reducible refine (tidewayref10_Sacked.calls kj8 _ _ l0 t330 _ ?side1 ?side2 A78.out).mono ?_); (case side1 => repeat (first | exact (Kd.C_below HR0.out HB.out) | exact HR0.out | (with_reducible refine Kd.C_alloc ?_ _) | (with_reducible refine Kd.C_drewN ?_ _) | (with_reducible refine Kd.C_drew ?_))); (case side2 => exact HC0.out); rintro e w88 ⟨rfl, hb⟩; have n0_ := Aside0.mk (below_step (by repeat (first | (with_reducible first | exact HB.out | apply below_alloc | apply pw_below_drewN | apply below_drew1) | exact HB.out | exact Below.refl _ _)) hb); clear HB; have HB := n0_; clear n0_; (try clear hb); (try clear hb2); (try clear hk); (try clear hi)) | (go_at_call 22; (with_reducible refine (tidewaylaw10_heads.calls kj8  t331 _ A80.out).mono ?_); rintro e w89 ⟨rfl, hb⟩; have n0_ := Aside0.mk (below_step (by repeat (first | (with_reducible first | exact HB.out | apply below_alloc | apply pw_below_drewN | apply below_drew1) | exact HB.out | exact Below.refl _ _)) hb); clear HB; have HB := n0_; clear n0_; (try clear hb); (try clear hb2); (try clear hk); (try clear hi)))
        go_ret
        exact ⟨by first | rfl | (simp [errW_none, errW_some] <;> rfl) | (simp [*, errW_none, errW_some] <;> rfl), by repeat (first | (with_reducible first | exact HB.out | apply below_alloc | apply pw_below_drewN | apply below_drew1) | exact HB.out | exact Below.refl _ _)⟩
       ·rw [if_neg c79] at H
        have c79b0 : (t329 == t330) = false := beq_eq_false_iff_ne.mpr c79
        have c79b1 : (t329 != t330) = true := bne_iff_ne.mpr c79
        exact absurd ((Option.some.inj H).trans HRT.out) (by decide)
      ·rw [if_neg c76] at H
       have c76b0 : (t327 == t328) = false := beq_eq_false_iff_ne.mpr c76
       have c76b1 : (t327 != t328) = true := bne_iff_ne.mpr c76
       exact absurd ((Option.some.inj H).trans HRT.out) (by decide)
     ·rw [if_neg c73] at H
      have c73b0 : (t325 == t326) = false := beq_eq_false_iff_ne.mpr c73
      have c73b1 : (t325 != t326) = true := bne_iff_ne.mpr c73
      exact absurd ((Option.some.inj H).trans HRT.out) (by decide)
    ·rw [if_neg c70] at H
     have c70b0 : (t323 == t324) = false := beq_eq_false_iff_ne.mpr c70
     have c70b1 : (t323 != t324) = true := bne_iff_ne.mpr c70
     exact absurd ((Option.some.inj H).trans HRT.out) (by decide)

end Go.Proofs.Ytgpbighdegdlfaa.PA

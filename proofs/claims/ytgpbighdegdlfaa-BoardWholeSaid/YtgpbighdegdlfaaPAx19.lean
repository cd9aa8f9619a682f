-- Written for the seat Ytgpbighdegdlfaa by this session's program hyb.py (the print's functions, with externals typed by hand).
import Derived.Test.YtgpbighdegdlfaaPAx0
import Derived.Test.YtgpbighdegdlfaaPAx1
import Derived.Test.YtgpbighdegdlfaaPAx4
import Derived.Test.YtgpbighdegdlfaaPAx6
import Derived.Test.YtgpbighdegdlfaaPAx18
namespace Go.Proofs.Ytgpbighdegdlfaa.PA
open Go.RowKit Go.Proofs.YtgpbighdegdlfaaW.PrintWords Go.Proofs.YtgpbighdegdlfaaW.PrintLast Go.Proofs.YtgpbighdegdlfaaW.PrintMore
attribute [local go_sem] max2_int min2_int max_two min_two max_three min_three max_four min_four   -- for this text's walks alone
set_option linter.unusedVariables false
set_option linter.unusedSimpArgs false

attribute [local go_sem high] eqA38
/-! ### tidewaylaw10_BoardWhole: function 4 -/
theorem dn4_0 {W W' : World} (h : W.heap = W'.heap) (q : Addr) : W.cell? q = W'.cell? q := by unfold World.cell?; rw [h]
theorem dn4_1 {W W' : World} (h : W.heap = W'.heap) (p : Addr) (v : Value) : (W.setCell p v).heap = (W'.setCell p v).heap := by simp only [World.setCell, h]
theorem dn4_2 (W : World) (n : Nat) : (W.drewN n).heap = W.heap := rfl
mutual
def tidewaylaw10_BoardWhole.j0 : Nat → List (S38) → Int → List (S38) → List (S38) → Bool → Option (Bool)
 | 0, _, _, _, _, _ => none
 | k + 1, x0, x1, x5, x6, x24 => if x24 = true then (if (wrap64 ((x5.length : Int) + (x6.length : Int))) = 0 then ((tidewaylaw10_heads.f k).bind fun t201 => (some t201)) else (some false)) else (if (wrap64 ((x5.length : Int) + (x6.length : Int))) = (x0.length : Int) then ((board_Check.f k x5).bind fun t202 => (if t202 = 0 then ((board_Check.f k x6).bind fun t203 => (tidewaylaw10_BoardWhole.j1 k x0 x1 x5 x6 (t203 != 0))) else (tidewaylaw10_BoardWhole.j1 k x0 x1 x5 x6 true))) else (tidewaylaw10_BoardWhole.j1 k x0 x1 x5 x6 true))
def tidewaylaw10_BoardWhole.j1 : Nat → List (S38) → Int → List (S38) → List (S38) → Bool → Option (Bool)
 | 0, _, _, _, _, _ => none
 | k + 1, x0, x1, x5, x6, x51 => if x51 = true then (some false) else (tidewaylaw10_BoardWhole.l0 k x0 x1 x5 x6 0)
def tidewaylaw10_BoardWhole.l0 : Nat → List (S38) → Int → List (S38) → List (S38) → Int → Option (Bool)
 | 0, _, _, _, _, _ => none
 | k + 1, x0, x1, x5, x6, x8 => if x8 < (x6.length : Int) then (if 0 ≤ x8 then (if x8 < (x0.length : Int) then (if (!(((rd_T38 x6 x8).f0) == ((rd_T38 x0 x8).f0)) || (!(((rd_T38 x6 x8).f1) == ((rd_T38 x0 x8).f1)) || (!(((rd_T38 x6 x8).f2) == ((rd_T38 x0 x8).f2)) || (!(((rd_T38 x6 x8).f3) == ((rd_T38 x0 x8).f3)) || (!(((rd_T38 x6 x8).f4) == ((rd_T38 x0 x8).f4)) || (!(((rd_T38 x6 x8).f5) == ((rd_T38 x0 x8).f5)) || (!(((rd_T38 x6 x8).f6) == ((rd_T38 x0 x8).f6)) || (!(((rd_T38 x6 x8).f7) == ((rd_T38 x0 x8).f7)) || (!(((rd_T38 x6 x8).f8) == ((rd_T38 x0 x8).f8)) || (!(((rd_T38 x6 x8).f9) == ((rd_T38 x0 x8).f9)) || (!(((rd_T38 x6 x8).f10) == ((rd_T38 x0 x8).f10)) || (!(((rd_T38 x6 x8).f11) == ((rd_T38 x0 x8).f11)))))))))))))) = true then (some false) else (if ((rd_T38 x6 x8).f1) > x1 then (some false) else (tidewaylaw10_BoardWhole.l0 k x0 x1 x5 x6 (wrap64 (x8 + 1))))) else (none)) else (none)) else (tidewaylaw10_BoardWhole.l1 k x0 x1 x5 x6 0)
def tidewaylaw10_BoardWhole.l1 : Nat → List (S38) → Int → List (S38) → List (S38) → Int → Option (Bool)
 | 0, _, _, _, _, _ => none
 | k + 1, x0, x1, x5, x6, x9 => if x9 < (x5.length : Int) then (if 0 ≤ (wrap64 ((x6.length : Int) + x9)) then (if (wrap64 ((x6.length : Int) + x9)) < (x0.length : Int) then (if 0 ≤ x9 then (if ((rd_T38 x5 x9).f1) = ((rd_T38 x0 (wrap64 ((x6.length : Int) + x9))).f1) then (if ((rd_T38 x5 x9).f0) = (mx ((rd_T38 x0 (wrap64 ((x6.length : Int) + x9))).f0) x1) then (tidewaylaw10_BoardWhole.j4 k x0 x1 x5 x6 x9 (decide (((rd_T38 x5 x9).f1) ≤ x1))) else (tidewaylaw10_BoardWhole.j4 k x0 x1 x5 x6 x9 true)) else (tidewaylaw10_BoardWhole.j4 k x0 x1 x5 x6 x9 true)) else (none)) else (none)) else (none)) else ((tidewaylaw10_heads.f k).bind fun t207 => (some t207))
def tidewaylaw10_BoardWhole.j4 : Nat → List (S38) → Int → List (S38) → List (S38) → Int → Bool → Option (Bool)
 | 0, _, _, _, _, _, _ => none
 | k + 1, x0, x1, x5, x6, x9, x117 => if x117 = true then (some false) else (tidewaylaw10_BoardWhole.l1 k x0 x1 x5 x6 (wrap64 (x9 + 1)))
end
def tidewaylaw10_BoardWhole.f (k : Nat) (l0 : List (S38)) (a1 : Int) : Option (Bool) := (board_Ack.f k l0 a1).bind fun bt193 => ((board_Check.f k l0).bind fun t200 => (if t200 = 0 then (tidewaylaw10_BoardWhole.j0 k l0 a1 bt193.1 bt193.2.1 (bt193.2.2 != 0)) else (tidewaylaw10_BoardWhole.j0 k l0 a1 bt193.1 bt193.2.1 true)))
theorem tidewaylaw10_BoardWhole.mono_l : ∀ k, (∀ y0 y1 y2 y3 y4, LeO (tidewaylaw10_BoardWhole.j0 k y0 y1 y2 y3 y4) (tidewaylaw10_BoardWhole.j0 (k + 1) y0 y1 y2 y3 y4)) ∧ (∀ y0 y1 y2 y3 y4, LeO (tidewaylaw10_BoardWhole.j1 k y0 y1 y2 y3 y4) (tidewaylaw10_BoardWhole.j1 (k + 1) y0 y1 y2 y3 y4)) ∧ (∀ y0 y1 y2 y3 y4, LeO (tidewaylaw10_BoardWhole.l0 k y0 y1 y2 y3 y4) (tidewaylaw10_BoardWhole.l0 (k + 1) y0 y1 y2 y3 y4)) ∧ (∀ y0 y1 y2 y3 y4, LeO (tidewaylaw10_BoardWhole.l1 k y0 y1 y2 y3 y4) (tidewaylaw10_BoardWhole.l1 (k + 1) y0 y1 y2 y3 y4)) ∧ (∀ y0 y1 y2 y3 y4 y5, LeO (tidewaylaw10_BoardWhole.j4 k y0 y1 y2 y3 y4 y5) (tidewaylaw10_BoardWhole.j4 (k + 1) y0 y1 y2 y3 y4 y5))
 | 0 => ⟨fun _ _ _ _ _ r h => by simp [tidewaylaw10_BoardWhole.j0] at h, fun _ _ _ _ _ r h => by simp [tidewaylaw10_BoardWhole.j1] at h, fun _ _ _ _ _ r h => by simp [tidewaylaw10_BoardWhole.l0] at h, fun _ _ _ _ _ r h => by simp [tidewaylaw10_BoardWhole.l1] at h, fun _ _ _ _ _ _ r h => by simp [tidewaylaw10_BoardWhole.j4] at h⟩
 | k + 1 => by
  obtain ⟨ih0, ih1, ih2, ih3, ih4⟩ := tidewaylaw10_BoardWhole.mono_l k
  refine ⟨?_, ?_, ?_, ?_, ?_⟩
  ·intro y0 y1 y2 y3 y4
   unfold tidewaylaw10_BoardWhole.j0
   repeat' first
   | (with_reducible exact ih0 _ _ _ _ _)
   | (with_reducible exact ih1 _ _ _ _ _)
   | (with_reducible exact ih2 _ _ _ _ _)
   | (with_reducible exact ih3 _ _ _ _ _)
   | (with_reducible exact ih4 _ _ _ _ _ _)
   | (with_reducible exact board_Ack.mono _ _ _)
   | (with_reducible exact board_Check.mono _ _)
   | (with_reducible exact tidewaylaw10_heads.mono _)
   | (with_reducible exact LeO.refl _)
   | (with_reducible exact LeO.none _)
   | (with_reducible refine LeO.ite ?_ ?_)
   | (with_reducible refine LeO.bind ?_ (fun _ => ?_))
   | exact ih0 _ _ _ _ _
   | exact ih1 _ _ _ _ _
   | exact ih2 _ _ _ _ _
   | exact ih3 _ _ _ _ _
   | exact ih4 _ _ _ _ _ _
   | exact board_Ack.mono _ _ _
   | exact board_Check.mono _ _
   | exact tidewaylaw10_heads.mono _
   | exact LeO.none _
   | refine LeO.ite ?_ ?_
   | refine LeO.bind ?_ (fun _ => ?_)
  ·intro y0 y1 y2 y3 y4
   unfold tidewaylaw10_BoardWhole.j1
   repeat' first
   | (with_reducible exact ih0 _ _ _ _ _)
   | (with_reducible exact ih1 _ _ _ _ _)
   | (with_reducible exact ih2 _ _ _ _ _)
   | (with_reducible exact ih3 _ _ _ _ _)
   | (with_reducible exact ih4 _ _ _ _ _ _)
   | (with_reducible exact board_Ack.mono _ _ _)
   | (with_reducible exact board_Check.mono _ _)
   | (with_reducible exact tidewaylaw10_heads.mono _)
   | (with_reducible exact LeO.refl _)
   | (with_reducible exact LeO.none _)
   | (with_reducible refine LeO.ite ?_ ?_)
   | (with_reducible refine LeO.bind ?_ (fun _ => ?_))
   | exact ih0 _ _ _ _ _
   | exact ih1 _ _ _ _ _
   | exact ih2 _ _ _ _ _
   | exact ih3 _ _ _ _ _
   | exact ih4 _ _ _ _ _ _
   | exact board_Ack.mono _ _ _
   | exact board_Check.mono _ _
   | exact tidewaylaw10_heads.mono _
   | exact LeO.none _
   | refine LeO.ite ?_ ?_
   | refine LeO.bind ?_ (fun _ => ?_)
  ·intro y0 y1 y2 y3 y4
   unfold tidewaylaw10_BoardWhole.l0
   repeat' first
   | (with_reducible exact ih0 _ _ _ _ _)
   | (with_reducible exact ih1 _ _ _ _ _)
   | (with_reducible exact ih2 _ _ _ _ _)
   | (with_reducible exact ih3 _ _ _ _ _)
   | (with_reducible exact ih4 _ _ _ _ _ _)
   | (with_reducible exact board_Ack.mono _ _ _)
   | (with_reducible exact board_Check.mono _ _)
   | (with_reducible exact tidewaylaw10_heads.mono _)
   | (with_reducible exact LeO.refl _)
   | (with_reducible exact LeO.none _)
   | (with_reducible refine LeO.ite ?_ ?_)
   | (with_reducible refine LeO.bind ?_ (fun _ => ?_))
   | exact ih0 _ _ _ _ _
   | exact ih1 _ _ _ _ _
   | exact ih2 _ _ _ _ _
   | exact ih3 _ _ _ _ _
   | exact ih4 _ _ _ _ _ _
   | exact board_Ack.mono _ _ _
   | exact board_Check.mono _ _
   | exact tidewaylaw10_heads.mono _
   | exact LeO.none _
   | refine LeO.ite ?_ ?_
   | refine LeO.bind ?_ (fun _ => ?_)
  ·intro y0 y1 y2 y3 y4
   unfold tidewaylaw10_BoardWhole.l1
   repeat' first
   | (with_reducible exact ih0 _ _ _ _ _)
   | (with_reducible exact ih1 _ _ _ _ _)
   | (with_reducible exact ih2 _ _ _ _ _)
   | (with_reducible exact ih3 _ _ _ _ _)
   | (with_reducible exact ih4 _ _ _ _ _ _)
   | (with_reducible exact board_Ack.mono _ _ _)
   | (with_reducible exact board_Check.mono _ _)
   | (with_reducible exact tidewaylaw10_heads.mono _)
   | (with_reducible exact LeO.refl _)
   | (with_reducible exact LeO.none _)
   | (with_reducible refine LeO.ite ?_ ?_)
   | (with_reducible refine LeO.bind ?_ (fun _ => ?_))
   | exact ih0 _ _ _ _ _
   | exact ih1 _ _ _ _ _
   | exact ih2 _ _ _ _ _
   | exact ih3 _ _ _ _ _
   | exact ih4 _ _ _ _ _ _
   | exact board_Ack.mono _ _ _
   | exact board_Check.mono _ _
   | exact tidewaylaw10_heads.mono _
   | exact LeO.none _
   | refine LeO.ite ?_ ?_
   | refine LeO.bind ?_ (fun _ => ?_)
  ·intro y0 y1 y2 y3 y4 y5
   unfold tidewaylaw10_BoardWhole.j4
   repeat' first
   | (with_reducible exact ih0 _ _ _ _ _)
   | (with_reducible exact ih1 _ _ _ _ _)
   | (with_reducible exact ih2 _ _ _ _ _)
   | (with_reducible exact ih3 _ _ _ _ _)
   | (with_reducible exact ih4 _ _ _ _ _ _)
   | (with_reducible exact board_Ack.mono _ _ _)
   | (with_reducible exact board_Check.mono _ _)
   | (with_reducible exact tidewaylaw10_heads.mono _)
   | (with_reducible exact LeO.refl _)
   | (with_reducible exact LeO.none _)
   | (with_reducible refine LeO.ite ?_ ?_)
   | (with_reducible refine LeO.bind ?_ (fun _ => ?_))
   | exact ih0 _ _ _ _ _
   | exact ih1 _ _ _ _ _
   | exact ih2 _ _ _ _ _
   | exact ih3 _ _ _ _ _
   | exact ih4 _ _ _ _ _ _
   | exact board_Ack.mono _ _ _
   | exact board_Check.mono _ _
   | exact tidewaylaw10_heads.mono _
   | exact LeO.none _
   | refine LeO.ite ?_ ?_
   | refine LeO.bind ?_ (fun _ => ?_)
theorem tidewaylaw10_BoardWhole.mono : ∀ a0 a1 k, LeO (tidewaylaw10_BoardWhole.f k a0 a1) (tidewaylaw10_BoardWhole.f (k + 1) a0 a1) := by
 intro a0 a1 k
 obtain ⟨ih0, ih1, ih2, ih3, ih4⟩ := tidewaylaw10_BoardWhole.mono_l k
 unfold tidewaylaw10_BoardWhole.f
 repeat' first
   | (with_reducible exact ih0 _ _ _ _ _)
   | (with_reducible exact ih1 _ _ _ _ _)
   | (with_reducible exact ih2 _ _ _ _ _)
   | (with_reducible exact ih3 _ _ _ _ _)
   | (with_reducible exact ih4 _ _ _ _ _ _)
   | (with_reducible exact board_Ack.mono _ _ _)
   | (with_reducible exact board_Check.mono _ _)
   | (with_reducible exact tidewaylaw10_heads.mono _)
   | (with_reducible exact LeO.refl _)
   | (with_reducible exact LeO.none _)
   | (with_reducible refine LeO.ite ?_ ?_)
   | (with_reducible refine LeO.bind ?_ (fun _ => ?_))
   | exact ih0 _ _ _ _ _
   | exact ih1 _ _ _ _ _
   | exact ih2 _ _ _ _ _
   | exact ih3 _ _ _ _ _
   | exact ih4 _ _ _ _ _ _
   | exact board_Ack.mono _ _ _
   | exact board_Check.mono _ _
   | exact tidewaylaw10_heads.mono _
   | exact LeO.none _
   | refine LeO.ite ?_ ?_
   | refine LeO.bind ?_ (fun _ => ?_)
set_option maxHeartbeats 8000000 in
set_option maxRecDepth 100000 in
theorem tidewaylaw10_BoardWhole.calls (k : Nat) (A0 : Option Addr) (c0 : Nat) (l0 : List (S38)) (a1 : Int) (r : Bool) (w : World) (hr0 : Kd.C k38 w A0 l0.length l0) (hc0 : l0.length ≤ c0) (h : tidewaylaw10_BoardWhole.f k l0 a1 = some r) (hrT : r = true := by rfl) :
  Calls Try.prog 4 #[.slice A0 l0.length c0, .int .i64 a1] w fun e w' => e = .returned (.bool r) ∧ Below w.heap.size w w' := by
 have HRT := Aside0.mk hrT
 clear hrT
 have hu38 := Try.underlying38
 have HR0 := Aside0.mk hr0
 have HC0 := Aside0.mk hc0
 clear hr0 hc0
 have HB := Aside0.mk (Below.refl w.heap.size w)
 have H : ((board_Ack.f k l0 a1).bind fun bt193 => ((board_Check.f k l0).bind fun t200 => (if t200 = 0 then (tidewaylaw10_BoardWhole.j0 k l0 a1 bt193.1 bt193.2.1 (bt193.2.2 != 0)) else (tidewaylaw10_BoardWhole.j0 k l0 a1 bt193.1 bt193.2.1 true)))) = some r := h
 clear h
 replace H := Option.bind_eq_some_iff.mp H
 obtain ⟨⟨t193, t194, t195⟩, A30, H⟩ := H
 replace H : ((board_Check.f k l0).bind fun t200 => (if t200 = 0 then (tidewaylaw10_BoardWhole.j0 k l0 a1 t193 t194 (t195 != 0)) else (tidewaylaw10_BoardWhole.j0 k l0 a1 t193 t194 true))) = some r := H
 have A3 := Aside0.mk A30
 clear A30
 have HC4 := Aside0.mk H
 clear H
 go_enter Try.func4, Try.ntmps4
 go_upto_region 2 with (first | (go_at_call 9; (with_reducible refine (board_Ack.calls k _ _ l0 a1 t193 t194 t195 _ ?side1 ?side2 A3.out).mono ?_); (case side1 => repeat (first | exact HR0.out | (with_reducible refine Kd.C_alloc ?_ _) | (with_reducible refine Kd.C_drewN ?_ _) | (with_reducible refine Kd.C_drew ?_))); (case side2 => exact HC0.out); rintro e w5 ⟨v196, v198, rfl, ho0, ho1, hb⟩; have n0_ := Aside0.mk (Kd.R_lower ho0 (below_size (by repeat (first | (with_reducible first | exact HB.out | apply below_alloc | apply pw_below_drewN | apply below_drew1) | exact HB.out | exact Below.refl _ _)))); have n1_ := Aside0.mk (Kd.R_lower ho1 (below_size (by repeat (first | (with_reducible first | exact HB.out | apply below_alloc | apply pw_below_drewN | apply below_drew1) | exact HB.out | exact Below.refl _ _)))); have n2_ := Aside0.mk (below_step (by repeat (first | (with_reducible first | exact HB.out | apply below_alloc | apply pw_below_drewN | apply below_drew1) | exact HB.out | exact Below.refl _ _)) hb); clear HB; have HO197 := n0_; have HO199 := n1_; have HB := n2_; clear n0_ n1_ n2_; (try clear hb); (try clear hb2); (try clear hk); (try clear hi); (try clear ho0); (try clear ho1)))
 repeat (go_quiet (first | (go_at_call 9; (with_reducible refine (board_Ack.calls k _ _ l0 a1 t193 t194 t195 _ ?side1 ?side2 A3.out).mono ?_); (case side1 => repeat (first | exact HR0.out | (with_reducible refine Kd.C_alloc ?_ _) | (with_reducible refine Kd.C_drewN ?_ _) | (with_reducible refine Kd.C_drew ?_))); (case side2 => exact HC0.out); rintro e w5 ⟨v196, v198, rfl, ho0, ho1, hb⟩; have n0_ := Aside0.mk (Kd.R_lower ho0 (below_size (by repeat (first | (with_reducible first | exact HB.out | apply below_alloc | apply pw_below_drewN | apply below_drew1) | exact HB.out | exact Below.refl _ _)))); have n1_ := Aside0.mk (Kd.R_lower ho1 (below_size (by repeat (first | (with_reducible first | exact HB.out | apply below_alloc | apply pw_below_drewN | apply below_drew1) | exact HB.out | exact Below.refl _ _)))); have n2_ := Aside0.mk (below_step (by repeat (first | (with_reducible first | exact HB.out | apply below_alloc | apply pw_below_drewN | apply below_drew1) | exact HB.out | exact Below.refl _ _)) hb); clear HB; have HO197 := n0_; have HO199 := n1_; have HB := n2_; clear n0_ n1_ n2_; (try clear hb); (try clear hb2); (try clear hk); (try clear hi); (try clear ho0); (try clear ho1))); go_upto_region 2 with (first | (go_at_call 9; (with_reducible refine (board_Ack.calls k _ _ l0 a1 t193 t194 t195 _ ?side1 ?side2 A3.out).mono ?_); (case side1 => repeat (first | exact HR0.out | (with_reducible refine Kd.C_alloc ?_ _) | (with_reducible refine Kd.C_drewN ?_ _) | (with_reducible refine Kd.C_drew ?_))); (case side2 => exact HC0.out); rintro e w5 ⟨v196, v198, rfl, ho0, ho1, hb⟩; have n0_ := Aside0.mk (Kd.R_lower ho0 (below_size (by repeat (first | (with_reducible first | exact HB.out | apply below_alloc | apply pw_below_drewN | apply below_drew1) | exact HB.out | exact Below.refl _ _)))); have n1_ := Aside0.mk (Kd.R_lower ho1 (below_size (by repeat (first | (with_reducible first | exact HB.out | apply below_alloc | apply pw_below_drewN | apply below_drew1) | exact HB.out | exact Below.refl _ _)))); have n2_ := Aside0.mk (below_step (by repeat (first | (with_reducible first | exact HB.out | apply below_alloc | apply pw_below_drewN | apply below_drew1) | exact HB.out | exact Below.refl _ _)) hb); clear HB; have HO197 := n0_; have HO199 := n1_; have HB := n2_; clear n0_ n1_ n2_; (try clear hb); (try clear hb2); (try clear hk); (try clear hi); (try clear ho0); (try clear ho1))))
 (try simp only [Act.put, List.setIfInBounds_toArray, List.set_cons_zero, List.set_cons_succ])
 go_cut [24] (fun v24 wc => ∃ (kq : Nat) (x24_3 : Bool), v24 = .bool x24_3 ∧ Aside0 (tidewaylaw10_BoardWhole.j0 kq l0 a1 t193 t194 x24_3 = some r) ∧ Aside0 (kq ≤ k) ∧ Aside0 (Kd.R k38 38 wc w.heap.size (fun k_ => some k_ ≠ (v198 : Value).ownBlock) v196 t193) ∧ Aside0 (Kd.R k38 38 wc w.heap.size (fun k_ => some k_ ≠ (v196 : Value).ownBlock) v198 t194) ∧ Aside0 (Below w.heap.size w wc))
 case first =>
  have H := HC4.out
  clear HC4
  replace H := Option.bind_eq_some_iff.mp H
  obtain ⟨t200, A60, H⟩ := H
  replace H : (if t200 = 0 then (tidewaylaw10_BoardWhole.j0 k l0 a1 t193 t194 (t195 != 0)) else (tidewaylaw10_BoardWhole.j0 k l0 a1 t193 t194 true)) = some r := H
  have A6 := Aside0.mk A60
  clear A60
  by_cases c7 : t200 = 0
  ·rw [if_pos c7] at H
   have c7b0 : (t200 == 0) = true := beq_iff_eq.mpr c7
   have c7b1 : (t200 != 0) = false := bne_eq_false_iff_eq.mpr c7
   clear c7
   (first | rw [c7b0] | (simp only [i64_w, i32_w]; rw [c7b0]) | skip)
   have H' := Aside0.mk H
   clear H
   go_wp2_with (first | (go_at_call 23; (with_reducible refine (board_Check.calls k _ _ l0 t200 _ ?side1 ?side2 A6.out).mono ?_); (case side1 => repeat (first | exact (Kd.C_below HR0.out HB.out) | exact HR0.out | (with_reducible refine Kd.C_alloc ?_ _) | (with_reducible refine Kd.C_drewN ?_ _) | (with_reducible refine Kd.C_drew ?_))); (case side2 => exact HC0.out); rintro e w8 ⟨rfl, hb⟩; have n0_ := Aside0.mk (Kd.R_below (by (with_reducible repeat (first | apply Kd.R_alloc | apply Kd.R_drewN | apply Kd.R_drew)); exact HO197.out) hb); have n1_ := Aside0.mk (Kd.R_below (by (with_reducible repeat (first | apply Kd.R_alloc | apply Kd.R_drewN | apply Kd.R_drew)); exact HO199.out) hb); have n2_ := Aside0.mk (below_step (by repeat (first | (with_reducible first | exact HB.out | apply below_alloc | apply pw_below_drewN | apply below_drew1) | exact HB.out | exact Below.refl _ _)) hb); clear HO197; clear HO199; clear HB; have HO197 := n0_; have HO199 := n1_; have HB := n2_; clear n0_ n1_ n2_; (try clear hb); (try clear hb2); (try clear hk); (try clear hi)))
   repeat (go_quiet (first | (go_at_call 23; (with_reducible refine (board_Check.calls k _ _ l0 t200 _ ?side1 ?side2 A6.out).mono ?_); (case side1 => repeat (first | exact (Kd.C_below HR0.out HB.out) | exact HR0.out | (with_reducible refine Kd.C_alloc ?_ _) | (with_reducible refine Kd.C_drewN ?_ _) | (with_reducible refine Kd.C_drew ?_))); (case side2 => exact HC0.out); rintro e w8 ⟨rfl, hb⟩; have n0_ := Aside0.mk (Kd.R_below (by (with_reducible repeat (first | apply Kd.R_alloc | apply Kd.R_drewN | apply Kd.R_drew)); exact HO197.out) hb); have n1_ := Aside0.mk (Kd.R_below (by (with_reducible repeat (first | apply Kd.R_alloc | apply Kd.R_drewN | apply Kd.R_drew)); exact HO199.out) hb); have n2_ := Aside0.mk (below_step (by repeat (first | (with_reducible first | exact HB.out | apply below_alloc | apply pw_below_drewN | apply below_drew1) | exact HB.out | exact Below.refl _ _)) hb); clear HO197; clear HO199; clear HB; have HO197 := n0_; have HO199 := n1_; have HB := n2_; clear n0_ n1_ n2_; (try clear hb); (try clear hb2); (try clear hk); (try clear hi))); try go_wp2_with (first | (go_at_call 23; (with_reducible refine (board_Check.calls k _ _ l0 t200 _ ?side1 ?side2 A6.out).mono ?_); (case side1 => repeat (first | exact (Kd.C_below HR0.out HB.out) | exact HR0.out | (with_reducible refine Kd.C_alloc ?_ _) | (with_reducible refine Kd.C_drewN ?_ _) | (with_reducible refine Kd.C_drew ?_))); (case side2 => exact HC0.out); rintro e w8 ⟨rfl, hb⟩; have n0_ := Aside0.mk (Kd.R_below (by (with_reducible repeat (first | apply Kd.R_alloc | apply Kd.R_drewN | apply Kd.R_drew)); exact HO197.out) hb); have n1_ := Aside0.mk (Kd.R_below (by (with_reducible repeat (first | apply Kd.R_alloc | apply Kd.R_drewN | apply Kd.R_drew)); exact HO199.out) hb); have n2_ := Aside0.mk (below_step (by repeat (first | (with_reducible first | exact HB.out | apply below_alloc | apply pw_below_drewN | apply below_drew1) | exact HB.out | exact Below.refl _ _)) hb); clear HO197; clear HO199; clear HB; have HO197 := n0_; have HO199 := n1_; have HB := n2_; clear n0_ n1_ n2_; (try clear hb); (try clear hb2); (try clear hk); (try clear hi))))
   go_meet
   case rel => exact ⟨_, ((t195 != 0)), (by first | rfl | (simp; done) | (simp [*]; done)), H', ⟨by first | omega | exact Nat.le_refl _⟩, ⟨by (with_reducible repeat (first | apply Kd.R_alloc | apply Kd.R_drewN | apply Kd.R_drew)); exact HO197.out⟩, ⟨by (with_reducible repeat (first | apply Kd.R_alloc | apply Kd.R_drewN | apply Kd.R_drew)); exact HO199.out⟩, ⟨by repeat (first | (with_reducible first | exact HB.out | apply below_alloc | apply pw_below_drewN | apply below_drew1) | exact HB.out | exact Below.refl _ _)⟩⟩
  ·rw [if_neg c7] at H
   have c7b0 : (t200 == 0) = false := beq_eq_false_iff_ne.mpr c7
   have c7b1 : (t200 != 0) = true := bne_iff_ne.mpr c7
   (first | rw [c7b0] | (simp only [i64_w, i32_w]; rw [c7b0]) | skip)
   have H' := Aside0.mk H
   clear H
   go_wp2_with (first | (go_at_call 23; (with_reducible refine (board_Check.calls k _ _ l0 t200 _ ?side1 ?side2 A6.out).mono ?_); (case side1 => repeat (first | exact (Kd.C_below HR0.out HB.out) | exact HR0.out | (with_reducible refine Kd.C_alloc ?_ _) | (with_reducible refine Kd.C_drewN ?_ _) | (with_reducible refine Kd.C_drew ?_))); (case side2 => exact HC0.out); rintro e w9 ⟨rfl, hb⟩; have n0_ := Aside0.mk (Kd.R_below (by (with_reducible repeat (first | apply Kd.R_alloc | apply Kd.R_drewN | apply Kd.R_drew)); exact HO197.out) hb); have n1_ := Aside0.mk (Kd.R_below (by (with_reducible repeat (first | apply Kd.R_alloc | apply Kd.R_drewN | apply Kd.R_drew)); exact HO199.out) hb); have n2_ := Aside0.mk (below_step (by repeat (first | (with_reducible first | exact HB.out | apply below_alloc | apply pw_below_drewN | apply below_drew1) | exact HB.out | exact Below.refl _ _)) hb); clear HO197; clear HO199; clear HB; have HO197 := n0_; have HO199 := n1_; have HB := n2_; clear n0_ n1_ n2_; (try clear hb); (try clear hb2); (try clear hk); (try clear hi)))
   repeat (go_quiet (first | (go_at_call 23; (with_reducible refine (board_Check.calls k _ _ l0 t200 _ ?side1 ?side2 A6.out).mono ?_); (case side1 => repeat (first | exact (Kd.C_below HR0.out HB.out) | exact HR0.out | (with_reducible refine Kd.C_alloc ?_ _) | (with_reducible refine Kd.C_drewN ?_ _) | (with_reducible refine Kd.C_drew ?_))); (case side2 => exact HC0.out); rintro e w9 ⟨rfl, hb⟩; have n0_ := Aside0.mk (Kd.R_below (by (with_reducible repeat (first | apply Kd.R_alloc | apply Kd.R_drewN | apply Kd.R_drew)); exact HO197.out) hb); have n1_ := Aside0.mk (Kd.R_below (by (with_reducible repeat (first | apply Kd.R_alloc | apply Kd.R_drewN | apply Kd.R_drew)); exact HO199.out) hb); have n2_ := Aside0.mk (below_step (by repeat (first | (with_reducible first | exact HB.out | apply below_alloc | apply pw_below_drewN | apply below_drew1) | exact HB.out | exact Below.refl _ _)) hb); clear HO197; clear HO199; clear HB; have HO197 := n0_; have HO199 := n1_; have HB := n2_; clear n0_ n1_ n2_; (try clear hb); (try clear hb2); (try clear hk); (try clear hi))); try go_wp2_with (first | (go_at_call 23; (with_reducible refine (board_Check.calls k _ _ l0 t200 _ ?side1 ?side2 A6.out).mono ?_); (case side1 => repeat (first | exact (Kd.C_below HR0.out HB.out) | exact HR0.out | (with_reducible refine Kd.C_alloc ?_ _) | (with_reducible refine Kd.C_drewN ?_ _) | (with_reducible refine Kd.C_drew ?_))); (case side2 => exact HC0.out); rintro e w9 ⟨rfl, hb⟩; have n0_ := Aside0.mk (Kd.R_below (by (with_reducible repeat (first | apply Kd.R_alloc | apply Kd.R_drewN | apply Kd.R_drew)); exact HO197.out) hb); have n1_ := Aside0.mk (Kd.R_below (by (with_reducible repeat (first | apply Kd.R_alloc | apply Kd.R_drewN | apply Kd.R_drew)); exact HO199.out) hb); have n2_ := Aside0.mk (below_step (by repeat (first | (with_reducible first | exact HB.out | apply below_alloc | apply pw_below_drewN | apply below_drew1) | exact HB.out | exact Below.refl _ _)) hb); clear HO197; clear HO199; clear HB; have HO197 := n0_; have HO199 := n1_; have HB := n2_; clear n0_ n1_ n2_; (try clear hb); (try clear hb2); (try clear hk); (try clear hi))))
   go_meet
   case rel => exact ⟨_, (true), (by first | rfl | (simp; done) | (simp [*]; done)), H', ⟨by first | omega | exact Nat.le_refl _⟩, ⟨by (with_reducible repeat (first | apply Kd.R_alloc | apply Kd.R_drewN | apply Kd.R_drew)); exact HO197.out⟩, ⟨by (with_reducible repeat (first | apply Kd.R_alloc | apply Kd.R_drewN | apply Kd.R_drew)); exact HO199.out⟩, ⟨by repeat (first | (with_reducible first | exact HB.out | apply below_alloc | apply pw_below_drewN | apply below_drew1) | exact HB.out | exact Below.refl _ _)⟩⟩
 case rest =>
  clear HC4
  try clear p2
  try clear c4
  try clear c7
  try clear c7b0
  try clear c7b1
  obtain ⟨kq, x24_3, rfl, HA, HJ3, HO_5, HO_6, HB⟩ := hcut
  cases kq with
  | zero => exact absurd HA.out (by simp [tidewaylaw10_BoardWhole.j0])
  | succ kj3 =>
   have H := HA.out
   clear HA
   simp only [tidewaylaw10_BoardWhole.j0] at H
   by_cases c10 : x24_3 = true
   ·subst c10
    have H1 : (if (wrap64 ((t193.length : Int) + (t194.length : Int))) = 0 then ((tidewaylaw10_heads.f kj3).bind fun t201 => (some t201)) else (some false)) = some r := by rw [if_pos rfl] at H; exact H
    clear H
    have H := H1
    clear H1
    by_cases c11 : (wrap64 ((t193.length : Int) + (t194.length : Int))) = 0
    ·rw [if_pos c11] at H
     have c11b0 : ((wrap64 ((t193.length : Int) + (t194.length : Int))) == 0) = true := beq_iff_eq.mpr c11
     have c11b1 : ((wrap64 ((t193.length : Int) + (t194.length : Int))) != 0) = false := bne_eq_false_iff_eq.mpr c11
     clear c11
     replace H := Option.bind_eq_some_iff.mp H
     obtain ⟨t201, A120, H⟩ := H
     replace H : (some t201) = some r := H
     have A12 := Aside0.mk A120
     clear A120
     obtain rfl := Option.some.inj H
     obtain ⟨Ao13, co13, eo13⟩ := Kd.R_slice HO_5.out
     subst eo13
     obtain ⟨Ao14, co14, eo14⟩ := Kd.R_slice HO_6.out
     subst eo14
     go_wp2_with (first | (go_at_call 22; (with_reducible refine (tidewaylaw10_heads.calls kj3  t201 _ A12.out).mono ?_); rintro e w15 ⟨rfl, hb⟩; have n0_ := Aside0.mk (Kd.R_below (by (with_reducible repeat (first | apply Kd.R_alloc | apply Kd.R_drewN | apply Kd.R_drew)); exact HO_5.out) hb); have n1_ := Aside0.mk (Kd.R_below (by (with_reducible repeat (first | apply Kd.R_alloc | apply Kd.R_drewN | apply Kd.R_drew)); exact HO_6.out) hb); have n2_ := Aside0.mk (below_step (by repeat (first | (with_reducible first | exact HB.out | apply below_alloc | apply pw_below_drewN | apply below_drew1) | exact HB.out | exact Below.refl _ _)) hb); clear HO_5; clear HO_6; clear HB; have HO_5 := n0_; have HO_6 := n1_; have HB := n2_; clear n0_ n1_ n2_; (try clear hb); (try clear hb2); (try clear hk); (try clear hi)))
     repeat (go_quiet (first | (go_at_call 22; (with_reducible refine (tidewaylaw10_heads.calls kj3  t201 _ A12.out).mono ?_); rintro e w15 ⟨rfl, hb⟩; have n0_ := Aside0.mk (Kd.R_below (by (with_reducible repeat (first | apply Kd.R_alloc | apply Kd.R_drewN | apply Kd.R_drew)); exact HO_5.out) hb); have n1_ := Aside0.mk (Kd.R_below (by (with_reducible repeat (first | apply Kd.R_alloc | apply Kd.R_drewN | apply Kd.R_drew)); exact HO_6.out) hb); have n2_ := Aside0.mk (below_step (by repeat (first | (with_reducible first | exact HB.out | apply below_alloc | apply pw_below_drewN | apply below_drew1) | exact HB.out | exact Below.refl _ _)) hb); clear HO_5; clear HO_6; clear HB; have HO_5 := n0_; have HO_6 := n1_; have HB := n2_; clear n0_ n1_ n2_; (try clear hb); (try clear hb2); (try clear hk); (try clear hi))); try go_wp2_with (first | (go_at_call 22; (with_reducible refine (tidewaylaw10_heads.calls kj3  t201 _ A12.out).mono ?_); rintro e w15 ⟨rfl, hb⟩; have n0_ := Aside0.mk (Kd.R_below (by (with_reducible repeat (first | apply Kd.R_alloc | apply Kd.R_drewN | apply Kd.R_drew)); exact HO_5.out) hb); have n1_ := Aside0.mk (Kd.R_below (by (with_reducible repeat (first | apply Kd.R_alloc | apply Kd.R_drewN | apply Kd.R_drew)); exact HO_6.out) hb); have n2_ := Aside0.mk (below_step (by repeat (first | (with_reducible first | exact HB.out | apply below_alloc | apply pw_below_drewN | apply below_drew1) | exact HB.out | exact Below.refl _ _)) hb); clear HO_5; clear HO_6; clear HB; have HO_5 := n0_; have HO_6 := n1_; have HB := n2_; clear n0_ n1_ n2_; (try clear hb); (try clear hb2); (try clear hk); (try clear hi))))
     go_ret
     exact ⟨by first | rfl | (simp [errW_none, errW_some] <;> rfl) | (simp [*, errW_none, errW_some] <;> rfl), by repeat (first | (with_reducible first | exact HB.out | apply below_alloc | apply pw_below_drewN | apply below_drew1) | exact HB.out | exact Below.refl _ _)⟩
    ·rw [if_neg c11] at H
     have c11b0 : ((wrap64 ((t193.length : Int) + (t194.length : Int))) == 0) = false := beq_eq_false_iff_ne.mpr c11
     have c11b1 : ((wrap64 ((t193.length : Int) + (t194.length : Int))) != 0) = true := bne_iff_ne.mpr c11
     exact absurd ((Option.some.inj H).trans HRT.out) (by decide)
   ·replace c10 := Bool.eq_false_iff.mpr c10
    subst c10
    have H1 : (if (wrap64 ((t193.length : Int) + (t194.length : Int))) = (l0.length : Int) then ((board_Check.f kj3 t193).bind fun t202 => (if t202 = 0 then ((board_Check.f kj3 t194).bind fun t203 => (tidewaylaw10_BoardWhole.j1 kj3 l0 a1 t193 t194 (t203 != 0))) else (tidewaylaw10_BoardWhole.j1 kj3 l0 a1 t193 t194 true))) else (tidewaylaw10_BoardWhole.j1 kj3 l0 a1 t193 t194 true)) = some r := by rw [if_neg (show ¬ (false = true) by decide)] at H; exact H
    clear H
    have H := H1
    clear H1
    have HC16 := Aside0.mk H
    clear H
    go_upto_region 4 with (fail)
    repeat (go_quiet (fail); go_upto_region 4 with (fail))
    go_cut [51] (fun v51 wc => ∃ (kq : Nat) (x51_15 : Bool), v51 = .bool x51_15 ∧ Aside0 (tidewaylaw10_BoardWhole.j1 kq l0 a1 t193 t194 x51_15 = some r) ∧ Aside0 (kq ≤ kj3) ∧ Aside0 (Kd.R k38 38 wc w.heap.size (fun k_ => some k_ ≠ (v198 : Value).ownBlock) v196 t193) ∧ Aside0 (Kd.R k38 38 wc w.heap.size (fun k_ => some k_ ≠ (v196 : Value).ownBlock) v198 t194) ∧ Aside0 (Below w.heap.size w wc))
    case first =>
     have H := HC16.out
     clear HC16
     by_cases c17 : (wrap64 ((t193.length : Int) + (t194.length : Int))) = (l0.length : Int)
     ·rw [if_pos c17] at H
      have c17b0 : ((wrap64 ((t193.length : Int) + (t194.length : Int))) == (l0.length : Int)) = true := beq_iff_eq.mpr c17
      have c17b1 : ((wrap64 ((t193.length : Int) + (t194.length : Int))) != (l0.length : Int)) = false := bne_eq_false_iff_eq.mpr c17
      clear c17
      (first | rw [c17b0] | (simp only [i64_w, i32_w]; rw [c17b0]) | skip)
      replace H := Option.bind_eq_some_iff.mp H
      obtain ⟨t202, A180, H⟩ := H
      replace H : (if t202 = 0 then ((board_Check.f kj3 t194).bind fun t203 => (tidewaylaw10_BoardWhole.j1 kj3 l0 a1 t193 t194 (t203 != 0))) else (tidewaylaw10_BoardWhole.j1 kj3 l0 a1 t193 t194 true)) = some r := H
      have A18 := Aside0.mk A180
      clear A180
      by_cases c19 : t202 = 0
      ·rw [if_pos c19] at H
       have c19b0 : (t202 == 0) = true := beq_iff_eq.mpr c19
       have c19b1 : (t202 != 0) = false := bne_eq_false_iff_eq.mpr c19
       clear c19
       replace H := Option.bind_eq_some_iff.mp H
       obtain ⟨t203, A200, H⟩ := H
       replace H : (tidewaylaw10_BoardWhole.j1 kj3 l0 a1 t193 t194 (t203 != 0)) = some r := H
       have A20 := Aside0.mk A200
       clear A200
       have H' := Aside0.mk H
       clear H
       obtain ⟨Ao21, co21, eo21⟩ := Kd.R_slice HO_5.out
       subst eo21
       obtain ⟨Ao22, co22, eo22⟩ := Kd.R_slice HO_6.out
       subst eo22
       go_wp2_with (first | (go_at_call 23; (with_reducible refine (board_Check.calls kj3 _ _ t193 t202 _ ?side1 ?side2 A18.out).mono ?_); (case side1 => repeat (first | exact (Kd.R_reads' HO_5.out).2.2 | (with_reducible refine Kd.C_alloc ?_ _) | (with_reducible refine Kd.C_drewN ?_ _) | (with_reducible refine Kd.C_drew ?_))); (case side2 => exact (Kd.R_reads' HO_5.out).2.1); rintro e w23 ⟨rfl, hb⟩; have n0_ := Aside0.mk (Kd.R_below (by (with_reducible repeat (first | apply Kd.R_alloc | apply Kd.R_drewN | apply Kd.R_drew)); exact HO_5.out) hb); have n1_ := Aside0.mk (Kd.R_below (by (with_reducible repeat (first | apply Kd.R_alloc | apply Kd.R_drewN | apply Kd.R_drew)); exact HO_6.out) hb); have n2_ := Aside0.mk (below_step (by repeat (first | (with_reducible first | exact HB.out | apply below_alloc | apply pw_below_drewN | apply below_drew1) | exact HB.out | exact Below.refl _ _)) hb); clear HO_5; clear HO_6; clear HB; have HO_5 := n0_; have HO_6 := n1_; have HB := n2_; clear n0_ n1_ n2_; (try clear hb); (try clear hb2); (try clear hk); (try clear hi)) | (go_at_call 23; (with_reducible refine (board_Check.calls kj3 _ _ t194 t203 _ ?side1 ?side2 A20.out).mono ?_); (case side1 => repeat (first | exact (Kd.R_reads' HO_6.out).2.2 | (with_reducible refine Kd.C_alloc ?_ _) | (with_reducible refine Kd.C_drewN ?_ _) | (with_reducible refine Kd.C_drew ?_))); (case side2 => exact (Kd.R_reads' HO_6.out).2.1); rintro e w24 ⟨rfl, hb⟩; have n0_ := Aside0.mk (Kd.R_below (by (with_reducible repeat (first | apply Kd.R_alloc | apply Kd.R_drewN | apply Kd.R_drew)); exact HO_5.out) hb); have n1_ := Aside0.mk (Kd.R_below (by (with_reducible repeat (first | apply Kd.R_alloc | apply Kd.R_drewN | apply Kd.R_drew)); exact HO_6.out) hb); have n2_ := Aside0.mk (below_step (by repeat (first | (with_reducible first | exact HB.out | apply below_alloc | apply pw_below_drewN | apply below_drew1) | exact HB.out | exact Below.refl _ _)) hb); clear HO_5; clear HO_6; clear HB; have HO_5 := n0_; have HO_6 := n1_; have HB := n2_; clear n0_ n1_ n2_; (try clear hb); (try clear hb2); (try clear hk); (try clear hi)))
       repeat (go_quiet (first | (go_at_call 23; (with_reducible refine (board_Check.calls kj3 _ _ t193 t202 _ ?side1 ?side2 A18.out).mono ?_); (case side1 => repeat (first | exact (Kd.R_reads' HO_5.out).2.2 | (with_reducible refine Kd.C_alloc ?_ _) | (with_reducible refine Kd.C_drewN ?_ _) | (with_reducible refine Kd.C_drew ?_))); (case side2 => exact (Kd.R_reads' HO_5.out).2.1); rintro e w23 ⟨rfl, hb⟩; have n0_ := Aside0.mk (Kd.R_below (by (with_reducible repeat (first | apply Kd.R_alloc | apply Kd.R_drewN | apply Kd.R_drew)); exact HO_5.out) hb); have n1_ := Aside0.mk (Kd.R_below (by (with_reducible repeat (first | apply Kd.R_alloc | apply Kd.R_drewN | apply Kd.R_drew)); exact HO_6.out) hb); have n2_ := Aside0.mk (below_step (by repeat (first | (with_reducible first | exact HB.out | apply below_alloc | apply pw_below_drewN | apply below_drew1) | exact HB.out | exact Below.refl _ _)) hb); clear HO_5; clear HO_6; clear HB; have HO_5 := n0_; have HO_6 := n1_; have HB := n2_; clear n0_ n1_ n2_; (try clear hb); (try clear hb2); (try clear hk); (try clear hi)) | (go_at_call 23; (with_reducible refine (board_Check.calls kj3 _ _ t194 t203 _ ?side1 ?side2 A20.out).mono ?_); (case side1 => repeat (first | exact (Kd.R_reads' HO_6.out).2.2 | (with_reducible refine Kd.C_alloc ?_ _) | (with_reducible refine Kd.C_drewN ?_ _) | (with_reducible refine Kd.C_drew ?_))); (case side2 => exact (Kd.R_reads' HO_6.out).2.1); rintro e w24 ⟨rfl, hb⟩; have n0_ := Aside0.mk (Kd.R_below (by (with_reducible repeat (first | apply Kd.R_alloc | apply Kd.R_drewN | apply Kd.R_drew)); exact HO_5.out) hb); have n1_ := Aside0.mk (Kd.R_below (by (with_reducible repeat (first | apply Kd.R_alloc | apply Kd.R_drewN | apply Kd.R_drew)); exact HO_6.out) hb); have n2_ := Aside0.mk (below_step (by repeat (first | (with_reducible first | exact HB.out | apply below_alloc | apply pw_below_drewN | apply below_drew1) | exact HB.out | exact Below.refl _ _)) hb); clear HO_5; clear HO_6; clear HB; have HO_5 := n0_; have HO_6 := n1_; have HB := n2_; clear n0_ n1_ n2_; (try clear hb); (try clear hb2); (try clear hk); (try clear hi))); try go_wp2_with (first | (go_at_call 23; (with_reducible refine (board_Check.calls kj3 _ _ t193 t202 _ ?side1 ?side2 A18.out).mono ?_); (case side1 => repeat (first | exact (Kd.R_reads' HO_5.out).2.2 | (with_reducible refine Kd.C_alloc ?_ _) | (with_reducible refine Kd.C_drewN ?_ _) | (with_reducible refine Kd.C_drew ?_))); (case side2 => exact (Kd.R_reads' HO_5.out).2.1); rintro e w23 ⟨rfl, hb⟩; have n0_ := Aside0.mk (Kd.R_below (by (with_reducible repeat (first | apply Kd.R_alloc | apply Kd.R_drewN | apply Kd.R_drew)); exact HO_5.out) hb); have n1_ := Aside0.mk (Kd.R_below (by (with_reducible repeat (first | apply Kd.R_alloc | apply Kd.R_drewN | apply Kd.R_drew)); exact HO_6.out) hb); have n2_ := Aside0.mk (below_step (by repeat (first | (with_reducible first | exact HB.out | apply below_alloc | apply pw_below_drewN | apply below_drew1) | exact HB.out | exact Below.refl _ _)) hb); clear HO_5; clear HO_6; clear HB; have HO_5 := n0_; have HO_6 := n1_; have HB := n2_; clear n0_ n1_ n2_; (try clear hb); (try clear hb2); (try clear hk); (try clear hi)) | (go_at_call 23; (with_reducible refine (board_Check.calls kj3 _ _ t194 t203 _ ?side1 ?side2 A20.out).mono ?_); (case side1 => repeat (first | exact (Kd.R_reads' HO_6.out).2.2 | (with_reducible refine Kd.C_alloc ?_ _) | (with_reducible refine Kd.C_drewN ?_ _) | (with_reducible refine Kd.C_drew ?_))); (case side2 => exact (Kd.R_reads' HO_6.out).2.1); rintro e w24 ⟨rfl, hb⟩; have n0_ := Aside0.mk (Kd.R_below (by (with_reducible repeat (first | apply Kd.R_alloc | apply Kd.R_drewN | apply Kd.R_drew)); exact HO_5.out) hb); have n1_ := Aside0.mk (Kd.R_below (by (with_reducible repeat (first | apply Kd.R_alloc | apply Kd.R_drewN | apply Kd.R_drew)); exact HO_6.out) hb); have n2_ := Aside0.mk (below_step (by repeat (first | (with_reducible first | exact HB.out | apply below_alloc | apply pw_below_drewN | apply below_drew1) | exact HB.out | exact Below.refl _ _)) hb); clear HO_5; clear HO_6; clear HB; have HO_5 := n0_; have HO_6 := n1_; have HB := n2_; clear n0_ n1_ n2_; (try clear hb); (try clear hb2); (try clear hk); (try clear hi))))
       go_meet
       case rel => exact ⟨_, ((t203 != 0)), (by first | rfl | (simp; done) | (simp [*]; done)), H', ⟨by have := HJ3.out; first | omega | exact Nat.le_refl _⟩, ⟨by (with_reducible repeat (first | apply Kd.R_alloc | apply Kd.R_drewN | apply Kd.R_drew)); exact HO_5.out⟩, ⟨by (with_reducible repeat (first | apply Kd.R_alloc | apply Kd.R_drewN | apply Kd.R_drew)); exact HO_6.out⟩, ⟨by repeat (first | (with_reducible first | exact HB.out | apply below_alloc | apply pw_below_drewN | apply below_drew1) | exact HB.out | exact Below.refl _ _)⟩⟩
      ·rw [if_neg c19] at H
       have c19b0 : (t202 == 0) = false := beq_eq_false_iff_ne.mpr c19
       have c19b1 : (t202 != 0) = true := bne_iff_ne.mpr c19
       have H' := Aside0.mk H
       clear H
       obtain ⟨Ao25, co25, eo25⟩ := Kd.R_slice HO_5.out
       subst eo25
       obtain ⟨Ao26, co26, eo26⟩ := Kd.R_slice HO_6.out
       subst eo26
       go_wp2_with (first | (go_at_call 23; (with_reducible refine (board_Check.calls kj3 _ _ t193 t202 _ ?side1 ?side2 A18.out).mono ?_); (case side1 => repeat (first | exact (Kd.R_reads' HO_5.out).2.2 | (with_reducible refine Kd.C_alloc ?_ _) | (with_reducible refine Kd.C_drewN ?_ _) | (with_reducible refine Kd.C_drew ?_))); (case side2 => exact (Kd.R_reads' HO_5.out).2.1); rintro e w27 ⟨rfl, hb⟩; have n0_ := Aside0.mk (Kd.R_below (by (with_reducible repeat (first | apply Kd.R_alloc | apply Kd.R_drewN | apply Kd.R_drew)); exact HO_5.out) hb); have n1_ := Aside0.mk (Kd.R_below (by (with_reducible repeat (first | apply Kd.R_alloc | apply Kd.R_drewN | apply Kd.R_drew)); exact HO_6.out) hb); have n2_ := Aside0.mk (below_step (by repeat (first | (with_reducible first | exact HB.out | apply below_alloc | apply pw_below_drewN | apply below_drew1) | exact HB.out | exact Below.refl _ _)) hb); clear HO_5; clear HO_6; clear HB; have HO_5 := n0_; have HO_6 := n1_; have HB := n2_; clear n0_ n1_ n2_; (try clear hb); (try clear hb2); (try clear hk); (try clear hi)))
       repeat (go_quiet (first | (go_at_call 23; (with_reducible refine (board_Check.calls kj3 _ _ t193 t202 _ ?side1 ?side2 A18.out).mono ?_); (case side1 => repeat (first | exact (Kd.R_reads' HO_5.out).2.2 | (with_reducible refine Kd.C_alloc ?_ _) | (with_reducible refine Kd.C_drewN ?_ _) | (with_reducible refine Kd.C_drew ?_))); (case side2 => exact (Kd.R_reads' HO_5.out).2.1); rintro e w27 ⟨rfl, hb⟩; have n0_ := Aside0.mk (Kd.R_below (by (with_reducible repeat (first | apply Kd.R_alloc | apply Kd.R_drewN | apply Kd.R_drew)); exact HO_5.out) hb); have n1_ := Aside0.mk (Kd.R_below (by (with_reducible repeat (first | apply Kd.R_alloc | apply Kd.R_drewN | apply Kd.R_drew)); exact HO_6.out) hb); have n2_ := Aside0.mk (below_step (by repeat (first | (with_reducible first | exact HB.out | apply below_alloc | apply pw_below_drewN | apply below_drew1) | exact HB.out | exact Below.refl _ _)) hb); clear HO_5; clear HO_6; clear HB; have HO_5 := n0_; have HO_6 := n1_; have HB := n2_; clear n0_ n1_ n2_; (try clear hb); (try clear hb2); (try clear hk); (try clear hi))); try go_wp2_with (first | (go_at_call 23; (with_reducible refine (board_Check.calls kj3 _ _ t193 t202 _ ?side1 ?side2 A18.out).mono ?_); (case side1 => repeat (first | exact (Kd.R_reads' HO_5.out).2.2 | (with_reducible refine Kd.C_alloc ?_ _) | (with_reducible refine Kd.C_drewN ?_ _) | (with_reducible refine Kd.C_drew ?_))); (case side2 => exact (Kd.R_reads' HO_5.out).2.1); rintro e w27 ⟨rfl, hb⟩; have n0_ := Aside0.mk (Kd.R_below (by (with_reducible repeat (first | apply Kd.R_alloc | apply Kd.R_drewN | apply Kd.R_drew)); exact HO_5.out) hb); have n1_ := Aside0.mk (Kd.R_below (by (with_reducible repeat (first | apply Kd.R_alloc | apply Kd.R_drewN | apply Kd.R_drew)); exact HO_6.out) hb); have n2_ := Aside0.mk (below_step (by repeat (first | (with_reducible first | exact HB.out | apply below_alloc | apply pw_below_drewN | apply below_drew1) | exact HB.out | exact Below.refl _ _)) hb); clear HO_5; clear HO_6; clear HB; have HO_5 := n0_; have HO_6 := n1_; have HB := n2_; clear n0_ n1_ n2_; (try clear hb); (try clear hb2); (try clear hk); (try clear hi))))
       go_meet
       case rel => exact ⟨_, (true), (by first | rfl | (simp; done) | (simp [*]; done)), H', ⟨by have := HJ3.out; first | omega | exact Nat.le_refl _⟩, ⟨by (with_reducible repeat (first | apply Kd.R_alloc | apply Kd.R_drewN | apply Kd.R_drew)); exact HO_5.out⟩, ⟨by (with_reducible repeat (first | apply Kd.R_alloc | apply Kd.R_drewN | apply Kd.R_drew)); exact HO_6.out⟩, ⟨by repeat (first | (with_reducible first | exact HB.out | apply below_alloc | apply pw_below_drewN | apply below_drew1) | exact HB.out | exact Below.refl _ _)⟩⟩
     ·rw [if_neg c17] at H
      have c17b0 : ((wrap64 ((t193.length : Int) + (t194.length : Int))) == (l0.length : Int)) = false := beq_eq_false_iff_ne.mpr c17
      have c17b1 : ((wrap64 ((t193.length : Int) + (t194.length : Int))) != (l0.length : Int)) = true := bne_iff_ne.mpr c17
      (first | rw [c17b0] | (simp only [i64_w, i32_w]; rw [c17b0]) | skip)
      have H' := Aside0.mk H
      clear H
      obtain ⟨Ao28, co28, eo28⟩ := Kd.R_slice HO_5.out
      subst eo28
      obtain ⟨Ao29, co29, eo29⟩ := Kd.R_slice HO_6.out
      subst eo29
      go_wp2
      repeat (go_quiet (fail); try go_wp2)
      go_meet
      case rel => exact ⟨_, (true), (by first | rfl | (simp; done) | (simp [*]; done)), H', ⟨by have := HJ3.out; first | omega | exact Nat.le_refl _⟩, ⟨by (with_reducible repeat (first | apply Kd.R_alloc | apply Kd.R_drewN | apply Kd.R_drew)); exact HO_5.out⟩, ⟨by (with_reducible repeat (first | apply Kd.R_alloc | apply Kd.R_drewN | apply Kd.R_drew)); exact HO_6.out⟩, ⟨by repeat (first | (with_reducible first | exact HB.out | apply below_alloc | apply pw_below_drewN | apply below_drew1) | exact HB.out | exact Below.refl _ _)⟩⟩
    case rest =>
     clear HC16
     try clear c1
     try clear p2
     try clear c4
     try clear p6
     try clear c7
     try clear c7b0
     try clear c7b1
     try clear c10
     try clear c11
     try clear c11b0
     try clear c11b1
     try clear c17
     try clear c17b0
     try clear c17b1
     try clear c19
     try clear c19b0
     try clear c19b1
     try clear p2
     obtain ⟨kq, x51_15, rfl, HA, HJ15, HO_5, HO_6, HB⟩ := hcut
     cases kq with
     | zero => exact absurd HA.out (by simp [tidewaylaw10_BoardWhole.j1])
     | succ kj15 =>
      have H := HA.out
      clear HA
      simp only [tidewaylaw10_BoardWhole.j1] at H
      by_cases c30 : x51_15 = true
      ·subst c30
       have H1 : (some false) = some r := by rw [if_pos rfl] at H; exact H
       clear H
       have H := H1
       clear H1
       exact absurd ((Option.some.inj H).trans HRT.out) (by decide)
      ·replace c30 := Bool.eq_false_iff.mpr c30
       subst c30
       have H1 : (tidewaylaw10_BoardWhole.l0 kj15 l0 a1 t193 t194 0) = some r := by rw [if_neg (show ¬ (false = true) by decide)] at H; exact H
       clear H
       have H := H1
       clear H1
       have H' := Aside0.mk H
       clear H
       go_wp2
       repeat (go_quiet (fail); try go_wp2)
       go_loopg [8] kj15 (fun kq v8 w' => ∃ (x8_3 : Int), v8 = .int .i64 x8_3 ∧ Aside0 (tidewaylaw10_BoardWhole.l0 kq l0 a1 t193 t194 x8_3 = some r) ∧ Aside0 (kq ≤ kj15) ∧ Aside0 (Kd.R k38 38 w' w.heap.size (fun k_ => some k_ ≠ (v198 : Value).ownBlock) v196 t193) ∧ Aside0 (Kd.R k38 38 w' w.heap.size (fun k_ => some k_ ≠ (v196 : Value).ownBlock) v198 t194) ∧ Aside0 (Below w.heap.size w w'))
       case atStart => exact ⟨(0), (by first | rfl | (simp; done) | (simp [*]; done)), H', ⟨Nat.le_refl _⟩, ⟨by (with_reducible repeat (first | apply Kd.R_alloc | apply Kd.R_drewN | apply Kd.R_drew)); exact HO_5.out⟩, ⟨by (with_reducible repeat (first | apply Kd.R_alloc | apply Kd.R_drewN | apply Kd.R_drew)); exact HO_6.out⟩, ⟨by repeat (first | (with_reducible first | exact HB.out | apply below_alloc | apply pw_below_drewN | apply below_drew1) | exact HB.out | exact Below.refl _ _)⟩⟩
       case round =>
        clear H'
        try clear c1
        try clear p2
        try clear c3
        try clear c4
        try clear p6
        try clear c7
        try clear c7b0
        try clear c7b1
        try clear c10
        try clear c11
        try clear c11b0
        try clear c11b1
        try clear c17
        try clear c17b0
        try clear c17b1
        try clear c19
        try clear c19b0
        try clear c19b1
        try clear c30
        try clear p2
        try clear p6
        obtain ⟨x8_3, rfl, HA, HK3, HO_5, HO_6, HB⟩ := hrel
        cases gk with
        | zero => exact absurd HA.out (by simp [tidewaylaw10_BoardWhole.l0])
        | succ k3 =>
         have H := HA.out
         clear HA
         simp only [tidewaylaw10_BoardWhole.l0] at H
         by_cases c31 : x8_3 < (t194.length : Int)
         ·rw [if_pos c31] at H
          have c31b0 : decide (x8_3 < (t194.length : Int)) = true := decide_eq_true c31
          clear c31
          by_cases c32 : 0 ≤ x8_3
          ·rw [if_pos c32] at H
           have c32b0 : decide (0 ≤ x8_3) = true := decide_eq_true c32
           clear c32
           by_cases c33 : x8_3 < (l0.length : Int)
           ·rw [if_pos c33] at H
            have c33b0 : decide (x8_3 < (l0.length : Int)) = true := decide_eq_true c33
            clear c33
            by_cases c34 : (!(((rd_T38 t194 x8_3).f0) == ((rd_T38 l0 x8_3).f0)) || (!(((rd_T38 t194 x8_3).f1) == ((rd_T38 l0 x8_3).f1)) || (!(((rd_T38 t194 x8_3).f2) == ((rd_T38 l0 x8_3).f2)) || (!(((rd_T38 t194 x8_3).f3) == ((rd_T38 l0 x8_3).f3)) || (!(((rd_T38 t194 x8_3).f4) == ((rd_T38 l0 x8_3).f4)) || (!(((rd_T38 t194 x8_3).f5) == ((rd_T38 l0 x8_3).f5)) || (!(((rd_T38 t194 x8_3).f6) == ((rd_T38 l0 x8_3).f6)) || (!(((rd_T38 t194 x8_3).f7) == ((rd_T38 l0 x8_3).f7)) || (!(((rd_T38 t194 x8_3).f8) == ((rd_T38 l0 x8_3).f8)) || (!(((rd_T38 t194 x8_3).f9) == ((rd_T38 l0 x8_3).f9)) || (!(((rd_T38 t194 x8_3).f10) == ((rd_T38 l0 x8_3).f10)) || (!(((rd_T38 t194 x8_3).f11) == ((rd_T38 l0 x8_3).f11)))))))))))))) = true
            ·rw [if_pos c34] at H
             have c34b0 : (!(((rd_T38 t194 x8_3).f0) == ((rd_T38 l0 x8_3).f0)) || (!(((rd_T38 t194 x8_3).f1) == ((rd_T38 l0 x8_3).f1)) || (!(((rd_T38 t194 x8_3).f2) == ((rd_T38 l0 x8_3).f2)) || (!(((rd_T38 t194 x8_3).f3) == ((rd_T38 l0 x8_3).f3)) || (!(((rd_T38 t194 x8_3).f4) == ((rd_T38 l0 x8_3).f4)) || (!(((rd_T38 t194 x8_3).f5) == ((rd_T38 l0 x8_3).f5)) || (!(((rd_T38 t194 x8_3).f6) == ((rd_T38 l0 x8_3).f6)) || (!(((rd_T38 t194 x8_3).f7) == ((rd_T38 l0 x8_3).f7)) || (!(((rd_T38 t194 x8_3).f8) == ((rd_T38 l0 x8_3).f8)) || (!(((rd_T38 t194 x8_3).f9) == ((rd_T38 l0 x8_3).f9)) || (!(((rd_T38 t194 x8_3).f10) == ((rd_T38 l0 x8_3).f10)) || (!(((rd_T38 t194 x8_3).f11) == ((rd_T38 l0 x8_3).f11)))))))))))))) = true := c34
             clear c34
             exact absurd ((Option.some.inj H).trans HRT.out) (by decide)
            ·rw [if_neg c34] at H
             have c34b0 : (!(((rd_T38 t194 x8_3).f0) == ((rd_T38 l0 x8_3).f0)) || (!(((rd_T38 t194 x8_3).f1) == ((rd_T38 l0 x8_3).f1)) || (!(((rd_T38 t194 x8_3).f2) == ((rd_T38 l0 x8_3).f2)) || (!(((rd_T38 t194 x8_3).f3) == ((rd_T38 l0 x8_3).f3)) || (!(((rd_T38 t194 x8_3).f4) == ((rd_T38 l0 x8_3).f4)) || (!(((rd_T38 t194 x8_3).f5) == ((rd_T38 l0 x8_3).f5)) || (!(((rd_T38 t194 x8_3).f6) == ((rd_T38 l0 x8_3).f6)) || (!(((rd_T38 t194 x8_3).f7) == ((rd_T38 l0 x8_3).f7)) || (!(((rd_T38 t194 x8_3).f8) == ((rd_T38 l0 x8_3).f8)) || (!(((rd_T38 t194 x8_3).f9) == ((rd_T38 l0 x8_3).f9)) || (!(((rd_T38 t194 x8_3).f10) == ((rd_T38 l0 x8_3).f10)) || (!(((rd_T38 t194 x8_3).f11) == ((rd_T38 l0 x8_3).f11)))))))))))))) = false := by simpa using c34
             clear c34
             by_cases c35 : ((rd_T38 t194 x8_3).f1) > a1
             ·rw [if_pos c35] at H
              have c35b0 : decide (a1 < ((rd_T38 t194 x8_3).f1)) = true := decide_eq_true c35
              clear c35
              exact absurd ((Option.some.inj H).trans HRT.out) (by decide)
             ·rw [if_neg c35] at H
              have c35b0 : decide (a1 < ((rd_T38 t194 x8_3).f1)) = false := decide_eq_false c35
              clear c35
              have H' := Aside0.mk H
              clear H
              obtain ⟨Ao36, co36, eo36⟩ := Kd.R_slice HO_6.out
              subst eo36
              have p204 : 0 ≤ (x8_3 : Int) := of_decide_eq_true (by first | (with_reducible assumption) | assumption)
              have q204 : x8_3 < (t194.length : Int) := of_decide_eq_true (by first | (with_reducible assumption) | assumption)
              obtain ⟨ad204, e204, hx204_0, hx204_1, hx204_2, hx204_3, hx204_4, hx204_5, hx204_6, hx204_7, hx204_8, hx204_9, hx204_10, hx204_11⟩ := at_T38 (Kd.R_reads' HO_6.out).2.2 x8_3 p204 q204
              cases e204
              replace p204 := eq_true p204
              replace q204 := eq_true q204
              have p205 : 0 ≤ (x8_3 : Int) := of_decide_eq_true (by first | (with_reducible assumption) | assumption)
              have q205 : x8_3 < (l0.length : Int) := of_decide_eq_true (by first | (with_reducible assumption) | assumption)
              obtain ⟨ad205, e205, hx205_0, hx205_1, hx205_2, hx205_3, hx205_4, hx205_5, hx205_6, hx205_7, hx205_8, hx205_9, hx205_10, hx205_11⟩ := at_T38 HR0.out x8_3 p205 q205
              cases e205
              replace hx205_0 := (HB.out.cell (World.block_lt_of_cell? w _ hx205_0)).trans hx205_0
              replace hx205_1 := (HB.out.cell (World.block_lt_of_cell? w _ hx205_1)).trans hx205_1
              replace hx205_2 := (HB.out.cell (World.block_lt_of_cell? w _ hx205_2)).trans hx205_2
              replace hx205_3 := (HB.out.cell (World.block_lt_of_cell? w _ hx205_3)).trans hx205_3
              replace hx205_4 := (HB.out.cell (World.block_lt_of_cell? w _ hx205_4)).trans hx205_4
              replace hx205_5 := (HB.out.cell (World.block_lt_of_cell? w _ hx205_5)).trans hx205_5
              replace hx205_6 := (HB.out.cell (World.block_lt_of_cell? w _ hx205_6)).trans hx205_6
              replace hx205_7 := (HB.out.cell (World.block_lt_of_cell? w _ hx205_7)).trans hx205_7
              replace hx205_8 := (HB.out.cell (World.block_lt_of_cell? w _ hx205_8)).trans hx205_8
              replace hx205_9 := (HB.out.cell (World.block_lt_of_cell? w _ hx205_9)).trans hx205_9
              replace hx205_10 := (HB.out.cell (World.block_lt_of_cell? w _ hx205_10)).trans hx205_10
              replace hx205_11 := (HB.out.cell (World.block_lt_of_cell? w _ hx205_11)).trans hx205_11
              replace p205 := eq_true p205
              replace q205 := eq_true q205
              have p206 : 0 ≤ (x8_3 : Int) := of_decide_eq_true (by first | (with_reducible assumption) | assumption)
              have q206 : x8_3 < (t194.length : Int) := of_decide_eq_true (by first | (with_reducible assumption) | assumption)
              obtain ⟨ad206, e206, hx206_0, hx206_1, hx206_2, hx206_3, hx206_4, hx206_5, hx206_6, hx206_7, hx206_8, hx206_9, hx206_10, hx206_11⟩ := at_T38 (Kd.R_reads' HO_6.out).2.2 x8_3 p206 q206
              obtain rfl : ad204 = ad206 := (by injection e206)
              replace p206 := eq_true p206
              replace q206 := eq_true q206
              go_wp2
              repeat (go_quiet (fail); try go_wp2)
              go_roundg k3
              case measure => have := HJ3.out; have := HJ15.out; have := HK3.out; omega
              case rel => exact ⟨(wrap64 (x8_3 + 1)), (by first | rfl | (simp; done) | (simp [*]; done)), H', ⟨by have := HJ3.out; have := HJ15.out; have := HK3.out; omega⟩, ⟨by (with_reducible repeat (first | apply Kd.R_alloc | apply Kd.R_drewN | apply Kd.R_drew)); exact HO_5.out⟩, ⟨by (with_reducible repeat (first | apply Kd.R_alloc | apply Kd.R_drewN | apply Kd.R_drew)); exact HO_6.out⟩, ⟨by repeat (first | (with_reducible first | exact HB.out | apply below_alloc | apply pw_below_drewN | apply below_drew1) | exact HB.out | exact Below.refl _ _)⟩⟩
           ·rw [if_neg c33] at H
            exact absurd H (by simp)
          ·rw [if_neg c32] at H
           exact absurd H (by simp)
         ·rw [if_neg c31] at H
          have c31b0 : decide (x8_3 < (t194.length : Int)) = false := decide_eq_false c31
          clear c31
          have H' := Aside0.mk H
          clear H
          obtain ⟨Ao37, co37, eo37⟩ := Kd.R_slice HO_6.out
          subst eo37
          go_wp2
          repeat (go_quiet (fail); try go_wp2)
          go_loopg [9] k3 (fun kq v9 w' => ∃ (x9_4 : Int), v9 = .int .i64 x9_4 ∧ Aside0 (tidewaylaw10_BoardWhole.l1 kq l0 a1 t193 t194 x9_4 = some r) ∧ Aside0 (kq ≤ k3) ∧ Aside0 (Kd.R k38 38 w' w.heap.size (fun k_ => some k_ ≠ ((.slice Ao37 t194.length co37) : Value).ownBlock) v196 t193) ∧ Aside0 (Kd.R k38 38 w' w.heap.size (fun k_ => some k_ ≠ (v196 : Value).ownBlock) (.slice Ao37 t194.length co37) t194) ∧ Aside0 (Below w.heap.size w w'))
          case atStart => exact ⟨(0), (by first | rfl | (simp; done) | (simp [*]; done)), H', ⟨Nat.le_refl _⟩, ⟨by (with_reducible repeat (first | apply Kd.R_alloc | apply Kd.R_drewN | apply Kd.R_drew)); exact HO_5.out⟩, ⟨by (with_reducible repeat (first | apply Kd.R_alloc | apply Kd.R_drewN | apply Kd.R_drew)); exact HO_6.out⟩, ⟨by repeat (first | (with_reducible first | exact HB.out | apply below_alloc | apply pw_below_drewN | apply below_drew1) | exact HB.out | exact Below.refl _ _)⟩⟩
          case round =>
           clear H'
           try clear c1
           try clear p2
           try clear q2
           try clear hx2
           try clear c3
           try clear c4
           try clear p6
           try clear c7
           try clear c7b0
           try clear c7b1
           try clear c10
           try clear c11
           try clear c11b0
           try clear c11b1
           try clear c17
           try clear c17b0
           try clear c17b1
           try clear c19
           try clear c19b0
           try clear c19b1
           try clear p20
           try clear q20
           try clear hx20
           try clear c30
           try clear c31
           try clear c31b0
           try clear c32
           try clear c32b0
           try clear c33
           try clear c33b0
           try clear c34
           try clear c34b0
           try clear c35
           try clear c35b0
           try clear hx204_0
           try clear hx204_1
           try clear hx204_10
           try clear hx204_11
           try clear hx204_2
           try clear hx204_3
           try clear hx204_4
           try clear hx204_5
           try clear hx204_6
           try clear hx204_7
           try clear hx204_8
           try clear hx204_9
           try clear hx205_0
           try clear hx205_1
           try clear hx205_10
           try clear hx205_11
           try clear hx205_2
           try clear hx205_3
           try clear hx205_4
           try clear hx205_5
           try clear hx205_6
           try clear hx205_7
           try clear hx205_8
           try clear hx205_9
           try clear hx206_0
           try clear hx206_1
           try clear hx206_10
           try clear hx206_11
           try clear hx206_2
           try clear hx206_3
           try clear hx206_4
           try clear hx206_5
           try clear hx206_6
           try clear hx206_7
           try clear hx206_8
           try clear hx206_9
           try clear p2
           try clear p204
           try clear p205
           try clear p206
           try clear p6
           try clear q204
           try clear q205
           try clear q206
           obtain ⟨x9_4, rfl, HA, HK4, HO_5, HO_6, HB⟩ := hrel
           cases gk with
           | zero => exact absurd HA.out (by simp [tidewaylaw10_BoardWhole.l1])
           | succ k4 =>
            have H := HA.out
            clear HA
            simp only [tidewaylaw10_BoardWhole.l1] at H
            by_cases c38 : x9_4 < (t193.length : Int)
            ·rw [if_pos c38] at H
             have c38b0 : decide (x9_4 < (t193.length : Int)) = true := decide_eq_true c38
             clear c38
             obtain ⟨ji39, hji39⟩ : ∃ j_ : Int, (wrap64 ((t194.length : Int) + x9_4)) = j_ := ⟨_, rfl⟩
             replace H : (if 0 ≤ (ji39) then (if (ji39) < (l0.length : Int) then (if 0 ≤ x9_4 then (if ((rd_T38 t193 x9_4).f1) = ((rd_T38 l0 (ji39)).f1) then (if ((rd_T38 t193 x9_4).f0) = (mx ((rd_T38 l0 (ji39)).f0) a1) then (tidewaylaw10_BoardWhole.j4 k4 l0 a1 t193 t194 x9_4 (decide (((rd_T38 t193 x9_4).f1) ≤ a1))) else (tidewaylaw10_BoardWhole.j4 k4 l0 a1 t193 t194 x9_4 true)) else (tidewaylaw10_BoardWhole.j4 k4 l0 a1 t193 t194 x9_4 true)) else (none)) else (none)) else (none)) = some r := by first | (rw [hji39] at H; exact H) | (simp only [hji39] at H ⊢; exact H)
             have hji39w : (IntKind.i64.wrap ((t194.length : Int) + x9_4)) = ji39 := (i64_w _).trans hji39
             by_cases c40 : 0 ≤ (ji39)
             ·rw [if_pos c40] at H
              have c40b0 : decide (0 ≤ (ji39)) = true := decide_eq_true c40
              clear c40
              by_cases c41 : (ji39) < (l0.length : Int)
              ·rw [if_pos c41] at H
               have c41b0 : decide ((ji39) < (l0.length : Int)) = true := decide_eq_true c41
               clear c41
               have HC42 := Aside0.mk H
               clear H
               obtain ⟨Ao43, co43, eo43⟩ := Kd.R_slice HO_5.out
               subst eo43
               have p208 : 0 ≤ ((ji39) : Int) := of_decide_eq_true (by first | (with_reducible assumption) | assumption)
               have q208 : (ji39) < (l0.length : Int) := of_decide_eq_true (by first | (with_reducible assumption) | assumption)
               obtain ⟨ad208, e208, hx208_0, hx208_1, hx208_2, hx208_3, hx208_4, hx208_5, hx208_6, hx208_7, hx208_8, hx208_9, hx208_10, hx208_11⟩ := at_T38 HR0.out (ji39) p208 q208
               cases e208
               replace hx208_0 := (HB.out.cell (World.block_lt_of_cell? w _ hx208_0)).trans hx208_0
               replace hx208_1 := (HB.out.cell (World.block_lt_of_cell? w _ hx208_1)).trans hx208_1
               replace hx208_2 := (HB.out.cell (World.block_lt_of_cell? w _ hx208_2)).trans hx208_2
               replace hx208_3 := (HB.out.cell (World.block_lt_of_cell? w _ hx208_3)).trans hx208_3
               replace hx208_4 := (HB.out.cell (World.block_lt_of_cell? w _ hx208_4)).trans hx208_4
               replace hx208_5 := (HB.out.cell (World.block_lt_of_cell? w _ hx208_5)).trans hx208_5
               replace hx208_6 := (HB.out.cell (World.block_lt_of_cell? w _ hx208_6)).trans hx208_6
               replace hx208_7 := (HB.out.cell (World.block_lt_of_cell? w _ hx208_7)).trans hx208_7
               replace hx208_8 := (HB.out.cell (World.block_lt_of_cell? w _ hx208_8)).trans hx208_8
               replace hx208_9 := (HB.out.cell (World.block_lt_of_cell? w _ hx208_9)).trans hx208_9
               replace hx208_10 := (HB.out.cell (World.block_lt_of_cell? w _ hx208_10)).trans hx208_10
               replace hx208_11 := (HB.out.cell (World.block_lt_of_cell? w _ hx208_11)).trans hx208_11
               replace p208 := eq_true p208
               replace q208 := eq_true q208
               go_upto_region 15 with (first | ((with_reducible refine gate_dst (N := 10) rfl ?_); (try (refine gate_guard (by rfl) ?_; dsimp only)); refine box_event ?hg (N := 10) ?hd (cs := #[.int .i64 0, .int .i64 0, .bool false, .int .i64 0, .int .i64 0, .bool false, .bool false, .bool false, .int .i64 0, .int .i64 0, .int .i64 0, .bool false]) (t := 38) ?hr ?_; (case hd => rfl); (case hg => rfl); (case hr => first | (go_simp; done) | (go_simp; rfl)); intro gb209 hg w44 hbox hb; have n0_ := Aside0.mk (Kd.R_below (Kd.R_elderB (by (with_reducible repeat (first | apply Kd.R_alloc | apply Kd.R_drewN | apply Kd.R_drew)); exact HO_5.out) gb209 (Nat.le_of_eq hg.symm)) hb); have n1_ := Aside0.mk (Kd.R_below (Kd.R_elderB (by (with_reducible repeat (first | apply Kd.R_alloc | apply Kd.R_drewN | apply Kd.R_drew)); exact HO_6.out) gb209 (Nat.le_of_eq hg.symm)) hb); have n2_ := Aside0.mk (below_step (by repeat (first | (with_reducible first | exact HB.out | apply below_alloc | apply pw_below_drewN | apply below_drew1) | exact HB.out | exact Below.refl _ _)) hb); have n3_ := Aside0.mk (hbox); have n4_ := Aside0.mk ((by rw [hg]; exact (below_size (by repeat (first | (with_reducible first | exact HB.out | apply below_alloc | apply pw_below_drewN | apply below_drew1) | exact HB.out | exact Below.refl _ _))) : w.heap.size ≤ gb209)); have n5_ := Aside0.mk ((by rw [hg]; exact (below_size (by repeat (first | (with_reducible first | exact HB.out | apply below_alloc | apply pw_below_drewN | apply below_drew1) | exact HB.out | exact Below.refl _ _))) : w.heap.size ≤ gb209)); clear HO_5; clear HO_6; clear HB; have HO_5 := n0_; have HO_6 := n1_; have HB := n2_; have BK209 := n3_; have GW209 := n4_; have GE209 := n5_; clear n0_ n1_ n2_ n3_ n4_ n5_; clear hb hbox hg; have hcz45_0 : w44.cell? ⟨gb209, 0, none⟩ = some (.int .i64 0) := (blk_cell BK209.out 0).trans rfl; have hcz45_1 : w44.cell? ⟨gb209, 1, none⟩ = some (.int .i64 0) := (blk_cell BK209.out 1).trans rfl; have hcz45_2 : w44.cell? ⟨gb209, 2, none⟩ = some (.bool false) := (blk_cell BK209.out 2).trans rfl; have hcz45_3 : w44.cell? ⟨gb209, 3, none⟩ = some (.int .i64 0) := (blk_cell BK209.out 3).trans rfl; have hcz45_4 : w44.cell? ⟨gb209, 4, none⟩ = some (.int .i64 0) := (blk_cell BK209.out 4).trans rfl; have hcz45_5 : w44.cell? ⟨gb209, 5, none⟩ = some (.bool false) := (blk_cell BK209.out 5).trans rfl; have hcz45_6 : w44.cell? ⟨gb209, 6, none⟩ = some (.bool false) := (blk_cell BK209.out 6).trans rfl; have hcz45_7 : w44.cell? ⟨gb209, 7, none⟩ = some (.bool false) := (blk_cell BK209.out 7).trans rfl; have hcz45_8 : w44.cell? ⟨gb209, 8, none⟩ = some (.int .i64 0) := (blk_cell BK209.out 8).trans rfl; have hcz45_9 : w44.cell? ⟨gb209, 9, none⟩ = some (.int .i64 0) := (blk_cell BK209.out 9).trans rfl; have hcz45_10 : w44.cell? ⟨gb209, 10, none⟩ = some (.int .i64 0) := (blk_cell BK209.out 10).trans rfl; have hcz45_11 : w44.cell? ⟨gb209, 11, none⟩ = some (.bool false) := (blk_cell BK209.out 11).trans rfl; have hfz45_0 := blk_frozen BK209.out 0; have hfz45_1 := blk_frozen BK209.out 1; have hfz45_2 := blk_frozen BK209.out 2; have hfz45_3 := blk_frozen BK209.out 3; have hfz45_4 := blk_frozen BK209.out 4; have hfz45_5 := blk_frozen BK209.out 5; have hfz45_6 := blk_frozen BK209.out 6; have hfz45_7 := blk_frozen BK209.out 7; have hfz45_8 := blk_frozen BK209.out 8; have hfz45_9 := blk_frozen BK209.out 9; have hfz45_10 := blk_frozen BK209.out 10; have hfz45_11 := blk_frozen BK209.out 11))
               repeat (go_quiet (first | ((with_reducible refine gate_dst (N := 10) rfl ?_); (try (refine gate_guard (by rfl) ?_; dsimp only)); refine box_event ?hg (N := 10) ?hd (cs := #[.int .i64 0, .int .i64 0, .bool false, .int .i64 0, .int .i64 0, .bool false, .bool false, .bool false, .int .i64 0, .int .i64 0, .int .i64 0, .bool false]) (t := 38) ?hr ?_; (case hd => rfl); (case hg => rfl); (case hr => first | (go_simp; done) | (go_simp; rfl)); intro gb209 hg w44 hbox hb; have n0_ := Aside0.mk (Kd.R_below (Kd.R_elderB (by (with_reducible repeat (first | apply Kd.R_alloc | apply Kd.R_drewN | apply Kd.R_drew)); exact HO_5.out) gb209 (Nat.le_of_eq hg.symm)) hb); have n1_ := Aside0.mk (Kd.R_below (Kd.R_elderB (by (with_reducible repeat (first | apply Kd.R_alloc | apply Kd.R_drewN | apply Kd.R_drew)); exact HO_6.out) gb209 (Nat.le_of_eq hg.symm)) hb); have n2_ := Aside0.mk (below_step (by repeat (first | (with_reducible first | exact HB.out | apply below_alloc | apply pw_below_drewN | apply below_drew1) | exact HB.out | exact Below.refl _ _)) hb); have n3_ := Aside0.mk (hbox); have n4_ := Aside0.mk ((by rw [hg]; exact (below_size (by repeat (first | (with_reducible first | exact HB.out | apply below_alloc | apply pw_below_drewN | apply below_drew1) | exact HB.out | exact Below.refl _ _))) : w.heap.size ≤ gb209)); have n5_ := Aside0.mk ((by rw [hg]; exact (below_size (by repeat (first | (with_reducible first | exact HB.out | apply below_alloc | apply pw_below_drewN | apply below_drew1) | exact HB.out | exact Below.refl _ _))) : w.heap.size ≤ gb209)); clear HO_5; clear HO_6; clear HB; have HO_5 := n0_; have HO_6 := n1_; have HB := n2_; have BK209 := n3_; have GW209 := n4_; have GE209 := n5_; clear n0_ n1_ n2_ n3_ n4_ n5_; clear hb hbox hg; have hcz45_0 : w44.cell? ⟨gb209, 0, none⟩ = some (.int .i64 0) := (blk_cell BK209.out 0).trans rfl; have hcz45_1 : w44.cell? ⟨gb209, 1, none⟩ = some (.int .i64 0) := (blk_cell BK209.out 1).trans rfl; have hcz45_2 : w44.cell? ⟨gb209, 2, none⟩ = some (.bool false) := (blk_cell BK209.out 2).trans rfl; have hcz45_3 : w44.cell? ⟨gb209, 3, none⟩ = some (.int .i64 0) := (blk_cell BK209.out 3).trans rfl; have hcz45_4 : w44.cell? ⟨gb209, 4, none⟩ = some (.int .i64 0) := (blk_cell BK209.out 4).trans rfl; have hcz45_5 : w44.cell? ⟨gb209, 5, none⟩ = some (.bool false) := (blk_cell BK209.out 5).trans rfl; have hcz45_6 : w44.cell? ⟨gb209, 6, none⟩ = some (.bool false) := (blk_cell BK209.out 6).trans rfl; have hcz45_7 : w44.cell? ⟨gb209, 7, none⟩ = some (.bool false) := (blk_cell BK209.out 7).trans rfl; have hcz45_8 : w44.cell? ⟨gb209, 8, none⟩ = some (.int .i64 0) := (blk_cell BK209.out 8).trans rfl; have hcz45_9 : w44.cell? ⟨gb209, 9, none⟩ = some (.int .i64 0) := (blk_cell BK209.out 9).trans rfl; have hcz45_10 : w44.cell? ⟨gb209, 10, none⟩ = some (.int .i64 0) := (blk_cell BK209.out 10).trans rfl; have hcz45_11 : w44.cell? ⟨gb209, 11, none⟩ = some (.bool false) := (blk_cell BK209.out 11).trans rfl; have hfz45_0 := blk_frozen BK209.out 0; have hfz45_1 := blk_frozen BK209.out 1; have hfz45_2 := blk_frozen BK209.out 2; have hfz45_3 := blk_frozen BK209.out 3; have hfz45_4 := blk_frozen BK209.out 4; have hfz45_5 := blk_frozen BK209.out 5; have hfz45_6 := blk_frozen BK209.out 6; have hfz45_7 := blk_frozen BK209.out 7; have hfz45_8 := blk_frozen BK209.out 8; have hfz45_9 := blk_frozen BK209.out 9; have hfz45_10 := blk_frozen BK209.out 10; have hfz45_11 := blk_frozen BK209.out 11)); go_upto_region 15 with (first | ((with_reducible refine gate_dst (N := 10) rfl ?_); (try (refine gate_guard (by rfl) ?_; dsimp only)); refine box_event ?hg (N := 10) ?hd (cs := #[.int .i64 0, .int .i64 0, .bool false, .int .i64 0, .int .i64 0, .bool false, .bool false, .bool false, .int .i64 0, .int .i64 0, .int .i64 0, .bool false]) (t := 38) ?hr ?_; (case hd => rfl); (case hg => rfl); (case hr => first | (go_simp; done) | (go_simp; rfl)); intro gb209 hg w44 hbox hb; have n0_ := Aside0.mk (Kd.R_below (Kd.R_elderB (by (with_reducible repeat (first | apply Kd.R_alloc | apply Kd.R_drewN | apply Kd.R_drew)); exact HO_5.out) gb209 (Nat.le_of_eq hg.symm)) hb); have n1_ := Aside0.mk (Kd.R_below (Kd.R_elderB (by (with_reducible repeat (first | apply Kd.R_alloc | apply Kd.R_drewN | apply Kd.R_drew)); exact HO_6.out) gb209 (Nat.le_of_eq hg.symm)) hb); have n2_ := Aside0.mk (below_step (by repeat (first | (with_reducible first | exact HB.out | apply below_alloc | apply pw_below_drewN | apply below_drew1) | exact HB.out | exact Below.refl _ _)) hb); have n3_ := Aside0.mk (hbox); have n4_ := Aside0.mk ((by rw [hg]; exact (below_size (by repeat (first | (with_reducible first | exact HB.out | apply below_alloc | apply pw_below_drewN | apply below_drew1) | exact HB.out | exact Below.refl _ _))) : w.heap.size ≤ gb209)); have n5_ := Aside0.mk ((by rw [hg]; exact (below_size (by repeat (first | (with_reducible first | exact HB.out | apply below_alloc | apply pw_below_drewN | apply below_drew1) | exact HB.out | exact Below.refl _ _))) : w.heap.size ≤ gb209)); clear HO_5; clear HO_6; clear HB; have HO_5 := n0_; have HO_6 := n1_; have HB := n2_; have BK209 := n3_; have GW209 := n4_; have GE209 := n5_; clear n0_ n1_ n2_ n3_ n4_ n5_; clear hb hbox hg; have hcz45_0 : w44.cell? ⟨gb209, 0, none⟩ = some (.int .i64 0) := (blk_cell BK209.out 0).trans rfl; have hcz45_1 : w44.cell? ⟨gb209, 1, none⟩ = some (.int .i64 0) := (blk_cell BK209.out 1).trans rfl; have hcz45_2 : w44.cell? ⟨gb209, 2, none⟩ = some (.bool false) := (blk_cell BK209.out 2).trans rfl; have hcz45_3 : w44.cell? ⟨gb209, 3, none⟩ = some (.int .i64 0) := (blk_cell BK209.out 3).trans rfl; have hcz45_4 : w44.cell? ⟨gb209, 4, none⟩ = some (.int .i64 0) := (blk_cell BK209.out 4).trans rfl; have hcz45_5 : w44.cell? ⟨gb209, 5, none⟩ = some (.bool false) := (blk_cell BK209.out 5).trans rfl; have hcz45_6 : w44.cell? ⟨gb209, 6, none⟩ = some (.bool false) := (blk_cell BK209.out 6).trans rfl; have hcz45_7 : w44.cell? ⟨gb209, 7, none⟩ = some (.bool false) := (blk_cell BK209.out 7).trans rfl; have hcz45_8 : w44.cell? ⟨gb209, 8, none⟩ = some (.int .i64 0) := (blk_cell BK209.out 8).trans rfl; have hcz45_9 : w44.cell? ⟨gb209, 9, none⟩ = some (.int .i64 0) := (blk_cell BK209.out 9).trans rfl; have hcz45_10 : w44.cell? ⟨gb209, 10, none⟩ = some (.int .i64 0) := (blk_cell BK209.out 10).trans rfl; have hcz45_11 : w44.cell? ⟨gb209, 11, none⟩ = some (.bool false) := (blk_cell BK209.out 11).trans rfl; have hfz45_0 := blk_frozen BK209.out 0; have hfz45_1 := blk_frozen BK209.out 1; have hfz45_2 := blk_frozen BK209.out 2; have hfz45_3 := blk_frozen BK209.out 3; have hfz45_4 := blk_frozen BK209.out 4; have hfz45_5 := blk_frozen BK209.out 5; have hfz45_6 := blk_frozen BK209.out 6; have hfz45_7 := blk_frozen BK209.out 7; have hfz45_8 := blk_frozen BK209.out 8; have hfz45_9 := blk_frozen BK209.out 9; have hfz45_10 := blk_frozen BK209.out 10; have hfz45_11 := blk_frozen BK209.out 11)))
               (try simp only [Act.put, List.setIfInBounds_toArray, List.set_cons_zero, List.set_cons_succ])
               go_cut [117] (fun v117 wc => ∃ (kq : Nat) (x117_41 : Bool), v117 = .bool x117_41 ∧ Aside0 (tidewaylaw10_BoardWhole.j4 kq l0 a1 t193 t194 x9_4 x117_41 = some r) ∧ Aside0 (kq ≤ k4) ∧ Aside0 (Kd.R k38 38 wc w.heap.size (fun k_ => some k_ ≠ ((.slice Ao37 t194.length co37) : Value).ownBlock ∧ k_ ≠ gb209) (.slice Ao43 t193.length co43) t193) ∧ Aside0 (Kd.R k38 38 wc w.heap.size (fun k_ => some k_ ≠ ((.slice Ao43 t193.length co43) : Value).ownBlock ∧ k_ ≠ gb209) (.slice Ao37 t194.length co37) t194) ∧ Aside0 (wc.heap[gb209]? = some (.cells #[.int .i64 ((rd_T38 l0 (ji39)).f0), .int .i64 ((rd_T38 l0 (ji39)).f1), .bool ((rd_T38 l0 (ji39)).f2), .int .i64 ((rd_T38 l0 (ji39)).f3), .int .i64 ((rd_T38 l0 (ji39)).f4), .bool ((rd_T38 l0 (ji39)).f5), .bool ((rd_T38 l0 (ji39)).f6), .bool ((rd_T38 l0 (ji39)).f7), .int .i64 ((rd_T38 l0 (ji39)).f8), .int .i64 ((rd_T38 l0 (ji39)).f9), .int .i64 ((rd_T38 l0 (ji39)).f10), .bool ((rd_T38 l0 (ji39)).f11)] 38 (0, 0))) ∧ Aside0 (Below w.heap.size w wc))
               case first =>
                have H := HC42.out
                clear HC42
                by_cases c46 : 0 ≤ x9_4
                ·rw [if_pos c46] at H
                 have c46b0 : decide (0 ≤ x9_4) = true := decide_eq_true c46
                 clear c46
                 (first | rw [c46b0] | (simp only [i64_w, i32_w]; rw [c46b0]) | skip)
                 by_cases c47 : ((rd_T38 t193 x9_4).f1) = ((rd_T38 l0 (ji39)).f1)
                 ·rw [if_pos c47] at H
                  have c47b0 : (((rd_T38 t193 x9_4).f1) == ((rd_T38 l0 (ji39)).f1)) = true := beq_iff_eq.mpr c47
                  have c47b1 : (((rd_T38 t193 x9_4).f1) != ((rd_T38 l0 (ji39)).f1)) = false := bne_eq_false_iff_eq.mpr c47
                  clear c47
                  obtain ⟨ji48, hji48⟩ : ∃ j_ : Int, (mx ((rd_T38 l0 (ji39)).f0) a1) = j_ := ⟨_, rfl⟩
                  replace H : (if ((rd_T38 t193 x9_4).f0) = (ji48) then (tidewaylaw10_BoardWhole.j4 k4 l0 a1 t193 t194 x9_4 (decide (((rd_T38 t193 x9_4).f1) ≤ a1))) else (tidewaylaw10_BoardWhole.j4 k4 l0 a1 t193 t194 x9_4 true)) = some r := by first | (rw [hji48] at H; exact H) | (simp only [hji48] at H ⊢; exact H)
                  have hji48_ : (if ((rd_T38 l0 (ji39)).f0) < a1 then a1 else ((rd_T38 l0 (ji39)).f0)) = ji48 := hji48
                  by_cases c49 : ((rd_T38 t193 x9_4).f0) = (ji48)
                  ·rw [if_pos c49] at H
                   have c49b0 : (((rd_T38 t193 x9_4).f0) == (ji48)) = true := beq_iff_eq.mpr c49
                   have c49b1 : (((rd_T38 t193 x9_4).f0) != (ji48)) = false := bne_eq_false_iff_eq.mpr c49
                   clear c49
                   have H' := Aside0.mk H
                   clear H
                   have p210 : 0 ≤ (x9_4 : Int) := of_decide_eq_true (by first | (with_reducible assumption) | assumption)
                   have q210 : x9_4 < (t193.length : Int) := of_decide_eq_true (by first | (with_reducible assumption) | assumption)
                   obtain ⟨ad210, e210, hx210_0, hx210_1, hx210_2, hx210_3, hx210_4, hx210_5, hx210_6, hx210_7, hx210_8, hx210_9, hx210_10, hx210_11⟩ := at_T38 (Kd.R_reads' HO_5.out).2.2 x9_4 p210 q210
                   cases e210
                   have hn210_0 : ad210.block ≠ gb209 := Kd.own_blk (by first | exact Kd.R_ne HO_5.out BK209.out (by decide) | exact Kd.R_away HO_5.out (fun _ hk => hk.1) | exact Kd.R_away HO_5.out (fun _ hk => hk.2))
                   have hn210_1 : ad210.block ≠ gb209 := Kd.own_blk (by first | exact Kd.R_ne HO_5.out BK209.out (by decide) | exact Kd.R_away HO_5.out (fun _ hk => hk.1) | exact Kd.R_away HO_5.out (fun _ hk => hk.2))
                   have hn210_2 : ad210.block ≠ gb209 := Kd.own_blk (by first | exact Kd.R_ne HO_5.out BK209.out (by decide) | exact Kd.R_away HO_5.out (fun _ hk => hk.1) | exact Kd.R_away HO_5.out (fun _ hk => hk.2))
                   have hn210_3 : ad210.block ≠ gb209 := Kd.own_blk (by first | exact Kd.R_ne HO_5.out BK209.out (by decide) | exact Kd.R_away HO_5.out (fun _ hk => hk.1) | exact Kd.R_away HO_5.out (fun _ hk => hk.2))
                   have hn210_4 : ad210.block ≠ gb209 := Kd.own_blk (by first | exact Kd.R_ne HO_5.out BK209.out (by decide) | exact Kd.R_away HO_5.out (fun _ hk => hk.1) | exact Kd.R_away HO_5.out (fun _ hk => hk.2))
                   have hn210_5 : ad210.block ≠ gb209 := Kd.own_blk (by first | exact Kd.R_ne HO_5.out BK209.out (by decide) | exact Kd.R_away HO_5.out (fun _ hk => hk.1) | exact Kd.R_away HO_5.out (fun _ hk => hk.2))
                   have hn210_6 : ad210.block ≠ gb209 := Kd.own_blk (by first | exact Kd.R_ne HO_5.out BK209.out (by decide) | exact Kd.R_away HO_5.out (fun _ hk => hk.1) | exact Kd.R_away HO_5.out (fun _ hk => hk.2))
                   have hn210_7 : ad210.block ≠ gb209 := Kd.own_blk (by first | exact Kd.R_ne HO_5.out BK209.out (by decide) | exact Kd.R_away HO_5.out (fun _ hk => hk.1) | exact Kd.R_away HO_5.out (fun _ hk => hk.2))
                   have hn210_8 : ad210.block ≠ gb209 := Kd.own_blk (by first | exact Kd.R_ne HO_5.out BK209.out (by decide) | exact Kd.R_away HO_5.out (fun _ hk => hk.1) | exact Kd.R_away HO_5.out (fun _ hk => hk.2))
                   have hn210_9 : ad210.block ≠ gb209 := Kd.own_blk (by first | exact Kd.R_ne HO_5.out BK209.out (by decide) | exact Kd.R_away HO_5.out (fun _ hk => hk.1) | exact Kd.R_away HO_5.out (fun _ hk => hk.2))
                   have hn210_10 : ad210.block ≠ gb209 := Kd.own_blk (by first | exact Kd.R_ne HO_5.out BK209.out (by decide) | exact Kd.R_away HO_5.out (fun _ hk => hk.1) | exact Kd.R_away HO_5.out (fun _ hk => hk.2))
                   have hn210_11 : ad210.block ≠ gb209 := Kd.own_blk (by first | exact Kd.R_ne HO_5.out BK209.out (by decide) | exact Kd.R_away HO_5.out (fun _ hk => hk.1) | exact Kd.R_away HO_5.out (fun _ hk => hk.2))
                   have hz_ := fun {W_ : World} {q_ : Addr} {x_ : Value} (hq_ : q_.block ≠ gb209) (h_ : W_.cell? q_ = some x_) => (cell_far (p := ⟨gb209, 11, none⟩) hq_ (.bool ((rd_T38 l0 (ji39)).f11))).trans ((cell_far (p := ⟨gb209, 10, none⟩) hq_ (.int .i64 ((rd_T38 l0 (ji39)).f10))).trans ((cell_far (p := ⟨gb209, 9, none⟩) hq_ (.int .i64 ((rd_T38 l0 (ji39)).f9))).trans ((cell_far (p := ⟨gb209, 8, none⟩) hq_ (.int .i64 ((rd_T38 l0 (ji39)).f8))).trans ((cell_far (p := ⟨gb209, 7, none⟩) hq_ (.bool ((rd_T38 l0 (ji39)).f7))).trans ((cell_far (p := ⟨gb209, 6, none⟩) hq_ (.bool ((rd_T38 l0 (ji39)).f6))).trans ((cell_far (p := ⟨gb209, 5, none⟩) hq_ (.bool ((rd_T38 l0 (ji39)).f5))).trans ((cell_far (p := ⟨gb209, 4, none⟩) hq_ (.int .i64 ((rd_T38 l0 (ji39)).f4))).trans ((cell_far (p := ⟨gb209, 3, none⟩) hq_ (.int .i64 ((rd_T38 l0 (ji39)).f3))).trans ((cell_far (p := ⟨gb209, 2, none⟩) hq_ (.bool ((rd_T38 l0 (ji39)).f2))).trans ((cell_far (p := ⟨gb209, 1, none⟩) hq_ (.int .i64 ((rd_T38 l0 (ji39)).f1))).trans ((cell_far (p := ⟨gb209, 0, none⟩) hq_ (.int .i64 ((rd_T38 l0 (ji39)).f0))).trans (h_))))))))))))
                   replace hx210_0 := hz_ (by first | (rw [add_block]; exact hn210_11) | (show (Addr.add _ _).block ≠ _; rw [add_block]; exact hn210_11) | exact hn210_11) hx210_0
                   replace hx210_1 := hz_ (by first | (rw [add_block]; exact hn210_11) | (show (Addr.add _ _).block ≠ _; rw [add_block]; exact hn210_11) | exact hn210_11) hx210_1
                   replace hx210_2 := hz_ (by first | (rw [add_block]; exact hn210_11) | (show (Addr.add _ _).block ≠ _; rw [add_block]; exact hn210_11) | exact hn210_11) hx210_2
                   replace hx210_3 := hz_ (by first | (rw [add_block]; exact hn210_11) | (show (Addr.add _ _).block ≠ _; rw [add_block]; exact hn210_11) | exact hn210_11) hx210_3
                   replace hx210_4 := hz_ (by first | (rw [add_block]; exact hn210_11) | (show (Addr.add _ _).block ≠ _; rw [add_block]; exact hn210_11) | exact hn210_11) hx210_4
                   replace hx210_5 := hz_ (by first | (rw [add_block]; exact hn210_11) | (show (Addr.add _ _).block ≠ _; rw [add_block]; exact hn210_11) | exact hn210_11) hx210_5
                   replace hx210_6 := hz_ (by first | (rw [add_block]; exact hn210_11) | (show (Addr.add _ _).block ≠ _; rw [add_block]; exact hn210_11) | exact hn210_11) hx210_6
                   replace hx210_7 := hz_ (by first | (rw [add_block]; exact hn210_11) | (show (Addr.add _ _).block ≠ _; rw [add_block]; exact hn210_11) | exact hn210_11) hx210_7
                   replace hx210_8 := hz_ (by first | (rw [add_block]; exact hn210_11) | (show (Addr.add _ _).block ≠ _; rw [add_block]; exact hn210_11) | exact hn210_11) hx210_8
                   replace hx210_9 := hz_ (by first | (rw [add_block]; exact hn210_11) | (show (Addr.add _ _).block ≠ _; rw [add_block]; exact hn210_11) | exact hn210_11) hx210_9
                   replace hx210_10 := hz_ (by first | (rw [add_block]; exact hn210_11) | (show (Addr.add _ _).block ≠ _; rw [add_block]; exact hn210_11) | exact hn210_11) hx210_10
                   replace hx210_11 := hz_ (by first | (rw [add_block]; exact hn210_11) | (show (Addr.add _ _).block ≠ _; rw [add_block]; exact hn210_11) | exact hn210_11) hx210_11
                   clear hz_
                   (try have hz_ := fun (n_ : Nat) (q_ : Addr) (x_ : Value) (h_ : (((((((((((((w44.setCell ⟨gb209, 0, none⟩ (.int .i64 ((rd_T38 l0 (ji39)).f0))).setCell ⟨gb209, 1, none⟩ (.int .i64 ((rd_T38 l0 (ji39)).f1))).setCell ⟨gb209, 2, none⟩ (.bool ((rd_T38 l0 (ji39)).f2))).setCell ⟨gb209, 3, none⟩ (.int .i64 ((rd_T38 l0 (ji39)).f3))).setCell ⟨gb209, 4, none⟩ (.int .i64 ((rd_T38 l0 (ji39)).f4))).setCell ⟨gb209, 5, none⟩ (.bool ((rd_T38 l0 (ji39)).f5))).setCell ⟨gb209, 6, none⟩ (.bool ((rd_T38 l0 (ji39)).f6))).setCell ⟨gb209, 7, none⟩ (.bool ((rd_T38 l0 (ji39)).f7))).setCell ⟨gb209, 8, none⟩ (.int .i64 ((rd_T38 l0 (ji39)).f8))).setCell ⟨gb209, 9, none⟩ (.int .i64 ((rd_T38 l0 (ji39)).f9))).setCell ⟨gb209, 10, none⟩ (.int .i64 ((rd_T38 l0 (ji39)).f10))).setCell ⟨gb209, 11, none⟩ (.bool ((rd_T38 l0 (ji39)).f11)))).cell? q_ = some x_) => (show ((((((((((((((w44.drewN n_).setCell ⟨gb209, 0, none⟩ (.int .i64 ((rd_T38 l0 (ji39)).f0))).setCell ⟨gb209, 1, none⟩ (.int .i64 ((rd_T38 l0 (ji39)).f1))).setCell ⟨gb209, 2, none⟩ (.bool ((rd_T38 l0 (ji39)).f2))).setCell ⟨gb209, 3, none⟩ (.int .i64 ((rd_T38 l0 (ji39)).f3))).setCell ⟨gb209, 4, none⟩ (.int .i64 ((rd_T38 l0 (ji39)).f4))).setCell ⟨gb209, 5, none⟩ (.bool ((rd_T38 l0 (ji39)).f5))).setCell ⟨gb209, 6, none⟩ (.bool ((rd_T38 l0 (ji39)).f6))).setCell ⟨gb209, 7, none⟩ (.bool ((rd_T38 l0 (ji39)).f7))).setCell ⟨gb209, 8, none⟩ (.int .i64 ((rd_T38 l0 (ji39)).f8))).setCell ⟨gb209, 9, none⟩ (.int .i64 ((rd_T38 l0 (ji39)).f9))).setCell ⟨gb209, 10, none⟩ (.int .i64 ((rd_T38 l0 (ji39)).f10))).setCell ⟨gb209, 11, none⟩ (.bool ((rd_T38 l0 (ji39)).f11)))).cell? q_ = some x_ from (dn4_0 (dn4_1 (dn4_1 (dn4_1 (dn4_1 (dn4_1 (dn4_1 (dn4_1 (dn4_1 (dn4_1 (dn4_1 (dn4_1 (dn4_1 (dn4_2 _ _) _ _) _ _) _ _) _ _) _ _) _ _) _ _) _ _) _ _) _ _) _ _) _ _) _).trans h_))
                   (try have hy210_0 := fun (n_ : Nat) => hz_ n_ _ _ hx210_0)
                   (try have hy210_1 := fun (n_ : Nat) => hz_ n_ _ _ hx210_1)
                   (try have hy210_2 := fun (n_ : Nat) => hz_ n_ _ _ hx210_2)
                   (try have hy210_3 := fun (n_ : Nat) => hz_ n_ _ _ hx210_3)
                   (try have hy210_4 := fun (n_ : Nat) => hz_ n_ _ _ hx210_4)
                   (try have hy210_5 := fun (n_ : Nat) => hz_ n_ _ _ hx210_5)
                   (try have hy210_6 := fun (n_ : Nat) => hz_ n_ _ _ hx210_6)
                   (try have hy210_7 := fun (n_ : Nat) => hz_ n_ _ _ hx210_7)
                   (try have hy210_8 := fun (n_ : Nat) => hz_ n_ _ _ hx210_8)
                   (try have hy210_9 := fun (n_ : Nat) => hz_ n_ _ _ hx210_9)
                   (try have hy210_10 := fun (n_ : Nat) => hz_ n_ _ _ hx210_10)
                   (try have hy210_11 := fun (n_ : Nat) => hz_ n_ _ _ hx210_11)
                   (try clear hz_)
                   clear hn210_0
                   clear hn210_1
                   clear hn210_2
                   clear hn210_3
                   clear hn210_4
                   clear hn210_5
                   clear hn210_6
                   clear hn210_7
                   clear hn210_8
                   clear hn210_9
                   clear hn210_10
                   clear hn210_11
                   replace p210 := eq_true p210
                   replace q210 := eq_true q210
                   have hcz50_0 : w44.cell? ⟨gb209, 0, none⟩ = some (.int .i64 0) := (blk_cell BK209.out 0).trans rfl
                   have hcz50_1 : w44.cell? ⟨gb209, 1, none⟩ = some (.int .i64 0) := (blk_cell BK209.out 1).trans rfl
                   have hcz50_2 : w44.cell? ⟨gb209, 2, none⟩ = some (.bool false) := (blk_cell BK209.out 2).trans rfl
                   have hcz50_3 : w44.cell? ⟨gb209, 3, none⟩ = some (.int .i64 0) := (blk_cell BK209.out 3).trans rfl
                   have hcz50_4 : w44.cell? ⟨gb209, 4, none⟩ = some (.int .i64 0) := (blk_cell BK209.out 4).trans rfl
                   have hcz50_5 : w44.cell? ⟨gb209, 5, none⟩ = some (.bool false) := (blk_cell BK209.out 5).trans rfl
                   have hcz50_6 : w44.cell? ⟨gb209, 6, none⟩ = some (.bool false) := (blk_cell BK209.out 6).trans rfl
                   have hcz50_7 : w44.cell? ⟨gb209, 7, none⟩ = some (.bool false) := (blk_cell BK209.out 7).trans rfl
                   have hcz50_8 : w44.cell? ⟨gb209, 8, none⟩ = some (.int .i64 0) := (blk_cell BK209.out 8).trans rfl
                   have hcz50_9 : w44.cell? ⟨gb209, 9, none⟩ = some (.int .i64 0) := (blk_cell BK209.out 9).trans rfl
                   have hcz50_10 : w44.cell? ⟨gb209, 10, none⟩ = some (.int .i64 0) := (blk_cell BK209.out 10).trans rfl
                   have hcz50_11 : w44.cell? ⟨gb209, 11, none⟩ = some (.bool false) := (blk_cell BK209.out 11).trans rfl
                   have hfz50_0 := blk_frozen BK209.out 0
                   have hfz50_1 := blk_frozen BK209.out 1
                   have hfz50_2 := blk_frozen BK209.out 2
                   have hfz50_3 := blk_frozen BK209.out 3
                   have hfz50_4 := blk_frozen BK209.out 4
                   have hfz50_5 := blk_frozen BK209.out 5
                   have hfz50_6 := blk_frozen BK209.out 6
                   have hfz50_7 := blk_frozen BK209.out 7
                   have hfz50_8 := blk_frozen BK209.out 8
                   have hfz50_9 := blk_frozen BK209.out 9
                   have hfz50_10 := blk_frozen BK209.out 10
                   have hfz50_11 := blk_frozen BK209.out 11
                   have p211 : 0 ≤ (x9_4 : Int) := of_decide_eq_true (by first | (with_reducible assumption) | assumption)
                   have q211 : x9_4 < (t193.length : Int) := of_decide_eq_true (by first | (with_reducible assumption) | assumption)
                   obtain ⟨ad211, e211, hx211_0, hx211_1, hx211_2, hx211_3, hx211_4, hx211_5, hx211_6, hx211_7, hx211_8, hx211_9, hx211_10, hx211_11⟩ := at_T38 (Kd.R_reads' HO_5.out).2.2 x9_4 p211 q211
                   obtain rfl : ad210 = ad211 := (by injection e211)
                   have hn211_0 : ad210.block ≠ gb209 := Kd.own_blk (by first | exact Kd.R_ne HO_5.out BK209.out (by decide) | exact Kd.R_away HO_5.out (fun _ hk => hk.1) | exact Kd.R_away HO_5.out (fun _ hk => hk.2))
                   have hn211_1 : ad210.block ≠ gb209 := Kd.own_blk (by first | exact Kd.R_ne HO_5.out BK209.out (by decide) | exact Kd.R_away HO_5.out (fun _ hk => hk.1) | exact Kd.R_away HO_5.out (fun _ hk => hk.2))
                   have hn211_2 : ad210.block ≠ gb209 := Kd.own_blk (by first | exact Kd.R_ne HO_5.out BK209.out (by decide) | exact Kd.R_away HO_5.out (fun _ hk => hk.1) | exact Kd.R_away HO_5.out (fun _ hk => hk.2))
                   have hn211_3 : ad210.block ≠ gb209 := Kd.own_blk (by first | exact Kd.R_ne HO_5.out BK209.out (by decide) | exact Kd.R_away HO_5.out (fun _ hk => hk.1) | exact Kd.R_away HO_5.out (fun _ hk => hk.2))
                   have hn211_4 : ad210.block ≠ gb209 := Kd.own_blk (by first | exact Kd.R_ne HO_5.out BK209.out (by decide) | exact Kd.R_away HO_5.out (fun _ hk => hk.1) | exact Kd.R_away HO_5.out (fun _ hk => hk.2))
                   have hn211_5 : ad210.block ≠ gb209 := Kd.own_blk (by first | exact Kd.R_ne HO_5.out BK209.out (by decide) | exact Kd.R_away HO_5.out (fun _ hk => hk.1) | exact Kd.R_away HO_5.out (fun _ hk => hk.2))
                   have hn211_6 : ad210.block ≠ gb209 := Kd.own_blk (by first | exact Kd.R_ne HO_5.out BK209.out (by decide) | exact Kd.R_away HO_5.out (fun _ hk => hk.1) | exact Kd.R_away HO_5.out (fun _ hk => hk.2))
                   have hn211_7 : ad210.block ≠ gb209 := Kd.own_blk (by first | exact Kd.R_ne HO_5.out BK209.out (by decide) | exact Kd.R_away HO_5.out (fun _ hk => hk.1) | exact Kd.R_away HO_5.out (fun _ hk => hk.2))
                   have hn211_8 : ad210.block ≠ gb209 := Kd.own_blk (by first | exact Kd.R_ne HO_5.out BK209.out (by decide) | exact Kd.R_away HO_5.out (fun _ hk => hk.1) | exact Kd.R_away HO_5.out (fun _ hk => hk.2))
                   have hn211_9 : ad210.block ≠ gb209 := Kd.own_blk (by first | exact Kd.R_ne HO_5.out BK209.out (by decide) | exact Kd.R_away HO_5.out (fun _ hk => hk.1) | exact Kd.R_away HO_5.out (fun _ hk => hk.2))
                   have hn211_10 : ad210.block ≠ gb209 := Kd.own_blk (by first | exact Kd.R_ne HO_5.out BK209.out (by decide) | exact Kd.R_away HO_5.out (fun _ hk => hk.1) | exact Kd.R_away HO_5.out (fun _ hk => hk.2))
                   have hn211_11 : ad210.block ≠ gb209 := Kd.own_blk (by first | exact Kd.R_ne HO_5.out BK209.out (by decide) | exact Kd.R_away HO_5.out (fun _ hk => hk.1) | exact Kd.R_away HO_5.out (fun _ hk => hk.2))
                   have hz_ := fun {W_ : World} {q_ : Addr} {x_ : Value} (hq_ : q_.block ≠ gb209) (h_ : W_.cell? q_ = some x_) => (cell_far (p := ⟨gb209, 11, none⟩) hq_ (.bool ((rd_T38 l0 (ji39)).f11))).trans ((cell_far (p := ⟨gb209, 10, none⟩) hq_ (.int .i64 ((rd_T38 l0 (ji39)).f10))).trans ((cell_far (p := ⟨gb209, 9, none⟩) hq_ (.int .i64 ((rd_T38 l0 (ji39)).f9))).trans ((cell_far (p := ⟨gb209, 8, none⟩) hq_ (.int .i64 ((rd_T38 l0 (ji39)).f8))).trans ((cell_far (p := ⟨gb209, 7, none⟩) hq_ (.bool ((rd_T38 l0 (ji39)).f7))).trans ((cell_far (p := ⟨gb209, 6, none⟩) hq_ (.bool ((rd_T38 l0 (ji39)).f6))).trans ((cell_far (p := ⟨gb209, 5, none⟩) hq_ (.bool ((rd_T38 l0 (ji39)).f5))).trans ((cell_far (p := ⟨gb209, 4, none⟩) hq_ (.int .i64 ((rd_T38 l0 (ji39)).f4))).trans ((cell_far (p := ⟨gb209, 3, none⟩) hq_ (.int .i64 ((rd_T38 l0 (ji39)).f3))).trans ((cell_far (p := ⟨gb209, 2, none⟩) hq_ (.bool ((rd_T38 l0 (ji39)).f2))).trans ((cell_far (p := ⟨gb209, 1, none⟩) hq_ (.int .i64 ((rd_T38 l0 (ji39)).f1))).trans ((cell_far (p := ⟨gb209, 0, none⟩) hq_ (.int .i64 ((rd_T38 l0 (ji39)).f0))).trans (h_))))))))))))
                   replace hx211_0 := hz_ (by first | (rw [add_block]; exact hn211_11) | (show (Addr.add _ _).block ≠ _; rw [add_block]; exact hn211_11) | exact hn211_11) hx211_0
                   replace hx211_1 := hz_ (by first | (rw [add_block]; exact hn211_11) | (show (Addr.add _ _).block ≠ _; rw [add_block]; exact hn211_11) | exact hn211_11) hx211_1
                   replace hx211_2 := hz_ (by first | (rw [add_block]; exact hn211_11) | (show (Addr.add _ _).block ≠ _; rw [add_block]; exact hn211_11) | exact hn211_11) hx211_2
                   replace hx211_3 := hz_ (by first | (rw [add_block]; exact hn211_11) | (show (Addr.add _ _).block ≠ _; rw [add_block]; exact hn211_11) | exact hn211_11) hx211_3
                   replace hx211_4 := hz_ (by first | (rw [add_block]; exact hn211_11) | (show (Addr.add _ _).block ≠ _; rw [add_block]; exact hn211_11) | exact hn211_11) hx211_4
                   replace hx211_5 := hz_ (by first | (rw [add_block]; exact hn211_11) | (show (Addr.add _ _).block ≠ _; rw [add_block]; exact hn211_11) | exact hn211_11) hx211_5
                   replace hx211_6 := hz_ (by first | (rw [add_block]; exact hn211_11) | (show (Addr.add _ _).block ≠ _; rw [add_block]; exact hn211_11) | exact hn211_11) hx211_6
                   replace hx211_7 := hz_ (by first | (rw [add_block]; exact hn211_11) | (show (Addr.add _ _).block ≠ _; rw [add_block]; exact hn211_11) | exact hn211_11) hx211_7
                   replace hx211_8 := hz_ (by first | (rw [add_block]; exact hn211_11) | (show (Addr.add _ _).block ≠ _; rw [add_block]; exact hn211_11) | exact hn211_11) hx211_8
                   replace hx211_9 := hz_ (by first | (rw [add_block]; exact hn211_11) | (show (Addr.add _ _).block ≠ _; rw [add_block]; exact hn211_11) | exact hn211_11) hx211_9
                   replace hx211_10 := hz_ (by first | (rw [add_block]; exact hn211_11) | (show (Addr.add _ _).block ≠ _; rw [add_block]; exact hn211_11) | exact hn211_11) hx211_10
                   replace hx211_11 := hz_ (by first | (rw [add_block]; exact hn211_11) | (show (Addr.add _ _).block ≠ _; rw [add_block]; exact hn211_11) | exact hn211_11) hx211_11
                   clear hz_
                   (try have hz_ := fun (n_ : Nat) (q_ : Addr) (x_ : Value) (h_ : (((((((((((((w44.setCell ⟨gb209, 0, none⟩ (.int .i64 ((rd_T38 l0 (ji39)).f0))).setCell ⟨gb209, 1, none⟩ (.int .i64 ((rd_T38 l0 (ji39)).f1))).setCell ⟨gb209, 2, none⟩ (.bool ((rd_T38 l0 (ji39)).f2))).setCell ⟨gb209, 3, none⟩ (.int .i64 ((rd_T38 l0 (ji39)).f3))).setCell ⟨gb209, 4, none⟩ (.int .i64 ((rd_T38 l0 (ji39)).f4))).setCell ⟨gb209, 5, none⟩ (.bool ((rd_T38 l0 (ji39)).f5))).setCell ⟨gb209, 6, none⟩ (.bool ((rd_T38 l0 (ji39)).f6))).setCell ⟨gb209, 7, none⟩ (.bool ((rd_T38 l0 (ji39)).f7))).setCell ⟨gb209, 8, none⟩ (.int .i64 ((rd_T38 l0 (ji39)).f8))).setCell ⟨gb209, 9, none⟩ (.int .i64 ((rd_T38 l0 (ji39)).f9))).setCell ⟨gb209, 10, none⟩ (.int .i64 ((rd_T38 l0 (ji39)).f10))).setCell ⟨gb209, 11, none⟩ (.bool ((rd_T38 l0 (ji39)).f11)))).cell? q_ = some x_) => (show ((((((((((((((w44.drewN n_).setCell ⟨gb209, 0, none⟩ (.int .i64 ((rd_T38 l0 (ji39)).f0))).setCell ⟨gb209, 1, none⟩ (.int .i64 ((rd_T38 l0 (ji39)).f1))).setCell ⟨gb209, 2, none⟩ (.bool ((rd_T38 l0 (ji39)).f2))).setCell ⟨gb209, 3, none⟩ (.int .i64 ((rd_T38 l0 (ji39)).f3))).setCell ⟨gb209, 4, none⟩ (.int .i64 ((rd_T38 l0 (ji39)).f4))).setCell ⟨gb209, 5, none⟩ (.bool ((rd_T38 l0 (ji39)).f5))).setCell ⟨gb209, 6, none⟩ (.bool ((rd_T38 l0 (ji39)).f6))).setCell ⟨gb209, 7, none⟩ (.bool ((rd_T38 l0 (ji39)).f7))).setCell ⟨gb209, 8, none⟩ (.int .i64 ((rd_T38 l0 (ji39)).f8))).setCell ⟨gb209, 9, none⟩ (.int .i64 ((rd_T38 l0 (ji39)).f9))).setCell ⟨gb209, 10, none⟩ (.int .i64 ((rd_T38 l0 (ji39)).f10))).setCell ⟨gb209, 11, none⟩ (.bool ((rd_T38 l0 (ji39)).f11)))).cell? q_ = some x_ from (dn4_0 (dn4_1 (dn4_1 (dn4_1 (dn4_1 (dn4_1 (dn4_1 (dn4_1 (dn4_1 (dn4_1 (dn4_1 (dn4_1 (dn4_1 (dn4_2 _ _) _ _) _ _) _ _) _ _) _ _) _ _) _ _) _ _) _ _) _ _) _ _) _ _) _).trans h_))
                   (try have hy211_0 := fun (n_ : Nat) => hz_ n_ _ _ hx211_0)
                   (try have hy211_1 := fun (n_ : Nat) => hz_ n_ _ _ hx211_1)
                   (try have hy211_2 := fun (n_ : Nat) => hz_ n_ _ _ hx211_2)
                   (try have hy211_3 := fun (n_ : Nat) => hz_ n_ _ _ hx211_3)
                   (try have hy211_4 := fun (n_ : Nat) => hz_ n_ _ _ hx211_4)
                   (try have hy211_5 := fun (n_ : Nat) => hz_ n_ _ _ hx211_5)
                   (try have hy211_6 := fun (n_ : Nat) => hz_ n_ _ _ hx211_6)
                   (try have hy211_7 := fun (n_ : Nat) => hz_ n_ _ _ hx211_7)
                   (try have hy211_8 := fun (n_ : Nat) => hz_ n_ _ _ hx211_8)
                   (try have hy211_9 := fun (n_ : Nat) => hz_ n_ _ _ hx211_9)
                   (try have hy211_10 := fun (n_ : Nat) => hz_ n_ _ _ hx211_10)
                   (try have hy211_11 := fun (n_ : Nat) => hz_ n_ _ _ hx211_11)
                   (try clear hz_)
                   clear hn211_0
                   clear hn211_1
                   clear hn211_2
                   clear hn211_3
                   clear hn211_4
                   clear hn211_5
                   clear hn211_6
                   clear hn211_7
                   clear hn211_8
                   clear hn211_9
                   clear hn211_10
                   clear hn211_11
                   replace p211 := eq_true p211
                   replace q211 := eq_true q211
                   have p212 : 0 ≤ (x9_4 : Int) := of_decide_eq_true (by first | (with_reducible assumption) | assumption)
                   have q212 : x9_4 < (t193.length : Int) := of_decide_eq_true (by first | (with_reducible assumption) | assumption)
                   obtain ⟨ad212, e212, hx212_0, hx212_1, hx212_2, hx212_3, hx212_4, hx212_5, hx212_6, hx212_7, hx212_8, hx212_9, hx212_10, hx212_11⟩ := at_T38 (Kd.R_reads' HO_5.out).2.2 x9_4 p212 q212
                   obtain rfl : ad210 = ad212 := (by injection e212)
                   have hn212_0 : ad210.block ≠ gb209 := Kd.own_blk (by first | exact Kd.R_ne HO_5.out BK209.out (by decide) | exact Kd.R_away HO_5.out (fun _ hk => hk.1) | exact Kd.R_away HO_5.out (fun _ hk => hk.2))
                   have hn212_1 : ad210.block ≠ gb209 := Kd.own_blk (by first | exact Kd.R_ne HO_5.out BK209.out (by decide) | exact Kd.R_away HO_5.out (fun _ hk => hk.1) | exact Kd.R_away HO_5.out (fun _ hk => hk.2))
                   have hn212_2 : ad210.block ≠ gb209 := Kd.own_blk (by first | exact Kd.R_ne HO_5.out BK209.out (by decide) | exact Kd.R_away HO_5.out (fun _ hk => hk.1) | exact Kd.R_away HO_5.out (fun _ hk => hk.2))
                   have hn212_3 : ad210.block ≠ gb209 := Kd.own_blk (by first | exact Kd.R_ne HO_5.out BK209.out (by decide) | exact Kd.R_away HO_5.out (fun _ hk => hk.1) | exact Kd.R_away HO_5.out (fun _ hk => hk.2))
                   have hn212_4 : ad210.block ≠ gb209 := Kd.own_blk (by first | exact Kd.R_ne HO_5.out BK209.out (by decide) | exact Kd.R_away HO_5.out (fun _ hk => hk.1) | exact Kd.R_away HO_5.out (fun _ hk => hk.2))
                   have hn212_5 : ad210.block ≠ gb209 := Kd.own_blk (by first | exact Kd.R_ne HO_5.out BK209.out (by decide) | exact Kd.R_away HO_5.out (fun _ hk => hk.1) | exact Kd.R_away HO_5.out (fun _ hk => hk.2))
                   have hn212_6 : ad210.block ≠ gb209 := Kd.own_blk (by first | exact Kd.R_ne HO_5.out BK209.out (by decide) | exact Kd.R_away HO_5.out (fun _ hk => hk.1) | exact Kd.R_away HO_5.out (fun _ hk => hk.2))
                   have hn212_7 : ad210.block ≠ gb209 := Kd.own_blk (by first | exact Kd.R_ne HO_5.out BK209.out (by decide) | exact Kd.R_away HO_5.out (fun _ hk => hk.1) | exact Kd.R_away HO_5.out (fun _ hk => hk.2))
                   have hn212_8 : ad210.block ≠ gb209 := Kd.own_blk (by first | exact Kd.R_ne HO_5.out BK209.out (by decide) | exact Kd.R_away HO_5.out (fun _ hk => hk.1) | exact Kd.R_away HO_5.out (fun _ hk => hk.2))
                   have hn212_9 : ad210.block ≠ gb209 := Kd.own_blk (by first | exact Kd.R_ne HO_5.out BK209.out (by decide) | exact Kd.R_away HO_5.out (fun _ hk => hk.1) | exact Kd.R_away HO_5.out (fun _ hk => hk.2))
                   have hn212_10 : ad210.block ≠ gb209 := Kd.own_blk (by first | exact Kd.R_ne HO_5.out BK209.out (by decide) | exact Kd.R_away HO_5.out (fun _ hk => hk.1) | exact Kd.R_away HO_5.out (fun _ hk => hk.2))
                   have hn212_11 : ad210.block ≠ gb209 := Kd.own_blk (by first | exact Kd.R_ne HO_5.out BK209.out (by decide) | exact Kd.R_away HO_5.out (fun _ hk => hk.1) | exact Kd.R_away HO_5.out (fun _ hk => hk.2))
                   have hz_ := fun {W_ : World} {q_ : Addr} {x_ : Value} (hq_ : q_.block ≠ gb209) (h_ : W_.cell? q_ = some x_) => (cell_far (p := ⟨gb209, 11, none⟩) hq_ (.bool ((rd_T38 l0 (ji39)).f11))).trans ((cell_far (p := ⟨gb209, 10, none⟩) hq_ (.int .i64 ((rd_T38 l0 (ji39)).f10))).trans ((cell_far (p := ⟨gb209, 9, none⟩) hq_ (.int .i64 ((rd_T38 l0 (ji39)).f9))).trans ((cell_far (p := ⟨gb209, 8, none⟩) hq_ (.int .i64 ((rd_T38 l0 (ji39)).f8))).trans ((cell_far (p := ⟨gb209, 7, none⟩) hq_ (.bool ((rd_T38 l0 (ji39)).f7))).trans ((cell_far (p := ⟨gb209, 6, none⟩) hq_ (.bool ((rd_T38 l0 (ji39)).f6))).trans ((cell_far (p := ⟨gb209, 5, none⟩) hq_ (.bool ((rd_T38 l0 (ji39)).f5))).trans ((cell_far (p := ⟨gb209, 4, none⟩) hq_ (.int .i64 ((rd_T38 l0 (ji39)).f4))).trans ((cell_far (p := ⟨gb209, 3, none⟩) hq_ (.int .i64 ((rd_T38 l0 (ji39)).f3))).trans ((cell_far (p := ⟨gb209, 2, none⟩) hq_ (.bool ((rd_T38 l0 (ji39)).f2))).trans ((cell_far (p := ⟨gb209, 1, none⟩) hq_ (.int .i64 ((rd_T38 l0 (ji39)).f1))).trans ((cell_far (p := ⟨gb209, 0, none⟩) hq_ (.int .i64 ((rd_T38 l0 (ji39)).f0))).trans (h_))))))))))))
                   replace hx212_0 := hz_ (by first | (rw [add_block]; exact hn212_11) | (show (Addr.add _ _).block ≠ _; rw [add_block]; exact hn212_11) | exact hn212_11) hx212_0
                   replace hx212_1 := hz_ (by first | (rw [add_block]; exact hn212_11) | (show (Addr.add _ _).block ≠ _; rw [add_block]; exact hn212_11) | exact hn212_11) hx212_1
                   replace hx212_2 := hz_ (by first | (rw [add_block]; exact hn212_11) | (show (Addr.add _ _).block ≠ _; rw [add_block]; exact hn212_11) | exact hn212_11) hx212_2
                   replace hx212_3 := hz_ (by first | (rw [add_block]; exact hn212_11) | (show (Addr.add _ _).block ≠ _; rw [add_block]; exact hn212_11) | exact hn212_11) hx212_3
                   replace hx212_4 := hz_ (by first | (rw [add_block]; exact hn212_11) | (show (Addr.add _ _).block ≠ _; rw [add_block]; exact hn212_11) | exact hn212_11) hx212_4
                   replace hx212_5 := hz_ (by first | (rw [add_block]; exact hn212_11) | (show (Addr.add _ _).block ≠ _; rw [add_block]; exact hn212_11) | exact hn212_11) hx212_5
                   replace hx212_6 := hz_ (by first | (rw [add_block]; exact hn212_11) | (show (Addr.add _ _).block ≠ _; rw [add_block]; exact hn212_11) | exact hn212_11) hx212_6
                   replace hx212_7 := hz_ (by first | (rw [add_block]; exact hn212_11) | (show (Addr.add _ _).block ≠ _; rw [add_block]; exact hn212_11) | exact hn212_11) hx212_7
                   replace hx212_8 := hz_ (by first | (rw [add_block]; exact hn212_11) | (show (Addr.add _ _).block ≠ _; rw [add_block]; exact hn212_11) | exact hn212_11) hx212_8
                   replace hx212_9 := hz_ (by first | (rw [add_block]; exact hn212_11) | (show (Addr.add _ _).block ≠ _; rw [add_block]; exact hn212_11) | exact hn212_11) hx212_9
                   replace hx212_10 := hz_ (by first | (rw [add_block]; exact hn212_11) | (show (Addr.add _ _).block ≠ _; rw [add_block]; exact hn212_11) | exact hn212_11) hx212_10
                   replace hx212_11 := hz_ (by first | (rw [add_block]; exact hn212_11) | (show (Addr.add _ _).block ≠ _; rw [add_block]; exact hn212_11) | exact hn212_11) hx212_11
                   clear hz_
                   (try have hz_ := fun (n_ : Nat) (q_ : Addr) (x_ : Value) (h_ : (((((((((((((w44.setCell ⟨gb209, 0, none⟩ (.int .i64 ((rd_T38 l0 (ji39)).f0))).setCell ⟨gb209, 1, none⟩ (.int .i64 ((rd_T38 l0 (ji39)).f1))).setCell ⟨gb209, 2, none⟩ (.bool ((rd_T38 l0 (ji39)).f2))).setCell ⟨gb209, 3, none⟩ (.int .i64 ((rd_T38 l0 (ji39)).f3))).setCell ⟨gb209, 4, none⟩ (.int .i64 ((rd_T38 l0 (ji39)).f4))).setCell ⟨gb209, 5, none⟩ (.bool ((rd_T38 l0 (ji39)).f5))).setCell ⟨gb209, 6, none⟩ (.bool ((rd_T38 l0 (ji39)).f6))).setCell ⟨gb209, 7, none⟩ (.bool ((rd_T38 l0 (ji39)).f7))).setCell ⟨gb209, 8, none⟩ (.int .i64 ((rd_T38 l0 (ji39)).f8))).setCell ⟨gb209, 9, none⟩ (.int .i64 ((rd_T38 l0 (ji39)).f9))).setCell ⟨gb209, 10, none⟩ (.int .i64 ((rd_T38 l0 (ji39)).f10))).setCell ⟨gb209, 11, none⟩ (.bool ((rd_T38 l0 (ji39)).f11)))).cell? q_ = some x_) => (show ((((((((((((((w44.drewN n_).setCell ⟨gb209, 0, none⟩ (.int .i64 ((rd_T38 l0 (ji39)).f0))).setCell ⟨gb209, 1, none⟩ (.int .i64 ((rd_T38 l0 (ji39)).f1))).setCell ⟨gb209, 2, none⟩ (.bool ((rd_T38 l0 (ji39)).f2))).setCell ⟨gb209, 3, none⟩ (.int .i64 ((rd_T38 l0 (ji39)).f3))).setCell ⟨gb209, 4, none⟩ (.int .i64 ((rd_T38 l0 (ji39)).f4))).setCell ⟨gb209, 5, none⟩ (.bool ((rd_T38 l0 (ji39)).f5))).setCell ⟨gb209, 6, none⟩ (.bool ((rd_T38 l0 (ji39)).f6))).setCell ⟨gb209, 7, none⟩ (.bool ((rd_T38 l0 (ji39)).f7))).setCell ⟨gb209, 8, none⟩ (.int .i64 ((rd_T38 l0 (ji39)).f8))).setCell ⟨gb209, 9, none⟩ (.int .i64 ((rd_T38 l0 (ji39)).f9))).setCell ⟨gb209, 10, none⟩ (.int .i64 ((rd_T38 l0 (ji39)).f10))).setCell ⟨gb209, 11, none⟩ (.bool ((rd_T38 l0 (ji39)).f11)))).cell? q_ = some x_ from (dn4_0 (dn4_1 (dn4_1 (dn4_1 (dn4_1 (dn4_1 (dn4_1 (dn4_1 (dn4_1 (dn4_1 (dn4_1 (dn4_1 (dn4_1 (dn4_2 _ _) _ _) _ _) _ _) _ _) _ _) _ _) _ _) _ _) _ _) _ _) _ _) _ _) _).trans h_))
                   (try have hy212_0 := fun (n_ : Nat) => hz_ n_ _ _ hx212_0)
                   (try have hy212_1 := fun (n_ : Nat) => hz_ n_ _ _ hx212_1)
                   (try have hy212_2 := fun (n_ : Nat) => hz_ n_ _ _ hx212_2)
                   (try have hy212_3 := fun (n_ : Nat) => hz_ n_ _ _ hx212_3)
                   (try have hy212_4 := fun (n_ : Nat) => hz_ n_ _ _ hx212_4)
                   (try have hy212_5 := fun (n_ : Nat) => hz_ n_ _ _ hx212_5)
                   (try have hy212_6 := fun (n_ : Nat) => hz_ n_ _ _ hx212_6)
                   (try have hy212_7 := fun (n_ : Nat) => hz_ n_ _ _ hx212_7)
                   (try have hy212_8 := fun (n_ : Nat) => hz_ n_ _ _ hx212_8)
                   (try have hy212_9 := fun (n_ : Nat) => hz_ n_ _ _ hx212_9)
                   (try have hy212_10 := fun (n_ : Nat) => hz_ n_ _ _ hx212_10)
                   (try have hy212_11 := fun (n_ : Nat) => hz_ n_ _ _ hx212_11)
                   (try clear hz_)
                   clear hn212_0
                   clear hn212_1
                   clear hn212_2
                   clear hn212_3
                   clear hn212_4
                   clear hn212_5
                   clear hn212_6
                   clear hn212_7
                   clear hn212_8
                   clear hn212_9
                   clear hn212_10
                   clear hn212_11
                   replace p212 := eq_true p212
                   replace q212 := eq_true q212
                   go_wp2
                   repeat (go_quiet (fail); try go_wp2)
                   go_meet
                   case rel => exact ⟨_, (decide (((rd_T38 t193 x9_4).f1) ≤ a1)), (by first | rfl | (simp; done) | (simp [*]; done)), H', ⟨by have := HJ3.out; have := HJ15.out; have := HK3.out; have := HK4.out; first | omega | exact Nat.le_refl _⟩, ⟨by (with_reducible repeat (first | apply Kd.R_alloc | apply Kd.R_drewN | apply Kd.R_drew)); exact Kd.R_mono (Kd.R_far (p := ⟨gb209, 11, none⟩) (Kd.R_far (p := ⟨gb209, 10, none⟩) (Kd.R_far (p := ⟨gb209, 9, none⟩) (Kd.R_far (p := ⟨gb209, 8, none⟩) (Kd.R_far (p := ⟨gb209, 7, none⟩) (Kd.R_far (p := ⟨gb209, 6, none⟩) (Kd.R_far (p := ⟨gb209, 5, none⟩) (Kd.R_far (p := ⟨gb209, 4, none⟩) (Kd.R_far (p := ⟨gb209, 3, none⟩) (Kd.R_far (p := ⟨gb209, 2, none⟩) (Kd.R_far (p := ⟨gb209, 1, none⟩) (Kd.R_far (p := ⟨gb209, 0, none⟩) (Kd.R_mono HO_5.out (fun k_ hk => (⟨hk, hk.2⟩ : _ ∧ k_ ≠ gb209))) (fun _ hk => hk.2) (.int .i64 ((rd_T38 l0 (ji39)).f0))) (fun _ hk => hk.2) (.int .i64 ((rd_T38 l0 (ji39)).f1))) (fun _ hk => hk.2) (.bool ((rd_T38 l0 (ji39)).f2))) (fun _ hk => hk.2) (.int .i64 ((rd_T38 l0 (ji39)).f3))) (fun _ hk => hk.2) (.int .i64 ((rd_T38 l0 (ji39)).f4))) (fun _ hk => hk.2) (.bool ((rd_T38 l0 (ji39)).f5))) (fun _ hk => hk.2) (.bool ((rd_T38 l0 (ji39)).f6))) (fun _ hk => hk.2) (.bool ((rd_T38 l0 (ji39)).f7))) (fun _ hk => hk.2) (.int .i64 ((rd_T38 l0 (ji39)).f8))) (fun _ hk => hk.2) (.int .i64 ((rd_T38 l0 (ji39)).f9))) (fun _ hk => hk.2) (.int .i64 ((rd_T38 l0 (ji39)).f10))) (fun _ hk => hk.2) (.bool ((rd_T38 l0 (ji39)).f11))) (fun _ hk => ⟨hk.1.1, hk.1.2⟩)⟩, ⟨by (with_reducible repeat (first | apply Kd.R_alloc | apply Kd.R_drewN | apply Kd.R_drew)); exact Kd.R_mono (Kd.R_far (p := ⟨gb209, 11, none⟩) (Kd.R_far (p := ⟨gb209, 10, none⟩) (Kd.R_far (p := ⟨gb209, 9, none⟩) (Kd.R_far (p := ⟨gb209, 8, none⟩) (Kd.R_far (p := ⟨gb209, 7, none⟩) (Kd.R_far (p := ⟨gb209, 6, none⟩) (Kd.R_far (p := ⟨gb209, 5, none⟩) (Kd.R_far (p := ⟨gb209, 4, none⟩) (Kd.R_far (p := ⟨gb209, 3, none⟩) (Kd.R_far (p := ⟨gb209, 2, none⟩) (Kd.R_far (p := ⟨gb209, 1, none⟩) (Kd.R_far (p := ⟨gb209, 0, none⟩) (Kd.R_mono HO_6.out (fun k_ hk => (⟨hk, hk.2⟩ : _ ∧ k_ ≠ gb209))) (fun _ hk => hk.2) (.int .i64 ((rd_T38 l0 (ji39)).f0))) (fun _ hk => hk.2) (.int .i64 ((rd_T38 l0 (ji39)).f1))) (fun _ hk => hk.2) (.bool ((rd_T38 l0 (ji39)).f2))) (fun _ hk => hk.2) (.int .i64 ((rd_T38 l0 (ji39)).f3))) (fun _ hk => hk.2) (.int .i64 ((rd_T38 l0 (ji39)).f4))) (fun _ hk => hk.2) (.bool ((rd_T38 l0 (ji39)).f5))) (fun _ hk => hk.2) (.bool ((rd_T38 l0 (ji39)).f6))) (fun _ hk => hk.2) (.bool ((rd_T38 l0 (ji39)).f7))) (fun _ hk => hk.2) (.int .i64 ((rd_T38 l0 (ji39)).f8))) (fun _ hk => hk.2) (.int .i64 ((rd_T38 l0 (ji39)).f9))) (fun _ hk => hk.2) (.int .i64 ((rd_T38 l0 (ji39)).f10))) (fun _ hk => hk.2) (.bool ((rd_T38 l0 (ji39)).f11))) (fun _ hk => ⟨hk.1.1, hk.1.2⟩)⟩, ⟨by (with_reducible repeat (first | refine blk_drewN ?_ _ | refine blk_drew ?_ | refine blk_alloc ?_ _)); refine blk_put (cs := #[.int .i64 ((rd_T38 l0 (ji39)).f0), .int .i64 ((rd_T38 l0 (ji39)).f1), .bool ((rd_T38 l0 (ji39)).f2), .int .i64 ((rd_T38 l0 (ji39)).f3), .int .i64 ((rd_T38 l0 (ji39)).f4), .bool ((rd_T38 l0 (ji39)).f5), .bool ((rd_T38 l0 (ji39)).f6), .bool ((rd_T38 l0 (ji39)).f7), .int .i64 ((rd_T38 l0 (ji39)).f8), .int .i64 ((rd_T38 l0 (ji39)).f9), .int .i64 ((rd_T38 l0 (ji39)).f10), .bool false]) ?_ 11 _ rfl; (with_reducible repeat (first | refine blk_drewN ?_ _ | refine blk_drew ?_ | refine blk_alloc ?_ _)); refine blk_put (cs := #[.int .i64 ((rd_T38 l0 (ji39)).f0), .int .i64 ((rd_T38 l0 (ji39)).f1), .bool ((rd_T38 l0 (ji39)).f2), .int .i64 ((rd_T38 l0 (ji39)).f3), .int .i64 ((rd_T38 l0 (ji39)).f4), .bool ((rd_T38 l0 (ji39)).f5), .bool ((rd_T38 l0 (ji39)).f6), .bool ((rd_T38 l0 (ji39)).f7), .int .i64 ((rd_T38 l0 (ji39)).f8), .int .i64 ((rd_T38 l0 (ji39)).f9), .int .i64 0, .bool false]) ?_ 10 _ rfl; (with_reducible repeat (first | refine blk_drewN ?_ _ | refine blk_drew ?_ | refine blk_alloc ?_ _)); refine blk_put (cs := #[.int .i64 ((rd_T38 l0 (ji39)).f0), .int .i64 ((rd_T38 l0 (ji39)).f1), .bool ((rd_T38 l0 (ji39)).f2), .int .i64 ((rd_T38 l0 (ji39)).f3), .int .i64 ((rd_T38 l0 (ji39)).f4), .bool ((rd_T38 l0 (ji39)).f5), .bool ((rd_T38 l0 (ji39)).f6), .bool ((rd_T38 l0 (ji39)).f7), .int .i64 ((rd_T38 l0 (ji39)).f8), .int .i64 0, .int .i64 0, .bool false]) ?_ 9 _ rfl; (with_reducible repeat (first | refine blk_drewN ?_ _ | refine blk_drew ?_ | refine blk_alloc ?_ _)); refine blk_put (cs := #[.int .i64 ((rd_T38 l0 (ji39)).f0), .int .i64 ((rd_T38 l0 (ji39)).f1), .bool ((rd_T38 l0 (ji39)).f2), .int .i64 ((rd_T38 l0 (ji39)).f3), .int .i64 ((rd_T38 l0 (ji39)).f4), .bool ((rd_T38 l0 (ji39)).f5), .bool ((rd_T38 l0 (ji39)).f6), .bool ((rd_T38 l0 (ji39)).f7), .int .i64 0, .int .i64 0, .int .i64 0, .bool false]) ?_ 8 _ rfl; (with_reducible repeat (first | refine blk_drewN ?_ _ | refine blk_drew ?_ | refine blk_alloc ?_ _)); refine blk_put (cs := #[.int .i64 ((rd_T38 l0 (ji39)).f0), .int .i64 ((rd_T38 l0 (ji39)).f1), .bool ((rd_T38 l0 (ji39)).f2), .int .i64 ((rd_T38 l0 (ji39)).f3), .int .i64 ((rd_T38 l0 (ji39)).f4), .bool ((rd_T38 l0 (ji39)).f5), .bool ((rd_T38 l0 (ji39)).f6), .bool false, .int .i64 0, .int .i64 0, .int .i64 0, .bool false]) ?_ 7 _ rfl; (with_reducible repeat (first | refine blk_drewN ?_ _ | refine blk_drew ?_ | refine blk_alloc ?_ _)); refine blk_put (cs := #[.int .i64 ((rd_T38 l0 (ji39)).f0), .int .i64 ((rd_T38 l0 (ji39)).f1), .bool ((rd_T38 l0 (ji39)).f2), .int .i64 ((rd_T38 l0 (ji39)).f3), .int .i64 ((rd_T38 l0 (ji39)).f4), .bool ((rd_T38 l0 (ji39)).f5), .bool false, .bool false, .int .i64 0, .int .i64 0, .int .i64 0, .bool false]) ?_ 6 _ rfl; (with_reducible repeat (first | refine blk_drewN ?_ _ | refine blk_drew ?_ | refine blk_alloc ?_ _)); refine blk_put (cs := #[.int .i64 ((rd_T38 l0 (ji39)).f0), .int .i64 ((rd_T38 l0 (ji39)).f1), .bool ((rd_T38 l0 (ji39)).f2), .int .i64 ((rd_T38 l0 (ji39)).f3), .int .i64 ((rd_T38 l0 (ji39)).f4), .bool false, .bool false, .bool false, .int .i64 0, .int .i64 0, .int .i64 0, .bool false]) ?_ 5 _ rfl; (with_reducible repeat (first | refine blk_drewN ?_ _ | refine blk_drew ?_ | refine blk_alloc ?_ _)); refine blk_put (cs := #[.int .i64 ((rd_T38 l0 (ji39)).f0), .int .i64 ((rd_T38 l0 (ji39)).f1), .bool ((rd_T38 l0 (ji39)).f2), .int .i64 ((rd_T38 l0 (ji39)).f3), .int .i64 0, .bool false, .bool false, .bool false, .int .i64 0, .int .i64 0, .int .i64 0, .bool false]) ?_ 4 _ rfl; (with_reducible repeat (first | refine blk_drewN ?_ _ | refine blk_drew ?_ | refine blk_alloc ?_ _)); refine blk_put (cs := #[.int .i64 ((rd_T38 l0 (ji39)).f0), .int .i64 ((rd_T38 l0 (ji39)).f1), .bool ((rd_T38 l0 (ji39)).f2), .int .i64 0, .int .i64 0, .bool false, .bool false, .bool false, .int .i64 0, .int .i64 0, .int .i64 0, .bool false]) ?_ 3 _ rfl; (with_reducible repeat (first | refine blk_drewN ?_ _ | refine blk_drew ?_ | refine blk_alloc ?_ _)); refine blk_put (cs := #[.int .i64 ((rd_T38 l0 (ji39)).f0), .int .i64 ((rd_T38 l0 (ji39)).f1), .bool false, .int .i64 0, .int .i64 0, .bool false, .bool false, .bool false, .int .i64 0, .int .i64 0, .int .i64 0, .bool false]) ?_ 2 _ rfl; (with_reducible repeat (first | refine blk_drewN ?_ _ | refine blk_drew ?_ | refine blk_alloc ?_ _)); refine blk_put (cs := #[.int .i64 ((rd_T38 l0 (ji39)).f0), .int .i64 0, .bool false, .int .i64 0, .int .i64 0, .bool false, .bool false, .bool false, .int .i64 0, .int .i64 0, .int .i64 0, .bool false]) ?_ 1 _ rfl; (with_reducible repeat (first | refine blk_drewN ?_ _ | refine blk_drew ?_ | refine blk_alloc ?_ _)); refine blk_put (cs := #[.int .i64 0, .int .i64 0, .bool false, .int .i64 0, .int .i64 0, .bool false, .bool false, .bool false, .int .i64 0, .int .i64 0, .int .i64 0, .bool false]) ?_ 0 _ rfl; (with_reducible repeat (first | refine blk_drewN ?_ _ | refine blk_drew ?_ | refine blk_alloc ?_ _)); exact BK209.out⟩, ⟨by repeat (first | (with_reducible first | exact HB.out | apply below_alloc | apply pw_below_drewN | apply below_drew1 | refine below_set ?_ GE209.out) | exact HB.out)⟩⟩
                  ·rw [if_neg c49] at H
                   have c49b0 : (((rd_T38 t193 x9_4).f0) == (ji48)) = false := beq_eq_false_iff_ne.mpr c49
                   have c49b1 : (((rd_T38 t193 x9_4).f0) != (ji48)) = true := bne_iff_ne.mpr c49
                   have H' := Aside0.mk H
                   clear H
                   have p210 : 0 ≤ (x9_4 : Int) := of_decide_eq_true (by first | (with_reducible assumption) | assumption)
                   have q210 : x9_4 < (t193.length : Int) := of_decide_eq_true (by first | (with_reducible assumption) | assumption)
                   obtain ⟨ad210, e210, hx210_0, hx210_1, hx210_2, hx210_3, hx210_4, hx210_5, hx210_6, hx210_7, hx210_8, hx210_9, hx210_10, hx210_11⟩ := at_T38 (Kd.R_reads' HO_5.out).2.2 x9_4 p210 q210
                   cases e210
                   have hn210_0 : ad210.block ≠ gb209 := Kd.own_blk (by first | exact Kd.R_ne HO_5.out BK209.out (by decide) | exact Kd.R_away HO_5.out (fun _ hk => hk.1) | exact Kd.R_away HO_5.out (fun _ hk => hk.2))
                   have hn210_1 : ad210.block ≠ gb209 := Kd.own_blk (by first | exact Kd.R_ne HO_5.out BK209.out (by decide) | exact Kd.R_away HO_5.out (fun _ hk => hk.1) | exact Kd.R_away HO_5.out (fun _ hk => hk.2))
                   have hn210_2 : ad210.block ≠ gb209 := Kd.own_blk (by first | exact Kd.R_ne HO_5.out BK209.out (by decide) | exact Kd.R_away HO_5.out (fun _ hk => hk.1) | exact Kd.R_away HO_5.out (fun _ hk => hk.2))
                   have hn210_3 : ad210.block ≠ gb209 := Kd.own_blk (by first | exact Kd.R_ne HO_5.out BK209.out (by decide) | exact Kd.R_away HO_5.out (fun _ hk => hk.1) | exact Kd.R_away HO_5.out (fun _ hk => hk.2))
                   have hn210_4 : ad210.block ≠ gb209 := Kd.own_blk (by first | exact Kd.R_ne HO_5.out BK209.out (by decide) | exact Kd.R_away HO_5.out (fun _ hk => hk.1) | exact Kd.R_away HO_5.out (fun _ hk => hk.2))
                   have hn210_5 : ad210.block ≠ gb209 := Kd.own_blk (by first | exact Kd.R_ne HO_5.out BK209.out (by decide) | exact Kd.R_away HO_5.out (fun _ hk => hk.1) | exact Kd.R_away HO_5.out (fun _ hk => hk.2))
                   have hn210_6 : ad210.block ≠ gb209 := Kd.own_blk (by first | exact Kd.R_ne HO_5.out BK209.out (by decide) | exact Kd.R_away HO_5.out (fun _ hk => hk.1) | exact Kd.R_away HO_5.out (fun _ hk => hk.2))
                   have hn210_7 : ad210.block ≠ gb209 := Kd.own_blk (by first | exact Kd.R_ne HO_5.out BK209.out (by decide) | exact Kd.R_away HO_5.out (fun _ hk => hk.1) | exact Kd.R_away HO_5.out (fun _ hk => hk.2))
                   have hn210_8 : ad210.block ≠ gb209 := Kd.own_blk (by first | exact Kd.R_ne HO_5.out BK209.out (by decide) | exact Kd.R_away HO_5.out (fun _ hk => hk.1) | exact Kd.R_away HO_5.out (fun _ hk => hk.2))
                   have hn210_9 : ad210.block ≠ gb209 := Kd.own_blk (by first | exact Kd.R_ne HO_5.out BK209.out (by decide) | exact Kd.R_away HO_5.out (fun _ hk => hk.1) | exact Kd.R_away HO_5.out (fun _ hk => hk.2))
                   have hn210_10 : ad210.block ≠ gb209 := Kd.own_blk (by first | exact Kd.R_ne HO_5.out BK209.out (by decide) | exact Kd.R_away HO_5.out (fun _ hk => hk.1) | exact Kd.R_away HO_5.out (fun _ hk => hk.2))
                   have hn210_11 : ad210.block ≠ gb209 := Kd.own_blk (by first | exact Kd.R_ne HO_5.out BK209.out (by decide) | exact Kd.R_away HO_5.out (fun _ hk => hk.1) | exact Kd.R_away HO_5.out (fun _ hk => hk.2))
                   have hz_ := fun {W_ : World} {q_ : Addr} {x_ : Value} (hq_ : q_.block ≠ gb209) (h_ : W_.cell? q_ = some x_) => (cell_far (p := ⟨gb209, 11, none⟩) hq_ (.bool ((rd_T38 l0 (ji39)).f11))).trans ((cell_far (p := ⟨gb209, 10, none⟩) hq_ (.int .i64 ((rd_T38 l0 (ji39)).f10))).trans ((cell_far (p := ⟨gb209, 9, none⟩) hq_ (.int .i64 ((rd_T38 l0 (ji39)).f9))).trans ((cell_far (p := ⟨gb209, 8, none⟩) hq_ (.int .i64 ((rd_T38 l0 (ji39)).f8))).trans ((cell_far (p := ⟨gb209, 7, none⟩) hq_ (.bool ((rd_T38 l0 (ji39)).f7))).trans ((cell_far (p := ⟨gb209, 6, none⟩) hq_ (.bool ((rd_T38 l0 (ji39)).f6))).trans ((cell_far (p := ⟨gb209, 5, none⟩) hq_ (.bool ((rd_T38 l0 (ji39)).f5))).trans ((cell_far (p := ⟨gb209, 4, none⟩) hq_ (.int .i64 ((rd_T38 l0 (ji39)).f4))).trans ((cell_far (p := ⟨gb209, 3, none⟩) hq_ (.int .i64 ((rd_T38 l0 (ji39)).f3))).trans ((cell_far (p := ⟨gb209, 2, none⟩) hq_ (.bool ((rd_T38 l0 (ji39)).f2))).trans ((cell_far (p := ⟨gb209, 1, none⟩) hq_ (.int .i64 ((rd_T38 l0 (ji39)).f1))).trans ((cell_far (p := ⟨gb209, 0, none⟩) hq_ (.int .i64 ((rd_T38 l0 (ji39)).f0))).trans (h_))))))))))))
                   replace hx210_0 := hz_ (by first | (rw [add_block]; exact hn210_11) | (show (Addr.add _ _).block ≠ _; rw [add_block]; exact hn210_11) | exact hn210_11) hx210_0
                   replace hx210_1 := hz_ (by first | (rw [add_block]; exact hn210_11) | (show (Addr.add _ _).block ≠ _; rw [add_block]; exact hn210_11) | exact hn210_11) hx210_1
                   replace hx210_2 := hz_ (by first | (rw [add_block]; exact hn210_11) | (show (Addr.add _ _).block ≠ _; rw [add_block]; exact hn210_11) | exact hn210_11) hx210_2
                   replace hx210_3 := hz_ (by first | (rw [add_block]; exact hn210_11) | (show (Addr.add _ _).block ≠ _; rw [add_block]; exact hn210_11) | exact hn210_11) hx210_3
                   replace hx210_4 := hz_ (by first | (rw [add_block]; exact hn210_11) | (show (Addr.add _ _).block ≠ _; rw [add_block]; exact hn210_11) | exact hn210_11) hx210_4
                   replace hx210_5 := hz_ (by first | (rw [add_block]; exact hn210_11) | (show (Addr.add _ _).block ≠ _; rw [add_block]; exact hn210_11) | exact hn210_11) hx210_5
                   replace hx210_6 := hz_ (by first | (rw [add_block]; exact hn210_11) | (show (Addr.add _ _).block ≠ _; rw [add_block]; exact hn210_11) | exact hn210_11) hx210_6
                   replace hx210_7 := hz_ (by first | (rw [add_block]; exact hn210_11) | (show (Addr.add _ _).block ≠ _; rw [add_block]; exact hn210_11) | exact hn210_11) hx210_7
                   replace hx210_8 := hz_ (by first | (rw [add_block]; exact hn210_11) | (show (Addr.add _ _).block ≠ _; rw [add_block]; exact hn210_11) | exact hn210_11) hx210_8
                   replace hx210_9 := hz_ (by first | (rw [add_block]; exact hn210_11) | (show (Addr.add _ _).block ≠ _; rw [add_block]; exact hn210_11) | exact hn210_11) hx210_9
                   replace hx210_10 := hz_ (by first | (rw [add_block]; exact hn210_11) | (show (Addr.add _ _).block ≠ _; rw [add_block]; exact hn210_11) | exact hn210_11) hx210_10
                   replace hx210_11 := hz_ (by first | (rw [add_block]; exact hn210_11) | (show (Addr.add _ _).block ≠ _; rw [add_block]; exact hn210_11) | exact hn210_11) hx210_11
                   clear hz_
                   (try have hz_ := fun (n_ : Nat) (q_ : Addr) (x_ : Value) (h_ : (((((((((((((w44.setCell ⟨gb209, 0, none⟩ (.int .i64 ((rd_T38 l0 (ji39)).f0))).setCell ⟨gb209, 1, none⟩ (.int .i64 ((rd_T38 l0 (ji39)).f1))).setCell ⟨gb209, 2, none⟩ (.bool ((rd_T38 l0 (ji39)).f2))).setCell ⟨gb209, 3, none⟩ (.int .i64 ((rd_T38 l0 (ji39)).f3))).setCell ⟨gb209, 4, none⟩ (.int .i64 ((rd_T38 l0 (ji39)).f4))).setCell ⟨gb209, 5, none⟩ (.bool ((rd_T38 l0 (ji39)).f5))).setCell ⟨gb209, 6, none⟩ (.bool ((rd_T38 l0 (ji39)).f6))).setCell ⟨gb209, 7, none⟩ (.bool ((rd_T38 l0 (ji39)).f7))).setCell ⟨gb209, 8, none⟩ (.int .i64 ((rd_T38 l0 (ji39)).f8))).setCell ⟨gb209, 9, none⟩ (.int .i64 ((rd_T38 l0 (ji39)).f9))).setCell ⟨gb209, 10, none⟩ (.int .i64 ((rd_T38 l0 (ji39)).f10))).setCell ⟨gb209, 11, none⟩ (.bool ((rd_T38 l0 (ji39)).f11)))).cell? q_ = some x_) => (show ((((((((((((((w44.drewN n_).setCell ⟨gb209, 0, none⟩ (.int .i64 ((rd_T38 l0 (ji39)).f0))).setCell ⟨gb209, 1, none⟩ (.int .i64 ((rd_T38 l0 (ji39)).f1))).setCell ⟨gb209, 2, none⟩ (.bool ((rd_T38 l0 (ji39)).f2))).setCell ⟨gb209, 3, none⟩ (.int .i64 ((rd_T38 l0 (ji39)).f3))).setCell ⟨gb209, 4, none⟩ (.int .i64 ((rd_T38 l0 (ji39)).f4))).setCell ⟨gb209, 5, none⟩ (.bool ((rd_T38 l0 (ji39)).f5))).setCell ⟨gb209, 6, none⟩ (.bool ((rd_T38 l0 (ji39)).f6))).setCell ⟨gb209, 7, none⟩ (.bool ((rd_T38 l0 (ji39)).f7))).setCell ⟨gb209, 8, none⟩ (.int .i64 ((rd_T38 l0 (ji39)).f8))).setCell ⟨gb209, 9, none⟩ (.int .i64 ((rd_T38 l0 (ji39)).f9))).setCell ⟨gb209, 10, none⟩ (.int .i64 ((rd_T38 l0 (ji39)).f10))).setCell ⟨gb209, 11, none⟩ (.bool ((rd_T38 l0 (ji39)).f11)))).cell? q_ = some x_ from (dn4_0 (dn4_1 (dn4_1 (dn4_1 (dn4_1 (dn4_1 (dn4_1 (dn4_1 (dn4_1 (dn4_1 (dn4_1 (dn4_1 (dn4_1 (dn4_2 _ _) _ _) _ _) _ _) _ _) _ _) _ _) _ _) _ _) _ _) _ _) _ _) _ _) _).trans h_))
                   (try have hy210_0 := fun (n_ : Nat) => hz_ n_ _ _ hx210_0)
                   (try have hy210_1 := fun (n_ : Nat) => hz_ n_ _ _ hx210_1)
                   (try have hy210_2 := fun (n_ : Nat) => hz_ n_ _ _ hx210_2)
                   (try have hy210_3 := fun (n_ : Nat) => hz_ n_ _ _ hx210_3)
                   (try have hy210_4 := fun (n_ : Nat) => hz_ n_ _ _ hx210_4)
                   (try have hy210_5 := fun (n_ : Nat) => hz_ n_ _ _ hx210_5)
                   (try have hy210_6 := fun (n_ : Nat) => hz_ n_ _ _ hx210_6)
                   (try have hy210_7 := fun (n_ : Nat) => hz_ n_ _ _ hx210_7)
                   (try have hy210_8 := fun (n_ : Nat) => hz_ n_ _ _ hx210_8)
                   (try have hy210_9 := fun (n_ : Nat) => hz_ n_ _ _ hx210_9)
                   (try have hy210_10 := fun (n_ : Nat) => hz_ n_ _ _ hx210_10)
                   (try have hy210_11 := fun (n_ : Nat) => hz_ n_ _ _ hx210_11)
                   (try clear hz_)
                   clear hn210_0
                   clear hn210_1
                   clear hn210_2
                   clear hn210_3
                   clear hn210_4
                   clear hn210_5
                   clear hn210_6
                   clear hn210_7
                   clear hn210_8
                   clear hn210_9
                   clear hn210_10
                   clear hn210_11
                   replace p210 := eq_true p210
                   replace q210 := eq_true q210
                   have hcz51_0 : w44.cell? ⟨gb209, 0, none⟩ = some (.int .i64 0) := (blk_cell BK209.out 0).trans rfl
                   have hcz51_1 : w44.cell? ⟨gb209, 1, none⟩ = some (.int .i64 0) := (blk_cell BK209.out 1).trans rfl
                   have hcz51_2 : w44.cell? ⟨gb209, 2, none⟩ = some (.bool false) := (blk_cell BK209.out 2).trans rfl
                   have hcz51_3 : w44.cell? ⟨gb209, 3, none⟩ = some (.int .i64 0) := (blk_cell BK209.out 3).trans rfl
                   have hcz51_4 : w44.cell? ⟨gb209, 4, none⟩ = some (.int .i64 0) := (blk_cell BK209.out 4).trans rfl
                   have hcz51_5 : w44.cell? ⟨gb209, 5, none⟩ = some (.bool false) := (blk_cell BK209.out 5).trans rfl
                   have hcz51_6 : w44.cell? ⟨gb209, 6, none⟩ = some (.bool false) := (blk_cell BK209.out 6).trans rfl
                   have hcz51_7 : w44.cell? ⟨gb209, 7, none⟩ = some (.bool false) := (blk_cell BK209.out 7).trans rfl
                   have hcz51_8 : w44.cell? ⟨gb209, 8, none⟩ = some (.int .i64 0) := (blk_cell BK209.out 8).trans rfl
                   have hcz51_9 : w44.cell? ⟨gb209, 9, none⟩ = some (.int .i64 0) := (blk_cell BK209.out 9).trans rfl
                   have hcz51_10 : w44.cell? ⟨gb209, 10, none⟩ = some (.int .i64 0) := (blk_cell BK209.out 10).trans rfl
                   have hcz51_11 : w44.cell? ⟨gb209, 11, none⟩ = some (.bool false) := (blk_cell BK209.out 11).trans rfl
                   have hfz51_0 := blk_frozen BK209.out 0
                   have hfz51_1 := blk_frozen BK209.out 1
                   have hfz51_2 := blk_frozen BK209.out 2
                   have hfz51_3 := blk_frozen BK209.out 3
                   have hfz51_4 := blk_frozen BK209.out 4
                   have hfz51_5 := blk_frozen BK209.out 5
                   have hfz51_6 := blk_frozen BK209.out 6
                   have hfz51_7 := blk_frozen BK209.out 7
                   have hfz51_8 := blk_frozen BK209.out 8
                   have hfz51_9 := blk_frozen BK209.out 9
                   have hfz51_10 := blk_frozen BK209.out 10
                   have hfz51_11 := blk_frozen BK209.out 11
                   have p211 : 0 ≤ (x9_4 : Int) := of_decide_eq_true (by first | (with_reducible assumption) | assumption)
                   have q211 : x9_4 < (t193.length : Int) := of_decide_eq_true (by first | (with_reducible assumption) | assumption)
                   obtain ⟨ad211, e211, hx211_0, hx211_1, hx211_2, hx211_3, hx211_4, hx211_5, hx211_6, hx211_7, hx211_8, hx211_9, hx211_10, hx211_11⟩ := at_T38 (Kd.R_reads' HO_5.out).2.2 x9_4 p211 q211
                   obtain rfl : ad210 = ad211 := (by injection e211)
                   have hn211_0 : ad210.block ≠ gb209 := Kd.own_blk (by first | exact Kd.R_ne HO_5.out BK209.out (by decide) | exact Kd.R_away HO_5.out (fun _ hk => hk.1) | exact Kd.R_away HO_5.out (fun _ hk => hk.2))
                   have hn211_1 : ad210.block ≠ gb209 := Kd.own_blk (by first | exact Kd.R_ne HO_5.out BK209.out (by decide) | exact Kd.R_away HO_5.out (fun _ hk => hk.1) | exact Kd.R_away HO_5.out (fun _ hk => hk.2))
                   have hn211_2 : ad210.block ≠ gb209 := Kd.own_blk (by first | exact Kd.R_ne HO_5.out BK209.out (by decide) | exact Kd.R_away HO_5.out (fun _ hk => hk.1) | exact Kd.R_away HO_5.out (fun _ hk => hk.2))
                   have hn211_3 : ad210.block ≠ gb209 := Kd.own_blk (by first | exact Kd.R_ne HO_5.out BK209.out (by decide) | exact Kd.R_away HO_5.out (fun _ hk => hk.1) | exact Kd.R_away HO_5.out (fun _ hk => hk.2))
                   have hn211_4 : ad210.block ≠ gb209 := Kd.own_blk (by first | exact Kd.R_ne HO_5.out BK209.out (by decide) | exact Kd.R_away HO_5.out (fun _ hk => hk.1) | exact Kd.R_away HO_5.out (fun _ hk => hk.2))
                   have hn211_5 : ad210.block ≠ gb209 := Kd.own_blk (by first | exact Kd.R_ne HO_5.out BK209.out (by decide) | exact Kd.R_away HO_5.out (fun _ hk => hk.1) | exact Kd.R_away HO_5.out (fun _ hk => hk.2))
                   have hn211_6 : ad210.block ≠ gb209 := Kd.own_blk (by first | exact Kd.R_ne HO_5.out BK209.out (by decide) | exact Kd.R_away HO_5.out (fun _ hk => hk.1) | exact Kd.R_away HO_5.out (fun _ hk => hk.2))
                   have hn211_7 : ad210.block ≠ gb209 := Kd.own_blk (by first | exact Kd.R_ne HO_5.out BK209.out (by decide) | exact Kd.R_away HO_5.out (fun _ hk => hk.1) | exact Kd.R_away HO_5.out (fun _ hk => hk.2))
                   have hn211_8 : ad210.block ≠ gb209 := Kd.own_blk (by first | exact Kd.R_ne HO_5.out BK209.out (by decide) | exact Kd.R_away HO_5.out (fun _ hk => hk.1) | exact Kd.R_away HO_5.out (fun _ hk => hk.2))
                   have hn211_9 : ad210.block ≠ gb209 := Kd.own_blk (by first | exact Kd.R_ne HO_5.out BK209.out (by decide) | exact Kd.R_away HO_5.out (fun _ hk => hk.1) | exact Kd.R_away HO_5.out (fun _ hk => hk.2))
                   have hn211_10 : ad210.block ≠ gb209 := Kd.own_blk (by first | exact Kd.R_ne HO_5.out BK209.out (by decide) | exact Kd.R_away HO_5.out (fun _ hk => hk.1) | exact Kd.R_away HO_5.out (fun _ hk => hk.2))
                   have hn211_11 : ad210.block ≠ gb209 := Kd.own_blk (by first | exact Kd.R_ne HO_5.out BK209.out (by decide) | exact Kd.R_away HO_5.out (fun _ hk => hk.1) | exact Kd.R_away HO_5.out (fun _ hk => hk.2))
                   have hz_ := fun {W_ : World} {q_ : Addr} {x_ : Value} (hq_ : q_.block ≠ gb209) (h_ : W_.cell? q_ = some x_) => (cell_far (p := ⟨gb209, 11, none⟩) hq_ (.bool ((rd_T38 l0 (ji39)).f11))).trans ((cell_far (p := ⟨gb209, 10, none⟩) hq_ (.int .i64 ((rd_T38 l0 (ji39)).f10))).trans ((cell_far (p := ⟨gb209, 9, none⟩) hq_ (.int .i64 ((rd_T38 l0 (ji39)).f9))).trans ((cell_far (p := ⟨gb209, 8, none⟩) hq_ (.int .i64 ((rd_T38 l0 (ji39)).f8))).trans ((cell_far (p := ⟨gb209, 7, none⟩) hq_ (.bool ((rd_T38 l0 (ji39)).f7))).trans ((cell_far (p := ⟨gb209, 6, none⟩) hq_ (.bool ((rd_T38 l0 (ji39)).f6))).trans ((cell_far (p := ⟨gb209, 5, none⟩) hq_ (.bool ((rd_T38 l0 (ji39)).f5))).trans ((cell_far (p := ⟨gb209, 4, none⟩) hq_ (.int .i64 ((rd_T38 l0 (ji39)).f4))).trans ((cell_far (p := ⟨gb209, 3, none⟩) hq_ (.int .i64 ((rd_T38 l0 (ji39)).f3))).trans ((cell_far (p := ⟨gb209, 2, none⟩) hq_ (.bool ((rd_T38 l0 (ji39)).f2))).trans ((cell_far (p := ⟨gb209, 1, none⟩) hq_ (.int .i64 ((rd_T38 l0 (ji39)).f1))).trans ((cell_far (p := ⟨gb209, 0, none⟩) hq_ (.int .i64 ((rd_T38 l0 (ji39)).f0))).trans (h_))))))))))))
                   replace hx211_0 := hz_ (by first | (rw [add_block]; exact hn211_11) | (show (Addr.add _ _).block ≠ _; rw [add_block]; exact hn211_11) | exact hn211_11) hx211_0
                   replace hx211_1 := hz_ (by first | (rw [add_block]; exact hn211_11) | (show (Addr.add _ _).block ≠ _; rw [add_block]; exact hn211_11) | exact hn211_11) hx211_1
                   replace hx211_2 := hz_ (by first | (rw [add_block]; exact hn211_11) | (show (Addr.add _ _).block ≠ _; rw [add_block]; exact hn211_11) | exact hn211_11) hx211_2
                   replace hx211_3 := hz_ (by first | (rw [add_block]; exact hn211_11) | (show (Addr.add _ _).block ≠ _; rw [add_block]; exact hn211_11) | exact hn211_11) hx211_3
                   replace hx211_4 := hz_ (by first | (rw [add_block]; exact hn211_11) | (show (Addr.add _ _).block ≠ _; rw [add_block]; exact hn211_11) | exact hn211_11) hx211_4
                   replace hx211_5 := hz_ (by first | (rw [add_block]; exact hn211_11) | (show (Addr.add _ _).block ≠ _; rw [add_block]; exact hn211_11) | exact hn211_11) hx211_5
                   replace hx211_6 := hz_ (by first | (rw [add_block]; exact hn211_11) | (show (Addr.add _ _).block ≠ _; rw [add_block]; exact hn211_11) | exact hn211_11) hx211_6
                   replace hx211_7 := hz_ (by first | (rw [add_block]; exact hn211_11) | (show (Addr.add _ _).block ≠ _; rw [add_block]; exact hn211_11) | exact hn211_11) hx211_7
                   replace hx211_8 := hz_ (by first | (rw [add_block]; exact hn211_11) | (show (Addr.add _ _).block ≠ _; rw [add_block]; exact hn211_11) | exact hn211_11) hx211_8
                   replace hx211_9 := hz_ (by first | (rw [add_block]; exact hn211_11) | (show (Addr.add _ _).block ≠ _; rw [add_block]; exact hn211_11) | exact hn211_11) hx211_9
                   replace hx211_10 := hz_ (by first | (rw [add_block]; exact hn211_11) | (show (Addr.add _ _).block ≠ _; rw [add_block]; exact hn211_11) | exact hn211_11) hx211_10
                   replace hx211_11 := hz_ (by first | (rw [add_block]; exact hn211_11) | (show (Addr.add _ _).block ≠ _; rw [add_block]; exact hn211_11) | exact hn211_11) hx211_11
                   clear hz_
                   (try have hz_ := fun (n_ : Nat) (q_ : Addr) (x_ : Value) (h_ : (((((((((((((w44.setCell ⟨gb209, 0, none⟩ (.int .i64 ((rd_T38 l0 (ji39)).f0))).setCell ⟨gb209, 1, none⟩ (.int .i64 ((rd_T38 l0 (ji39)).f1))).setCell ⟨gb209, 2, none⟩ (.bool ((rd_T38 l0 (ji39)).f2))).setCell ⟨gb209, 3, none⟩ (.int .i64 ((rd_T38 l0 (ji39)).f3))).setCell ⟨gb209, 4, none⟩ (.int .i64 ((rd_T38 l0 (ji39)).f4))).setCell ⟨gb209, 5, none⟩ (.bool ((rd_T38 l0 (ji39)).f5))).setCell ⟨gb209, 6, none⟩ (.bool ((rd_T38 l0 (ji39)).f6))).setCell ⟨gb209, 7, none⟩ (.bool ((rd_T38 l0 (ji39)).f7))).setCell ⟨gb209, 8, none⟩ (.int .i64 ((rd_T38 l0 (ji39)).f8))).setCell ⟨gb209, 9, none⟩ (.int .i64 ((rd_T38 l0 (ji39)).f9))).setCell ⟨gb209, 10, none⟩ (.int .i64 ((rd_T38 l0 (ji39)).f10))).setCell ⟨gb209, 11, none⟩ (.bool ((rd_T38 l0 (ji39)).f11)))).cell? q_ = some x_) => (show ((((((((((((((w44.drewN n_).setCell ⟨gb209, 0, none⟩ (.int .i64 ((rd_T38 l0 (ji39)).f0))).setCell ⟨gb209, 1, none⟩ (.int .i64 ((rd_T38 l0 (ji39)).f1))).setCell ⟨gb209, 2, none⟩ (.bool ((rd_T38 l0 (ji39)).f2))).setCell ⟨gb209, 3, none⟩ (.int .i64 ((rd_T38 l0 (ji39)).f3))).setCell ⟨gb209, 4, none⟩ (.int .i64 ((rd_T38 l0 (ji39)).f4))).setCell ⟨gb209, 5, none⟩ (.bool ((rd_T38 l0 (ji39)).f5))).setCell ⟨gb209, 6, none⟩ (.bool ((rd_T38 l0 (ji39)).f6))).setCell ⟨gb209, 7, none⟩ (.bool ((rd_T38 l0 (ji39)).f7))).setCell ⟨gb209, 8, none⟩ (.int .i64 ((rd_T38 l0 (ji39)).f8))).setCell ⟨gb209, 9, none⟩ (.int .i64 ((rd_T38 l0 (ji39)).f9))).setCell ⟨gb209, 10, none⟩ (.int .i64 ((rd_T38 l0 (ji39)).f10))).setCell ⟨gb209, 11, none⟩ (.bool ((rd_T38 l0 (ji39)).f11)))).cell? q_ = some x_ from (dn4_0 (dn4_1 (dn4_1 (dn4_1 (dn4_1 (dn4_1 (dn4_1 (dn4_1 (dn4_1 (dn4_1 (dn4_1 (dn4_1 (dn4_1 (dn4_2 _ _) _ _) _ _) _ _) _ _) _ _) _ _) _ _) _ _) _ _) _ _) _ _) _ _) _).trans h_))
                   (try have hy211_0 := fun (n_ : Nat) => hz_ n_ _ _ hx211_0)
                   (try have hy211_1 := fun (n_ : Nat) => hz_ n_ _ _ hx211_1)
                   (try have hy211_2 := fun (n_ : Nat) => hz_ n_ _ _ hx211_2)
                   (try have hy211_3 := fun (n_ : Nat) => hz_ n_ _ _ hx211_3)
                   (try have hy211_4 := fun (n_ : Nat) => hz_ n_ _ _ hx211_4)
                   (try have hy211_5 := fun (n_ : Nat) => hz_ n_ _ _ hx211_5)
                   (try have hy211_6 := fun (n_ : Nat) => hz_ n_ _ _ hx211_6)
                   (try have hy211_7 := fun (n_ : Nat) => hz_ n_ _ _ hx211_7)
                   (try have hy211_8 := fun (n_ : Nat) => hz_ n_ _ _ hx211_8)
                   (try have hy211_9 := fun (n_ : Nat) => hz_ n_ _ _ hx211_9)
                   (try have hy211_10 := fun (n_ : Nat) => hz_ n_ _ _ hx211_10)
                   (try have hy211_11 := fun (n_ : Nat) => hz_ n_ _ _ hx211_11)
                   (try clear hz_)
                   clear hn211_0
                   clear hn211_1
                   clear hn211_2
                   clear hn211_3
                   clear hn211_4
                   clear hn211_5
                   clear hn211_6
                   clear hn211_7
                   clear hn211_8
                   clear hn211_9
                   clear hn211_10
                   clear hn211_11
                   replace p211 := eq_true p211
                   replace q211 := eq_true q211
                   go_wp2
                   repeat (go_quiet (fail); try go_wp2)
                   go_meet
                   case rel => exact ⟨_, (true), (by first | rfl | (simp; done) | (simp [*]; done)), H', ⟨by have := HJ3.out; have := HJ15.out; have := HK3.out; have := HK4.out; first | omega | exact Nat.le_refl _⟩, ⟨by (with_reducible repeat (first | apply Kd.R_alloc | apply Kd.R_drewN | apply Kd.R_drew)); exact Kd.R_mono (Kd.R_far (p := ⟨gb209, 11, none⟩) (Kd.R_far (p := ⟨gb209, 10, none⟩) (Kd.R_far (p := ⟨gb209, 9, none⟩) (Kd.R_far (p := ⟨gb209, 8, none⟩) (Kd.R_far (p := ⟨gb209, 7, none⟩) (Kd.R_far (p := ⟨gb209, 6, none⟩) (Kd.R_far (p := ⟨gb209, 5, none⟩) (Kd.R_far (p := ⟨gb209, 4, none⟩) (Kd.R_far (p := ⟨gb209, 3, none⟩) (Kd.R_far (p := ⟨gb209, 2, none⟩) (Kd.R_far (p := ⟨gb209, 1, none⟩) (Kd.R_far (p := ⟨gb209, 0, none⟩) (Kd.R_mono HO_5.out (fun k_ hk => (⟨hk, hk.2⟩ : _ ∧ k_ ≠ gb209))) (fun _ hk => hk.2) (.int .i64 ((rd_T38 l0 (ji39)).f0))) (fun _ hk => hk.2) (.int .i64 ((rd_T38 l0 (ji39)).f1))) (fun _ hk => hk.2) (.bool ((rd_T38 l0 (ji39)).f2))) (fun _ hk => hk.2) (.int .i64 ((rd_T38 l0 (ji39)).f3))) (fun _ hk => hk.2) (.int .i64 ((rd_T38 l0 (ji39)).f4))) (fun _ hk => hk.2) (.bool ((rd_T38 l0 (ji39)).f5))) (fun _ hk => hk.2) (.bool ((rd_T38 l0 (ji39)).f6))) (fun _ hk => hk.2) (.bool ((rd_T38 l0 (ji39)).f7))) (fun _ hk => hk.2) (.int .i64 ((rd_T38 l0 (ji39)).f8))) (fun _ hk => hk.2) (.int .i64 ((rd_T38 l0 (ji39)).f9))) (fun _ hk => hk.2) (.int .i64 ((rd_T38 l0 (ji39)).f10))) (fun _ hk => hk.2) (.bool ((rd_T38 l0 (ji39)).f11))) (fun _ hk => ⟨hk.1.1, hk.1.2⟩)⟩, ⟨by (with_reducible repeat (first | apply Kd.R_alloc | apply Kd.R_drewN | apply Kd.R_drew)); exact Kd.R_mono (Kd.R_far (p := ⟨gb209, 11, none⟩) (Kd.R_far (p := ⟨gb209, 10, none⟩) (Kd.R_far (p := ⟨gb209, 9, none⟩) (Kd.R_far (p := ⟨gb209, 8, none⟩) (Kd.R_far (p := ⟨gb209, 7, none⟩) (Kd.R_far (p := ⟨gb209, 6, none⟩) (Kd.R_far (p := ⟨gb209, 5, none⟩) (Kd.R_far (p := ⟨gb209, 4, none⟩) (Kd.R_far (p := ⟨gb209, 3, none⟩) (Kd.R_far (p := ⟨gb209, 2, none⟩) (Kd.R_far (p := ⟨gb209, 1, none⟩) (Kd.R_far (p := ⟨gb209, 0, none⟩) (Kd.R_mono HO_6.out (fun k_ hk => (⟨hk, hk.2⟩ : _ ∧ k_ ≠ gb209))) (fun _ hk => hk.2) (.int .i64 ((rd_T38 l0 (ji39)).f0))) (fun _ hk => hk.2) (.int .i64 ((rd_T38 l0 (ji39)).f1))) (fun _ hk => hk.2) (.bool ((rd_T38 l0 (ji39)).f2))) (fun _ hk => hk.2) (.int .i64 ((rd_T38 l0 (ji39)).f3))) (fun _ hk => hk.2) (.int .i64 ((rd_T38 l0 (ji39)).f4))) (fun _ hk => hk.2) (.bool ((rd_T38 l0 (ji39)).f5))) (fun _ hk => hk.2) (.bool ((rd_T38 l0 (ji39)).f6))) (fun _ hk => hk.2) (.bool ((rd_T38 l0 (ji39)).f7))) (fun _ hk => hk.2) (.int .i64 ((rd_T38 l0 (ji39)).f8))) (fun _ hk => hk.2) (.int .i64 ((rd_T38 l0 (ji39)).f9))) (fun _ hk => hk.2) (.int .i64 ((rd_T38 l0 (ji39)).f10))) (fun _ hk => hk.2) (.bool ((rd_T38 l0 (ji39)).f11))) (fun _ hk => ⟨hk.1.1, hk.1.2⟩)⟩, ⟨by (with_reducible repeat (first | refine blk_drewN ?_ _ | refine blk_drew ?_ | refine blk_alloc ?_ _)); refine blk_put (cs := #[.int .i64 ((rd_T38 l0 (ji39)).f0), .int .i64 ((rd_T38 l0 (ji39)).f1), .bool ((rd_T38 l0 (ji39)).f2), .int .i64 ((rd_T38 l0 (ji39)).f3), .int .i64 ((rd_T38 l0 (ji39)).f4), .bool ((rd_T38 l0 (ji39)).f5), .bool ((rd_T38 l0 (ji39)).f6), .bool ((rd_T38 l0 (ji39)).f7), .int .i64 ((rd_T38 l0 (ji39)).f8), .int .i64 ((rd_T38 l0 (ji39)).f9), .int .i64 ((rd_T38 l0 (ji39)).f10), .bool false]) ?_ 11 _ rfl; (with_reducible repeat (first | refine blk_drewN ?_ _ | refine blk_drew ?_ | refine blk_alloc ?_ _)); refine blk_put (cs := #[.int .i64 ((rd_T38 l0 (ji39)).f0), .int .i64 ((rd_T38 l0 (ji39)).f1), .bool ((rd_T38 l0 (ji39)).f2), .int .i64 ((rd_T38 l0 (ji39)).f3), .int .i64 ((rd_T38 l0 (ji39)).f4), .bool ((rd_T38 l0 (ji39)).f5), .bool ((rd_T38 l0 (ji39)).f6), .bool ((rd_T38 l0 (ji39)).f7), .int .i64 ((rd_T38 l0 (ji39)).f8), .int .i64 ((rd_T38 l0 (ji39)).f9), .int .i64 0, .bool false]) ?_ 10 _ rfl; (with_reducible repeat (first | refine blk_drewN ?_ _ | refine blk_drew ?_ | refine blk_alloc ?_ _)); refine blk_put (cs := #[.int .i64 ((rd_T38 l0 (ji39)).f0), .int .i64 ((rd_T38 l0 (ji39)).f1), .bool ((rd_T38 l0 (ji39)).f2), .int .i64 ((rd_T38 l0 (ji39)).f3), .int .i64 ((rd_T38 l0 (ji39)).f4), .bool ((rd_T38 l0 (ji39)).f5), .bool ((rd_T38 l0 (ji39)).f6), .bool ((rd_T38 l0 (ji39)).f7), .int .i64 ((rd_T38 l0 (ji39)).f8), .int .i64 0, .int .i64 0, .bool false]) ?_ 9 _ rfl; (with_reducible repeat (first | refine blk_drewN ?_ _ | refine blk_drew ?_ | refine blk_alloc ?_ _)); refine blk_put (cs := #[.int .i64 ((rd_T38 l0 (ji39)).f0), .int .i64 ((rd_T38 l0 (ji39)).f1), .bool ((rd_T38 l0 (ji39)).f2), .int .i64 ((rd_T38 l0 (ji39)).f3), .int .i64 ((rd_T38 l0 (ji39)).f4), .bool ((rd_T38 l0 (ji39)).f5), .bool ((rd_T38 l0 (ji39)).f6), .bool ((rd_T38 l0 (ji39)).f7), .int .i64 0, .int .i64 0, .int .i64 0, .bool false]) ?_ 8 _ rfl; (with_reducible repeat (first | refine blk_drewN ?_ _ | refine blk_drew ?_ | refine blk_alloc ?_ _)); refine blk_put (cs := #[.int .i64 ((rd_T38 l0 (ji39)).f0), .int .i64 ((rd_T38 l0 (ji39)).f1), .bool ((rd_T38 l0 (ji39)).f2), .int .i64 ((rd_T38 l0 (ji39)).f3), .int .i64 ((rd_T38 l0 (ji39)).f4), .bool ((rd_T38 l0 (ji39)).f5), .bool ((rd_T38 l0 (ji39)).f6), .bool false, .int .i64 0, .int .i64 0, .int .i64 0, .bool false]) ?_ 7 _ rfl; (with_reducible repeat (first | refine blk_drewN ?_ _ | refine blk_drew ?_ | refine blk_alloc ?_ _)); refine blk_put (cs := #[.int .i64 ((rd_T38 l0 (ji39)).f0), .int .i64 ((rd_T38 l0 (ji39)).f1), .bool ((rd_T38 l0 (ji39)).f2), .int .i64 ((rd_T38 l0 (ji39)).f3), .int .i64 ((rd_T38 l0 (ji39)).f4), .bool ((rd_T38 l0 (ji39)).f5), .bool false, .bool false, .int .i64 0, .int .i64 0, .int .i64 0, .bool false]) ?_ 6 _ rfl; (with_reducible repeat (first | refine blk_drewN ?_ _ | refine blk_drew ?_ | refine blk_alloc ?_ _)); refine blk_put (cs := #[.int .i64 ((rd_T38 l0 (ji39)).f0), .int .i64 ((rd_T38 l0 (ji39)).f1), .bool ((rd_T38 l0 (ji39)).f2), .int .i64 ((rd_T38 l0 (ji39)).f3), .int .i64 ((rd_T38 l0 (ji39)).f4), .bool false, .bool false, .bool false, .int .i64 0, .int .i64 0, .int .i64 0, .bool false]) ?_ 5 _ rfl; (with_reducible repeat (first | refine blk_drewN ?_ _ | refine blk_drew ?_ | refine blk_alloc ?_ _)); refine blk_put (cs := #[.int .i64 ((rd_T38 l0 (ji39)).f0), .int .i64 ((rd_T38 l0 (ji39)).f1), .bool ((rd_T38 l0 (ji39)).f2), .int .i64 ((rd_T38 l0 (ji39)).f3), .int .i64 0, .bool false, .bool false, .bool false, .int .i64 0, .int .i64 0, .int .i64 0, .bool false]) ?_ 4 _ rfl; (with_reducible repeat (first | refine blk_drewN ?_ _ | refine blk_drew ?_ | refine blk_alloc ?_ _)); refine blk_put (cs := #[.int .i64 ((rd_T38 l0 (ji39)).f0), .int .i64 ((rd_T38 l0 (ji39)).f1), .bool ((rd_T38 l0 (ji39)).f2), .int .i64 0, .int .i64 0, .bool false, .bool false, .bool false, .int .i64 0, .int .i64 0, .int .i64 0, .bool false]) ?_ 3 _ rfl; (with_reducible repeat (first | refine blk_drewN ?_ _ | refine blk_drew ?_ | refine blk_alloc ?_ _)); refine blk_put (cs := #[.int .i64 ((rd_T38 l0 (ji39)).f0), .int .i64 ((rd_T38 l0 (ji39)).f1), .bool false, .int .i64 0, .int .i64 0, .bool false, .bool false, .bool false, .int .i64 0, .int .i64 0, .int .i64 0, .bool false]) ?_ 2 _ rfl; (with_reducible repeat (first | refine blk_drewN ?_ _ | refine blk_drew ?_ | refine blk_alloc ?_ _)); refine blk_put (cs := #[.int .i64 ((rd_T38 l0 (ji39)).f0), .int .i64 0, .bool false, .int .i64 0, .int .i64 0, .bool false, .bool false, .bool false, .int .i64 0, .int .i64 0, .int .i64 0, .bool false]) ?_ 1 _ rfl; (with_reducible repeat (first | refine blk_drewN ?_ _ | refine blk_drew ?_ | refine blk_alloc ?_ _)); refine blk_put (cs := #[.int .i64 0, .int .i64 0, .bool false, .int .i64 0, .int .i64 0, .bool false, .bool false, .bool false, .int .i64 0, .int .i64 0, .int .i64 0, .bool false]) ?_ 0 _ rfl; (with_reducible repeat (first | refine blk_drewN ?_ _ | refine blk_drew ?_ | refine blk_alloc ?_ _)); exact BK209.out⟩, ⟨by repeat (first | (with_reducible first | exact HB.out | apply below_alloc | apply pw_below_drewN | apply below_drew1 | refine below_set ?_ GE209.out) | exact HB.out)⟩⟩
                 ·rw [if_neg c47] at H
                  have c47b0 : (((rd_T38 t193 x9_4).f1) == ((rd_T38 l0 (ji39)).f1)) = false := beq_eq_false_iff_ne.mpr c47
                  have c47b1 : (((rd_T38 t193 x9_4).f1) != ((rd_T38 l0 (ji39)).f1)) = true := bne_iff_ne.mpr c47
                  have H' := Aside0.mk H
                  clear H
                  have p210 : 0 ≤ (x9_4 : Int) := of_decide_eq_true (by first | (with_reducible assumption) | assumption)
                  have q210 : x9_4 < (t193.length : Int) := of_decide_eq_true (by first | (with_reducible assumption) | assumption)
                  obtain ⟨ad210, e210, hx210_0, hx210_1, hx210_2, hx210_3, hx210_4, hx210_5, hx210_6, hx210_7, hx210_8, hx210_9, hx210_10, hx210_11⟩ := at_T38 (Kd.R_reads' HO_5.out).2.2 x9_4 p210 q210
                  cases e210
                  have hn210_0 : ad210.block ≠ gb209 := Kd.own_blk (by first | exact Kd.R_ne HO_5.out BK209.out (by decide) | exact Kd.R_away HO_5.out (fun _ hk => hk.1) | exact Kd.R_away HO_5.out (fun _ hk => hk.2))
                  have hn210_1 : ad210.block ≠ gb209 := Kd.own_blk (by first | exact Kd.R_ne HO_5.out BK209.out (by decide) | exact Kd.R_away HO_5.out (fun _ hk => hk.1) | exact Kd.R_away HO_5.out (fun _ hk => hk.2))
                  have hn210_2 : ad210.block ≠ gb209 := Kd.own_blk (by first | exact Kd.R_ne HO_5.out BK209.out (by decide) | exact Kd.R_away HO_5.out (fun _ hk => hk.1) | exact Kd.R_away HO_5.out (fun _ hk => hk.2))
                  have hn210_3 : ad210.block ≠ gb209 := Kd.own_blk (by first | exact Kd.R_ne HO_5.out BK209.out (by decide) | exact Kd.R_away HO_5.out (fun _ hk => hk.1) | exact Kd.R_away HO_5.out (fun _ hk => hk.2))
                  have hn210_4 : ad210.block ≠ gb209 := Kd.own_blk (by first | exact Kd.R_ne HO_5.out BK209.out (by decide) | exact Kd.R_away HO_5.out (fun _ hk => hk.1) | exact Kd.R_away HO_5.out (fun _ hk => hk.2))
                  have hn210_5 : ad210.block ≠ gb209 := Kd.own_blk (by first | exact Kd.R_ne HO_5.out BK209.out (by decide) | exact Kd.R_away HO_5.out (fun _ hk => hk.1) | exact Kd.R_away HO_5.out (fun _ hk => hk.2))
                  have hn210_6 : ad210.block ≠ gb209 := Kd.own_blk (by first | exact Kd.R_ne HO_5.out BK209.out (by decide) | exact Kd.R_away HO_5.out (fun _ hk => hk.1) | exact Kd.R_away HO_5.out (fun _ hk => hk.2))
                  have hn210_7 : ad210.block ≠ gb209 := Kd.own_blk (by first | exact Kd.R_ne HO_5.out BK209.out (by decide) | exact Kd.R_away HO_5.out (fun _ hk => hk.1) | exact Kd.R_away HO_5.out (fun _ hk => hk.2))
                  have hn210_8 : ad210.block ≠ gb209 := Kd.own_blk (by first | exact Kd.R_ne HO_5.out BK209.out (by decide) | exact Kd.R_away HO_5.out (fun _ hk => hk.1) | exact Kd.R_away HO_5.out (fun _ hk => hk.2))
                  have hn210_9 : ad210.block ≠ gb209 := Kd.own_blk (by first | exact Kd.R_ne HO_5.out BK209.out (by decide) | exact Kd.R_away HO_5.out (fun _ hk => hk.1) | exact Kd.R_away HO_5.out (fun _ hk => hk.2))
                  have hn210_10 : ad210.block ≠ gb209 := Kd.own_blk (by first | exact Kd.R_ne HO_5.out BK209.out (by decide) | exact Kd.R_away HO_5.out (fun _ hk => hk.1) | exact Kd.R_away HO_5.out (fun _ hk => hk.2))
                  have hn210_11 : ad210.block ≠ gb209 := Kd.own_blk (by first | exact Kd.R_ne HO_5.out BK209.out (by decide) | exact Kd.R_away HO_5.out (fun _ hk => hk.1) | exact Kd.R_away HO_5.out (fun _ hk => hk.2))
                  have hz_ := fun {W_ : World} {q_ : Addr} {x_ : Value} (hq_ : q_.block ≠ gb209) (h_ : W_.cell? q_ = some x_) => (cell_far (p := ⟨gb209, 11, none⟩) hq_ (.bool ((rd_T38 l0 (ji39)).f11))).trans ((cell_far (p := ⟨gb209, 10, none⟩) hq_ (.int .i64 ((rd_T38 l0 (ji39)).f10))).trans ((cell_far (p := ⟨gb209, 9, none⟩) hq_ (.int .i64 ((rd_T38 l0 (ji39)).f9))).trans ((cell_far (p := ⟨gb209, 8, none⟩) hq_ (.int .i64 ((rd_T38 l0 (ji39)).f8))).trans ((cell_far (p := ⟨gb209, 7, none⟩) hq_ (.bool ((rd_T38 l0 (ji39)).f7))).trans ((cell_far (p := ⟨gb209, 6, none⟩) hq_ (.bool ((rd_T38 l0 (ji39)).f6))).trans ((cell_far (p := ⟨gb209, 5, none⟩) hq_ (.bool ((rd_T38 l0 (ji39)).f5))).trans ((cell_far (p := ⟨gb209, 4, none⟩) hq_ (.int .i64 ((rd_T38 l0 (ji39)).f4))).trans ((cell_far (p := ⟨gb209, 3, none⟩) hq_ (.int .i64 ((rd_T38 l0 (ji39)).f3))).trans ((cell_far (p := ⟨gb209, 2, none⟩) hq_ (.bool ((rd_T38 l0 (ji39)).f2))).trans ((cell_far (p := ⟨gb209, 1, none⟩) hq_ (.int .i64 ((rd_T38 l0 (ji39)).f1))).trans ((cell_far (p := ⟨gb209, 0, none⟩) hq_ (.int .i64 ((rd_T38 l0 (ji39)).f0))).trans (h_))))))))))))
                  replace hx210_0 := hz_ (by first | (rw [add_block]; exact hn210_11) | (show (Addr.add _ _).block ≠ _; rw [add_block]; exact hn210_11) | exact hn210_11) hx210_0
                  replace hx210_1 := hz_ (by first | (rw [add_block]; exact hn210_11) | (show (Addr.add _ _).block ≠ _; rw [add_block]; exact hn210_11) | exact hn210_11) hx210_1
                  replace hx210_2 := hz_ (by first | (rw [add_block]; exact hn210_11) | (show (Addr.add _ _).block ≠ _; rw [add_block]; exact hn210_11) | exact hn210_11) hx210_2
                  replace hx210_3 := hz_ (by first | (rw [add_block]; exact hn210_11) | (show (Addr.add _ _).block ≠ _; rw [add_block]; exact hn210_11) | exact hn210_11) hx210_3
                  replace hx210_4 := hz_ (by first | (rw [add_block]; exact hn210_11) | (show (Addr.add _ _).block ≠ _; rw [add_block]; exact hn210_11) | exact hn210_11) hx210_4
                  replace hx210_5 := hz_ (by first | (rw [add_block]; exact hn210_11) | (show (Addr.add _ _).block ≠ _; rw [add_block]; exact hn210_11) | exact hn210_11) hx210_5
                  replace hx210_6 := hz_ (by first | (rw [add_block]; exact hn210_11) | (show (Addr.add _ _).block ≠ _; rw [add_block]; exact hn210_11) | exact hn210_11) hx210_6
                  replace hx210_7 := hz_ (by first | (rw [add_block]; exact hn210_11) | (show (Addr.add _ _).block ≠ _; rw [add_block]; exact hn210_11) | exact hn210_11) hx210_7
                  replace hx210_8 := hz_ (by first | (rw [add_block]; exact hn210_11) | (show (Addr.add _ _).block ≠ _; rw [add_block]; exact hn210_11) | exact hn210_11) hx210_8
                  replace hx210_9 := hz_ (by first | (rw [add_block]; exact hn210_11) | (show (Addr.add _ _).block ≠ _; rw [add_block]; exact hn210_11) | exact hn210_11) hx210_9
                  replace hx210_10 := hz_ (by first | (rw [add_block]; exact hn210_11) | (show (Addr.add _ _).block ≠ _; rw [add_block]; exact hn210_11) | exact hn210_11) hx210_10
                  replace hx210_11 := hz_ (by first | (rw [add_block]; exact hn210_11) | (show (Addr.add _ _).block ≠ _; rw [add_block]; exact hn210_11) | exact hn210_11) hx210_11
                  clear hz_
                  (try have hz_ := fun (n_ : Nat) (q_ : Addr) (x_ : Value) (h_ : (((((((((((((w44.setCell ⟨gb209, 0, none⟩ (.int .i64 ((rd_T38 l0 (ji39)).f0))).setCell ⟨gb209, 1, none⟩ (.int .i64 ((rd_T38 l0 (ji39)).f1))).setCell ⟨gb209, 2, none⟩ (.bool ((rd_T38 l0 (ji39)).f2))).setCell ⟨gb209, 3, none⟩ (.int .i64 ((rd_T38 l0 (ji39)).f3))).setCell ⟨gb209, 4, none⟩ (.int .i64 ((rd_T38 l0 (ji39)).f4))).setCell ⟨gb209, 5, none⟩ (.bool ((rd_T38 l0 (ji39)).f5))).setCell ⟨gb209, 6, none⟩ (.bool ((rd_T38 l0 (ji39)).f6))).setCell ⟨gb209, 7, none⟩ (.bool ((rd_T38 l0 (ji39)).f7))).setCell ⟨gb209, 8, none⟩ (.int .i64 ((rd_T38 l0 (ji39)).f8))).setCell ⟨gb209, 9, none⟩ (.int .i64 ((rd_T38 l0 (ji39)).f9))).setCell ⟨gb209, 10, none⟩ (.int .i64 ((rd_T38 l0 (ji39)).f10))).setCell ⟨gb209, 11, none⟩ (.bool ((rd_T38 l0 (ji39)).f11)))).cell? q_ = some x_) => (show ((((((((((((((w44.drewN n_).setCell ⟨gb209, 0, none⟩ (.int .i64 ((rd_T38 l0 (ji39)).f0))).setCell ⟨gb209, 1, none⟩ (.int .i64 ((rd_T38 l0 (ji39)).f1))).setCell ⟨gb209, 2, none⟩ (.bool ((rd_T38 l0 (ji39)).f2))).setCell ⟨gb209, 3, none⟩ (.int .i64 ((rd_T38 l0 (ji39)).f3))).setCell ⟨gb209, 4, none⟩ (.int .i64 ((rd_T38 l0 (ji39)).f4))).setCell ⟨gb209, 5, none⟩ (.bool ((rd_T38 l0 (ji39)).f5))).setCell ⟨gb209, 6, none⟩ (.bool ((rd_T38 l0 (ji39)).f6))).setCell ⟨gb209, 7, none⟩ (.bool ((rd_T38 l0 (ji39)).f7))).setCell ⟨gb209, 8, none⟩ (.int .i64 ((rd_T38 l0 (ji39)).f8))).setCell ⟨gb209, 9, none⟩ (.int .i64 ((rd_T38 l0 (ji39)).f9))).setCell ⟨gb209, 10, none⟩ (.int .i64 ((rd_T38 l0 (ji39)).f10))).setCell ⟨gb209, 11, none⟩ (.bool ((rd_T38 l0 (ji39)).f11)))).cell? q_ = some x_ from (dn4_0 (dn4_1 (dn4_1 (dn4_1 (dn4_1 (dn4_1 (dn4_1 (dn4_1 (dn4_1 (dn4_1 (dn4_1 (dn4_1 (dn4_1 (dn4_2 _ _) _ _) _ _) _ _) _ _) _ _) _ _) _ _) _ _) _ _) _ _) _ _) _ _) _).trans h_))
                  (try have hy210_0 := fun (n_ : Nat) => hz_ n_ _ _ hx210_0)
                  (try have hy210_1 := fun (n_ : Nat) => hz_ n_ _ _ hx210_1)
                  (try have hy210_2 := fun (n_ : Nat) => hz_ n_ _ _ hx210_2)
                  (try have hy210_3 := fun (n_ : Nat) => hz_ n_ _ _ hx210_3)
                  (try have hy210_4 := fun (n_ : Nat) => hz_ n_ _ _ hx210_4)
                  (try have hy210_5 := fun (n_ : Nat) => hz_ n_ _ _ hx210_5)
                  (try have hy210_6 := fun (n_ : Nat) => hz_ n_ _ _ hx210_6)
                  (try have hy210_7 := fun (n_ : Nat) => hz_ n_ _ _ hx210_7)
                  (try have hy210_8 := fun (n_ : Nat) => hz_ n_ _ _ hx210_8)
                  (try have hy210_9 := fun (n_ : Nat) => hz_ n_ _ _ hx210_9)
                  (try have hy210_10 := fun (n_ : Nat) => hz_ n_ _ _ hx210_10)
                  (try have hy210_11 := fun (n_ : Nat) => hz_ n_ _ _ hx210_11)
                  (try clear hz_)
                  clear hn210_0
                  clear hn210_1
                  clear hn210_2
                  clear hn210_3
                  clear hn210_4
                  clear hn210_5
                  clear hn210_6
                  clear hn210_7
                  clear hn210_8
                  clear hn210_9
                  clear hn210_10
                  clear hn210_11
                  replace p210 := eq_true p210
                  replace q210 := eq_true q210
                  have hcz52_0 : w44.cell? ⟨gb209, 0, none⟩ = some (.int .i64 0) := (blk_cell BK209.out 0).trans rfl
                  have hcz52_1 : w44.cell? ⟨gb209, 1, none⟩ = some (.int .i64 0) := (blk_cell BK209.out 1).trans rfl
                  have hcz52_2 : w44.cell? ⟨gb209, 2, none⟩ = some (.bool false) := (blk_cell BK209.out 2).trans rfl
                  have hcz52_3 : w44.cell? ⟨gb209, 3, none⟩ = some (.int .i64 0) := (blk_cell BK209.out 3).trans rfl
                  have hcz52_4 : w44.cell? ⟨gb209, 4, none⟩ = some (.int .i64 0) := (blk_cell BK209.out 4).trans rfl
                  have hcz52_5 : w44.cell? ⟨gb209, 5, none⟩ = some (.bool false) := (blk_cell BK209.out 5).trans rfl
                  have hcz52_6 : w44.cell? ⟨gb209, 6, none⟩ = some (.bool false) := (blk_cell BK209.out 6).trans rfl
                  have hcz52_7 : w44.cell? ⟨gb209, 7, none⟩ = some (.bool false) := (blk_cell BK209.out 7).trans rfl
                  have hcz52_8 : w44.cell? ⟨gb209, 8, none⟩ = some (.int .i64 0) := (blk_cell BK209.out 8).trans rfl
                  have hcz52_9 : w44.cell? ⟨gb209, 9, none⟩ = some (.int .i64 0) := (blk_cell BK209.out 9).trans rfl
                  have hcz52_10 : w44.cell? ⟨gb209, 10, none⟩ = some (.int .i64 0) := (blk_cell BK209.out 10).trans rfl
                  have hcz52_11 : w44.cell? ⟨gb209, 11, none⟩ = some (.bool false) := (blk_cell BK209.out 11).trans rfl
                  have hfz52_0 := blk_frozen BK209.out 0
                  have hfz52_1 := blk_frozen BK209.out 1
                  have hfz52_2 := blk_frozen BK209.out 2
                  have hfz52_3 := blk_frozen BK209.out 3
                  have hfz52_4 := blk_frozen BK209.out 4
                  have hfz52_5 := blk_frozen BK209.out 5
                  have hfz52_6 := blk_frozen BK209.out 6
                  have hfz52_7 := blk_frozen BK209.out 7
                  have hfz52_8 := blk_frozen BK209.out 8
                  have hfz52_9 := blk_frozen BK209.out 9
                  have hfz52_10 := blk_frozen BK209.out 10
                  have hfz52_11 := blk_frozen BK209.out 11
                  go_wp2
                  repeat (go_quiet (fail); try go_wp2)
                  go_meet
                  case rel => exact ⟨_, (true), (by first | rfl | (simp; done) | (simp [*]; done)), H', ⟨by have := HJ3.out; have := HJ15.out; have := HK3.out; have := HK4.out; first | omega | exact Nat.le_refl _⟩, ⟨by (with_reducible repeat (first | apply Kd.R_alloc | apply Kd.R_drewN | apply Kd.R_drew)); exact Kd.R_mono (Kd.R_far (p := ⟨gb209, 11, none⟩) (Kd.R_far (p := ⟨gb209, 10, none⟩) (Kd.R_far (p := ⟨gb209, 9, none⟩) (Kd.R_far (p := ⟨gb209, 8, none⟩) (Kd.R_far (p := ⟨gb209, 7, none⟩) (Kd.R_far (p := ⟨gb209, 6, none⟩) (Kd.R_far (p := ⟨gb209, 5, none⟩) (Kd.R_far (p := ⟨gb209, 4, none⟩) (Kd.R_far (p := ⟨gb209, 3, none⟩) (Kd.R_far (p := ⟨gb209, 2, none⟩) (Kd.R_far (p := ⟨gb209, 1, none⟩) (Kd.R_far (p := ⟨gb209, 0, none⟩) (Kd.R_mono HO_5.out (fun k_ hk => (⟨hk, hk.2⟩ : _ ∧ k_ ≠ gb209))) (fun _ hk => hk.2) (.int .i64 ((rd_T38 l0 (ji39)).f0))) (fun _ hk => hk.2) (.int .i64 ((rd_T38 l0 (ji39)).f1))) (fun _ hk => hk.2) (.bool ((rd_T38 l0 (ji39)).f2))) (fun _ hk => hk.2) (.int .i64 ((rd_T38 l0 (ji39)).f3))) (fun _ hk => hk.2) (.int .i64 ((rd_T38 l0 (ji39)).f4))) (fun _ hk => hk.2) (.bool ((rd_T38 l0 (ji39)).f5))) (fun _ hk => hk.2) (.bool ((rd_T38 l0 (ji39)).f6))) (fun _ hk => hk.2) (.bool ((rd_T38 l0 (ji39)).f7))) (fun _ hk => hk.2) (.int .i64 ((rd_T38 l0 (ji39)).f8))) (fun _ hk => hk.2) (.int .i64 ((rd_T38 l0 (ji39)).f9))) (fun _ hk => hk.2) (.int .i64 ((rd_T38 l0 (ji39)).f10))) (fun _ hk => hk.2) (.bool ((rd_T38 l0 (ji39)).f11))) (fun _ hk => ⟨hk.1.1, hk.1.2⟩)⟩, ⟨by (with_reducible repeat (first | apply Kd.R_alloc | apply Kd.R_drewN | apply Kd.R_drew)); exact Kd.R_mono (Kd.R_far (p := ⟨gb209, 11, none⟩) (Kd.R_far (p := ⟨gb209, 10, none⟩) (Kd.R_far (p := ⟨gb209, 9, none⟩) (Kd.R_far (p := ⟨gb209, 8, none⟩) (Kd.R_far (p := ⟨gb209, 7, none⟩) (Kd.R_far (p := ⟨gb209, 6, none⟩) (Kd.R_far (p := ⟨gb209, 5, none⟩) (Kd.R_far (p := ⟨gb209, 4, none⟩) (Kd.R_far (p := ⟨gb209, 3, none⟩) (Kd.R_far (p := ⟨gb209, 2, none⟩) (Kd.R_far (p := ⟨gb209, 1, none⟩) (Kd.R_far (p := ⟨gb209, 0, none⟩) (Kd.R_mono HO_6.out (fun k_ hk => (⟨hk, hk.2⟩ : _ ∧ k_ ≠ gb209))) (fun _ hk => hk.2) (.int .i64 ((rd_T38 l0 (ji39)).f0))) (fun _ hk => hk.2) (.int .i64 ((rd_T38 l0 (ji39)).f1))) (fun _ hk => hk.2) (.bool ((rd_T38 l0 (ji39)).f2))) (fun _ hk => hk.2) (.int .i64 ((rd_T38 l0 (ji39)).f3))) (fun _ hk => hk.2) (.int .i64 ((rd_T38 l0 (ji39)).f4))) (fun _ hk => hk.2) (.bool ((rd_T38 l0 (ji39)).f5))) (fun _ hk => hk.2) (.bool ((rd_T38 l0 (ji39)).f6))) (fun _ hk => hk.2) (.bool ((rd_T38 l0 (ji39)).f7))) (fun _ hk => hk.2) (.int .i64 ((rd_T38 l0 (ji39)).f8))) (fun _ hk => hk.2) (.int .i64 ((rd_T38 l0 (ji39)).f9))) (fun _ hk => hk.2) (.int .i64 ((rd_T38 l0 (ji39)).f10))) (fun _ hk => hk.2) (.bool ((rd_T38 l0 (ji39)).f11))) (fun _ hk => ⟨hk.1.1, hk.1.2⟩)⟩, ⟨by (with_reducible repeat (first | refine blk_drewN ?_ _ | refine blk_drew ?_ | refine blk_alloc ?_ _)); refine blk_put (cs := #[.int .i64 ((rd_T38 l0 (ji39)).f0), .int .i64 ((rd_T38 l0 (ji39)).f1), .bool ((rd_T38 l0 (ji39)).f2), .int .i64 ((rd_T38 l0 (ji39)).f3), .int .i64 ((rd_T38 l0 (ji39)).f4), .bool ((rd_T38 l0 (ji39)).f5), .bool ((rd_T38 l0 (ji39)).f6), .bool ((rd_T38 l0 (ji39)).f7), .int .i64 ((rd_T38 l0 (ji39)).f8), .int .i64 ((rd_T38 l0 (ji39)).f9), .int .i64 ((rd_T38 l0 (ji39)).f10), .bool false]) ?_ 11 _ rfl; (with_reducible repeat (first | refine blk_drewN ?_ _ | refine blk_drew ?_ | refine blk_alloc ?_ _)); refine blk_put (cs := #[.int .i64 ((rd_T38 l0 (ji39)).f0), .int .i64 ((rd_T38 l0 (ji39)).f1), .bool ((rd_T38 l0 (ji39)).f2), .int .i64 ((rd_T38 l0 (ji39)).f3), .int .i64 ((rd_T38 l0 (ji39)).f4), .bool ((rd_T38 l0 (ji39)).f5), .bool ((rd_T38 l0 (ji39)).f6), .bool ((rd_T38 l0 (ji39)).f7), .int .i64 ((rd_T38 l0 (ji39)).f8), .int .i64 ((rd_T38 l0 (ji39)).f9), .int .i64 0, .bool false]) ?_ 10 _ rfl; (with_reducible repeat (first | refine blk_drewN ?_ _ | refine blk_drew ?_ | refine blk_alloc ?_ _)); refine blk_put (cs := #[.int .i64 ((rd_T38 l0 (ji39)).f0), .int .i64 ((rd_T38 l0 (ji39)).f1), .bool ((rd_T38 l0 (ji39)).f2), .int .i64 ((rd_T38 l0 (ji39)).f3), .int .i64 ((rd_T38 l0 (ji39)).f4), .bool ((rd_T38 l0 (ji39)).f5), .bool ((rd_T38 l0 (ji39)).f6), .bool ((rd_T38 l0 (ji39)).f7), .int .i64 ((rd_T38 l0 (ji39)).f8), .int .i64 0, .int .i64 0, .bool false]) ?_ 9 _ rfl; (with_reducible repeat (first | refine blk_drewN ?_ _ | refine blk_drew ?_ | refine blk_alloc ?_ _)); refine blk_put (cs := #[.int .i64 ((rd_T38 l0 (ji39)).f0), .int .i64 ((rd_T38 l0 (ji39)).f1), .bool ((rd_T38 l0 (ji39)).f2), .int .i64 ((rd_T38 l0 (ji39)).f3), .int .i64 ((rd_T38 l0 (ji39)).f4), .bool ((rd_T38 l0 (ji39)).f5), .bool ((rd_T38 l0 (ji39)).f6), .bool ((rd_T38 l0 (ji39)).f7), .int .i64 0, .int .i64 0, .int .i64 0, .bool false]) ?_ 8 _ rfl; (with_reducible repeat (first | refine blk_drewN ?_ _ | refine blk_drew ?_ | refine blk_alloc ?_ _)); refine blk_put (cs := #[.int .i64 ((rd_T38 l0 (ji39)).f0), .int .i64 ((rd_T38 l0 (ji39)).f1), .bool ((rd_T38 l0 (ji39)).f2), .int .i64 ((rd_T38 l0 (ji39)).f3), .int .i64 ((rd_T38 l0 (ji39)).f4), .bool ((rd_T38 l0 (ji39)).f5), .bool ((rd_T38 l0 (ji39)).f6), .bool false, .int .i64 0, .int .i64 0, .int .i64 0, .bool false]) ?_ 7 _ rfl; (with_reducible repeat (first | refine blk_drewN ?_ _ | refine blk_drew ?_ | refine blk_alloc ?_ _)); refine blk_put (cs := #[.int .i64 ((rd_T38 l0 (ji39)).f0), .int .i64 ((rd_T38 l0 (ji39)).f1), .bool ((rd_T38 l0 (ji39)).f2), .int .i64 ((rd_T38 l0 (ji39)).f3), .int .i64 ((rd_T38 l0 (ji39)).f4), .bool ((rd_T38 l0 (ji39)).f5), .bool false, .bool false, .int .i64 0, .int .i64 0, .int .i64 0, .bool false]) ?_ 6 _ rfl; (with_reducible repeat (first | refine blk_drewN ?_ _ | refine blk_drew ?_ | refine blk_alloc ?_ _)); refine blk_put (cs := #[.int .i64 ((rd_T38 l0 (ji39)).f0), .int .i64 ((rd_T38 l0 (ji39)).f1), .bool ((rd_T38 l0 (ji39)).f2), .int .i64 ((rd_T38 l0 (ji39)).f3), .int .i64 ((rd_T38 l0 (ji39)).f4), .bool false, .bool false, .bool false, .int .i64 0, .int .i64 0, .int .i64 0, .bool false]) ?_ 5 _ rfl; (with_reducible repeat (first | refine blk_drewN ?_ _ | refine blk_drew ?_ | refine blk_alloc ?_ _)); refine blk_put (cs := #[.int .i64 ((rd_T38 l0 (ji39)).f0), .int .i64 ((rd_T38 l0 (ji39)).f1), .bool ((rd_T38 l0 (ji39)).f2), .int .i64 ((rd_T38 l0 (ji39)).f3), .int .i64 0, .bool false, .bool false, .bool false, .int .i64 0, .int .i64 0, .int .i64 0, .bool false]) ?_ 4 _ rfl; (with_reducible repeat (first | refine blk_drewN ?_ _ | refine blk_drew ?_ | refine blk_alloc ?_ _)); refine blk_put (cs := #[.int .i64 ((rd_T38 l0 (ji39)).f0), .int .i64 ((rd_T38 l0 (ji39)).f1), .bool ((rd_T38 l0 (ji39)).f2), .int .i64 0, .int .i64 0, .bool false, .bool false, .bool false, .int .i64 0, .int .i64 0, .int .i64 0, .bool false]) ?_ 3 _ rfl; (with_reducible repeat (first | refine blk_drewN ?_ _ | refine blk_drew ?_ | refine blk_alloc ?_ _)); refine blk_put (cs := #[.int .i64 ((rd_T38 l0 (ji39)).f0), .int .i64 ((rd_T38 l0 (ji39)).f1), .bool false, .int .i64 0, .int .i64 0, .bool false, .bool false, .bool false, .int .i64 0, .int .i64 0, .int .i64 0, .bool false]) ?_ 2 _ rfl; (with_reducible repeat (first | refine blk_drewN ?_ _ | refine blk_drew ?_ | refine blk_alloc ?_ _)); refine blk_put (cs := #[.int .i64 ((rd_T38 l0 (ji39)).f0), .int .i64 0, .bool false, .int .i64 0, .int .i64 0, .bool false, .bool false, .bool false, .int .i64 0, .int .i64 0, .int .i64 0, .bool false]) ?_ 1 _ rfl; (with_reducible repeat (first | refine blk_drewN ?_ _ | refine blk_drew ?_ | refine blk_alloc ?_ _)); refine blk_put (cs := #[.int .i64 0, .int .i64 0, .bool false, .int .i64 0, .int .i64 0, .bool false, .bool false, .bool false, .int .i64 0, .int .i64 0, .int .i64 0, .bool false]) ?_ 0 _ rfl; (with_reducible repeat (first | refine blk_drewN ?_ _ | refine blk_drew ?_ | refine blk_alloc ?_ _)); exact BK209.out⟩, ⟨by repeat (first | (with_reducible first | exact HB.out | apply below_alloc | apply pw_below_drewN | apply below_drew1 | refine below_set ?_ GE209.out) | exact HB.out)⟩⟩
                ·rw [if_neg c46] at H
                 exact absurd H (by simp)
               case rest =>
                clear HC42
                try clear p2
                try clear q2
                try clear hx2
                try clear c4
                try clear p21
                try clear q21
                try clear hx21
                try clear c46
                try clear c47
                try clear c47b0
                try clear c47b1
                try clear hcz51_0
                try clear hcz51_1
                try clear hcz51_10
                try clear hcz51_11
                try clear hcz51_2
                try clear hcz51_3
                try clear hcz51_4
                try clear hcz51_5
                try clear hcz51_6
                try clear hcz51_7
                try clear hcz51_8
                try clear hcz51_9
                try clear hcz52_0
                try clear hcz52_1
                try clear hcz52_10
                try clear hcz52_11
                try clear hcz52_2
                try clear hcz52_3
                try clear hcz52_4
                try clear hcz52_5
                try clear hcz52_6
                try clear hcz52_7
                try clear hcz52_8
                try clear hcz52_9
                try clear hfz51_0
                try clear hfz51_1
                try clear hfz51_10
                try clear hfz51_11
                try clear hfz51_2
                try clear hfz51_3
                try clear hfz51_4
                try clear hfz51_5
                try clear hfz51_6
                try clear hfz51_7
                try clear hfz51_8
                try clear hfz51_9
                try clear hfz52_0
                try clear hfz52_1
                try clear hfz52_10
                try clear hfz52_11
                try clear hfz52_2
                try clear hfz52_3
                try clear hfz52_4
                try clear hfz52_5
                try clear hfz52_6
                try clear hfz52_7
                try clear hfz52_8
                try clear hfz52_9
                try clear hx210_0
                try clear hx210_1
                try clear hx210_10
                try clear hx210_11
                try clear hx210_2
                try clear hx210_3
                try clear hx210_4
                try clear hx210_5
                try clear hx210_6
                try clear hx210_7
                try clear hx210_8
                try clear hx210_9
                try clear hx211_0
                try clear hx211_1
                try clear hx211_10
                try clear hx211_11
                try clear hx211_2
                try clear hx211_3
                try clear hx211_4
                try clear hx211_5
                try clear hx211_6
                try clear hx211_7
                try clear hx211_8
                try clear hx211_9
                try clear p210
                try clear p211
                try clear q210
                try clear q211
                obtain ⟨kq, x117_41, rfl, HA, HJ41, HO_5, HO_6, BK209, HB⟩ := hcut
                cases kq with
                | zero => exact absurd HA.out (by simp [tidewaylaw10_BoardWhole.j4])
                | succ kj41 =>
                 have H := HA.out
                 clear HA
                 simp only [tidewaylaw10_BoardWhole.j4] at H
                 by_cases c53 : x117_41 = true
                 ·subst c53
                  have H1 : (some false) = some r := by rw [if_pos rfl] at H; exact H
                  clear H
                  have H := H1
                  clear H1
                  exact absurd ((Option.some.inj H).trans HRT.out) (by decide)
                 ·replace c53 := Bool.eq_false_iff.mpr c53
                  subst c53
                  have H1 : (tidewaylaw10_BoardWhole.l1 kj41 l0 a1 t193 t194 (wrap64 (x9_4 + 1))) = some r := by rw [if_neg (show ¬ (false = true) by decide)] at H; exact H
                  clear H
                  have H := H1
                  clear H1
                  have H' := Aside0.mk H
                  clear H
                  go_wp2
                  repeat (go_quiet (fail); try go_wp2)
                  go_roundg kj41
                  case measure => have := HJ3.out; have := HJ15.out; have := HK3.out; have := HK4.out; have := HJ41.out; omega
                  case rel => exact ⟨(wrap64 (x9_4 + 1)), (by first | rfl | (simp; done) | (simp [*]; done)), H', ⟨by have := HJ3.out; have := HJ15.out; have := HK3.out; have := HK4.out; have := HJ41.out; omega⟩, ⟨by (with_reducible repeat (first | apply Kd.R_alloc | apply Kd.R_drewN | apply Kd.R_drew)); exact Kd.R_mono HO_5.out (fun _ hk => hk.1)⟩, ⟨by (with_reducible repeat (first | apply Kd.R_alloc | apply Kd.R_drewN | apply Kd.R_drew)); exact Kd.R_mono HO_6.out (fun _ hk => hk.1)⟩, ⟨by repeat (first | (with_reducible first | exact HB.out | apply below_alloc | apply pw_below_drewN | apply below_drew1 | refine below_set ?_ GE209.out) | exact HB.out)⟩⟩
              ·rw [if_neg c41] at H
               exact absurd H (by simp)
             ·rw [if_neg c40] at H
              exact absurd H (by simp)
            ·rw [if_neg c38] at H
             have c38b0 : decide (x9_4 < (t193.length : Int)) = false := decide_eq_false c38
             clear c38
             replace H := Option.bind_eq_some_iff.mp H
             obtain ⟨t207, A540, H⟩ := H
             replace H : (some t207) = some r := H
             have A54 := Aside0.mk A540
             clear A540
             obtain rfl := Option.some.inj H
             obtain ⟨Ao55, co55, eo55⟩ := Kd.R_slice HO_5.out
             subst eo55
             go_wp2_with (first | (go_at_call 22; (with_reducible refine (tidewaylaw10_heads.calls k4  t207 _ A54.out).mono ?_); rintro e w56 ⟨rfl, hb⟩; have n0_ := Aside0.mk (Kd.R_below (by (with_reducible repeat (first | apply Kd.R_alloc | apply Kd.R_drewN | apply Kd.R_drew)); exact HO_5.out) hb); have n1_ := Aside0.mk (Kd.R_below (by (with_reducible repeat (first | apply Kd.R_alloc | apply Kd.R_drewN | apply Kd.R_drew)); exact HO_6.out) hb); have n2_ := Aside0.mk (below_step (by repeat (first | (with_reducible first | exact HB.out | apply below_alloc | apply pw_below_drewN | apply below_drew1) | exact HB.out | exact Below.refl _ _)) hb); clear HO_5; clear HO_6; clear HB; have HO_5 := n0_; have HO_6 := n1_; have HB := n2_; clear n0_ n1_ n2_; (try clear hb); (try clear hb2); (try clear hk); (try clear hi)))
             repeat (go_quiet (first | (go_at_call 22; (with_reducible refine (tidewaylaw10_heads.calls k4  t207 _ A54.out).mono ?_); rintro e w56 ⟨rfl, hb⟩; have n0_ := Aside0.mk (Kd.R_below (by (with_reducible repeat (first | apply Kd.R_alloc | apply Kd.R_drewN | apply Kd.R_drew)); exact HO_5.out) hb); have n1_ := Aside0.mk (Kd.R_below (by (with_reducible repeat (first | apply Kd.R_alloc | apply Kd.R_drewN | apply Kd.R_drew)); exact HO_6.out) hb); have n2_ := Aside0.mk (below_step (by repeat (first | (with_reducible first | exact HB.out | apply below_alloc | apply pw_below_drewN | apply below_drew1) | exact HB.out | exact Below.refl _ _)) hb); clear HO_5; clear HO_6; clear HB; have HO_5 := n0_; have HO_6 := n1_; have HB := n2_; clear n0_ n1_ n2_; (try clear hb); (try clear hb2); (try clear hk); (try clear hi))); try go_wp2_with (first | (go_at_call 22; (with_reducible refine (tidewaylaw10_heads.calls k4  t207 _ A54.out).mono ?_); rintro e w56 ⟨rfl, hb⟩; have n0_ := Aside0.mk (Kd.R_below (by (with_reducible repeat (first | apply Kd.R_alloc | apply Kd.R_drewN | apply Kd.R_drew)); exact HO_5.out) hb); have n1_ := Aside0.mk (Kd.R_below (by (with_reducible repeat (first | apply Kd.R_alloc | apply Kd.R_drewN | apply Kd.R_drew)); exact HO_6.out) hb); have n2_ := Aside0.mk (below_step (by repeat (first | (with_reducible first | exact HB.out | apply below_alloc | apply pw_below_drewN | apply below_drew1) | exact HB.out | exact Below.refl _ _)) hb); clear HO_5; clear HO_6; clear HB; have HO_5 := n0_; have HO_6 := n1_; have HB := n2_; clear n0_ n1_ n2_; (try clear hb); (try clear hb2); (try clear hk); (try clear hi))))
             go_ret
             exact ⟨by first | rfl | (simp [errW_none, errW_some] <;> rfl) | (simp [*, errW_none, errW_some] <;> rfl), by repeat (first | (with_reducible first | exact HB.out | apply below_alloc | apply pw_below_drewN | apply below_drew1) | exact HB.out | exact Below.refl _ _)⟩

end Go.Proofs.Ytgpbighdegdlfaa.PA

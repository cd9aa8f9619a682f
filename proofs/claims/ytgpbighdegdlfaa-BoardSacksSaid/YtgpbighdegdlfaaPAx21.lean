-- Written for the seat Ytgpbighdegdlfaa by this session's program hyb.py (the print's functions, with externals typed by hand).
import Derived.Test.YtgpbighdegdlfaaPAx0
import Derived.Test.YtgpbighdegdlfaaPAx4
import Derived.Test.YtgpbighdegdlfaaPAx9
import Derived.Test.YtgpbighdegdlfaaPAx10
import Derived.Test.YtgpbighdegdlfaaPAx15
import Derived.Test.YtgpbighdegdlfaaPAx18
import Derived.Test.YtgpbighdegdlfaaPAx20
namespace Go.Proofs.Ytgpbighdegdlfaa.PA
open Go.RowKit Go.Proofs.YtgpbighdegdlfaaW.PrintWords Go.Proofs.YtgpbighdegdlfaaW.PrintLast Go.Proofs.YtgpbighdegdlfaaW.PrintMore
attribute [local go_sem] max2_int min2_int max_two min_two max_three min_three max_four min_four   -- for this text's walks alone
set_option linter.unusedVariables false
set_option linter.unusedSimpArgs false

/-! ### tidewaylaw10_BoardSacks: function 5 -/
mutual
def tidewaylaw10_BoardSacks.j0 : Nat → List (S38) → List (S38) → List (S38) → Bool → Option (Bool)
 | 0, _, _, _, _ => none
 | k + 1, x0, x5, x6, x64 => if x64 = true then (some false) else (tidewaylaw10_BoardSacks.l0 k x0 x5 x6 0 0)
def tidewaylaw10_BoardSacks.l0 : Nat → List (S38) → List (S38) → List (S38) → Int → Int → Option (Bool)
 | 0, _, _, _, _, _ => none
 | k + 1, x0, x5, x6, x11, x12 => if x12 < (x6.length : Int) then (if 0 ≤ x12 then (if (rd_T38 x6 x12).f5 = true then (some false) else (if ((rd_T38 x6 x12).f6 = true) then (if (rd_T38 x6 x12).f7 = true then (tidewaylaw10_BoardSacks.l0 k x0 x5 x6 (wrap64 ((wrap64 (x11 + ((rd_T38 x6 x12).f1))) - ((rd_T38 x6 x12).f0))) (wrap64 (x12 + 1))) else (tidewaylaw10_BoardSacks.l0 k x0 x5 x6 x11 (wrap64 (x12 + 1)))) else (tidewaylaw10_BoardSacks.l0 k x0 x5 x6 (wrap64 ((wrap64 (x11 + ((rd_T38 x6 x12).f1))) - ((rd_T38 x6 x12).f0))) (wrap64 (x12 + 1))))) else (none)) else (tidewaylaw10_BoardSacks.l1 k x0 x5 x6 x11 0)
def tidewaylaw10_BoardSacks.l1 : Nat → List (S38) → List (S38) → List (S38) → Int → Int → Option (Bool)
 | 0, _, _, _, _, _ => none
 | k + 1, x0, x5, x6, x11, x14 => if x14 < (x0.length : Int) then (if 0 ≤ x14 then (if (rd_T38 x0 x14).f5 = true then (if x14 < (x5.length : Int) then (if ((rd_T38 x5 x14).f5 = true) then (tidewaylaw10_BoardSacks.l1 k x0 x5 x6 x11 (wrap64 (x14 + 1))) else (some false)) else (none)) else (tidewaylaw10_BoardSacks.l1 k x0 x5 x6 x11 (wrap64 (x14 + 1)))) else (none)) else ((board_Pipe.f x5).bind fun t236 => ((board_Pipe.f x0).bind fun t237 => (if t236 = (wrap64 (t237 - x11)) then ((board_Sacked.f x5).bind fun t238 => ((board_Sacked.f x0).bind fun t239 => (if t238 = (wrap64 (t239 + (x6.length : Int))) then ((tidewaylaw10_heads.f k).bind fun t240 => (some t240)) else (some false)))) else (some false))))
end
def tidewaylaw10_BoardSacks.f (k : Nat) (l0 : List (S38)) (l1 : List (S56)) : Option (Bool) := (board_Sack.f k l0 l1).bind fun bt215 => (if bt215.2.2 = 0 then ((board_Sack.f k bt215.1 l1).bind fun bt223 => (if bt223.2.2 = 0 then (if (bt223.2.1.length : Int) = 0 then ((tidewayref10_Same.f k bt223.1 bt215.1).bind fun t230 => (if t230 = true then ((board_Check.f k bt215.1).bind fun t231 => (if t231 = 0 then (tidewaylaw10_BoardSacks.j0 k l0 bt215.1 bt215.2.1 ((bt215.1.length : Int) != (l0.length : Int))) else (tidewaylaw10_BoardSacks.j0 k l0 bt215.1 bt215.2.1 true))) else (tidewaylaw10_BoardSacks.j0 k l0 bt215.1 bt215.2.1 true))) else (tidewaylaw10_BoardSacks.j0 k l0 bt215.1 bt215.2.1 true)) else (tidewaylaw10_BoardSacks.j0 k l0 bt215.1 bt215.2.1 true))) else (if (wrap64 ((bt215.1.length : Int) + (bt215.2.1.length : Int))) = 0 then ((tidewaylaw10_heads.f k).bind fun t222 => (some t222)) else (some false)))
theorem tidewaylaw10_BoardSacks.mono_l : ∀ k, (∀ y0 y1 y2 y3, LeO (tidewaylaw10_BoardSacks.j0 k y0 y1 y2 y3) (tidewaylaw10_BoardSacks.j0 (k + 1) y0 y1 y2 y3)) ∧ (∀ y0 y1 y2 y3 y4, LeO (tidewaylaw10_BoardSacks.l0 k y0 y1 y2 y3 y4) (tidewaylaw10_BoardSacks.l0 (k + 1) y0 y1 y2 y3 y4)) ∧ (∀ y0 y1 y2 y3 y4, LeO (tidewaylaw10_BoardSacks.l1 k y0 y1 y2 y3 y4) (tidewaylaw10_BoardSacks.l1 (k + 1) y0 y1 y2 y3 y4))
 | 0 => ⟨fun _ _ _ _ r h => by simp [tidewaylaw10_BoardSacks.j0] at h, fun _ _ _ _ _ r h => by simp [tidewaylaw10_BoardSacks.l0] at h, fun _ _ _ _ _ r h => by simp [tidewaylaw10_BoardSacks.l1] at h⟩
 | k + 1 => by
  obtain ⟨ih0, ih1, ih2⟩ := tidewaylaw10_BoardSacks.mono_l k
  refine ⟨?_, ?_, ?_⟩
  ·intro y0 y1 y2 y3
   unfold tidewaylaw10_BoardSacks.j0
   repeat' first
   | (with_reducible exact ih0 _ _ _ _)
   | (with_reducible exact ih1 _ _ _ _ _)
   | (with_reducible exact ih2 _ _ _ _ _)
   | (with_reducible exact board_Check.mono _ _)
   | (with_reducible exact board_Sack.mono _ _ _)
   | (with_reducible exact tidewaylaw10_heads.mono _)
   | (with_reducible exact tidewayref10_Same.mono _ _ _)
   | (with_reducible exact LeO.refl _)
   | (with_reducible exact LeO.none _)
   | (with_reducible refine LeO.ite ?_ ?_)
   | (with_reducible refine LeO.bind ?_ (fun _ => ?_))
   | exact ih0 _ _ _ _
   | exact ih1 _ _ _ _ _
   | exact ih2 _ _ _ _ _
   | exact board_Check.mono _ _
   | exact board_Sack.mono _ _ _
   | exact tidewaylaw10_heads.mono _
   | exact tidewayref10_Same.mono _ _ _
   | exact LeO.none _
   | refine LeO.ite ?_ ?_
   | refine LeO.bind ?_ (fun _ => ?_)
  ·intro y0 y1 y2 y3 y4
   unfold tidewaylaw10_BoardSacks.l0
   repeat' first
   | (with_reducible exact ih0 _ _ _ _)
   | (with_reducible exact ih1 _ _ _ _ _)
   | (with_reducible exact ih2 _ _ _ _ _)
   | (with_reducible exact board_Check.mono _ _)
   | (with_reducible exact board_Sack.mono _ _ _)
   | (with_reducible exact tidewaylaw10_heads.mono _)
   | (with_reducible exact tidewayref10_Same.mono _ _ _)
   | (with_reducible exact LeO.refl _)
   | (with_reducible exact LeO.none _)
   | (with_reducible refine LeO.ite ?_ ?_)
   | (with_reducible refine LeO.bind ?_ (fun _ => ?_))
   | exact ih0 _ _ _ _
   | exact ih1 _ _ _ _ _
   | exact ih2 _ _ _ _ _
   | exact board_Check.mono _ _
   | exact board_Sack.mono _ _ _
   | exact tidewaylaw10_heads.mono _
   | exact tidewayref10_Same.mono _ _ _
   | exact LeO.none _
   | refine LeO.ite ?_ ?_
   | refine LeO.bind ?_ (fun _ => ?_)
  ·intro y0 y1 y2 y3 y4
   unfold tidewaylaw10_BoardSacks.l1
   repeat' first
   | (with_reducible exact ih0 _ _ _ _)
   | (with_reducible exact ih1 _ _ _ _ _)
   | (with_reducible exact ih2 _ _ _ _ _)
   | (with_reducible exact board_Check.mono _ _)
   | (with_reducible exact board_Sack.mono _ _ _)
   | (with_reducible exact tidewaylaw10_heads.mono _)
   | (with_reducible exact tidewayref10_Same.mono _ _ _)
   | (with_reducible exact LeO.refl _)
   | (with_reducible exact LeO.none _)
   | (with_reducible refine LeO.ite ?_ ?_)
   | (with_reducible refine LeO.bind ?_ (fun _ => ?_))
   | exact ih0 _ _ _ _
   | exact ih1 _ _ _ _ _
   | exact ih2 _ _ _ _ _
   | exact board_Check.mono _ _
   | exact board_Sack.mono _ _ _
   | exact tidewaylaw10_heads.mono _
   | exact tidewayref10_Same.mono _ _ _
   | exact LeO.none _
   | refine LeO.ite ?_ ?_
   | refine LeO.bind ?_ (fun _ => ?_)
theorem tidewaylaw10_BoardSacks.mono : ∀ a0 a1 k, LeO (tidewaylaw10_BoardSacks.f k a0 a1) (tidewaylaw10_BoardSacks.f (k + 1) a0 a1) := by
 intro a0 a1 k
 obtain ⟨ih0, ih1, ih2⟩ := tidewaylaw10_BoardSacks.mono_l k
 unfold tidewaylaw10_BoardSacks.f
 repeat' first
   | (with_reducible exact ih0 _ _ _ _)
   | (with_reducible exact ih1 _ _ _ _ _)
   | (with_reducible exact ih2 _ _ _ _ _)
   | (with_reducible exact board_Check.mono _ _)
   | (with_reducible exact board_Sack.mono _ _ _)
   | (with_reducible exact tidewaylaw10_heads.mono _)
   | (with_reducible exact tidewayref10_Same.mono _ _ _)
   | (with_reducible exact LeO.refl _)
   | (with_reducible exact LeO.none _)
   | (with_reducible refine LeO.ite ?_ ?_)
   | (with_reducible refine LeO.bind ?_ (fun _ => ?_))
   | exact ih0 _ _ _ _
   | exact ih1 _ _ _ _ _
   | exact ih2 _ _ _ _ _
   | exact board_Check.mono _ _
   | exact board_Sack.mono _ _ _
   | exact tidewaylaw10_heads.mono _
   | exact tidewayref10_Same.mono _ _ _
   | exact LeO.none _
   | refine LeO.ite ?_ ?_
   | refine LeO.bind ?_ (fun _ => ?_)
set_option maxHeartbeats 8000000 in
set_option maxRecDepth 100000 in
theorem tidewaylaw10_BoardSacks.calls (k : Nat) (A0 : Option Addr) (c0 : Nat) (l0 : List (S38)) (A1 : Option Addr) (c1 : Nat) (l1 : List (S56)) (r : Bool) (w : World) (hr0 : Kd.C k38 w A0 l0.length l0) (hc0 : l0.length ≤ c0) (hr1 : Kd.C k56 w A1 l1.length l1) (hc1 : l1.length ≤ c1) (h : tidewaylaw10_BoardSacks.f k l0 l1 = some r) (hrT : r = true := by rfl) :
  Calls Try.prog 5 #[.slice A0 l0.length c0, .slice A1 l1.length c1] w fun e w' => e = .returned (.bool r) ∧ Below w.heap.size w w' := by
 have HRT := Aside0.mk hrT
 clear hrT
 have hu38 := Try.underlying38
 have HR0 := Aside0.mk hr0
 have HC0 := Aside0.mk hc0
 clear hr0 hc0
 have HR1 := Aside0.mk hr1
 have HC1 := Aside0.mk hc1
 clear hr1 hc1
 have HB := Aside0.mk (Below.refl w.heap.size w)
 have H : ((board_Sack.f k l0 l1).bind fun bt215 => (if bt215.2.2 = 0 then ((board_Sack.f k bt215.1 l1).bind fun bt223 => (if bt223.2.2 = 0 then (if (bt223.2.1.length : Int) = 0 then ((tidewayref10_Same.f k bt223.1 bt215.1).bind fun t230 => (if t230 = true then ((board_Check.f k bt215.1).bind fun t231 => (if t231 = 0 then (tidewaylaw10_BoardSacks.j0 k l0 bt215.1 bt215.2.1 ((bt215.1.length : Int) != (l0.length : Int))) else (tidewaylaw10_BoardSacks.j0 k l0 bt215.1 bt215.2.1 true))) else (tidewaylaw10_BoardSacks.j0 k l0 bt215.1 bt215.2.1 true))) else (tidewaylaw10_BoardSacks.j0 k l0 bt215.1 bt215.2.1 true)) else (tidewaylaw10_BoardSacks.j0 k l0 bt215.1 bt215.2.1 true))) else (if (wrap64 ((bt215.1.length : Int) + (bt215.2.1.length : Int))) = 0 then ((tidewaylaw10_heads.f k).bind fun t222 => (some t222)) else (some false)))) = some r := h
 clear h
 replace H := Option.bind_eq_some_iff.mp H
 obtain ⟨⟨t215, t216, t217⟩, A30, H⟩ := H
 replace H : (if t217 = 0 then ((board_Sack.f k t215 l1).bind fun bt223 => (if bt223.2.2 = 0 then (if (bt223.2.1.length : Int) = 0 then ((tidewayref10_Same.f k bt223.1 t215).bind fun t230 => (if t230 = true then ((board_Check.f k t215).bind fun t231 => (if t231 = 0 then (tidewaylaw10_BoardSacks.j0 k l0 t215 t216 ((t215.length : Int) != (l0.length : Int))) else (tidewaylaw10_BoardSacks.j0 k l0 t215 t216 true))) else (tidewaylaw10_BoardSacks.j0 k l0 t215 t216 true))) else (tidewaylaw10_BoardSacks.j0 k l0 t215 t216 true)) else (tidewaylaw10_BoardSacks.j0 k l0 t215 t216 true))) else (if (wrap64 ((t215.length : Int) + (t216.length : Int))) = 0 then ((tidewaylaw10_heads.f k).bind fun t222 => (some t222)) else (some false))) = some r := H
 have A3 := Aside0.mk A30
 clear A30
 by_cases c4 : t217 = 0
 ·rw [if_pos c4] at H
  have c4b0 : (t217 == 0) = true := beq_iff_eq.mpr c4
  have c4b1 : (t217 != 0) = false := bne_eq_false_iff_eq.mpr c4
  clear c4
  replace H := Option.bind_eq_some_iff.mp H
  obtain ⟨⟨t223, t224, t225⟩, A50, H⟩ := H
  replace H : (if t225 = 0 then (if (t224.length : Int) = 0 then ((tidewayref10_Same.f k t223 t215).bind fun t230 => (if t230 = true then ((board_Check.f k t215).bind fun t231 => (if t231 = 0 then (tidewaylaw10_BoardSacks.j0 k l0 t215 t216 ((t215.length : Int) != (l0.length : Int))) else (tidewaylaw10_BoardSacks.j0 k l0 t215 t216 true))) else (tidewaylaw10_BoardSacks.j0 k l0 t215 t216 true))) else (tidewaylaw10_BoardSacks.j0 k l0 t215 t216 true)) else (tidewaylaw10_BoardSacks.j0 k l0 t215 t216 true)) = some r := H
  have A5 := Aside0.mk A50
  clear A50
  have HC6 := Aside0.mk H
  clear H
  go_enter Try.func5, Try.ntmps5
  go_upto_region 5 with (first | ((with_reducible refine gate_callee (f := 11) rfl ?_); refine goesL_ (some 18) rfl rfl Try.func11 (by kernel_rfl) rfl #[.slice A0 l0.length c0, .slice A1 l1.length c1] rfl (by (try simp only [List.map_toArray, List.map_cons, List.map_nil]); first | done | rfl | (simp only [List.length_drop, List.length_take]; rfl)) ?_; (with_reducible refine (board_Sack.calls k _ _ l0 _ _ l1 t215 t216 t217 _ ?side1 ?side2 ?side3 ?side4 A3.out).mono ?_); (case side1 => repeat (first | exact HR0.out | (with_reducible refine Kd.C_alloc ?_ _) | (with_reducible refine Kd.C_drewN ?_ _) | (with_reducible refine Kd.C_drew ?_))); (case side2 => exact HC0.out); (case side3 => repeat (first | exact HR1.out | (with_reducible refine Kd.C_alloc ?_ _) | (with_reducible refine Kd.C_drewN ?_ _) | (with_reducible refine Kd.C_drew ?_))); (case side4 => exact HC1.out); rintro e w7 ⟨v218, v220, rfl, ho0, ho1, hb⟩; refine ⟨_, rfl, ?_⟩; have n0_ := Aside0.mk (Kd.R_lower ho0 (below_size (by repeat (first | (with_reducible first | exact HB.out | apply below_alloc | apply pw_below_drewN | apply below_drew1) | exact HB.out | exact Below.refl _ _)))); have n1_ := Aside0.mk (Kd.R_lower ho1 (below_size (by repeat (first | (with_reducible first | exact HB.out | apply below_alloc | apply pw_below_drewN | apply below_drew1) | exact HB.out | exact Below.refl _ _)))); have n2_ := Aside0.mk (below_step (by repeat (first | (with_reducible first | exact HB.out | apply below_alloc | apply pw_below_drewN | apply below_drew1) | exact HB.out | exact Below.refl _ _)) hb); clear HB; have HO219 := n0_; have HO221 := n1_; have HB := n2_; clear n0_ n1_ n2_; (try clear hb); (try clear hb2); (try clear hk); (try clear hi); (try clear ho0); (try clear ho1); obtain ⟨Ao8, co8, eo8⟩ := Kd.R_slice HO219.out; subst eo8) | ((with_reducible refine gate_callee (f := 11) rfl ?_); refine goesL_ (some 36) rfl rfl Try.func11 (by kernel_rfl) rfl #[.slice Ao8 t215.length co8, .slice A1 l1.length c1] rfl (by (try simp only [List.map_toArray, List.map_cons, List.map_nil]); first | done | rfl | (simp only [List.length_drop, List.length_take]; rfl)) ?_; (with_reducible refine (board_Sack.calls k _ _ t215 _ _ l1 t223 t224 t225 _ ?side1 ?side2 ?side3 ?side4 A5.out).mono ?_); (case side1 => repeat (first | exact (Kd.R_reads' HO219.out).2.2 | (with_reducible refine Kd.C_alloc ?_ _) | (with_reducible refine Kd.C_drewN ?_ _) | (with_reducible refine Kd.C_drew ?_))); (case side2 => exact (Kd.R_reads' HO219.out).2.1); (case side3 => repeat (first | exact (Kd.C_below HR1.out HB.out) | exact HR1.out | (with_reducible refine Kd.C_alloc ?_ _) | (with_reducible refine Kd.C_drewN ?_ _) | (with_reducible refine Kd.C_drew ?_))); (case side4 => exact HC1.out); rintro e w9 ⟨v226, v228, rfl, ho0, ho1, hb⟩; refine ⟨_, rfl, ?_⟩; have n0_ := Aside0.mk (Kd.R_mono (Kd.R_told (Kd.R_told (Kd.R_old (by (with_reducible repeat (first | apply Kd.R_alloc | apply Kd.R_drewN | apply Kd.R_drew)); exact HO219.out) hb) (Kd.R_base ho0)) (Kd.R_base ho1)) (fun _ h_ => h_.1)); have n1_ := Aside0.mk (Kd.R_mono (Kd.R_told (Kd.R_told (Kd.R_old (by (with_reducible repeat (first | apply Kd.R_alloc | apply Kd.R_drewN | apply Kd.R_drew)); exact HO221.out) hb) (Kd.R_base ho0)) (Kd.R_base ho1)) (fun _ h_ => h_.1)); have n2_ := Aside0.mk (Kd.R_lower (Kd.R_new' (Kd.R_new' ho0 (Kd.R_lt (by (with_reducible repeat (first | apply Kd.R_alloc | apply Kd.R_drewN | apply Kd.R_drew)); exact HO219.out))) (Kd.R_lt (by (with_reducible repeat (first | apply Kd.R_alloc | apply Kd.R_drewN | apply Kd.R_drew)); exact HO221.out))) (below_size (by repeat (first | (with_reducible first | exact HB.out | apply below_alloc | apply pw_below_drewN | apply below_drew1) | exact HB.out | exact Below.refl _ _)))); have n3_ := Aside0.mk (Kd.R_lower (Kd.R_new' (Kd.R_new' ho1 (Kd.R_lt (by (with_reducible repeat (first | apply Kd.R_alloc | apply Kd.R_drewN | apply Kd.R_drew)); exact HO219.out))) (Kd.R_lt (by (with_reducible repeat (first | apply Kd.R_alloc | apply Kd.R_drewN | apply Kd.R_drew)); exact HO221.out))) (below_size (by repeat (first | (with_reducible first | exact HB.out | apply below_alloc | apply pw_below_drewN | apply below_drew1) | exact HB.out | exact Below.refl _ _)))); have n4_ := Aside0.mk (below_step (by repeat (first | (with_reducible first | exact HB.out | apply below_alloc | apply pw_below_drewN | apply below_drew1) | exact HB.out | exact Below.refl _ _)) hb); clear HO219; clear HO221; clear HB; have HO219 := n0_; have HO221 := n1_; have HO227 := n2_; have HO229 := n3_; have HB := n4_; clear n0_ n1_ n2_ n3_ n4_; (try clear hb); (try clear hb2); (try clear hk); (try clear hi); (try clear ho0); (try clear ho1)))
  (try simp only [Act.put, List.setIfInBounds_toArray, List.set_cons_zero, List.set_cons_succ])
  go_cut [64] (fun v64 wc => ∃ (kq : Nat) (x64_5 : Bool), v64 = .bool x64_5 ∧ Aside0 (tidewaylaw10_BoardSacks.j0 kq l0 t215 t216 x64_5 = some r) ∧ Aside0 (kq ≤ k) ∧ Aside0 (Kd.R k38 38 wc w.heap.size (fun k_ => some k_ ≠ (v220 : Value).ownBlock) (.slice Ao8 t215.length co8) t215) ∧ Aside0 (Kd.R k38 38 wc w.heap.size (fun k_ => some k_ ≠ ((.slice Ao8 t215.length co8) : Value).ownBlock) v220 t216) ∧ Aside0 (Below w.heap.size w wc))
  case first =>
   have H := HC6.out
   clear HC6
   by_cases c10 : t225 = 0
   ·rw [if_pos c10] at H
    have c10b0 : (t225 == 0) = true := beq_iff_eq.mpr c10
    have c10b1 : (t225 != 0) = false := bne_eq_false_iff_eq.mpr c10
    clear c10
    (first | rw [c10b0] | (simp only [i64_w, i32_w]; rw [c10b0]) | skip)
    by_cases c11 : (t224.length : Int) = 0
    ·rw [if_pos c11] at H
     have c11b0 : ((t224.length : Int) == 0) = true := beq_iff_eq.mpr c11
     have c11b1 : ((t224.length : Int) != 0) = false := bne_eq_false_iff_eq.mpr c11
     clear c11
     replace H := Option.bind_eq_some_iff.mp H
     obtain ⟨t230, A120, H⟩ := H
     replace H : (if t230 = true then ((board_Check.f k t215).bind fun t231 => (if t231 = 0 then (tidewaylaw10_BoardSacks.j0 k l0 t215 t216 ((t215.length : Int) != (l0.length : Int))) else (tidewaylaw10_BoardSacks.j0 k l0 t215 t216 true))) else (tidewaylaw10_BoardSacks.j0 k l0 t215 t216 true)) = some r := H
     have A12 := Aside0.mk A120
     clear A120
     by_cases c13 : t230 = true
     ·subst c13
      have H1 : ((board_Check.f k t215).bind fun t231 => (if t231 = 0 then (tidewaylaw10_BoardSacks.j0 k l0 t215 t216 ((t215.length : Int) != (l0.length : Int))) else (tidewaylaw10_BoardSacks.j0 k l0 t215 t216 true))) = some r := by rw [if_pos rfl] at H; exact H
      clear H
      have H := H1
      clear H1
      replace H := Option.bind_eq_some_iff.mp H
      obtain ⟨t231, A140, H⟩ := H
      replace H : (if t231 = 0 then (tidewaylaw10_BoardSacks.j0 k l0 t215 t216 ((t215.length : Int) != (l0.length : Int))) else (tidewaylaw10_BoardSacks.j0 k l0 t215 t216 true)) = some r := H
      have A14 := Aside0.mk A140
      clear A140
      by_cases c15 : t231 = 0
      ·rw [if_pos c15] at H
       have c15b0 : (t231 == 0) = true := beq_iff_eq.mpr c15
       have c15b1 : (t231 != 0) = false := bne_eq_false_iff_eq.mpr c15
       clear c15
       have H' := Aside0.mk H
       clear H
       obtain ⟨Ao16, co16, eo16⟩ := Kd.R_slice HO229.out
       subst eo16
       obtain ⟨Ao17, co17, eo17⟩ := Kd.R_slice HO227.out
       subst eo17
       go_wp2_with (first | (go_at_call 13; (with_reducible refine (tidewayref10_Same.calls k _ _ t223 _ _ t215 true _ ?side1 ?side2 ?side3 ?side4 A12.out).mono ?_); (case side1 => repeat (first | exact (Kd.R_reads' HO227.out).2.2 | (with_reducible refine Kd.C_alloc ?_ _) | (with_reducible refine Kd.C_drewN ?_ _) | (with_reducible refine Kd.C_drew ?_))); (case side2 => exact (Kd.R_reads' HO227.out).2.1); (case side3 => repeat (first | exact (Kd.R_reads' HO219.out).2.2 | (with_reducible refine Kd.C_alloc ?_ _) | (with_reducible refine Kd.C_drewN ?_ _) | (with_reducible refine Kd.C_drew ?_))); (case side4 => exact (Kd.R_reads' HO219.out).2.1); rintro e w' ⟨rfl, ⟨nd, rfl⟩⟩) | (go_at_call 23; (with_reducible refine (board_Check.calls k _ _ t215 t231 _ ?side1 ?side2 A14.out).mono ?_); (case side1 => repeat (first | exact (Kd.R_reads' HO219.out).2.2 | (with_reducible refine Kd.C_alloc ?_ _) | (with_reducible refine Kd.C_drewN ?_ _) | (with_reducible refine Kd.C_drew ?_))); (case side2 => exact (Kd.R_reads' HO219.out).2.1); rintro e w18 ⟨rfl, hb⟩; have n0_ := Aside0.mk (Kd.R_below (by (with_reducible repeat (first | apply Kd.R_alloc | apply Kd.R_drewN | apply Kd.R_drew)); exact HO219.out) hb); have n1_ := Aside0.mk (Kd.R_below (by (with_reducible repeat (first | apply Kd.R_alloc | apply Kd.R_drewN | apply Kd.R_drew)); exact HO221.out) hb); have n2_ := Aside0.mk (Kd.R_below (by (with_reducible repeat (first | apply Kd.R_alloc | apply Kd.R_drewN | apply Kd.R_drew)); exact HO227.out) hb); have n3_ := Aside0.mk (Kd.R_below (by (with_reducible repeat (first | apply Kd.R_alloc | apply Kd.R_drewN | apply Kd.R_drew)); exact HO229.out) hb); have n4_ := Aside0.mk (below_step (by repeat (first | (with_reducible first | exact HB.out | apply below_alloc | apply pw_below_drewN | apply below_drew1) | exact HB.out | exact Below.refl _ _)) hb); clear HO219; clear HO221; clear HO227; clear HO229; clear HB; have HO219 := n0_; have HO221 := n1_; have HO227 := n2_; have HO229 := n3_; have HB := n4_; clear n0_ n1_ n2_ n3_ n4_; (try clear hb); (try clear hb2); (try clear hk); (try clear hi)))
       go_meet
       case rel => exact ⟨_, (((t215.length : Int) != (l0.length : Int))), (by first | rfl | (simp; done) | (simp [*]; done)), H', ⟨by first | omega | exact Nat.le_refl _⟩, ⟨by (with_reducible repeat (first | apply Kd.R_alloc | apply Kd.R_drewN | apply Kd.R_drew)); exact Kd.R_mono HO219.out (fun _ hk => hk.1.1)⟩, ⟨by (with_reducible repeat (first | apply Kd.R_alloc | apply Kd.R_drewN | apply Kd.R_drew)); exact Kd.R_mono HO221.out (fun _ hk => hk.1.1)⟩, ⟨by repeat (first | (with_reducible first | exact HB.out | apply below_alloc | apply pw_below_drewN | apply below_drew1) | exact HB.out | exact Below.refl _ _)⟩⟩
      ·rw [if_neg c15] at H
       have c15b0 : (t231 == 0) = false := beq_eq_false_iff_ne.mpr c15
       have c15b1 : (t231 != 0) = true := bne_iff_ne.mpr c15
       have H' := Aside0.mk H
       clear H
       obtain ⟨Ao19, co19, eo19⟩ := Kd.R_slice HO229.out
       subst eo19
       obtain ⟨Ao20, co20, eo20⟩ := Kd.R_slice HO227.out
       subst eo20
       go_wp2_with (first | (go_at_call 13; (with_reducible refine (tidewayref10_Same.calls k _ _ t223 _ _ t215 true _ ?side1 ?side2 ?side3 ?side4 A12.out).mono ?_); (case side1 => repeat (first | exact (Kd.R_reads' HO227.out).2.2 | (with_reducible refine Kd.C_alloc ?_ _) | (with_reducible refine Kd.C_drewN ?_ _) | (with_reducible refine Kd.C_drew ?_))); (case side2 => exact (Kd.R_reads' HO227.out).2.1); (case side3 => repeat (first | exact (Kd.R_reads' HO219.out).2.2 | (with_reducible refine Kd.C_alloc ?_ _) | (with_reducible refine Kd.C_drewN ?_ _) | (with_reducible refine Kd.C_drew ?_))); (case side4 => exact (Kd.R_reads' HO219.out).2.1); rintro e w' ⟨rfl, ⟨nd, rfl⟩⟩) | (go_at_call 23; (with_reducible refine (board_Check.calls k _ _ t215 t231 _ ?side1 ?side2 A14.out).mono ?_); (case side1 => repeat (first | exact (Kd.R_reads' HO219.out).2.2 | (with_reducible refine Kd.C_alloc ?_ _) | (with_reducible refine Kd.C_drewN ?_ _) | (with_reducible refine Kd.C_drew ?_))); (case side2 => exact (Kd.R_reads' HO219.out).2.1); rintro e w21 ⟨rfl, hb⟩; have n0_ := Aside0.mk (Kd.R_below (by (with_reducible repeat (first | apply Kd.R_alloc | apply Kd.R_drewN | apply Kd.R_drew)); exact HO219.out) hb); have n1_ := Aside0.mk (Kd.R_below (by (with_reducible repeat (first | apply Kd.R_alloc | apply Kd.R_drewN | apply Kd.R_drew)); exact HO221.out) hb); have n2_ := Aside0.mk (Kd.R_below (by (with_reducible repeat (first | apply Kd.R_alloc | apply Kd.R_drewN | apply Kd.R_drew)); exact HO227.out) hb); have n3_ := Aside0.mk (Kd.R_below (by (with_reducible repeat (first | apply Kd.R_alloc | apply Kd.R_drewN | apply Kd.R_drew)); exact HO229.out) hb); have n4_ := Aside0.mk (below_step (by repeat (first | (with_reducible first | exact HB.out | apply below_alloc | apply pw_below_drewN | apply below_drew1) | exact HB.out | exact Below.refl _ _)) hb); clear HO219; clear HO221; clear HO227; clear HO229; clear HB; have HO219 := n0_; have HO221 := n1_; have HO227 := n2_; have HO229 := n3_; have HB := n4_; clear n0_ n1_ n2_ n3_ n4_; (try clear hb); (try clear hb2); (try clear hk); (try clear hi)))
       go_meet
       case rel => exact ⟨_, (true), (by first | rfl | (simp; done) | (simp [*]; done)), H', ⟨by first | omega | exact Nat.le_refl _⟩, ⟨by (with_reducible repeat (first | apply Kd.R_alloc | apply Kd.R_drewN | apply Kd.R_drew)); exact Kd.R_mono HO219.out (fun _ hk => hk.1.1)⟩, ⟨by (with_reducible repeat (first | apply Kd.R_alloc | apply Kd.R_drewN | apply Kd.R_drew)); exact Kd.R_mono HO221.out (fun _ hk => hk.1.1)⟩, ⟨by repeat (first | (with_reducible first | exact HB.out | apply below_alloc | apply pw_below_drewN | apply below_drew1) | exact HB.out | exact Below.refl _ _)⟩⟩
     ·replace c13 := Bool.eq_false_iff.mpr c13
      subst c13
      have H1 : (tidewaylaw10_BoardSacks.j0 k l0 t215 t216 true) = some r := by rw [if_neg (show ¬ (false = true) by decide)] at H; exact H
      clear H
      have H := H1
      clear H1
      have H' := Aside0.mk H
      clear H
      obtain ⟨Ao22, co22, eo22⟩ := Kd.R_slice HO229.out
      subst eo22
      obtain ⟨Ao23, co23, eo23⟩ := Kd.R_slice HO227.out
      subst eo23
      go_wp2_with (first | (go_at_call 13; (with_reducible refine (tidewayref10_Same.calls k _ _ t223 _ _ t215 false _ ?side1 ?side2 ?side3 ?side4 A12.out).mono ?_); (case side1 => repeat (first | exact (Kd.R_reads' HO227.out).2.2 | (with_reducible refine Kd.C_alloc ?_ _) | (with_reducible refine Kd.C_drewN ?_ _) | (with_reducible refine Kd.C_drew ?_))); (case side2 => exact (Kd.R_reads' HO227.out).2.1); (case side3 => repeat (first | exact (Kd.R_reads' HO219.out).2.2 | (with_reducible refine Kd.C_alloc ?_ _) | (with_reducible refine Kd.C_drewN ?_ _) | (with_reducible refine Kd.C_drew ?_))); (case side4 => exact (Kd.R_reads' HO219.out).2.1); rintro e w' ⟨rfl, ⟨nd, rfl⟩⟩))
      go_meet
      case rel => exact ⟨_, (true), (by first | rfl | (simp; done) | (simp [*]; done)), H', ⟨by first | omega | exact Nat.le_refl _⟩, ⟨by (with_reducible repeat (first | apply Kd.R_alloc | apply Kd.R_drewN | apply Kd.R_drew)); exact Kd.R_mono HO219.out (fun _ hk => hk.1.1)⟩, ⟨by (with_reducible repeat (first | apply Kd.R_alloc | apply Kd.R_drewN | apply Kd.R_drew)); exact Kd.R_mono HO221.out (fun _ hk => hk.1.1)⟩, ⟨by repeat (first | (with_reducible first | exact HB.out | apply below_alloc | apply pw_below_drewN | apply below_drew1) | exact HB.out | exact Below.refl _ _)⟩⟩
    ·rw [if_neg c11] at H
     have c11b0 : ((t224.length : Int) == 0) = false := beq_eq_false_iff_ne.mpr c11
     have c11b1 : ((t224.length : Int) != 0) = true := bne_iff_ne.mpr c11
     have c11b2 : ¬ (t224 = []) := fun h_ => c11 (by rw [h_]; rfl)
     have H' := Aside0.mk H
     clear H
     obtain ⟨Ao24, co24, eo24⟩ := Kd.R_slice HO229.out
     subst eo24
     go_wp2
     go_meet
     case rel => exact ⟨_, (true), (by first | rfl | (simp; done) | (simp [*]; done)), H', ⟨by first | omega | exact Nat.le_refl _⟩, ⟨by (with_reducible repeat (first | apply Kd.R_alloc | apply Kd.R_drewN | apply Kd.R_drew)); exact Kd.R_mono HO219.out (fun _ hk => hk.1.1)⟩, ⟨by (with_reducible repeat (first | apply Kd.R_alloc | apply Kd.R_drewN | apply Kd.R_drew)); exact Kd.R_mono HO221.out (fun _ hk => hk.1.1)⟩, ⟨by repeat (first | (with_reducible first | exact HB.out | apply below_alloc | apply pw_below_drewN | apply below_drew1) | exact HB.out | exact Below.refl _ _)⟩⟩
   ·rw [if_neg c10] at H
    have c10b0 : (t225 == 0) = false := beq_eq_false_iff_ne.mpr c10
    have c10b1 : (t225 != 0) = true := bne_iff_ne.mpr c10
    (first | rw [c10b0] | (simp only [i64_w, i32_w]; rw [c10b0]) | skip)
    have H' := Aside0.mk H
    clear H
    go_wp2
    go_meet
    case rel => exact ⟨_, (true), (by first | rfl | (simp; done) | (simp [*]; done)), H', ⟨by first | omega | exact Nat.le_refl _⟩, ⟨by (with_reducible repeat (first | apply Kd.R_alloc | apply Kd.R_drewN | apply Kd.R_drew)); exact Kd.R_mono HO219.out (fun _ hk => hk.1.1)⟩, ⟨by (with_reducible repeat (first | apply Kd.R_alloc | apply Kd.R_drewN | apply Kd.R_drew)); exact Kd.R_mono HO221.out (fun _ hk => hk.1.1)⟩, ⟨by repeat (first | (with_reducible first | exact HB.out | apply below_alloc | apply pw_below_drewN | apply below_drew1) | exact HB.out | exact Below.refl _ _)⟩⟩
  case rest =>
   clear HC6
   try clear c1
   try clear p2
   try clear c4
   try clear c4b0
   try clear c4b1
   try clear c5
   try clear p6
   try clear c10
   try clear c10b0
   try clear c10b1
   try clear c11
   try clear c11b0
   try clear c11b1
   try clear c11b2
   try clear c13
   try clear c15
   try clear c15b0
   try clear c15b1
   obtain ⟨kq, x64_5, rfl, HA, HJ5, HO_5, HO_6, HB⟩ := hcut
   cases kq with
   | zero => exact absurd HA.out (by simp [tidewaylaw10_BoardSacks.j0])
   | succ kj5 =>
    have H := HA.out
    clear HA
    simp only [tidewaylaw10_BoardSacks.j0] at H
    by_cases c25 : x64_5 = true
    ·subst c25
     have H1 : (some false) = some r := by rw [if_pos rfl] at H; exact H
     clear H
     have H := H1
     clear H1
     exact absurd ((Option.some.inj H).trans HRT.out) (by decide)
    ·replace c25 := Bool.eq_false_iff.mpr c25
     subst c25
     have H1 : (tidewaylaw10_BoardSacks.l0 kj5 l0 t215 t216 0 0) = some r := by rw [if_neg (show ¬ (false = true) by decide)] at H; exact H
     clear H
     have H := H1
     clear H1
     have H' := Aside0.mk H
     clear H
     go_wp2
     go_loopg [11, 12] kj5 (fun kq v11 v12 w' => ∃ (x11_2 : Int) (x12_2 : Int), v11 = .int .i64 x11_2 ∧ v12 = .int .i64 x12_2 ∧ Aside0 (tidewaylaw10_BoardSacks.l0 kq l0 t215 t216 x11_2 x12_2 = some r) ∧ Aside0 (kq ≤ kj5) ∧ Aside0 (Kd.R k38 38 w' w.heap.size (fun k_ => some k_ ≠ (v220 : Value).ownBlock) (.slice Ao8 t215.length co8) t215) ∧ Aside0 (Kd.R k38 38 w' w.heap.size (fun k_ => some k_ ≠ ((.slice Ao8 t215.length co8) : Value).ownBlock) v220 t216) ∧ Aside0 (Below w.heap.size w w'))
     case atStart => exact ⟨(0), (0), (by first | rfl | (simp; done) | (simp [*]; done)), (by first | rfl | (simp; done) | (simp [*]; done)), H', ⟨Nat.le_refl _⟩, ⟨by (with_reducible repeat (first | apply Kd.R_alloc | apply Kd.R_drewN | apply Kd.R_drew)); exact HO_5.out⟩, ⟨by (with_reducible repeat (first | apply Kd.R_alloc | apply Kd.R_drewN | apply Kd.R_drew)); exact HO_6.out⟩, ⟨by repeat (first | (with_reducible first | exact HB.out | apply below_alloc | apply pw_below_drewN | apply below_drew1) | exact HB.out | exact Below.refl _ _)⟩⟩
     case round =>
      clear H'
      try clear c1
      try clear c2
      try clear p2
      try clear c4
      try clear c4b0
      try clear c4b1
      try clear c5
      try clear p6
      try clear c10
      try clear c10b0
      try clear c10b1
      try clear c11
      try clear c11b0
      try clear c11b1
      try clear c11b2
      try clear c13
      try clear c15
      try clear c15b0
      try clear c15b1
      try clear c25
      try clear p2
      try clear p6
      obtain ⟨x11_2, x12_2, rfl, rfl, HA, HK2, HO_5, HO_6, HB⟩ := hrel
      cases gk with
      | zero => exact absurd HA.out (by simp [tidewaylaw10_BoardSacks.l0])
      | succ k2 =>
       have H := HA.out
       clear HA
       simp only [tidewaylaw10_BoardSacks.l0] at H
       by_cases c26 : x12_2 < (t216.length : Int)
       ·rw [if_pos c26] at H
        have c26b0 : decide (x12_2 < (t216.length : Int)) = true := decide_eq_true c26
        clear c26
        by_cases c27 : 0 ≤ x12_2
        ·rw [if_pos c27] at H
         have c27b0 : decide (0 ≤ x12_2) = true := decide_eq_true c27
         clear c27
         obtain ⟨bq28, hbq28⟩ : ∃ b_ : Bool, b_ = ((rd_T38 t216 x12_2).f5) := ⟨_, rfl⟩
         replace H : (if bq28 = true then (some false) else (if ((rd_T38 t216 x12_2).f6 = true) then (if (rd_T38 t216 x12_2).f7 = true then (tidewaylaw10_BoardSacks.l0 k2 l0 t215 t216 (wrap64 ((wrap64 (x11_2 + ((rd_T38 t216 x12_2).f1))) - ((rd_T38 t216 x12_2).f0))) (wrap64 (x12_2 + 1))) else (tidewaylaw10_BoardSacks.l0 k2 l0 t215 t216 x11_2 (wrap64 (x12_2 + 1)))) else (tidewaylaw10_BoardSacks.l0 k2 l0 t215 t216 (wrap64 ((wrap64 (x11_2 + ((rd_T38 t216 x12_2).f1))) - ((rd_T38 t216 x12_2).f0))) (wrap64 (x12_2 + 1))))) = some r := by rw [← hbq28] at H; exact H
         have Nbq28 := Aside0.mk hbq28
         clear hbq28
         by_cases c29 : bq28 = true
         ·subst c29
          have H1 : (some false) = some r := by rw [if_pos rfl] at H; exact H
          clear H
          have H := H1
          clear H1
          exact absurd ((Option.some.inj H).trans HRT.out) (by decide)
         ·replace c29 := Bool.eq_false_iff.mpr c29
          subst c29
          have H1 : (if ((rd_T38 t216 x12_2).f6 = true) then (if (rd_T38 t216 x12_2).f7 = true then (tidewaylaw10_BoardSacks.l0 k2 l0 t215 t216 (wrap64 ((wrap64 (x11_2 + ((rd_T38 t216 x12_2).f1))) - ((rd_T38 t216 x12_2).f0))) (wrap64 (x12_2 + 1))) else (tidewaylaw10_BoardSacks.l0 k2 l0 t215 t216 x11_2 (wrap64 (x12_2 + 1)))) else (tidewaylaw10_BoardSacks.l0 k2 l0 t215 t216 (wrap64 ((wrap64 (x11_2 + ((rd_T38 t216 x12_2).f1))) - ((rd_T38 t216 x12_2).f0))) (wrap64 (x12_2 + 1)))) = some r := by rw [if_neg (show ¬ (false = true) by decide)] at H; exact H
          clear H
          have H := H1
          clear H1
          obtain ⟨bq30, hbq30⟩ : ∃ b_ : Bool, b_ = ((rd_T38 t216 x12_2).f6) := ⟨_, rfl⟩
          replace H : (if (bq30 = true) then (if (rd_T38 t216 x12_2).f7 = true then (tidewaylaw10_BoardSacks.l0 k2 l0 t215 t216 (wrap64 ((wrap64 (x11_2 + ((rd_T38 t216 x12_2).f1))) - ((rd_T38 t216 x12_2).f0))) (wrap64 (x12_2 + 1))) else (tidewaylaw10_BoardSacks.l0 k2 l0 t215 t216 x11_2 (wrap64 (x12_2 + 1)))) else (tidewaylaw10_BoardSacks.l0 k2 l0 t215 t216 (wrap64 ((wrap64 (x11_2 + ((rd_T38 t216 x12_2).f1))) - ((rd_T38 t216 x12_2).f0))) (wrap64 (x12_2 + 1)))) = some r := by rw [← hbq30] at H; exact H
          have Nbq30 := Aside0.mk hbq30
          clear hbq30
          by_cases c31 : (bq30 = true)
          ·subst c31
           have H1 : (if (rd_T38 t216 x12_2).f7 = true then (tidewaylaw10_BoardSacks.l0 k2 l0 t215 t216 (wrap64 ((wrap64 (x11_2 + ((rd_T38 t216 x12_2).f1))) - ((rd_T38 t216 x12_2).f0))) (wrap64 (x12_2 + 1))) else (tidewaylaw10_BoardSacks.l0 k2 l0 t215 t216 x11_2 (wrap64 (x12_2 + 1)))) = some r := by rw [if_pos rfl] at H; exact H
           clear H
           have H := H1
           clear H1
           obtain ⟨bq32, hbq32⟩ : ∃ b_ : Bool, b_ = ((rd_T38 t216 x12_2).f7) := ⟨_, rfl⟩
           replace H : (if bq32 = true then (tidewaylaw10_BoardSacks.l0 k2 l0 t215 t216 (wrap64 ((wrap64 (x11_2 + ((rd_T38 t216 x12_2).f1))) - ((rd_T38 t216 x12_2).f0))) (wrap64 (x12_2 + 1))) else (tidewaylaw10_BoardSacks.l0 k2 l0 t215 t216 x11_2 (wrap64 (x12_2 + 1)))) = some r := by rw [← hbq32] at H; exact H
           have Nbq32 := Aside0.mk hbq32
           clear hbq32
           by_cases c33 : bq32 = true
           ·subst c33
            have H1 : (tidewaylaw10_BoardSacks.l0 k2 l0 t215 t216 (wrap64 ((wrap64 (x11_2 + ((rd_T38 t216 x12_2).f1))) - ((rd_T38 t216 x12_2).f0))) (wrap64 (x12_2 + 1))) = some r := by rw [if_pos rfl] at H; exact H
            clear H
            have H := H1
            clear H1
            have H' := Aside0.mk H
            clear H
            obtain ⟨Ao34, co34, eo34⟩ := Kd.R_slice HO_6.out
            subst eo34
            have p232 : 0 ≤ (x12_2 : Int) := of_decide_eq_true (by first | (with_reducible assumption) | assumption)
            have q232 : x12_2 < (t216.length : Int) := of_decide_eq_true (by first | (with_reducible assumption) | assumption)
            obtain ⟨ad232, e232, hx232_0, hx232_1, hx232_2, hx232_3, hx232_4, hx232_5, hx232_6, hx232_7, hx232_8, hx232_9, hx232_10, hx232_11⟩ := at_T38 (Kd.R_reads' HO_6.out).2.2 x12_2 p232 q232
            (try rw [← Nbq28.out] at hx232_2)
            (try rw [← Nbq30.out] at hx232_2)
            (try rw [← Nbq32.out] at hx232_2)
            (try rw [← Nbq28.out] at hx232_5)
            (try rw [← Nbq30.out] at hx232_5)
            (try rw [← Nbq32.out] at hx232_5)
            (try rw [← Nbq28.out] at hx232_6)
            (try rw [← Nbq30.out] at hx232_6)
            (try rw [← Nbq32.out] at hx232_6)
            (try rw [← Nbq28.out] at hx232_7)
            (try rw [← Nbq30.out] at hx232_7)
            (try rw [← Nbq32.out] at hx232_7)
            (try rw [← Nbq28.out] at hx232_11)
            (try rw [← Nbq30.out] at hx232_11)
            (try rw [← Nbq32.out] at hx232_11)
            cases e232
            replace p232 := eq_true p232
            replace q232 := eq_true q232
            go_wp2_with (first | ((with_reducible refine gate_dst (N := 13) rfl ?_); (try (refine gate_guard (by rfl) ?_; dsimp only)); refine box_event ?hg (N := 13) ?hd (cs := #[.int .i64 0, .int .i64 0, .bool false, .int .i64 0, .int .i64 0, .bool false, .bool false, .bool false, .int .i64 0, .int .i64 0, .int .i64 0, .bool false]) (t := 38) ?hr ?_; (case hd => rfl); (case hg => rfl); (case hr => first | (go_simp; done) | (go_simp; rfl)); intro gb233 hg w35 hbox hb; have n0_ := Aside0.mk (Kd.R_below (Kd.R_elderB (by (with_reducible repeat (first | apply Kd.R_alloc | apply Kd.R_drewN | apply Kd.R_drew)); exact HO_5.out) gb233 (Nat.le_of_eq hg.symm)) hb); have n1_ := Aside0.mk (Kd.R_below (Kd.R_elderB (by (with_reducible repeat (first | apply Kd.R_alloc | apply Kd.R_drewN | apply Kd.R_drew)); exact HO_6.out) gb233 (Nat.le_of_eq hg.symm)) hb); have n2_ := Aside0.mk (below_step (by repeat (first | (with_reducible first | exact HB.out | apply below_alloc | apply pw_below_drewN | apply below_drew1) | exact HB.out | exact Below.refl _ _)) hb); have n3_ := Aside0.mk (hbox); have n4_ := Aside0.mk ((by rw [hg]; exact (below_size (by repeat (first | (with_reducible first | exact HB.out | apply below_alloc | apply pw_below_drewN | apply below_drew1) | exact HB.out | exact Below.refl _ _))) : w.heap.size ≤ gb233)); have n5_ := Aside0.mk ((by rw [hg]; exact (below_size (by repeat (first | (with_reducible first | exact HB.out | apply below_alloc | apply pw_below_drewN | apply below_drew1) | exact HB.out | exact Below.refl _ _))) : w.heap.size ≤ gb233)); clear HO_5; clear HO_6; clear HB; have HO_5 := n0_; have HO_6 := n1_; have HB := n2_; have BK233 := n3_; have GW233 := n4_; have GE233 := n5_; clear n0_ n1_ n2_ n3_ n4_ n5_; clear hb hbox hg; have hcz36_0 : w35.cell? ⟨gb233, 0, none⟩ = some (.int .i64 0) := (blk_cell BK233.out 0).trans rfl; have hcz36_1 : w35.cell? ⟨gb233, 1, none⟩ = some (.int .i64 0) := (blk_cell BK233.out 1).trans rfl; have hcz36_2 : w35.cell? ⟨gb233, 2, none⟩ = some (.bool false) := (blk_cell BK233.out 2).trans rfl; have hcz36_3 : w35.cell? ⟨gb233, 3, none⟩ = some (.int .i64 0) := (blk_cell BK233.out 3).trans rfl; have hcz36_4 : w35.cell? ⟨gb233, 4, none⟩ = some (.int .i64 0) := (blk_cell BK233.out 4).trans rfl; have hcz36_5 : w35.cell? ⟨gb233, 5, none⟩ = some (.bool false) := (blk_cell BK233.out 5).trans rfl; have hcz36_6 : w35.cell? ⟨gb233, 6, none⟩ = some (.bool false) := (blk_cell BK233.out 6).trans rfl; have hcz36_7 : w35.cell? ⟨gb233, 7, none⟩ = some (.bool false) := (blk_cell BK233.out 7).trans rfl; have hcz36_8 : w35.cell? ⟨gb233, 8, none⟩ = some (.int .i64 0) := (blk_cell BK233.out 8).trans rfl; have hcz36_9 : w35.cell? ⟨gb233, 9, none⟩ = some (.int .i64 0) := (blk_cell BK233.out 9).trans rfl; have hcz36_10 : w35.cell? ⟨gb233, 10, none⟩ = some (.int .i64 0) := (blk_cell BK233.out 10).trans rfl; have hcz36_11 : w35.cell? ⟨gb233, 11, none⟩ = some (.bool false) := (blk_cell BK233.out 11).trans rfl; have hfz36_0 := blk_frozen BK233.out 0; have hfz36_1 := blk_frozen BK233.out 1; have hfz36_2 := blk_frozen BK233.out 2; have hfz36_3 := blk_frozen BK233.out 3; have hfz36_4 := blk_frozen BK233.out 4; have hfz36_5 := blk_frozen BK233.out 5; have hfz36_6 := blk_frozen BK233.out 6; have hfz36_7 := blk_frozen BK233.out 7; have hfz36_8 := blk_frozen BK233.out 8; have hfz36_9 := blk_frozen BK233.out 9; have hfz36_10 := blk_frozen BK233.out 10; have hfz36_11 := blk_frozen BK233.out 11))
            go_roundg k2
            case measure => have := HJ5.out; have := HK2.out; omega
            case rel => exact ⟨(wrap64 ((wrap64 (x11_2 + ((rd_T38 t216 x12_2).f1))) - ((rd_T38 t216 x12_2).f0))), (wrap64 (x12_2 + 1)), (by first | rfl | (simp; done) | (simp [*]; done)), (by first | rfl | (simp; done) | (simp [*]; done)), H', ⟨by have := HJ5.out; have := HK2.out; omega⟩, ⟨by (with_reducible repeat (first | apply Kd.R_alloc | apply Kd.R_drewN | apply Kd.R_drew)); exact Kd.R_mono (Kd.R_far (p := ⟨gb233, 11, none⟩) (Kd.R_far (p := ⟨gb233, 10, none⟩) (Kd.R_far (p := ⟨gb233, 9, none⟩) (Kd.R_far (p := ⟨gb233, 8, none⟩) (Kd.R_far (p := ⟨gb233, 7, none⟩) (Kd.R_far (p := ⟨gb233, 6, none⟩) (Kd.R_far (p := ⟨gb233, 5, none⟩) (Kd.R_far (p := ⟨gb233, 4, none⟩) (Kd.R_far (p := ⟨gb233, 3, none⟩) (Kd.R_far (p := ⟨gb233, 2, none⟩) (Kd.R_far (p := ⟨gb233, 1, none⟩) (Kd.R_far (p := ⟨gb233, 0, none⟩) (Kd.R_mono HO_5.out (fun k_ hk => (⟨hk, hk.2⟩ : _ ∧ k_ ≠ gb233))) (fun _ hk => hk.2) (.int .i64 ((rd_T38 t216 x12_2).f0))) (fun _ hk => hk.2) (.int .i64 ((rd_T38 t216 x12_2).f1))) (fun _ hk => hk.2) (.bool ((rd_T38 t216 x12_2).f2))) (fun _ hk => hk.2) (.int .i64 ((rd_T38 t216 x12_2).f3))) (fun _ hk => hk.2) (.int .i64 ((rd_T38 t216 x12_2).f4))) (fun _ hk => hk.2) (.bool false)) (fun _ hk => hk.2) (.bool true)) (fun _ hk => hk.2) (.bool true)) (fun _ hk => hk.2) (.int .i64 ((rd_T38 t216 x12_2).f8))) (fun _ hk => hk.2) (.int .i64 ((rd_T38 t216 x12_2).f9))) (fun _ hk => hk.2) (.int .i64 ((rd_T38 t216 x12_2).f10))) (fun _ hk => hk.2) (.bool ((rd_T38 t216 x12_2).f11))) (fun _ hk => hk.1.1)⟩, ⟨by (with_reducible repeat (first | apply Kd.R_alloc | apply Kd.R_drewN | apply Kd.R_drew)); exact Kd.R_mono (Kd.R_far (p := ⟨gb233, 11, none⟩) (Kd.R_far (p := ⟨gb233, 10, none⟩) (Kd.R_far (p := ⟨gb233, 9, none⟩) (Kd.R_far (p := ⟨gb233, 8, none⟩) (Kd.R_far (p := ⟨gb233, 7, none⟩) (Kd.R_far (p := ⟨gb233, 6, none⟩) (Kd.R_far (p := ⟨gb233, 5, none⟩) (Kd.R_far (p := ⟨gb233, 4, none⟩) (Kd.R_far (p := ⟨gb233, 3, none⟩) (Kd.R_far (p := ⟨gb233, 2, none⟩) (Kd.R_far (p := ⟨gb233, 1, none⟩) (Kd.R_far (p := ⟨gb233, 0, none⟩) (Kd.R_mono HO_6.out (fun k_ hk => (⟨hk, hk.2⟩ : _ ∧ k_ ≠ gb233))) (fun _ hk => hk.2) (.int .i64 ((rd_T38 t216 x12_2).f0))) (fun _ hk => hk.2) (.int .i64 ((rd_T38 t216 x12_2).f1))) (fun _ hk => hk.2) (.bool ((rd_T38 t216 x12_2).f2))) (fun _ hk => hk.2) (.int .i64 ((rd_T38 t216 x12_2).f3))) (fun _ hk => hk.2) (.int .i64 ((rd_T38 t216 x12_2).f4))) (fun _ hk => hk.2) (.bool false)) (fun _ hk => hk.2) (.bool true)) (fun _ hk => hk.2) (.bool true)) (fun _ hk => hk.2) (.int .i64 ((rd_T38 t216 x12_2).f8))) (fun _ hk => hk.2) (.int .i64 ((rd_T38 t216 x12_2).f9))) (fun _ hk => hk.2) (.int .i64 ((rd_T38 t216 x12_2).f10))) (fun _ hk => hk.2) (.bool ((rd_T38 t216 x12_2).f11))) (fun _ hk => hk.1.1)⟩, ⟨by repeat (first | (with_reducible first | exact HB.out | apply below_alloc | apply pw_below_drewN | apply below_drew1 | refine below_set ?_ GE233.out) | exact HB.out)⟩⟩
           ·replace c33 := Bool.eq_false_iff.mpr c33
            subst c33
            have H1 : (tidewaylaw10_BoardSacks.l0 k2 l0 t215 t216 x11_2 (wrap64 (x12_2 + 1))) = some r := by rw [if_neg (show ¬ (false = true) by decide)] at H; exact H
            clear H
            have H := H1
            clear H1
            have H' := Aside0.mk H
            clear H
            obtain ⟨Ao37, co37, eo37⟩ := Kd.R_slice HO_6.out
            subst eo37
            have p232 : 0 ≤ (x12_2 : Int) := of_decide_eq_true (by first | (with_reducible assumption) | assumption)
            have q232 : x12_2 < (t216.length : Int) := of_decide_eq_true (by first | (with_reducible assumption) | assumption)
            obtain ⟨ad232, e232, hx232_0, hx232_1, hx232_2, hx232_3, hx232_4, hx232_5, hx232_6, hx232_7, hx232_8, hx232_9, hx232_10, hx232_11⟩ := at_T38 (Kd.R_reads' HO_6.out).2.2 x12_2 p232 q232
            (try rw [← Nbq28.out] at hx232_2)
            (try rw [← Nbq30.out] at hx232_2)
            (try rw [← Nbq32.out] at hx232_2)
            (try rw [← Nbq28.out] at hx232_5)
            (try rw [← Nbq30.out] at hx232_5)
            (try rw [← Nbq32.out] at hx232_5)
            (try rw [← Nbq28.out] at hx232_6)
            (try rw [← Nbq30.out] at hx232_6)
            (try rw [← Nbq32.out] at hx232_6)
            (try rw [← Nbq28.out] at hx232_7)
            (try rw [← Nbq30.out] at hx232_7)
            (try rw [← Nbq32.out] at hx232_7)
            (try rw [← Nbq28.out] at hx232_11)
            (try rw [← Nbq30.out] at hx232_11)
            (try rw [← Nbq32.out] at hx232_11)
            cases e232
            replace p232 := eq_true p232
            replace q232 := eq_true q232
            go_wp2_with (first | ((with_reducible refine gate_dst (N := 13) rfl ?_); (try (refine gate_guard (by rfl) ?_; dsimp only)); refine box_event ?hg (N := 13) ?hd (cs := #[.int .i64 0, .int .i64 0, .bool false, .int .i64 0, .int .i64 0, .bool false, .bool false, .bool false, .int .i64 0, .int .i64 0, .int .i64 0, .bool false]) (t := 38) ?hr ?_; (case hd => rfl); (case hg => rfl); (case hr => first | (go_simp; done) | (go_simp; rfl)); intro gb233 hg w38 hbox hb; have n0_ := Aside0.mk (Kd.R_below (Kd.R_elderB (by (with_reducible repeat (first | apply Kd.R_alloc | apply Kd.R_drewN | apply Kd.R_drew)); exact HO_5.out) gb233 (Nat.le_of_eq hg.symm)) hb); have n1_ := Aside0.mk (Kd.R_below (Kd.R_elderB (by (with_reducible repeat (first | apply Kd.R_alloc | apply Kd.R_drewN | apply Kd.R_drew)); exact HO_6.out) gb233 (Nat.le_of_eq hg.symm)) hb); have n2_ := Aside0.mk (below_step (by repeat (first | (with_reducible first | exact HB.out | apply below_alloc | apply pw_below_drewN | apply below_drew1) | exact HB.out | exact Below.refl _ _)) hb); have n3_ := Aside0.mk (hbox); have n4_ := Aside0.mk ((by rw [hg]; exact (below_size (by repeat (first | (with_reducible first | exact HB.out | apply below_alloc | apply pw_below_drewN | apply below_drew1) | exact HB.out | exact Below.refl _ _))) : w.heap.size ≤ gb233)); have n5_ := Aside0.mk ((by rw [hg]; exact (below_size (by repeat (first | (with_reducible first | exact HB.out | apply below_alloc | apply pw_below_drewN | apply below_drew1) | exact HB.out | exact Below.refl _ _))) : w.heap.size ≤ gb233)); clear HO_5; clear HO_6; clear HB; have HO_5 := n0_; have HO_6 := n1_; have HB := n2_; have BK233 := n3_; have GW233 := n4_; have GE233 := n5_; clear n0_ n1_ n2_ n3_ n4_ n5_; clear hb hbox hg; have hcz39_0 : w38.cell? ⟨gb233, 0, none⟩ = some (.int .i64 0) := (blk_cell BK233.out 0).trans rfl; have hcz39_1 : w38.cell? ⟨gb233, 1, none⟩ = some (.int .i64 0) := (blk_cell BK233.out 1).trans rfl; have hcz39_2 : w38.cell? ⟨gb233, 2, none⟩ = some (.bool false) := (blk_cell BK233.out 2).trans rfl; have hcz39_3 : w38.cell? ⟨gb233, 3, none⟩ = some (.int .i64 0) := (blk_cell BK233.out 3).trans rfl; have hcz39_4 : w38.cell? ⟨gb233, 4, none⟩ = some (.int .i64 0) := (blk_cell BK233.out 4).trans rfl; have hcz39_5 : w38.cell? ⟨gb233, 5, none⟩ = some (.bool false) := (blk_cell BK233.out 5).trans rfl; have hcz39_6 : w38.cell? ⟨gb233, 6, none⟩ = some (.bool false) := (blk_cell BK233.out 6).trans rfl; have hcz39_7 : w38.cell? ⟨gb233, 7, none⟩ = some (.bool false) := (blk_cell BK233.out 7).trans rfl; have hcz39_8 : w38.cell? ⟨gb233, 8, none⟩ = some (.int .i64 0) := (blk_cell BK233.out 8).trans rfl; have hcz39_9 : w38.cell? ⟨gb233, 9, none⟩ = some (.int .i64 0) := (blk_cell BK233.out 9).trans rfl; have hcz39_10 : w38.cell? ⟨gb233, 10, none⟩ = some (.int .i64 0) := (blk_cell BK233.out 10).trans rfl; have hcz39_11 : w38.cell? ⟨gb233, 11, none⟩ = some (.bool false) := (blk_cell BK233.out 11).trans rfl; have hfz39_0 := blk_frozen BK233.out 0; have hfz39_1 := blk_frozen BK233.out 1; have hfz39_2 := blk_frozen BK233.out 2; have hfz39_3 := blk_frozen BK233.out 3; have hfz39_4 := blk_frozen BK233.out 4; have hfz39_5 := blk_frozen BK233.out 5; have hfz39_6 := blk_frozen BK233.out 6; have hfz39_7 := blk_frozen BK233.out 7; have hfz39_8 := blk_frozen BK233.out 8; have hfz39_9 := blk_frozen BK233.out 9; have hfz39_10 := blk_frozen BK233.out 10; have hfz39_11 := blk_frozen BK233.out 11))
            go_roundg k2
            case measure => have := HJ5.out; have := HK2.out; omega
            case rel => exact ⟨(x11_2), (wrap64 (x12_2 + 1)), (by first | rfl | (simp; done) | (simp [*]; done)), (by first | rfl | (simp; done) | (simp [*]; done)), H', ⟨by have := HJ5.out; have := HK2.out; omega⟩, ⟨by (with_reducible repeat (first | apply Kd.R_alloc | apply Kd.R_drewN | apply Kd.R_drew)); exact Kd.R_mono (Kd.R_far (p := ⟨gb233, 11, none⟩) (Kd.R_far (p := ⟨gb233, 10, none⟩) (Kd.R_far (p := ⟨gb233, 9, none⟩) (Kd.R_far (p := ⟨gb233, 8, none⟩) (Kd.R_far (p := ⟨gb233, 7, none⟩) (Kd.R_far (p := ⟨gb233, 6, none⟩) (Kd.R_far (p := ⟨gb233, 5, none⟩) (Kd.R_far (p := ⟨gb233, 4, none⟩) (Kd.R_far (p := ⟨gb233, 3, none⟩) (Kd.R_far (p := ⟨gb233, 2, none⟩) (Kd.R_far (p := ⟨gb233, 1, none⟩) (Kd.R_far (p := ⟨gb233, 0, none⟩) (Kd.R_mono HO_5.out (fun k_ hk => (⟨hk, hk.2⟩ : _ ∧ k_ ≠ gb233))) (fun _ hk => hk.2) (.int .i64 ((rd_T38 t216 x12_2).f0))) (fun _ hk => hk.2) (.int .i64 ((rd_T38 t216 x12_2).f1))) (fun _ hk => hk.2) (.bool ((rd_T38 t216 x12_2).f2))) (fun _ hk => hk.2) (.int .i64 ((rd_T38 t216 x12_2).f3))) (fun _ hk => hk.2) (.int .i64 ((rd_T38 t216 x12_2).f4))) (fun _ hk => hk.2) (.bool false)) (fun _ hk => hk.2) (.bool true)) (fun _ hk => hk.2) (.bool false)) (fun _ hk => hk.2) (.int .i64 ((rd_T38 t216 x12_2).f8))) (fun _ hk => hk.2) (.int .i64 ((rd_T38 t216 x12_2).f9))) (fun _ hk => hk.2) (.int .i64 ((rd_T38 t216 x12_2).f10))) (fun _ hk => hk.2) (.bool ((rd_T38 t216 x12_2).f11))) (fun _ hk => hk.1.1)⟩, ⟨by (with_reducible repeat (first | apply Kd.R_alloc | apply Kd.R_drewN | apply Kd.R_drew)); exact Kd.R_mono (Kd.R_far (p := ⟨gb233, 11, none⟩) (Kd.R_far (p := ⟨gb233, 10, none⟩) (Kd.R_far (p := ⟨gb233, 9, none⟩) (Kd.R_far (p := ⟨gb233, 8, none⟩) (Kd.R_far (p := ⟨gb233, 7, none⟩) (Kd.R_far (p := ⟨gb233, 6, none⟩) (Kd.R_far (p := ⟨gb233, 5, none⟩) (Kd.R_far (p := ⟨gb233, 4, none⟩) (Kd.R_far (p := ⟨gb233, 3, none⟩) (Kd.R_far (p := ⟨gb233, 2, none⟩) (Kd.R_far (p := ⟨gb233, 1, none⟩) (Kd.R_far (p := ⟨gb233, 0, none⟩) (Kd.R_mono HO_6.out (fun k_ hk => (⟨hk, hk.2⟩ : _ ∧ k_ ≠ gb233))) (fun _ hk => hk.2) (.int .i64 ((rd_T38 t216 x12_2).f0))) (fun _ hk => hk.2) (.int .i64 ((rd_T38 t216 x12_2).f1))) (fun _ hk => hk.2) (.bool ((rd_T38 t216 x12_2).f2))) (fun _ hk => hk.2) (.int .i64 ((rd_T38 t216 x12_2).f3))) (fun _ hk => hk.2) (.int .i64 ((rd_T38 t216 x12_2).f4))) (fun _ hk => hk.2) (.bool false)) (fun _ hk => hk.2) (.bool true)) (fun _ hk => hk.2) (.bool false)) (fun _ hk => hk.2) (.int .i64 ((rd_T38 t216 x12_2).f8))) (fun _ hk => hk.2) (.int .i64 ((rd_T38 t216 x12_2).f9))) (fun _ hk => hk.2) (.int .i64 ((rd_T38 t216 x12_2).f10))) (fun _ hk => hk.2) (.bool ((rd_T38 t216 x12_2).f11))) (fun _ hk => hk.1.1)⟩, ⟨by repeat (first | (with_reducible first | exact HB.out | apply below_alloc | apply pw_below_drewN | apply below_drew1 | refine below_set ?_ GE233.out) | exact HB.out)⟩⟩
          ·replace c31 := Bool.eq_false_iff.mpr c31
           subst c31
           have H1 : (tidewaylaw10_BoardSacks.l0 k2 l0 t215 t216 (wrap64 ((wrap64 (x11_2 + ((rd_T38 t216 x12_2).f1))) - ((rd_T38 t216 x12_2).f0))) (wrap64 (x12_2 + 1))) = some r := by rw [if_neg (show ¬ (false = true) by decide)] at H; exact H
           clear H
           have H := H1
           clear H1
           have H' := Aside0.mk H
           clear H
           obtain ⟨Ao40, co40, eo40⟩ := Kd.R_slice HO_6.out
           subst eo40
           have p232 : 0 ≤ (x12_2 : Int) := of_decide_eq_true (by first | (with_reducible assumption) | assumption)
           have q232 : x12_2 < (t216.length : Int) := of_decide_eq_true (by first | (with_reducible assumption) | assumption)
           obtain ⟨ad232, e232, hx232_0, hx232_1, hx232_2, hx232_3, hx232_4, hx232_5, hx232_6, hx232_7, hx232_8, hx232_9, hx232_10, hx232_11⟩ := at_T38 (Kd.R_reads' HO_6.out).2.2 x12_2 p232 q232
           (try rw [← Nbq28.out] at hx232_2)
           (try rw [← Nbq30.out] at hx232_2)
           (try rw [← Nbq28.out] at hx232_5)
           (try rw [← Nbq30.out] at hx232_5)
           (try rw [← Nbq28.out] at hx232_6)
           (try rw [← Nbq30.out] at hx232_6)
           (try rw [← Nbq28.out] at hx232_7)
           (try rw [← Nbq30.out] at hx232_7)
           (try rw [← Nbq28.out] at hx232_11)
           (try rw [← Nbq30.out] at hx232_11)
           cases e232
           replace p232 := eq_true p232
           replace q232 := eq_true q232
           go_wp2_with (first | ((with_reducible refine gate_dst (N := 13) rfl ?_); (try (refine gate_guard (by rfl) ?_; dsimp only)); refine box_event ?hg (N := 13) ?hd (cs := #[.int .i64 0, .int .i64 0, .bool false, .int .i64 0, .int .i64 0, .bool false, .bool false, .bool false, .int .i64 0, .int .i64 0, .int .i64 0, .bool false]) (t := 38) ?hr ?_; (case hd => rfl); (case hg => rfl); (case hr => first | (go_simp; done) | (go_simp; rfl)); intro gb233 hg w41 hbox hb; have n0_ := Aside0.mk (Kd.R_below (Kd.R_elderB (by (with_reducible repeat (first | apply Kd.R_alloc | apply Kd.R_drewN | apply Kd.R_drew)); exact HO_5.out) gb233 (Nat.le_of_eq hg.symm)) hb); have n1_ := Aside0.mk (Kd.R_below (Kd.R_elderB (by (with_reducible repeat (first | apply Kd.R_alloc | apply Kd.R_drewN | apply Kd.R_drew)); exact HO_6.out) gb233 (Nat.le_of_eq hg.symm)) hb); have n2_ := Aside0.mk (below_step (by repeat (first | (with_reducible first | exact HB.out | apply below_alloc | apply pw_below_drewN | apply below_drew1) | exact HB.out | exact Below.refl _ _)) hb); have n3_ := Aside0.mk (hbox); have n4_ := Aside0.mk ((by rw [hg]; exact (below_size (by repeat (first | (with_reducible first | exact HB.out | apply below_alloc | apply pw_below_drewN | apply below_drew1) | exact HB.out | exact Below.refl _ _))) : w.heap.size ≤ gb233)); have n5_ := Aside0.mk ((by rw [hg]; exact (below_size (by repeat (first | (with_reducible first | exact HB.out | apply below_alloc | apply pw_below_drewN | apply below_drew1) | exact HB.out | exact Below.refl _ _))) : w.heap.size ≤ gb233)); clear HO_5; clear HO_6; clear HB; have HO_5 := n0_; have HO_6 := n1_; have HB := n2_; have BK233 := n3_; have GW233 := n4_; have GE233 := n5_; clear n0_ n1_ n2_ n3_ n4_ n5_; clear hb hbox hg; have hcz42_0 : w41.cell? ⟨gb233, 0, none⟩ = some (.int .i64 0) := (blk_cell BK233.out 0).trans rfl; have hcz42_1 : w41.cell? ⟨gb233, 1, none⟩ = some (.int .i64 0) := (blk_cell BK233.out 1).trans rfl; have hcz42_2 : w41.cell? ⟨gb233, 2, none⟩ = some (.bool false) := (blk_cell BK233.out 2).trans rfl; have hcz42_3 : w41.cell? ⟨gb233, 3, none⟩ = some (.int .i64 0) := (blk_cell BK233.out 3).trans rfl; have hcz42_4 : w41.cell? ⟨gb233, 4, none⟩ = some (.int .i64 0) := (blk_cell BK233.out 4).trans rfl; have hcz42_5 : w41.cell? ⟨gb233, 5, none⟩ = some (.bool false) := (blk_cell BK233.out 5).trans rfl; have hcz42_6 : w41.cell? ⟨gb233, 6, none⟩ = some (.bool false) := (blk_cell BK233.out 6).trans rfl; have hcz42_7 : w41.cell? ⟨gb233, 7, none⟩ = some (.bool false) := (blk_cell BK233.out 7).trans rfl; have hcz42_8 : w41.cell? ⟨gb233, 8, none⟩ = some (.int .i64 0) := (blk_cell BK233.out 8).trans rfl; have hcz42_9 : w41.cell? ⟨gb233, 9, none⟩ = some (.int .i64 0) := (blk_cell BK233.out 9).trans rfl; have hcz42_10 : w41.cell? ⟨gb233, 10, none⟩ = some (.int .i64 0) := (blk_cell BK233.out 10).trans rfl; have hcz42_11 : w41.cell? ⟨gb233, 11, none⟩ = some (.bool false) := (blk_cell BK233.out 11).trans rfl; have hfz42_0 := blk_frozen BK233.out 0; have hfz42_1 := blk_frozen BK233.out 1; have hfz42_2 := blk_frozen BK233.out 2; have hfz42_3 := blk_frozen BK233.out 3; have hfz42_4 := blk_frozen BK233.out 4; have hfz42_5 := blk_frozen BK233.out 5; have hfz42_6 := blk_frozen BK233.out 6; have hfz42_7 := blk_frozen BK233.out 7; have hfz42_8 := blk_frozen BK233.out 8; have hfz42_9 := blk_frozen BK233.out 9; have hfz42_10 := blk_frozen BK233.out 10; have hfz42_11 := blk_frozen BK233.out 11))
           go_roundg k2
           case measure => have := HJ5.out; have := HK2.out; omega
           case rel => exact ⟨(wrap64 ((wrap64 (x11_2 + ((rd_T38 t216 x12_2).f1))) - ((rd_T38 t216 x12_2).f0))), (wrap64 (x12_2 + 1)), (by first | rfl | (simp; done) | (simp [*]; done)), (by first | rfl | (simp; done) | (simp [*]; done)), H', ⟨by have := HJ5.out; have := HK2.out; omega⟩, ⟨by (with_reducible repeat (first | apply Kd.R_alloc | apply Kd.R_drewN | apply Kd.R_drew)); exact Kd.R_mono (Kd.R_far (p := ⟨gb233, 11, none⟩) (Kd.R_far (p := ⟨gb233, 10, none⟩) (Kd.R_far (p := ⟨gb233, 9, none⟩) (Kd.R_far (p := ⟨gb233, 8, none⟩) (Kd.R_far (p := ⟨gb233, 7, none⟩) (Kd.R_far (p := ⟨gb233, 6, none⟩) (Kd.R_far (p := ⟨gb233, 5, none⟩) (Kd.R_far (p := ⟨gb233, 4, none⟩) (Kd.R_far (p := ⟨gb233, 3, none⟩) (Kd.R_far (p := ⟨gb233, 2, none⟩) (Kd.R_far (p := ⟨gb233, 1, none⟩) (Kd.R_far (p := ⟨gb233, 0, none⟩) (Kd.R_mono HO_5.out (fun k_ hk => (⟨hk, hk.2⟩ : _ ∧ k_ ≠ gb233))) (fun _ hk => hk.2) (.int .i64 ((rd_T38 t216 x12_2).f0))) (fun _ hk => hk.2) (.int .i64 ((rd_T38 t216 x12_2).f1))) (fun _ hk => hk.2) (.bool ((rd_T38 t216 x12_2).f2))) (fun _ hk => hk.2) (.int .i64 ((rd_T38 t216 x12_2).f3))) (fun _ hk => hk.2) (.int .i64 ((rd_T38 t216 x12_2).f4))) (fun _ hk => hk.2) (.bool false)) (fun _ hk => hk.2) (.bool false)) (fun _ hk => hk.2) (.bool ((rd_T38 t216 x12_2).f7))) (fun _ hk => hk.2) (.int .i64 ((rd_T38 t216 x12_2).f8))) (fun _ hk => hk.2) (.int .i64 ((rd_T38 t216 x12_2).f9))) (fun _ hk => hk.2) (.int .i64 ((rd_T38 t216 x12_2).f10))) (fun _ hk => hk.2) (.bool ((rd_T38 t216 x12_2).f11))) (fun _ hk => hk.1.1)⟩, ⟨by (with_reducible repeat (first | apply Kd.R_alloc | apply Kd.R_drewN | apply Kd.R_drew)); exact Kd.R_mono (Kd.R_far (p := ⟨gb233, 11, none⟩) (Kd.R_far (p := ⟨gb233, 10, none⟩) (Kd.R_far (p := ⟨gb233, 9, none⟩) (Kd.R_far (p := ⟨gb233, 8, none⟩) (Kd.R_far (p := ⟨gb233, 7, none⟩) (Kd.R_far (p := ⟨gb233, 6, none⟩) (Kd.R_far (p := ⟨gb233, 5, none⟩) (Kd.R_far (p := ⟨gb233, 4, none⟩) (Kd.R_far (p := ⟨gb233, 3, none⟩) (Kd.R_far (p := ⟨gb233, 2, none⟩) (Kd.R_far (p := ⟨gb233, 1, none⟩) (Kd.R_far (p := ⟨gb233, 0, none⟩) (Kd.R_mono HO_6.out (fun k_ hk => (⟨hk, hk.2⟩ : _ ∧ k_ ≠ gb233))) (fun _ hk => hk.2) (.int .i64 ((rd_T38 t216 x12_2).f0))) (fun _ hk => hk.2) (.int .i64 ((rd_T38 t216 x12_2).f1))) (fun _ hk => hk.2) (.bool ((rd_T38 t216 x12_2).f2))) (fun _ hk => hk.2) (.int .i64 ((rd_T38 t216 x12_2).f3))) (fun _ hk => hk.2) (.int .i64 ((rd_T38 t216 x12_2).f4))) (fun _ hk => hk.2) (.bool false)) (fun _ hk => hk.2) (.bool false)) (fun _ hk => hk.2) (.bool ((rd_T38 t216 x12_2).f7))) (fun _ hk => hk.2) (.int .i64 ((rd_T38 t216 x12_2).f8))) (fun _ hk => hk.2) (.int .i64 ((rd_T38 t216 x12_2).f9))) (fun _ hk => hk.2) (.int .i64 ((rd_T38 t216 x12_2).f10))) (fun _ hk => hk.2) (.bool ((rd_T38 t216 x12_2).f11))) (fun _ hk => hk.1.1)⟩, ⟨by repeat (first | (with_reducible first | exact HB.out | apply below_alloc | apply pw_below_drewN | apply below_drew1 | refine below_set ?_ GE233.out) | exact HB.out)⟩⟩
        ·rw [if_neg c27] at H
         exact absurd H (by simp)
       ·rw [if_neg c26] at H
        have c26b0 : decide (x12_2 < (t216.length : Int)) = false := decide_eq_false c26
        clear c26
        have H' := Aside0.mk H
        clear H
        obtain ⟨Ao43, co43, eo43⟩ := Kd.R_slice HO_6.out
        subst eo43
        go_wp2
        go_loopg [14] k2 (fun kq v14 w' => ∃ (x14_3 : Int), v14 = .int .i64 x14_3 ∧ Aside0 (tidewaylaw10_BoardSacks.l1 kq l0 t215 t216 x11_2 x14_3 = some r) ∧ Aside0 (kq ≤ k2) ∧ Aside0 (Kd.R k38 38 w' w.heap.size (fun k_ => some k_ ≠ ((.slice Ao43 t216.length co43) : Value).ownBlock) (.slice Ao8 t215.length co8) t215) ∧ Aside0 (Kd.R k38 38 w' w.heap.size (fun k_ => some k_ ≠ ((.slice Ao8 t215.length co8) : Value).ownBlock) (.slice Ao43 t216.length co43) t216) ∧ Aside0 (Below w.heap.size w w'))
        case atStart => exact ⟨(0), (by first | rfl | (simp; done) | (simp [*]; done)), H', ⟨Nat.le_refl _⟩, ⟨by (with_reducible repeat (first | apply Kd.R_alloc | apply Kd.R_drewN | apply Kd.R_drew)); exact HO_5.out⟩, ⟨by (with_reducible repeat (first | apply Kd.R_alloc | apply Kd.R_drewN | apply Kd.R_drew)); exact HO_6.out⟩, ⟨by repeat (first | (with_reducible first | exact HB.out | apply below_alloc | apply pw_below_drewN | apply below_drew1) | exact HB.out | exact Below.refl _ _)⟩⟩
        case round =>
         clear H'
         try clear c1
         try clear c2
         try clear p2
         try clear q2
         try clear hx2
         try clear c3
         try clear q3
         try clear c4
         try clear c4b0
         try clear c4b1
         try clear c5
         try clear p6
         try clear c10
         try clear c10b0
         try clear c10b1
         try clear c11
         try clear c11b0
         try clear c11b1
         try clear c11b2
         try clear c13
         try clear c15
         try clear c15b0
         try clear c15b1
         try clear p23
         try clear q23
         try clear hx23
         try clear c25
         try clear c26
         try clear c26b0
         try clear c27
         try clear c27b0
         try clear q28
         try clear c29
         try clear q30
         try clear c31
         try clear q32
         try clear c33
         try clear hcz36_0
         try clear hcz36_1
         try clear hcz36_10
         try clear hcz36_11
         try clear hcz36_2
         try clear hcz36_3
         try clear hcz36_4
         try clear hcz36_5
         try clear hcz36_6
         try clear hcz36_7
         try clear hcz36_8
         try clear hcz36_9
         try clear hcz39_0
         try clear hcz39_1
         try clear hcz39_10
         try clear hcz39_11
         try clear hcz39_2
         try clear hcz39_3
         try clear hcz39_4
         try clear hcz39_5
         try clear hcz39_6
         try clear hcz39_7
         try clear hcz39_8
         try clear hcz39_9
         try clear hcz42_0
         try clear hcz42_1
         try clear hcz42_10
         try clear hcz42_11
         try clear hcz42_2
         try clear hcz42_3
         try clear hcz42_4
         try clear hcz42_5
         try clear hcz42_6
         try clear hcz42_7
         try clear hcz42_8
         try clear hcz42_9
         try clear hfz36_0
         try clear hfz36_1
         try clear hfz36_10
         try clear hfz36_11
         try clear hfz36_2
         try clear hfz36_3
         try clear hfz36_4
         try clear hfz36_5
         try clear hfz36_6
         try clear hfz36_7
         try clear hfz36_8
         try clear hfz36_9
         try clear hfz39_0
         try clear hfz39_1
         try clear hfz39_10
         try clear hfz39_11
         try clear hfz39_2
         try clear hfz39_3
         try clear hfz39_4
         try clear hfz39_5
         try clear hfz39_6
         try clear hfz39_7
         try clear hfz39_8
         try clear hfz39_9
         try clear hfz42_0
         try clear hfz42_1
         try clear hfz42_10
         try clear hfz42_11
         try clear hfz42_2
         try clear hfz42_3
         try clear hfz42_4
         try clear hfz42_5
         try clear hfz42_6
         try clear hfz42_7
         try clear hfz42_8
         try clear hfz42_9
         try clear hx232_0
         try clear hx232_1
         try clear hx232_10
         try clear hx232_11
         try clear hx232_2
         try clear hx232_3
         try clear hx232_4
         try clear hx232_5
         try clear hx232_6
         try clear hx232_7
         try clear hx232_8
         try clear hx232_9
         try clear p2
         try clear p232
         try clear p6
         try clear q232
         obtain ⟨x14_3, rfl, HA, HK3, HO_5, HO_6, HB⟩ := hrel
         cases gk with
         | zero => exact absurd HA.out (by simp [tidewaylaw10_BoardSacks.l1])
         | succ k3 =>
          have H := HA.out
          clear HA
          simp only [tidewaylaw10_BoardSacks.l1] at H
          by_cases c44 : x14_3 < (l0.length : Int)
          ·rw [if_pos c44] at H
           have c44b0 : decide (x14_3 < (l0.length : Int)) = true := decide_eq_true c44
           clear c44
           by_cases c45 : 0 ≤ x14_3
           ·rw [if_pos c45] at H
            have c45b0 : decide (0 ≤ x14_3) = true := decide_eq_true c45
            clear c45
            obtain ⟨bq46, hbq46⟩ : ∃ b_ : Bool, b_ = ((rd_T38 l0 x14_3).f5) := ⟨_, rfl⟩
            replace H : (if bq46 = true then (if x14_3 < (t215.length : Int) then (if ((rd_T38 t215 x14_3).f5 = true) then (tidewaylaw10_BoardSacks.l1 k3 l0 t215 t216 x11_2 (wrap64 (x14_3 + 1))) else (some false)) else (none)) else (tidewaylaw10_BoardSacks.l1 k3 l0 t215 t216 x11_2 (wrap64 (x14_3 + 1)))) = some r := by rw [← hbq46] at H; exact H
            have Nbq46 := Aside0.mk hbq46
            clear hbq46
            by_cases c47 : bq46 = true
            ·subst c47
             have H1 : (if x14_3 < (t215.length : Int) then (if ((rd_T38 t215 x14_3).f5 = true) then (tidewaylaw10_BoardSacks.l1 k3 l0 t215 t216 x11_2 (wrap64 (x14_3 + 1))) else (some false)) else (none)) = some r := by rw [if_pos rfl] at H; exact H
             clear H
             have H := H1
             clear H1
             by_cases c48 : x14_3 < (t215.length : Int)
             ·rw [if_pos c48] at H
              have c48b0 : decide (x14_3 < (t215.length : Int)) = true := decide_eq_true c48
              clear c48
              obtain ⟨bq49, hbq49⟩ : ∃ b_ : Bool, b_ = ((rd_T38 t215 x14_3).f5) := ⟨_, rfl⟩
              replace H : (if (bq49 = true) then (tidewaylaw10_BoardSacks.l1 k3 l0 t215 t216 x11_2 (wrap64 (x14_3 + 1))) else (some false)) = some r := by rw [← hbq49] at H; exact H
              have Nbq49 := Aside0.mk hbq49
              clear hbq49
              by_cases c50 : (bq49 = true)
              ·subst c50
               have H1 : (tidewaylaw10_BoardSacks.l1 k3 l0 t215 t216 x11_2 (wrap64 (x14_3 + 1))) = some r := by rw [if_pos rfl] at H; exact H
               clear H
               have H := H1
               clear H1
               have H' := Aside0.mk H
               clear H
               have p234 : 0 ≤ (x14_3 : Int) := of_decide_eq_true (by first | (with_reducible assumption) | assumption)
               have q234 : x14_3 < (l0.length : Int) := of_decide_eq_true (by first | (with_reducible assumption) | assumption)
               obtain ⟨ad234, e234, hx234_0, hx234_1, hx234_2, hx234_3, hx234_4, hx234_5, hx234_6, hx234_7, hx234_8, hx234_9, hx234_10, hx234_11⟩ := at_T38 HR0.out x14_3 p234 q234
               (try rw [← Nbq46.out] at hx234_2)
               (try rw [← Nbq49.out] at hx234_2)
               (try rw [← Nbq46.out] at hx234_5)
               (try rw [← Nbq49.out] at hx234_5)
               (try rw [← Nbq46.out] at hx234_6)
               (try rw [← Nbq49.out] at hx234_6)
               (try rw [← Nbq46.out] at hx234_7)
               (try rw [← Nbq49.out] at hx234_7)
               (try rw [← Nbq46.out] at hx234_11)
               (try rw [← Nbq49.out] at hx234_11)
               cases e234
               replace hx234_0 := (HB.out.cell (World.block_lt_of_cell? w _ hx234_0)).trans hx234_0
               replace hx234_1 := (HB.out.cell (World.block_lt_of_cell? w _ hx234_1)).trans hx234_1
               replace hx234_2 := (HB.out.cell (World.block_lt_of_cell? w _ hx234_2)).trans hx234_2
               replace hx234_3 := (HB.out.cell (World.block_lt_of_cell? w _ hx234_3)).trans hx234_3
               replace hx234_4 := (HB.out.cell (World.block_lt_of_cell? w _ hx234_4)).trans hx234_4
               replace hx234_5 := (HB.out.cell (World.block_lt_of_cell? w _ hx234_5)).trans hx234_5
               replace hx234_6 := (HB.out.cell (World.block_lt_of_cell? w _ hx234_6)).trans hx234_6
               replace hx234_7 := (HB.out.cell (World.block_lt_of_cell? w _ hx234_7)).trans hx234_7
               replace hx234_8 := (HB.out.cell (World.block_lt_of_cell? w _ hx234_8)).trans hx234_8
               replace hx234_9 := (HB.out.cell (World.block_lt_of_cell? w _ hx234_9)).trans hx234_9
               replace hx234_10 := (HB.out.cell (World.block_lt_of_cell? w _ hx234_10)).trans hx234_10
               replace hx234_11 := (HB.out.cell (World.block_lt_of_cell? w _ hx234_11)).trans hx234_11
               replace p234 := eq_true p234
               replace q234 := eq_true q234
               have p235 : 0 ≤ (x14_3 : Int) := of_decide_eq_true (by first | (with_reducible assumption) | assumption)
               have q235 : x14_3 < (t215.length : Int) := of_decide_eq_true (by first | (with_reducible assumption) | assumption)
               obtain ⟨ad235, e235, hx235_0, hx235_1, hx235_2, hx235_3, hx235_4, hx235_5, hx235_6, hx235_7, hx235_8, hx235_9, hx235_10, hx235_11⟩ := at_T38 (Kd.R_reads' HO_5.out).2.2 x14_3 p235 q235
               (try rw [← Nbq46.out] at hx235_2)
               (try rw [← Nbq49.out] at hx235_2)
               (try rw [← Nbq46.out] at hx235_5)
               (try rw [← Nbq49.out] at hx235_5)
               (try rw [← Nbq46.out] at hx235_6)
               (try rw [← Nbq49.out] at hx235_6)
               (try rw [← Nbq46.out] at hx235_7)
               (try rw [← Nbq49.out] at hx235_7)
               (try rw [← Nbq46.out] at hx235_11)
               (try rw [← Nbq49.out] at hx235_11)
               cases e235
               replace p235 := eq_true p235
               replace q235 := eq_true q235
               go_wp2
               go_roundg k3
               case measure => have := HJ5.out; have := HK2.out; have := HK3.out; omega
               case rel => exact ⟨(wrap64 (x14_3 + 1)), (by first | rfl | (simp; done) | (simp [*]; done)), H', ⟨by have := HJ5.out; have := HK2.out; have := HK3.out; omega⟩, ⟨by (with_reducible repeat (first | apply Kd.R_alloc | apply Kd.R_drewN | apply Kd.R_drew)); exact HO_5.out⟩, ⟨by (with_reducible repeat (first | apply Kd.R_alloc | apply Kd.R_drewN | apply Kd.R_drew)); exact HO_6.out⟩, ⟨by repeat (first | (with_reducible first | exact HB.out | apply below_alloc | apply pw_below_drewN | apply below_drew1) | exact HB.out | exact Below.refl _ _)⟩⟩
              ·replace c50 := Bool.eq_false_iff.mpr c50
               subst c50
               have H1 : (some false) = some r := by rw [if_neg (show ¬ (false = true) by decide)] at H; exact H
               clear H
               have H := H1
               clear H1
               exact absurd ((Option.some.inj H).trans HRT.out) (by decide)
             ·rw [if_neg c48] at H
              exact absurd H (by simp)
            ·replace c47 := Bool.eq_false_iff.mpr c47
             subst c47
             have H1 : (tidewaylaw10_BoardSacks.l1 k3 l0 t215 t216 x11_2 (wrap64 (x14_3 + 1))) = some r := by rw [if_neg (show ¬ (false = true) by decide)] at H; exact H
             clear H
             have H := H1
             clear H1
             have H' := Aside0.mk H
             clear H
             have p234 : 0 ≤ (x14_3 : Int) := of_decide_eq_true (by first | (with_reducible assumption) | assumption)
             have q234 : x14_3 < (l0.length : Int) := of_decide_eq_true (by first | (with_reducible assumption) | assumption)
             obtain ⟨ad234, e234, hx234_0, hx234_1, hx234_2, hx234_3, hx234_4, hx234_5, hx234_6, hx234_7, hx234_8, hx234_9, hx234_10, hx234_11⟩ := at_T38 HR0.out x14_3 p234 q234
             (try rw [← Nbq46.out] at hx234_2)
             (try rw [← Nbq46.out] at hx234_5)
             (try rw [← Nbq46.out] at hx234_6)
             (try rw [← Nbq46.out] at hx234_7)
             (try rw [← Nbq46.out] at hx234_11)
             cases e234
             replace hx234_0 := (HB.out.cell (World.block_lt_of_cell? w _ hx234_0)).trans hx234_0
             replace hx234_1 := (HB.out.cell (World.block_lt_of_cell? w _ hx234_1)).trans hx234_1
             replace hx234_2 := (HB.out.cell (World.block_lt_of_cell? w _ hx234_2)).trans hx234_2
             replace hx234_3 := (HB.out.cell (World.block_lt_of_cell? w _ hx234_3)).trans hx234_3
             replace hx234_4 := (HB.out.cell (World.block_lt_of_cell? w _ hx234_4)).trans hx234_4
             replace hx234_5 := (HB.out.cell (World.block_lt_of_cell? w _ hx234_5)).trans hx234_5
             replace hx234_6 := (HB.out.cell (World.block_lt_of_cell? w _ hx234_6)).trans hx234_6
             replace hx234_7 := (HB.out.cell (World.block_lt_of_cell? w _ hx234_7)).trans hx234_7
             replace hx234_8 := (HB.out.cell (World.block_lt_of_cell? w _ hx234_8)).trans hx234_8
             replace hx234_9 := (HB.out.cell (World.block_lt_of_cell? w _ hx234_9)).trans hx234_9
             replace hx234_10 := (HB.out.cell (World.block_lt_of_cell? w _ hx234_10)).trans hx234_10
             replace hx234_11 := (HB.out.cell (World.block_lt_of_cell? w _ hx234_11)).trans hx234_11
             replace p234 := eq_true p234
             replace q234 := eq_true q234
             go_wp2
             go_roundg k3
             case measure => have := HJ5.out; have := HK2.out; have := HK3.out; omega
             case rel => exact ⟨(wrap64 (x14_3 + 1)), (by first | rfl | (simp; done) | (simp [*]; done)), H', ⟨by have := HJ5.out; have := HK2.out; have := HK3.out; omega⟩, ⟨by (with_reducible repeat (first | apply Kd.R_alloc | apply Kd.R_drewN | apply Kd.R_drew)); exact HO_5.out⟩, ⟨by (with_reducible repeat (first | apply Kd.R_alloc | apply Kd.R_drewN | apply Kd.R_drew)); exact HO_6.out⟩, ⟨by repeat (first | (with_reducible first | exact HB.out | apply below_alloc | apply pw_below_drewN | apply below_drew1) | exact HB.out | exact Below.refl _ _)⟩⟩
           ·rw [if_neg c45] at H
            exact absurd H (by simp)
          ·rw [if_neg c44] at H
           have c44b0 : decide (x14_3 < (l0.length : Int)) = false := decide_eq_false c44
           clear c44
           replace H := Option.bind_eq_some_iff.mp H
           obtain ⟨t236, A510, H⟩ := H
           replace H : ((board_Pipe.f l0).bind fun t237 => (if t236 = (wrap64 (t237 - x11_2)) then ((board_Sacked.f t215).bind fun t238 => ((board_Sacked.f l0).bind fun t239 => (if t238 = (wrap64 (t239 + (t216.length : Int))) then ((tidewaylaw10_heads.f k3).bind fun t240 => (some t240)) else (some false)))) else (some false))) = some r := H
           have A51 := Aside0.mk A510
           clear A510
           replace H := Option.bind_eq_some_iff.mp H
           obtain ⟨t237, A520, H⟩ := H
           replace H : (if t236 = (wrap64 (t237 - x11_2)) then ((board_Sacked.f t215).bind fun t238 => ((board_Sacked.f l0).bind fun t239 => (if t238 = (wrap64 (t239 + (t216.length : Int))) then ((tidewaylaw10_heads.f k3).bind fun t240 => (some t240)) else (some false)))) else (some false)) = some r := H
           have A52 := Aside0.mk A520
           clear A520
           by_cases c53 : t236 = (wrap64 (t237 - x11_2))
           ·rw [if_pos c53] at H
            have c53b0 : (t236 == (wrap64 (t237 - x11_2))) = true := beq_iff_eq.mpr c53
            have c53b1 : (t236 != (wrap64 (t237 - x11_2))) = false := bne_eq_false_iff_eq.mpr c53
            clear c53
            replace H := Option.bind_eq_some_iff.mp H
            obtain ⟨t238, A540, H⟩ := H
            replace H : ((board_Sacked.f l0).bind fun t239 => (if t238 = (wrap64 (t239 + (t216.length : Int))) then ((tidewaylaw10_heads.f k3).bind fun t240 => (some t240)) else (some false))) = some r := H
            have A54 := Aside0.mk A540
            clear A540
            replace H := Option.bind_eq_some_iff.mp H
            obtain ⟨t239, A550, H⟩ := H
            replace H : (if t238 = (wrap64 (t239 + (t216.length : Int))) then ((tidewaylaw10_heads.f k3).bind fun t240 => (some t240)) else (some false)) = some r := H
            have A55 := Aside0.mk A550
            clear A550
            by_cases c56 : t238 = (wrap64 (t239 + (t216.length : Int)))
            ·rw [if_pos c56] at H
             have c56b0 : (t238 == (wrap64 (t239 + (t216.length : Int)))) = true := beq_iff_eq.mpr c56
             have c56b1 : (t238 != (wrap64 (t239 + (t216.length : Int)))) = false := bne_eq_false_iff_eq.mpr c56
             clear c56
             replace H := Option.bind_eq_some_iff.mp H
             obtain ⟨t240, A570, H⟩ := H
             replace H : (some t240) = some r := H
             have A57 := Aside0.mk A570
             clear A570
             obtain rfl := Option.some.inj H
             go_wp2_with (first | ((with_reducible refine gate_callee (f := 14) rfl ?_); refine goesL_ (some 111) rfl rfl Try.func14 (by kernel_rfl) rfl #[.slice Ao8 t215.length co8] rfl (by (try simp only [List.map_toArray, List.map_cons, List.map_nil]); first | done | rfl | (simp only [List.length_drop, List.length_take]; rfl)) ?_; (with_reducible refine (board_Pipe.calls _ _ t215 t236 _ ?side1 ?side2 A51.out).mono ?_); (case side1 => repeat (first | exact (Kd.R_reads' HO_5.out).2.2 | (with_reducible refine Kd.C_alloc ?_ _) | (with_reducible refine Kd.C_drewN ?_ _) | (with_reducible refine Kd.C_drew ?_))); (case side2 => exact (Kd.R_reads' HO_5.out).2.1); rintro e w58 ⟨rfl, hb⟩; refine ⟨_, rfl, ?_⟩; have n0_ := Aside0.mk (Kd.R_below (by (with_reducible repeat (first | apply Kd.R_alloc | apply Kd.R_drewN | apply Kd.R_drew)); exact HO_5.out) hb); have n1_ := Aside0.mk (Kd.R_below (by (with_reducible repeat (first | apply Kd.R_alloc | apply Kd.R_drewN | apply Kd.R_drew)); exact HO_6.out) hb); have n2_ := Aside0.mk (below_step (by repeat (first | (with_reducible first | exact HB.out | apply below_alloc | apply pw_below_drewN | apply below_drew1) | exact HB.out | exact Below.refl _ _)) hb); clear HO_5; clear HO_6; clear HB; have HO_5 := n0_; have HO_6 := n1_; have HB := n2_; clear n0_ n1_ n2_; (try clear hb); (try clear hb2); (try clear hk); (try clear hi)) | ((with_reducible refine gate_callee (f := 14) rfl ?_); refine goesL_ (some 113) rfl rfl Try.func14 (by kernel_rfl) rfl #[.slice A0 l0.length c0] rfl (by (try simp only [List.map_toArray, List.map_cons, List.map_nil]); first | done | rfl | (simp only [List.length_drop, List.length_take]; rfl)) ?_; (with_reducible refine (board_Pipe.calls _ _ l0 t237 _ ?side1 ?side2 A52.out).mono ?_); (case side1 => repeat (first | exact (Kd.C_below HR0.out HB.out) | exact HR0.out | (with_reducible refine Kd.C_alloc ?_ _) | (with_reducible refine Kd.C_drewN ?_ _) | (with_reducible refine Kd.C_drew ?_))); (case side2 => exact HC0.out); rintro e w59 ⟨rfl, hb⟩; refine ⟨_, rfl, ?_⟩; have n0_ := Aside0.mk (Kd.R_below (by (with_reducible repeat (first | apply Kd.R_alloc | apply Kd.R_drewN | apply Kd.R_drew)); exact HO_5.out) hb); have n1_ := Aside0.mk (Kd.R_below (by (with_reducible repeat (first | apply Kd.R_alloc | apply Kd.R_drewN | apply Kd.R_drew)); exact HO_6.out) hb); have n2_ := Aside0.mk (below_step (by repeat (first | (with_reducible first | exact HB.out | apply below_alloc | apply pw_below_drewN | apply below_drew1) | exact HB.out | exact Below.refl _ _)) hb); clear HO_5; clear HO_6; clear HB; have HO_5 := n0_; have HO_6 := n1_; have HB := n2_; clear n0_ n1_ n2_; (try clear hb); (try clear hb2); (try clear hk); (try clear hi)) | (go_at_call 20; (with_reducible refine (board_Sacked.calls _ _ t215 t238 _ ?side1 ?side2 A54.out).mono ?_); (case side1 => repeat (first | exact (Kd.R_reads' HO_5.out).2.2 | (with_reducible refine Kd.C_alloc ?_ _) | (with_reducible refine Kd.C_drewN ?_ _) | (with_reducible refine Kd.C_drew ?_))); (case side2 => exact (Kd.R_reads' HO_5.out).2.1); rintro e w60 ⟨rfl, hb⟩; have n0_ := Aside0.mk (Kd.R_below (by (with_reducible repeat (first | apply Kd.R_alloc | apply Kd.R_drewN | apply Kd.R_drew)); exact HO_5.out) hb); have n1_ := Aside0.mk (Kd.R_below (by (with_reducible repeat (first | apply Kd.R_alloc | apply Kd.R_drewN | apply Kd.R_drew)); exact HO_6.out) hb); have n2_ := Aside0.mk (below_step (by repeat (first | (with_reducible first | exact HB.out | apply below_alloc | apply pw_below_drewN | apply below_drew1) | exact HB.out | exact Below.refl _ _)) hb); clear HO_5; clear HO_6; clear HB; have HO_5 := n0_; have HO_6 := n1_; have HB := n2_; clear n0_ n1_ n2_; (try clear hb); (try clear hb2); (try clear hk); (try clear hi)) | (go_at_call 20; (with_reducible refine (board_Sacked.calls _ _ l0 t239 _ ?side1 ?side2 A55.out).mono ?_); (case side1 => repeat (first | exact (Kd.C_below HR0.out HB.out) | exact HR0.out | (with_reducible refine Kd.C_alloc ?_ _) | (with_reducible refine Kd.C_drewN ?_ _) | (with_reducible refine Kd.C_drew ?_))); (case side2 => exact HC0.out); rintro e w61 ⟨rfl, hb⟩; have n0_ := Aside0.mk (Kd.R_below (by (with_reducible repeat (first | apply Kd.R_alloc | apply Kd.R_drewN | apply Kd.R_drew)); exact HO_5.out) hb); have n1_ := Aside0.mk (Kd.R_below (by (with_reducible repeat (first | apply Kd.R_alloc | apply Kd.R_drewN | apply Kd.R_drew)); exact HO_6.out) hb); have n2_ := Aside0.mk (below_step (by repeat (first | (with_reducible first | exact HB.out | apply below_alloc | apply pw_below_drewN | apply below_drew1) | exact HB.out | exact Below.refl _ _)) hb); clear HO_5; clear HO_6; clear HB; have HO_5 := n0_; have HO_6 := n1_; have HB := n2_; clear n0_ n1_ n2_; (try clear hb); (try clear hb2); (try clear hk); (try clear hi)) | (go_at_call 22; (with_reducible refine (tidewaylaw10_heads.calls k3  t240 _ A57.out).mono ?_); rintro e w62 ⟨rfl, hb⟩; have n0_ := Aside0.mk (Kd.R_below (by (with_reducible repeat (first | apply Kd.R_alloc | apply Kd.R_drewN | apply Kd.R_drew)); exact HO_5.out) hb); have n1_ := Aside0.mk (Kd.R_below (by (with_reducible repeat (first | apply Kd.R_alloc | apply Kd.R_drewN | apply Kd.R_drew)); exact HO_6.out) hb); have n2_ := Aside0.mk (below_step (by repeat (first | (with_reducible first | exact HB.out | apply below_alloc | apply pw_below_drewN | apply below_drew1) | exact HB.out | exact Below.refl _ _)) hb); clear HO_5; clear HO_6; clear HB; have HO_5 := n0_; have HO_6 := n1_; have HB := n2_; clear n0_ n1_ n2_; (try clear hb); (try clear hb2); (try clear hk); (try clear hi)))
             go_ret
             exact ⟨by first | rfl | (simp [errW_none, errW_some] <;> rfl) | (simp [*, errW_none, errW_some] <;> rfl), by repeat (first | (with_reducible first | exact HB.out | apply below_alloc | apply pw_below_drewN | apply below_drew1) | exact HB.out | exact Below.refl _ _)⟩
            ·rw [if_neg c56] at H
             have c56b0 : (t238 == (wrap64 (t239 + (t216.length : Int)))) = false := beq_eq_false_iff_ne.mpr c56
             have c56b1 : (t238 != (wrap64 (t239 + (t216.length : Int)))) = true := bne_iff_ne.mpr c56
             exact absurd ((Option.some.inj H).trans HRT.out) (by decide)
           ·rw [if_neg c53] at H
            have c53b0 : (t236 == (wrap64 (t237 - x11_2))) = false := beq_eq_false_iff_ne.mpr c53
            have c53b1 : (t236 != (wrap64 (t237 - x11_2))) = true := bne_iff_ne.mpr c53
            exact absurd ((Option.some.inj H).trans HRT.out) (by decide)
 ·rw [if_neg c4] at H
  have c4b0 : (t217 == 0) = false := beq_eq_false_iff_ne.mpr c4
  have c4b1 : (t217 != 0) = true := bne_iff_ne.mpr c4
  by_cases c63 : (wrap64 ((t215.length : Int) + (t216.length : Int))) = 0
  ·rw [if_pos c63] at H
   have c63b0 : ((wrap64 ((t215.length : Int) + (t216.length : Int))) == 0) = true := beq_iff_eq.mpr c63
   have c63b1 : ((wrap64 ((t215.length : Int) + (t216.length : Int))) != 0) = false := bne_eq_false_iff_eq.mpr c63
   clear c63
   replace H := Option.bind_eq_some_iff.mp H
   obtain ⟨t222, A640, H⟩ := H
   replace H : (some t222) = some r := H
   have A64 := Aside0.mk A640
   clear A640
   obtain rfl := Option.some.inj H
   go_enter Try.func5, Try.ntmps5
   go_wp2_with (first | ((with_reducible refine gate_callee (f := 11) rfl ?_); refine goesL_ (some 18) rfl rfl Try.func11 (by kernel_rfl) rfl #[.slice A0 l0.length c0, .slice A1 l1.length c1] rfl (by (try simp only [List.map_toArray, List.map_cons, List.map_nil]); first | done | rfl | (simp only [List.length_drop, List.length_take]; rfl)) ?_; (with_reducible refine (board_Sack.calls k _ _ l0 _ _ l1 t215 t216 t217 _ ?side1 ?side2 ?side3 ?side4 A3.out).mono ?_); (case side1 => repeat (first | exact HR0.out | (with_reducible refine Kd.C_alloc ?_ _) | (with_reducible refine Kd.C_drewN ?_ _) | (with_reducible refine Kd.C_drew ?_))); (case side2 => exact HC0.out); (case side3 => repeat (first | exact HR1.out | (with_reducible refine Kd.C_alloc ?_ _) | (with_reducible refine Kd.C_drewN ?_ _) | (with_reducible refine Kd.C_drew ?_))); (case side4 => exact HC1.out); rintro e w65 ⟨v218, v220, rfl, ho0, ho1, hb⟩; refine ⟨_, rfl, ?_⟩; have n0_ := Aside0.mk (Kd.R_lower ho0 (below_size (by repeat (first | (with_reducible first | exact HB.out | apply below_alloc | apply pw_below_drewN | apply below_drew1) | exact HB.out | exact Below.refl _ _)))); have n1_ := Aside0.mk (Kd.R_lower ho1 (below_size (by repeat (first | (with_reducible first | exact HB.out | apply below_alloc | apply pw_below_drewN | apply below_drew1) | exact HB.out | exact Below.refl _ _)))); have n2_ := Aside0.mk (below_step (by repeat (first | (with_reducible first | exact HB.out | apply below_alloc | apply pw_below_drewN | apply below_drew1) | exact HB.out | exact Below.refl _ _)) hb); clear HB; have HO219 := n0_; have HO221 := n1_; have HB := n2_; clear n0_ n1_ n2_; (try clear hb); (try clear hb2); (try clear hk); (try clear hi); (try clear ho0); (try clear ho1); obtain ⟨Ao66, co66, eo66⟩ := Kd.R_slice HO219.out; subst eo66; obtain ⟨Ao67, co67, eo67⟩ := Kd.R_slice HO221.out; subst eo67) | (go_at_call 22; (with_reducible refine (tidewaylaw10_heads.calls k  t222 _ A64.out).mono ?_); rintro e w68 ⟨rfl, hb⟩; have n0_ := Aside0.mk (Kd.R_below (by (with_reducible repeat (first | apply Kd.R_alloc | apply Kd.R_drewN | apply Kd.R_drew)); exact HO219.out) hb); have n1_ := Aside0.mk (Kd.R_below (by (with_reducible repeat (first | apply Kd.R_alloc | apply Kd.R_drewN | apply Kd.R_drew)); exact HO221.out) hb); have n2_ := Aside0.mk (below_step (by repeat (first | (with_reducible first | exact HB.out | apply below_alloc | apply pw_below_drewN | apply below_drew1) | exact HB.out | exact Below.refl _ _)) hb); clear HO219; clear HO221; clear HB; have HO219 := n0_; have HO221 := n1_; have HB := n2_; clear n0_ n1_ n2_; (try clear hb); (try clear hb2); (try clear hk); (try clear hi)))
   go_ret
   exact ⟨by first | rfl | (simp [errW_none, errW_some] <;> rfl) | (simp [*, errW_none, errW_some] <;> rfl), by repeat (first | (with_reducible first | exact HB.out | apply below_alloc | apply pw_below_drewN | apply below_drew1) | exact HB.out | exact Below.refl _ _)⟩
  ·rw [if_neg c63] at H
   have c63b0 : ((wrap64 ((t215.length : Int) + (t216.length : Int))) == 0) = false := beq_eq_false_iff_ne.mpr c63
   have c63b1 : ((wrap64 ((t215.length : Int) + (t216.length : Int))) != 0) = true := bne_iff_ne.mpr c63
   exact absurd ((Option.some.inj H).trans HRT.out) (by decide)

end Go.Proofs.Ytgpbighdegdlfaa.PA

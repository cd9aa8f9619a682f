-- Written for the seat Ytgpbighdegdlfaa by this session's program hyb.py (the print's functions, with externals typed by hand).
import Derived.Test.YtgpbighdegdlfaaPAx0
import Derived.Test.YtgpbighdegdlfaaPAx4
import Derived.Test.YtgpbighdegdlfaaPAx7
namespace Go.Proofs.Ytgpbighdegdlfaa.PA
open Go.RowKit Go.Proofs.YtgpbighdegdlfaaW.PrintWords Go.Proofs.YtgpbighdegdlfaaW.PrintLast Go.Proofs.YtgpbighdegdlfaaW.PrintMore
attribute [local go_sem] max2_int min2_int max_two min_two max_three min_three max_four min_four   -- for this text's walks alone
set_option linter.unusedVariables false
set_option linter.unusedSimpArgs false

/-! ### board_Drop: function 28 -/
def board_Drop.l0 : Nat → List (S38) → Int → Int → Option ((List (S38)) × Int)
 | 0, _, _, _ => none
 | k + 1, x5, x15, x16 => if x16 < x15 then (if 0 ≤ x16 then (if x16 < (x5.length : Int) then ((some (x5.set (x16 : Int).toNat (⟨(rd_T38 x5 x16).f0, (rd_T38 x5 x16).f1, (rd_T38 x5 x16).f2, (rd_T38 x5 x16).f3, (rd_T38 x5 x16).f4, false, (rd_T38 x5 x16).f6, (rd_T38 x5 x16).f7, (rd_T38 x5 x16).f8, (rd_T38 x5 x16).f9, (rd_T38 x5 x16).f10, (rd_T38 x5 x16).f11⟩ : S38) : List (S38))).bind fun y157 => ((some (y157.set (x16 : Int).toNat (⟨(rd_T38 y157 x16).f0, (rd_T38 y157 x16).f1, (rd_T38 y157 x16).f2, (rd_T38 y157 x16).f3, (rd_T38 y157 x16).f4, (rd_T38 y157 x16).f5, (rd_T38 y157 x16).f6, false, (rd_T38 y157 x16).f8, (rd_T38 y157 x16).f9, (rd_T38 y157 x16).f10, (rd_T38 y157 x16).f11⟩ : S38) : List (S38))).bind fun y158 => (board_Drop.l0 k (y158.set (x16 : Int).toNat (⟨(rd_T38 y158 x16).f0, (rd_T38 y158 x16).f1, (rd_T38 y158 x16).f2, (rd_T38 y158 x16).f3, (rd_T38 y158 x16).f4, (rd_T38 y158 x16).f5, true, (rd_T38 y158 x16).f7, (rd_T38 y158 x16).f8, (rd_T38 y158 x16).f9, (rd_T38 y158 x16).f10, (rd_T38 y158 x16).f11⟩ : S38)) x15 (wrap64 (x16 + 1))))) else (none)) else (none)) else (some (x5, 0))
def board_Drop.f (k : Nat) (l0 : List (S38)) : Option ((List (S38)) × Int) := (board_Check.f k l0).bind fun t153 => (if t153 = 0 then ((api_Rec_33.f l0).bind fun t154 => (board_Drop.l0 k t154 (t154.length : Int) 0)) else (some (([] : List (S38)), t153)))
theorem board_Drop.mono_l : ∀ k, (∀ y0 y1 y2, LeO (board_Drop.l0 k y0 y1 y2) (board_Drop.l0 (k + 1) y0 y1 y2))
 | 0 => fun _ _ _ r h => by simp [board_Drop.l0] at h
 | k + 1 => by
  have ih0 := board_Drop.mono_l k
  ·intro y0 y1 y2
   unfold board_Drop.l0
   repeat' first
   | (with_reducible exact ih0 _ _ _)
   | (with_reducible exact board_Check.mono _ _)
   | (with_reducible exact LeO.refl _)
   | (with_reducible exact LeO.none _)
   | (with_reducible refine LeO.ite ?_ ?_)
   | (with_reducible refine LeO.bind ?_ (fun _ => ?_))
   | exact ih0 _ _ _
   | exact board_Check.mono _ _
   | exact LeO.none _
   | refine LeO.ite ?_ ?_
   | refine LeO.bind ?_ (fun _ => ?_)
theorem board_Drop.mono : ∀ a0 k, LeO (board_Drop.f k a0) (board_Drop.f (k + 1) a0) := by
 intro a0 k
 have ih0 := board_Drop.mono_l k
 unfold board_Drop.f
 repeat' first
   | (with_reducible exact ih0 _ _ _)
   | (with_reducible exact board_Check.mono _ _)
   | (with_reducible exact LeO.refl _)
   | (with_reducible exact LeO.none _)
   | (with_reducible refine LeO.ite ?_ ?_)
   | (with_reducible refine LeO.bind ?_ (fun _ => ?_))
   | exact ih0 _ _ _
   | exact board_Check.mono _ _
   | exact LeO.none _
   | refine LeO.ite ?_ ?_
   | refine LeO.bind ?_ (fun _ => ?_)
set_option maxHeartbeats 8000000 in
set_option maxRecDepth 100000 in
theorem board_Drop.calls (k : Nat) (A0 : Option Addr) (c0 : Nat) (l0 : List (S38)) (r1 : List (S38)) (r2 : Int) (w : World) (hr0 : Kd.C k38 w A0 l0.length l0) (hc0 : l0.length ≤ c0) (h : board_Drop.f k l0 = some (r1, r2)) :
  Calls Try.prog 28 #[.slice A0 l0.length c0] w fun e w' => ∃ v0_ : Value, e = .returned (.tuple #[v0_, .int .i64 r2]) ∧ Kd.R k38 38 w' w.heap.size (fun _ => True) v0_ r1 ∧ Below w.heap.size w w' := by
 have HR0 := Aside0.mk hr0
 have HC0 := Aside0.mk hc0
 clear hr0 hc0
 have HB := Aside0.mk (Below.refl w.heap.size w)
 have H : ((board_Check.f k l0).bind fun t153 => (if t153 = 0 then ((api_Rec_33.f l0).bind fun t154 => (board_Drop.l0 k t154 (t154.length : Int) 0)) else (some (([] : List (S38)), t153)))) = some (r1, r2) := h
 clear h
 replace H := Option.bind_eq_some_iff.mp H
 obtain ⟨t153, A20, H⟩ := H
 replace H : (if t153 = 0 then ((api_Rec_33.f l0).bind fun t154 => (board_Drop.l0 k t154 (t154.length : Int) 0)) else (some (([] : List (S38)), t153))) = some (r1, r2) := H
 have A2 := Aside0.mk A20
 clear A20
 by_cases c3 : t153 = 0
 ·rw [if_pos c3] at H
  have c3b0 : (t153 == 0) = true := beq_iff_eq.mpr c3
  have c3b1 : (t153 != 0) = false := bne_eq_false_iff_eq.mpr c3
  clear c3
  replace H := Option.bind_eq_some_iff.mp H
  obtain ⟨t154, A40, H⟩ := H
  replace H : (board_Drop.l0 k t154 (t154.length : Int) 0) = some (r1, r2) := H
  have A4 := Aside0.mk A40
  clear A40
  have H' := Aside0.mk H
  clear H
  go_enter Try.func28, Try.ntmps28
  go_wp2_with (first | ((with_reducible refine gate_callee (f := 23) rfl ?_); refine goesL_ (some 8) rfl rfl Try.func23 (by kernel_rfl) rfl #[.slice A0 l0.length c0] rfl (by (try simp only [List.map_toArray, List.map_cons, List.map_nil]); first | done | rfl | (simp only [List.length_drop, List.length_take]; rfl)) ?_; (with_reducible refine (board_Check.calls k _ _ l0 t153 _ ?side1 ?side2 A2.out).mono ?_); (case side1 => repeat (first | exact HR0.out | (with_reducible refine Kd.C_alloc ?_ _) | (with_reducible refine Kd.C_drewN ?_ _) | (with_reducible refine Kd.C_drew ?_))); (case side2 => exact HC0.out); rintro e w5 ⟨rfl, hb⟩; refine ⟨_, rfl, ?_⟩; have n0_ := Aside0.mk (below_step (by repeat (first | (with_reducible first | exact HB.out | apply below_alloc | apply pw_below_drewN | apply below_drew1) | exact HB.out | exact Below.refl _ _)) hb); clear HB; have HB := n0_; clear n0_; (try clear hb); (try clear hb2); (try clear hk); (try clear hi)) | ((with_reducible refine gate_callee (f := 33) rfl ?_); refine goesL_ (some 13) rfl rfl Try.func33 (by kernel_rfl) rfl #[.slice A0 l0.length c0] rfl (by (try simp only [List.map_toArray, List.map_cons, List.map_nil]); first | done | rfl | (simp only [List.length_drop, List.length_take]; rfl)) ?_; (with_reducible refine (api_Rec_33.calls _ _ l0 t154 _ ?side1 ?side2 A4.out).mono ?_); (case side1 => repeat (first | exact (Kd.C_below HR0.out HB.out) | exact HR0.out | (with_reducible refine Kd.C_alloc ?_ _) | (with_reducible refine Kd.C_drewN ?_ _) | (with_reducible refine Kd.C_drew ?_))); (case side2 => exact HC0.out); rintro e w6 ⟨v155, rfl, ho0, hb⟩; refine ⟨_, rfl, ?_⟩; have n0_ := Aside0.mk (Kd.R_lower ho0 (below_size (by repeat (first | (with_reducible first | exact HB.out | apply below_alloc | apply pw_below_drewN | apply below_drew1) | exact HB.out | exact Below.refl _ _)))); have n1_ := Aside0.mk (below_step (by repeat (first | (with_reducible first | exact HB.out | apply below_alloc | apply pw_below_drewN | apply below_drew1) | exact HB.out | exact Below.refl _ _)) hb); clear HB; have HO156 := n0_; have HB := n1_; clear n0_ n1_; (try clear hb); (try clear hb2); (try clear hk); (try clear hi); (try clear ho0); obtain ⟨Ao7, co7, eo7⟩ := Kd.R_slice HO156.out; subst eo7))
  go_loopg [16] k (fun kq v16 w' => ∃ (x5_1 : List (S38)) (x16_1 : Int), v16 = .int .i64 x16_1 ∧ Aside0 (board_Drop.l0 kq x5_1 (t154.length : Int) x16_1 = some (r1, r2)) ∧ Aside0 (kq ≤ k) ∧ Aside0 (Kd.R k38 38 w' w.heap.size (fun _ => True) (.slice Ao7 t154.length co7) x5_1) ∧ Aside0 (Below w.heap.size w w'))
  case atStart => exact ⟨(t154), (0), (by first | rfl | (simp; done) | (simp [*]; done)), H', ⟨Nat.le_refl _⟩, ⟨by (with_reducible repeat (first | apply Kd.R_alloc | apply Kd.R_drewN | apply Kd.R_drew)); exact HO156.out⟩, ⟨by repeat (first | (with_reducible first | exact HB.out | apply below_alloc | apply pw_below_drewN | apply below_drew1) | exact HB.out | exact Below.refl _ _)⟩⟩
  case round =>
   clear H'
   try clear c2
   try clear p2
   try clear c3
   try clear c3b0
   try clear c3b1
   obtain ⟨x5_1, x16_1, rfl, HA, HK1, HO_5, HB⟩ := hrel
   have hl5_1 := (Kd.R_reads' HO_5.out).1
   rw [hl5_1] at HO_5
   (try simp only [hl5_1])
   cases gk with
   | zero => exact absurd HA.out (by simp [board_Drop.l0])
   | succ k1 =>
    have H := HA.out
    clear HA
    simp only [board_Drop.l0] at H
    by_cases c8 : x16_1 < (t154.length : Int)
    ·rw [if_pos c8] at H
     have c8b0 : decide (x16_1 < (t154.length : Int)) = true := decide_eq_true c8
     clear c8
     by_cases c9 : 0 ≤ x16_1
     ·rw [if_pos c9] at H
      have c9b0 : decide (0 ≤ x16_1) = true := decide_eq_true c9
      clear c9
      by_cases c10 : x16_1 < (x5_1.length : Int)
      ·rw [if_pos c10] at H
       have c10b0 : decide (x16_1 < (x5_1.length : Int)) = true := decide_eq_true c10
       clear c10
       obtain ⟨y157, hy157⟩ : ∃ y_ : List (S38), y_ = (x5_1.set (x16_1 : Int).toNat (⟨(rd_T38 x5_1 x16_1).f0, (rd_T38 x5_1 x16_1).f1, (rd_T38 x5_1 x16_1).f2, (rd_T38 x5_1 x16_1).f3, (rd_T38 x5_1 x16_1).f4, false, (rd_T38 x5_1 x16_1).f6, (rd_T38 x5_1 x16_1).f7, (rd_T38 x5_1 x16_1).f8, (rd_T38 x5_1 x16_1).f9, (rd_T38 x5_1 x16_1).f10, (rd_T38 x5_1 x16_1).f11⟩ : S38)) := ⟨_, rfl⟩
       replace H : ((some (y157.set (x16_1 : Int).toNat (⟨(rd_T38 y157 x16_1).f0, (rd_T38 y157 x16_1).f1, (rd_T38 y157 x16_1).f2, (rd_T38 y157 x16_1).f3, (rd_T38 y157 x16_1).f4, (rd_T38 y157 x16_1).f5, (rd_T38 y157 x16_1).f6, false, (rd_T38 y157 x16_1).f8, (rd_T38 y157 x16_1).f9, (rd_T38 y157 x16_1).f10, (rd_T38 y157 x16_1).f11⟩ : S38) : List (S38))).bind fun y158 => (board_Drop.l0 k1 (y158.set (x16_1 : Int).toNat (⟨(rd_T38 y158 x16_1).f0, (rd_T38 y158 x16_1).f1, (rd_T38 y158 x16_1).f2, (rd_T38 y158 x16_1).f3, (rd_T38 y158 x16_1).f4, (rd_T38 y158 x16_1).f5, true, (rd_T38 y158 x16_1).f7, (rd_T38 y158 x16_1).f8, (rd_T38 y158 x16_1).f9, (rd_T38 y158 x16_1).f10, (rd_T38 y158 x16_1).f11⟩ : S38)) (t154.length : Int) (wrap64 (x16_1 + 1)))) = some (r1, r2) := by first | (rw [hy157]; with_reducible exact H) | (have H2_ := (Option.bind_some _ _).symm.trans H; rw [hy157]; with_reducible exact H2_) | (have H2_ := (Option.bind_some _ _).symm.trans H; with_reducible exact H2_) | with_reducible exact H | (rw [hy157]; exact H) | exact H
       have Ny157 := Aside0.mk hy157
       clear hy157
       obtain ⟨y158, hy158⟩ : ∃ y_ : List (S38), y_ = (y157.set (x16_1 : Int).toNat (⟨(rd_T38 y157 x16_1).f0, (rd_T38 y157 x16_1).f1, (rd_T38 y157 x16_1).f2, (rd_T38 y157 x16_1).f3, (rd_T38 y157 x16_1).f4, (rd_T38 y157 x16_1).f5, (rd_T38 y157 x16_1).f6, false, (rd_T38 y157 x16_1).f8, (rd_T38 y157 x16_1).f9, (rd_T38 y157 x16_1).f10, (rd_T38 y157 x16_1).f11⟩ : S38)) := ⟨_, rfl⟩
       replace H : (board_Drop.l0 k1 (y158.set (x16_1 : Int).toNat (⟨(rd_T38 y158 x16_1).f0, (rd_T38 y158 x16_1).f1, (rd_T38 y158 x16_1).f2, (rd_T38 y158 x16_1).f3, (rd_T38 y158 x16_1).f4, (rd_T38 y158 x16_1).f5, true, (rd_T38 y158 x16_1).f7, (rd_T38 y158 x16_1).f8, (rd_T38 y158 x16_1).f9, (rd_T38 y158 x16_1).f10, (rd_T38 y158 x16_1).f11⟩ : S38)) (t154.length : Int) (wrap64 (x16_1 + 1))) = some (r1, r2) := by first | (rw [hy158]; with_reducible exact H) | (have H2_ := (Option.bind_some _ _).symm.trans H; rw [hy158]; with_reducible exact H2_) | (have H2_ := (Option.bind_some _ _).symm.trans H; with_reducible exact H2_) | with_reducible exact H | (rw [hy158]; exact H) | exact H
       have Ny158 := Aside0.mk hy158
       clear hy158
       obtain ⟨y159, hy159⟩ : ∃ y_ : List (S38), y_ = (y158.set (x16_1 : Int).toNat (⟨(rd_T38 y158 x16_1).f0, (rd_T38 y158 x16_1).f1, (rd_T38 y158 x16_1).f2, (rd_T38 y158 x16_1).f3, (rd_T38 y158 x16_1).f4, (rd_T38 y158 x16_1).f5, true, (rd_T38 y158 x16_1).f7, (rd_T38 y158 x16_1).f8, (rd_T38 y158 x16_1).f9, (rd_T38 y158 x16_1).f10, (rd_T38 y158 x16_1).f11⟩ : S38)) := ⟨_, rfl⟩
       replace H : (board_Drop.l0 k1 y159 (t154.length : Int) (wrap64 (x16_1 + 1))) = some (r1, r2) := by first | (rw [hy159]; with_reducible exact H) | (have H2_ := (Option.bind_some _ _).symm.trans H; rw [hy159]; with_reducible exact H2_) | (have H2_ := (Option.bind_some _ _).symm.trans H; with_reducible exact H2_) | with_reducible exact H | (rw [hy159]; exact H) | exact H
       have Ny159 := Aside0.mk hy159
       clear hy159
       have H' := Aside0.mk H
       clear H
       have p11 : 0 ≤ (x16_1 : Int) := of_decide_eq_true (by first | (with_reducible assumption) | assumption)
       have q11 : (x16_1 : Int) < ((x5_1.length : Int) : Int) := of_decide_eq_true (by first | (with_reducible assumption) | assumption)
       obtain ⟨go11, co11, eo11, gb11, gl11, cl11, HG11⟩ := Kd.R_form HO_5.out (by omega)
       (first | cases eo11 | (injection eo11 with ea_ en_ ec_; (first | subst ea_ | (injection ea_ with ea_; subst ea_)); subst ec_; clear en_))
       have GB11 := Aside0.mk gb11
       have GG11 := Aside0.mk HG11
       clear gb11 gl11 HG11
       obtain ⟨ce11, hcl11, hM11, hcc11, hfr11⟩ := Kd.R_elem HO_5.out z38 (x16_1 : Int) p11 q11
       obtain rfl := k38_openM hM11
       have hx11_0 : wr.cell? ⟨go11, (x16_1 : Int).toNat * 12, none⟩ = some (.int .i64 ((rd_T38 x5_1 x16_1).f0)) := hcc11 0 _ rfl
       have hx11_1 : wr.cell? ⟨go11, (x16_1 : Int).toNat * 12 + 1, none⟩ = some (.int .i64 ((rd_T38 x5_1 x16_1).f1)) := hcc11 1 _ rfl
       have hx11_2 : wr.cell? ⟨go11, (x16_1 : Int).toNat * 12 + 2, none⟩ = some (.bool ((rd_T38 x5_1 x16_1).f2)) := hcc11 2 _ rfl
       have hx11_3 : wr.cell? ⟨go11, (x16_1 : Int).toNat * 12 + 3, none⟩ = some (.int .i64 ((rd_T38 x5_1 x16_1).f3)) := hcc11 3 _ rfl
       have hx11_4 : wr.cell? ⟨go11, (x16_1 : Int).toNat * 12 + 4, none⟩ = some (.int .i64 ((rd_T38 x5_1 x16_1).f4)) := hcc11 4 _ rfl
       have hx11_5 : wr.cell? ⟨go11, (x16_1 : Int).toNat * 12 + 5, none⟩ = some (.bool ((rd_T38 x5_1 x16_1).f5)) := hcc11 5 _ rfl
       have hx11_6 : wr.cell? ⟨go11, (x16_1 : Int).toNat * 12 + 6, none⟩ = some (.bool ((rd_T38 x5_1 x16_1).f6)) := hcc11 6 _ rfl
       have hx11_7 : wr.cell? ⟨go11, (x16_1 : Int).toNat * 12 + 7, none⟩ = some (.bool ((rd_T38 x5_1 x16_1).f7)) := hcc11 7 _ rfl
       have hx11_8 : wr.cell? ⟨go11, (x16_1 : Int).toNat * 12 + 8, none⟩ = some (.int .i64 ((rd_T38 x5_1 x16_1).f8)) := hcc11 8 _ rfl
       have hx11_9 : wr.cell? ⟨go11, (x16_1 : Int).toNat * 12 + 9, none⟩ = some (.int .i64 ((rd_T38 x5_1 x16_1).f9)) := hcc11 9 _ rfl
       have hx11_10 : wr.cell? ⟨go11, (x16_1 : Int).toNat * 12 + 10, none⟩ = some (.int .i64 ((rd_T38 x5_1 x16_1).f10)) := hcc11 10 _ rfl
       have hx11_11 : wr.cell? ⟨go11, (x16_1 : Int).toNat * 12 + 11, none⟩ = some (.bool ((rd_T38 x5_1 x16_1).f11)) := hcc11 11 _ rfl
       have hf11_0 : wr.frozen? ⟨go11, (x16_1 : Int).toNat * 12, none⟩ = false := hfr11 0
       have hf11_1 : wr.frozen? ⟨go11, (x16_1 : Int).toNat * 12 + 1, none⟩ = false := hfr11 1
       have hf11_2 : wr.frozen? ⟨go11, (x16_1 : Int).toNat * 12 + 2, none⟩ = false := hfr11 2
       have hf11_3 : wr.frozen? ⟨go11, (x16_1 : Int).toNat * 12 + 3, none⟩ = false := hfr11 3
       have hf11_4 : wr.frozen? ⟨go11, (x16_1 : Int).toNat * 12 + 4, none⟩ = false := hfr11 4
       have hf11_5 : wr.frozen? ⟨go11, (x16_1 : Int).toNat * 12 + 5, none⟩ = false := hfr11 5
       have hf11_6 : wr.frozen? ⟨go11, (x16_1 : Int).toNat * 12 + 6, none⟩ = false := hfr11 6
       have hf11_7 : wr.frozen? ⟨go11, (x16_1 : Int).toNat * 12 + 7, none⟩ = false := hfr11 7
       have hf11_8 : wr.frozen? ⟨go11, (x16_1 : Int).toNat * 12 + 8, none⟩ = false := hfr11 8
       have hf11_9 : wr.frozen? ⟨go11, (x16_1 : Int).toNat * 12 + 9, none⟩ = false := hfr11 9
       have hf11_10 : wr.frozen? ⟨go11, (x16_1 : Int).toNat * 12 + 10, none⟩ = false := hfr11 10
       have hf11_11 : wr.frozen? ⟨go11, (x16_1 : Int).toNat * 12 + 11, none⟩ = false := hfr11 11
       clear hcl11 hcc11 hfr11 hM11
       replace p11 := eq_true p11
       replace q11 := eq_true q11
       have HX14 := Aside0.mk (show Kd.R k38 38 wr w.heap.size (fun _ => True) (.slice (some ⟨go11, 0, none⟩) x5_1.length co7) x5_1 from (by (with_reducible repeat (first | apply Kd.R_alloc | apply Kd.R_drewN | apply Kd.R_drew)); exact HO_5.out))
       obtain ⟨ce14, hcl14, hM14, hcc14, hfr14⟩ := Kd.R_elem HX14.out z38 (x16_1 : Int) (of_decide_eq_true (by first | (with_reducible assumption) | assumption)) (by have h_ : (x16_1 : Int) < ((x5_1.length : Int) : Int) := of_decide_eq_true (by first | (with_reducible assumption) | assumption); first | exact h_ | (have e_ := (Kd.R_reads' HO_5.out).1; omega) | simpa using h_)
       obtain rfl := k38_openM hM14
       have HP14 := Kd.R_seg HX14.out (x16_1 : Int) (of_decide_eq_true (by first | (with_reducible assumption) | assumption)) (by have h_ : (x16_1 : Int) < ((x5_1.length : Int) : Int) := of_decide_eq_true (by first | (with_reducible assumption) | assumption); first | exact h_ | (have e_ := (Kd.R_reads' HO_5.out).1; omega) | simpa using h_) (seg := [.bool false]) (j := 5) hcl14 hcc14 (show 6 ≤ 12 from by decide) (x' := (⟨(rd_T38 x5_1 x16_1).f0, (rd_T38 x5_1 x16_1).f1, (rd_T38 x5_1 x16_1).f2, (rd_T38 x5_1 x16_1).f3, (rd_T38 x5_1 x16_1).f4, false, (rd_T38 x5_1 x16_1).f6, (rd_T38 x5_1 x16_1).f7, (rd_T38 x5_1 x16_1).f8, (rd_T38 x5_1 x16_1).f9, (rd_T38 x5_1 x16_1).f10, (rd_T38 x5_1 x16_1).f11⟩ : S38)) (k38_mkM _ _ _ (⟨(rd_T38 x5_1 x16_1).f0, (rd_T38 x5_1 x16_1).f1, (rd_T38 x5_1 x16_1).f2, (rd_T38 x5_1 x16_1).f3, (rd_T38 x5_1 x16_1).f4, false, (rd_T38 x5_1 x16_1).f6, (rd_T38 x5_1 x16_1).f7, (rd_T38 x5_1 x16_1).f8, (rd_T38 x5_1 x16_1).f9, (rd_T38 x5_1 x16_1).f10, (rd_T38 x5_1 x16_1).f11⟩ : S38) ) (fun _ hk => hk)
       have hx14_5 := hcc14 5 _ rfl
       (try simp only [show (k38).sz = 12 from rfl, Nat.mul_one, Nat.add_zero] at hx14_5)
       have hf14_5 := hfr14 5
       (try simp only [show (k38).sz = 12 from rfl, Nat.mul_one, Nat.add_zero] at hf14_5)
       clear hcl14 hcc14 hfr14 hM14
       go_wp2_with (first | ((with_reducible refine gate_store (t := 4) (p := 26) rfl ?_); refine store_event (t := 4) (p := 26) (v := ?vo_w15) (w1 := (wr.setCell ⟨go11, (x16_1 : Int).toNat * 12 + 5, none⟩ (.bool false))) ?hg ?ho ?hn ?hr ?_; (case ho => rfl); (case hg => rfl); (case hn => rfl); (case hr => first | (go_simp; done) | (go_simp; rfl)); intro w15 hw; have hg : wr.grownBy w15 (some go11) := (by rw [hw]; exact HP14.2); have hp_ : Kd.R k38 38 w15 w.heap.size (fun _ => True) (.slice (some ⟨go11, 0, none⟩) x5_1.length co7) y157 := (by rw [hw, Ny157.out]; exact HP14.1); clear HP14; have n0_ := Aside0.mk (hp_); have n1_ := Aside0.mk ((by rw [hw]; exact below_set (HB.out) GB11.out : Below w.heap.size w w15)); clear HO_5; clear HB; have HO_5 := n0_; have HB := n1_; clear n0_ n1_; clear hg hw hp_; have p12 : 0 ≤ (x16_1 : Int) := of_decide_eq_true (by first | (with_reducible assumption) | assumption); have q12 : (x16_1 : Int) < ((x5_1.length : Int) : Int) := of_decide_eq_true (by first | (with_reducible assumption) | assumption); obtain ⟨ce12, hcl12, hM12, hcc12, hfr12⟩ := Kd.R_elem HO_5.out z38 (x16_1 : Int) p12 q12; obtain rfl := k38_openM hM12; have hx12_0 : w15.cell? ⟨go11, (x16_1 : Int).toNat * 12, none⟩ = some (.int .i64 ((rd_T38 y157 x16_1).f0)) := hcc12 0 _ rfl; have hx12_1 : w15.cell? ⟨go11, (x16_1 : Int).toNat * 12 + 1, none⟩ = some (.int .i64 ((rd_T38 y157 x16_1).f1)) := hcc12 1 _ rfl; have hx12_2 : w15.cell? ⟨go11, (x16_1 : Int).toNat * 12 + 2, none⟩ = some (.bool ((rd_T38 y157 x16_1).f2)) := hcc12 2 _ rfl; have hx12_3 : w15.cell? ⟨go11, (x16_1 : Int).toNat * 12 + 3, none⟩ = some (.int .i64 ((rd_T38 y157 x16_1).f3)) := hcc12 3 _ rfl; have hx12_4 : w15.cell? ⟨go11, (x16_1 : Int).toNat * 12 + 4, none⟩ = some (.int .i64 ((rd_T38 y157 x16_1).f4)) := hcc12 4 _ rfl; have hx12_5 : w15.cell? ⟨go11, (x16_1 : Int).toNat * 12 + 5, none⟩ = some (.bool ((rd_T38 y157 x16_1).f5)) := hcc12 5 _ rfl; have hx12_6 : w15.cell? ⟨go11, (x16_1 : Int).toNat * 12 + 6, none⟩ = some (.bool ((rd_T38 y157 x16_1).f6)) := hcc12 6 _ rfl; have hx12_7 : w15.cell? ⟨go11, (x16_1 : Int).toNat * 12 + 7, none⟩ = some (.bool ((rd_T38 y157 x16_1).f7)) := hcc12 7 _ rfl; have hx12_8 : w15.cell? ⟨go11, (x16_1 : Int).toNat * 12 + 8, none⟩ = some (.int .i64 ((rd_T38 y157 x16_1).f8)) := hcc12 8 _ rfl; have hx12_9 : w15.cell? ⟨go11, (x16_1 : Int).toNat * 12 + 9, none⟩ = some (.int .i64 ((rd_T38 y157 x16_1).f9)) := hcc12 9 _ rfl; have hx12_10 : w15.cell? ⟨go11, (x16_1 : Int).toNat * 12 + 10, none⟩ = some (.int .i64 ((rd_T38 y157 x16_1).f10)) := hcc12 10 _ rfl; have hx12_11 : w15.cell? ⟨go11, (x16_1 : Int).toNat * 12 + 11, none⟩ = some (.bool ((rd_T38 y157 x16_1).f11)) := hcc12 11 _ rfl; have hf12_0 : w15.frozen? ⟨go11, (x16_1 : Int).toNat * 12, none⟩ = false := hfr12 0; have hf12_1 : w15.frozen? ⟨go11, (x16_1 : Int).toNat * 12 + 1, none⟩ = false := hfr12 1; have hf12_2 : w15.frozen? ⟨go11, (x16_1 : Int).toNat * 12 + 2, none⟩ = false := hfr12 2; have hf12_3 : w15.frozen? ⟨go11, (x16_1 : Int).toNat * 12 + 3, none⟩ = false := hfr12 3; have hf12_4 : w15.frozen? ⟨go11, (x16_1 : Int).toNat * 12 + 4, none⟩ = false := hfr12 4; have hf12_5 : w15.frozen? ⟨go11, (x16_1 : Int).toNat * 12 + 5, none⟩ = false := hfr12 5; have hf12_6 : w15.frozen? ⟨go11, (x16_1 : Int).toNat * 12 + 6, none⟩ = false := hfr12 6; have hf12_7 : w15.frozen? ⟨go11, (x16_1 : Int).toNat * 12 + 7, none⟩ = false := hfr12 7; have hf12_8 : w15.frozen? ⟨go11, (x16_1 : Int).toNat * 12 + 8, none⟩ = false := hfr12 8; have hf12_9 : w15.frozen? ⟨go11, (x16_1 : Int).toNat * 12 + 9, none⟩ = false := hfr12 9; have hf12_10 : w15.frozen? ⟨go11, (x16_1 : Int).toNat * 12 + 10, none⟩ = false := hfr12 10; have hf12_11 : w15.frozen? ⟨go11, (x16_1 : Int).toNat * 12 + 11, none⟩ = false := hfr12 11; clear hcl12 hcc12 hfr12 hM12; replace p12 := eq_true p12; replace q12 := eq_true q12; have HX16 := Aside0.mk (show Kd.R k38 38 w15 w.heap.size (fun _ => True) (.slice (some ⟨go11, 0, none⟩) x5_1.length co7) y157 from (by (with_reducible repeat (first | apply Kd.R_alloc | apply Kd.R_drewN | apply Kd.R_drew)); exact HO_5.out)); obtain ⟨ce16, hcl16, hM16, hcc16, hfr16⟩ := Kd.R_elem HX16.out z38 (x16_1 : Int) (of_decide_eq_true (by first | (with_reducible assumption) | assumption)) (by have h_ : (x16_1 : Int) < ((x5_1.length : Int) : Int) := of_decide_eq_true (by first | (with_reducible assumption) | assumption); first | exact h_ | (have e_ := (Kd.R_reads' HO_5.out).1; omega) | simpa using h_); obtain rfl := k38_openM hM16; have HP16 := Kd.R_seg HX16.out (x16_1 : Int) (of_decide_eq_true (by first | (with_reducible assumption) | assumption)) (by have h_ : (x16_1 : Int) < ((x5_1.length : Int) : Int) := of_decide_eq_true (by first | (with_reducible assumption) | assumption); first | exact h_ | (have e_ := (Kd.R_reads' HO_5.out).1; omega) | simpa using h_) (seg := [.bool false]) (j := 7) hcl16 hcc16 (show 8 ≤ 12 from by decide) (x' := (⟨(rd_T38 y157 x16_1).f0, (rd_T38 y157 x16_1).f1, (rd_T38 y157 x16_1).f2, (rd_T38 y157 x16_1).f3, (rd_T38 y157 x16_1).f4, (rd_T38 y157 x16_1).f5, (rd_T38 y157 x16_1).f6, false, (rd_T38 y157 x16_1).f8, (rd_T38 y157 x16_1).f9, (rd_T38 y157 x16_1).f10, (rd_T38 y157 x16_1).f11⟩ : S38)) (k38_mkM _ _ _ (⟨(rd_T38 y157 x16_1).f0, (rd_T38 y157 x16_1).f1, (rd_T38 y157 x16_1).f2, (rd_T38 y157 x16_1).f3, (rd_T38 y157 x16_1).f4, (rd_T38 y157 x16_1).f5, (rd_T38 y157 x16_1).f6, false, (rd_T38 y157 x16_1).f8, (rd_T38 y157 x16_1).f9, (rd_T38 y157 x16_1).f10, (rd_T38 y157 x16_1).f11⟩ : S38) ) (fun _ hk => hk); have hx16_7 := hcc16 7 _ rfl; (try simp only [show (k38).sz = 12 from rfl, Nat.mul_one, Nat.add_zero] at hx16_7); have hf16_7 := hfr16 7; (try simp only [show (k38).sz = 12 from rfl, Nat.mul_one, Nat.add_zero] at hf16_7); clear hcl16 hcc16 hfr16 hM16) | ((with_reducible refine gate_store (t := 4) (p := 28) rfl ?_); refine store_event (t := 4) (p := 28) (v := ?vo_w17) (w1 := (w15.setCell ⟨go11, (x16_1 : Int).toNat * 12 + 7, none⟩ (.bool false))) ?hg ?ho ?hn ?hr ?_; (case ho => rfl); (case hg => rfl); (case hn => rfl); (case hr => first | (go_simp; done) | (go_simp; rfl)); intro w17 hw; have hg : w15.grownBy w17 (some go11) := (by rw [hw]; exact HP16.2); have hp_ : Kd.R k38 38 w17 w.heap.size (fun _ => True) (.slice (some ⟨go11, 0, none⟩) x5_1.length co7) y158 := (by rw [hw, Ny158.out]; exact HP16.1); clear HP16; have n0_ := Aside0.mk (hp_); have n1_ := Aside0.mk ((by rw [hw]; exact below_set (HB.out) GB11.out : Below w.heap.size w w17)); clear HO_5; clear HB; have HO_5 := n0_; have HB := n1_; clear n0_ n1_; clear hg hw hp_; have p13 : 0 ≤ (x16_1 : Int) := of_decide_eq_true (by first | (with_reducible assumption) | assumption); have q13 : (x16_1 : Int) < ((x5_1.length : Int) : Int) := of_decide_eq_true (by first | (with_reducible assumption) | assumption); obtain ⟨ce13, hcl13, hM13, hcc13, hfr13⟩ := Kd.R_elem HO_5.out z38 (x16_1 : Int) p13 q13; obtain rfl := k38_openM hM13; have hx13_0 : w17.cell? ⟨go11, (x16_1 : Int).toNat * 12, none⟩ = some (.int .i64 ((rd_T38 y158 x16_1).f0)) := hcc13 0 _ rfl; have hx13_1 : w17.cell? ⟨go11, (x16_1 : Int).toNat * 12 + 1, none⟩ = some (.int .i64 ((rd_T38 y158 x16_1).f1)) := hcc13 1 _ rfl; have hx13_2 : w17.cell? ⟨go11, (x16_1 : Int).toNat * 12 + 2, none⟩ = some (.bool ((rd_T38 y158 x16_1).f2)) := hcc13 2 _ rfl; have hx13_3 : w17.cell? ⟨go11, (x16_1 : Int).toNat * 12 + 3, none⟩ = some (.int .i64 ((rd_T38 y158 x16_1).f3)) := hcc13 3 _ rfl; have hx13_4 : w17.cell? ⟨go11, (x16_1 : Int).toNat * 12 + 4, none⟩ = some (.int .i64 ((rd_T38 y158 x16_1).f4)) := hcc13 4 _ rfl; have hx13_5 : w17.cell? ⟨go11, (x16_1 : Int).toNat * 12 + 5, none⟩ = some (.bool ((rd_T38 y158 x16_1).f5)) := hcc13 5 _ rfl; have hx13_6 : w17.cell? ⟨go11, (x16_1 : Int).toNat * 12 + 6, none⟩ = some (.bool ((rd_T38 y158 x16_1).f6)) := hcc13 6 _ rfl; have hx13_7 : w17.cell? ⟨go11, (x16_1 : Int).toNat * 12 + 7, none⟩ = some (.bool ((rd_T38 y158 x16_1).f7)) := hcc13 7 _ rfl; have hx13_8 : w17.cell? ⟨go11, (x16_1 : Int).toNat * 12 + 8, none⟩ = some (.int .i64 ((rd_T38 y158 x16_1).f8)) := hcc13 8 _ rfl; have hx13_9 : w17.cell? ⟨go11, (x16_1 : Int).toNat * 12 + 9, none⟩ = some (.int .i64 ((rd_T38 y158 x16_1).f9)) := hcc13 9 _ rfl; have hx13_10 : w17.cell? ⟨go11, (x16_1 : Int).toNat * 12 + 10, none⟩ = some (.int .i64 ((rd_T38 y158 x16_1).f10)) := hcc13 10 _ rfl; have hx13_11 : w17.cell? ⟨go11, (x16_1 : Int).toNat * 12 + 11, none⟩ = some (.bool ((rd_T38 y158 x16_1).f11)) := hcc13 11 _ rfl; have hf13_0 : w17.frozen? ⟨go11, (x16_1 : Int).toNat * 12, none⟩ = false := hfr13 0; have hf13_1 : w17.frozen? ⟨go11, (x16_1 : Int).toNat * 12 + 1, none⟩ = false := hfr13 1; have hf13_2 : w17.frozen? ⟨go11, (x16_1 : Int).toNat * 12 + 2, none⟩ = false := hfr13 2; have hf13_3 : w17.frozen? ⟨go11, (x16_1 : Int).toNat * 12 + 3, none⟩ = false := hfr13 3; have hf13_4 : w17.frozen? ⟨go11, (x16_1 : Int).toNat * 12 + 4, none⟩ = false := hfr13 4; have hf13_5 : w17.frozen? ⟨go11, (x16_1 : Int).toNat * 12 + 5, none⟩ = false := hfr13 5; have hf13_6 : w17.frozen? ⟨go11, (x16_1 : Int).toNat * 12 + 6, none⟩ = false := hfr13 6; have hf13_7 : w17.frozen? ⟨go11, (x16_1 : Int).toNat * 12 + 7, none⟩ = false := hfr13 7; have hf13_8 : w17.frozen? ⟨go11, (x16_1 : Int).toNat * 12 + 8, none⟩ = false := hfr13 8; have hf13_9 : w17.frozen? ⟨go11, (x16_1 : Int).toNat * 12 + 9, none⟩ = false := hfr13 9; have hf13_10 : w17.frozen? ⟨go11, (x16_1 : Int).toNat * 12 + 10, none⟩ = false := hfr13 10; have hf13_11 : w17.frozen? ⟨go11, (x16_1 : Int).toNat * 12 + 11, none⟩ = false := hfr13 11; clear hcl13 hcc13 hfr13 hM13; replace p13 := eq_true p13; replace q13 := eq_true q13; have HX18 := Aside0.mk (show Kd.R k38 38 w17 w.heap.size (fun _ => True) (.slice (some ⟨go11, 0, none⟩) x5_1.length co7) y158 from (by (with_reducible repeat (first | apply Kd.R_alloc | apply Kd.R_drewN | apply Kd.R_drew)); exact HO_5.out)); obtain ⟨ce18, hcl18, hM18, hcc18, hfr18⟩ := Kd.R_elem HX18.out z38 (x16_1 : Int) (of_decide_eq_true (by first | (with_reducible assumption) | assumption)) (by have h_ : (x16_1 : Int) < ((x5_1.length : Int) : Int) := of_decide_eq_true (by first | (with_reducible assumption) | assumption); first | exact h_ | (have e_ := (Kd.R_reads' HO_5.out).1; omega) | simpa using h_); obtain rfl := k38_openM hM18; have HP18 := Kd.R_seg HX18.out (x16_1 : Int) (of_decide_eq_true (by first | (with_reducible assumption) | assumption)) (by have h_ : (x16_1 : Int) < ((x5_1.length : Int) : Int) := of_decide_eq_true (by first | (with_reducible assumption) | assumption); first | exact h_ | (have e_ := (Kd.R_reads' HO_5.out).1; omega) | simpa using h_) (seg := [.bool true]) (j := 6) hcl18 hcc18 (show 7 ≤ 12 from by decide) (x' := (⟨(rd_T38 y158 x16_1).f0, (rd_T38 y158 x16_1).f1, (rd_T38 y158 x16_1).f2, (rd_T38 y158 x16_1).f3, (rd_T38 y158 x16_1).f4, (rd_T38 y158 x16_1).f5, true, (rd_T38 y158 x16_1).f7, (rd_T38 y158 x16_1).f8, (rd_T38 y158 x16_1).f9, (rd_T38 y158 x16_1).f10, (rd_T38 y158 x16_1).f11⟩ : S38)) (k38_mkM _ _ _ (⟨(rd_T38 y158 x16_1).f0, (rd_T38 y158 x16_1).f1, (rd_T38 y158 x16_1).f2, (rd_T38 y158 x16_1).f3, (rd_T38 y158 x16_1).f4, (rd_T38 y158 x16_1).f5, true, (rd_T38 y158 x16_1).f7, (rd_T38 y158 x16_1).f8, (rd_T38 y158 x16_1).f9, (rd_T38 y158 x16_1).f10, (rd_T38 y158 x16_1).f11⟩ : S38) ) (fun _ hk => hk); have hx18_6 := hcc18 6 _ rfl; (try simp only [show (k38).sz = 12 from rfl, Nat.mul_one, Nat.add_zero] at hx18_6); have hf18_6 := hfr18 6; (try simp only [show (k38).sz = 12 from rfl, Nat.mul_one, Nat.add_zero] at hf18_6); clear hcl18 hcc18 hfr18 hM18) | ((with_reducible refine gate_store (t := 4) (p := 30) rfl ?_); refine store_event (t := 4) (p := 30) (v := ?vo_w19) (w1 := (w17.setCell ⟨go11, (x16_1 : Int).toNat * 12 + 6, none⟩ (.bool true))) ?hg ?ho ?hn ?hr ?_; (case ho => rfl); (case hg => rfl); (case hn => rfl); (case hr => first | (go_simp; done) | (go_simp; rfl)); intro w19 hw; have hg : w17.grownBy w19 (some go11) := (by rw [hw]; exact HP18.2); have hp_ : Kd.R k38 38 w19 w.heap.size (fun _ => True) (.slice (some ⟨go11, 0, none⟩) x5_1.length co7) y159 := (by rw [hw, Ny159.out]; exact HP18.1); clear HP18; have n0_ := Aside0.mk (hp_); have n1_ := Aside0.mk ((by rw [hw]; exact below_set (HB.out) GB11.out : Below w.heap.size w w19)); clear HO_5; clear HB; have HO_5 := n0_; have HB := n1_; clear n0_ n1_; clear hg hw hp_))
       (try simp only [← hl5_1])
       go_roundg k1
       case measure => have := HK1.out; omega
       case rel => exact ⟨(y159), (wrap64 (x16_1 + 1)), (by first | rfl | (simp; done) | (simp [*]; done)), H', ⟨by have := HK1.out; omega⟩, ⟨by (try simp only [hl5_1]); (with_reducible repeat (first | apply Kd.R_alloc | apply Kd.R_drewN | apply Kd.R_drew)); exact HO_5.out⟩, ⟨by repeat (first | (with_reducible first | exact HB.out | apply below_alloc | apply pw_below_drewN | apply below_drew1) | exact HB.out | exact Below.refl _ _)⟩⟩
      ·rw [if_neg c10] at H
       exact absurd H (by simp)
     ·rw [if_neg c9] at H
      exact absurd H (by simp)
    ·rw [if_neg c8] at H
     have c8b0 : decide (x16_1 < (t154.length : Int)) = false := decide_eq_false c8
     (try simp only [hl5_1] at c8b0)
     clear c8
     simp only [Option.some.injEq, Prod.mk.injEq] at H
     obtain ⟨rfl, rfl⟩ := H
     go_wp2
     go_ret2
     exact ⟨_, by first | rfl | (simp [errW_none, errW_some] <;> rfl) | (simp [*, errW_none, errW_some] <;> rfl), by (with_reducible repeat (first | apply Kd.R_alloc | apply Kd.R_drewN | apply Kd.R_drew)); exact HO_5.out, by repeat (first | (with_reducible first | exact HB.out | apply below_alloc | apply pw_below_drewN | apply below_drew1) | exact HB.out | exact Below.refl _ _)⟩
 ·rw [if_neg c3] at H
  have c3b0 : (t153 == 0) = false := beq_eq_false_iff_ne.mpr c3
  have c3b1 : (t153 != 0) = true := bne_iff_ne.mpr c3
  simp only [Option.some.injEq, Prod.mk.injEq] at H
  obtain ⟨rfl, rfl⟩ := H
  go_enter Try.func28, Try.ntmps28
  go_wp2_with (first | ((with_reducible refine gate_callee (f := 23) rfl ?_); refine goesL_ (some 8) rfl rfl Try.func23 (by kernel_rfl) rfl #[.slice A0 l0.length c0] rfl (by (try simp only [List.map_toArray, List.map_cons, List.map_nil]); first | done | rfl | (simp only [List.length_drop, List.length_take]; rfl)) ?_; (with_reducible refine (board_Check.calls k _ _ l0 t153 _ ?side1 ?side2 A2.out).mono ?_); (case side1 => repeat (first | exact HR0.out | (with_reducible refine Kd.C_alloc ?_ _) | (with_reducible refine Kd.C_drewN ?_ _) | (with_reducible refine Kd.C_drew ?_))); (case side2 => exact HC0.out); rintro e w20 ⟨rfl, hb⟩; refine ⟨_, rfl, ?_⟩; have n0_ := Aside0.mk (below_step (by repeat (first | (with_reducible first | exact HB.out | apply below_alloc | apply pw_below_drewN | apply below_drew1) | exact HB.out | exact Below.refl _ _)) hb); clear HB; have HB := n0_; clear n0_; (try clear hb); (try clear hb2); (try clear hk); (try clear hi)))
  go_ret2
  exact ⟨_, by first | rfl | (simp [errW_none, errW_some] <;> rfl) | (simp [*, errW_none, errW_some] <;> rfl), by first | exact Kd.R_nil _ _ _ _ _ | exact Kd.N_nil _ _ _ _ _ | exact Kd.V_nil _ _ _ _ _ | exact Kd.Q_nil _ _ _ _ _ | exact Kd.S_nil _ _ _ _ _, by repeat (first | (with_reducible first | exact HB.out | apply below_alloc | apply pw_below_drewN | apply below_drew1) | exact HB.out | exact Below.refl _ _)⟩

end Go.Proofs.Ytgpbighdegdlfaa.PA

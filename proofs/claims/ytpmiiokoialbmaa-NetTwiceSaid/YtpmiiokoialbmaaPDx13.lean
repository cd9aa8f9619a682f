-- Written for the seat Ytpmiiokoialbmaa by this session's program hyb.py (the print's functions, with externals typed by hand).
import Derived.Test.YtpmiiokoialbmaaPDx0
import Derived.Test.YtpmiiokoialbmaaPDx9
namespace Go.Proofs.Ytpmiiokoialbmaa.PD
open Go.RowKit Go.Proofs.YtpmiiokoialbmaaW.PrintWords Go.Proofs.YtpmiiokoialbmaaW.PrintLast Go.Proofs.YtpmiiokoialbmaaW.PrintMore
attribute [local go_sem] max2_int min2_int max_two min_two max_three min_three max_four min_four   -- for this text's walks alone
set_option linter.unusedVariables false
set_option linter.unusedSimpArgs false

/-! ### tidewayref05_Spoil: function 21 -/
def tidewayref05_Spoil.j0 : Nat → List (S26) → Int → Int → Bool → Option ((List (S26)) × Int)
  | 0, _, _, _, _ => none
  | k + 1, x0, x1, x2, x16 => if x16 = true then (some (([] : List (S26)), 50)) else (if x2 < 0 then (some (([] : List (S26)), 2)) else (if 0 ≤ x1 then (if x1 < (x0.length : Int) then (if x2 ≥ (wrap64 (8 * (((rd_T26 x0 x1).f0).length : Int))) then (some (([] : List (S26)), 2)) else ((tidewayref05_Copy.f k x0).bind fun t193 => (if x1 < (t193.length : Int) then (if 0 ≤ (wrap64 (Int.tdiv x2 8)) then (if (wrap64 (Int.tdiv x2 8)) < (((rd_T26 t193 x1).f0).length : Int) then (if 0 ≤ (IntKind.u64.wrap (Int.tmod x2 8)) then (some ((t193.set (x1 : Int).toNat (⟨(((rd_T26 t193 x1).f0).set ((wrap64 (Int.tdiv x2 8)) : Int).toNat (Go.bits .xor .u8 (rd ((rd_T26 t193 x1).f0) (wrap64 (Int.tdiv x2 8))) (shl .u8 1 (IntKind.u64.wrap (Int.tmod x2 8))))), (rd_T26 t193 x1).f1⟩ : S26)), 0)) else (none)) else (none)) else (none)) else (none)))) else (none)) else (none)))
def tidewayref05_Spoil.f (k : Nat) (l0 : List (S26)) (a1 : Int) (a2 : Int) : Option ((List (S26)) × Int) := if a1 < 0 then (tidewayref05_Spoil.j0 k l0 a1 a2 true) else (tidewayref05_Spoil.j0 k l0 a1 a2 (decide (a1 ≥ (l0.length : Int))))
theorem tidewayref05_Spoil.mono_l : ∀ k, (∀ y0 y1 y2 y3, LeO (tidewayref05_Spoil.j0 k y0 y1 y2 y3) (tidewayref05_Spoil.j0 (k + 1) y0 y1 y2 y3))
  | 0 => fun _ _ _ _ r h => by simp [tidewayref05_Spoil.j0] at h
  | k + 1 => by
    have ih0 := tidewayref05_Spoil.mono_l k
    · intro y0 y1 y2 y3
      unfold tidewayref05_Spoil.j0
      repeat' first
      | (with_reducible exact ih0 _ _ _ _)
      | (with_reducible exact tidewayref05_Copy.mono _ _)
      | (with_reducible exact LeO.refl _)
      | (with_reducible exact LeO.none _)
      | (with_reducible refine LeO.ite ?_ ?_)
      | (with_reducible refine LeO.bind ?_ (fun _ => ?_))
      | exact ih0 _ _ _ _
      | exact tidewayref05_Copy.mono _ _
      | exact LeO.none _
      | refine LeO.ite ?_ ?_
      | refine LeO.bind ?_ (fun _ => ?_)
theorem tidewayref05_Spoil.mono : ∀ a0 a1 a2 k, LeO (tidewayref05_Spoil.f k a0 a1 a2) (tidewayref05_Spoil.f (k + 1) a0 a1 a2) := by
  intro a0 a1 a2 k
  have ih0 := tidewayref05_Spoil.mono_l k
  unfold tidewayref05_Spoil.f
  repeat' first
      | (with_reducible exact ih0 _ _ _ _)
      | (with_reducible exact tidewayref05_Copy.mono _ _)
      | (with_reducible exact LeO.refl _)
      | (with_reducible exact LeO.none _)
      | (with_reducible refine LeO.ite ?_ ?_)
      | (with_reducible refine LeO.bind ?_ (fun _ => ?_))
      | exact ih0 _ _ _ _
      | exact tidewayref05_Copy.mono _ _
      | exact LeO.none _
      | refine LeO.ite ?_ ?_
      | refine LeO.bind ?_ (fun _ => ?_)
set_option maxHeartbeats 8000000 in
set_option maxRecDepth 100000 in
theorem tidewayref05_Spoil.calls (k : Nat) (A0 : Option Addr) (c0 : Nat) (l0 : List (S26)) (a1 : Int) (a2 : Int) (r1 : List (S26)) (r2 : Int) (w : World) (hr0 : Kd.C k26 w A0 l0.length l0) (hc0 : l0.length ≤ c0) (h : tidewayref05_Spoil.f k l0 a1 a2 = some (r1, r2)) :
    Calls Try.prog 21 #[.slice A0 l0.length c0, .int .i64 a1, .int .i64 a2] w fun e w' => ∃ v0_ : Value, e = .returned (.tuple #[v0_, .int .i64 r2]) ∧ Kd.S k26 26 w' w.heap.size (fun _ => True) v0_ r1 ∧ Below w.heap.size w w' := by
  have HR0 := Aside0.mk hr0
  have HC0 := Aside0.mk hc0
  clear hr0 hc0
  have HB := Aside0.mk (Below.refl w.heap.size w)
  have H : (if a1 < 0 then (tidewayref05_Spoil.j0 k l0 a1 a2 true) else (tidewayref05_Spoil.j0 k l0 a1 a2 (decide (a1 ≥ (l0.length : Int))))) = some (r1, r2) := h
  clear h
  have HC4 := Aside0.mk H
  clear H
  go_enter Try.func21, Try.ntmps21
  go_upto_region 1 with (fail)
  go_cut [16] (fun v16 wc => ∃ (kq : Nat) (x16_3 : Bool), v16 = .bool x16_3 ∧ Aside0 (tidewayref05_Spoil.j0 kq l0 a1 a2 x16_3 = some (r1, r2)) ∧ Aside0 (kq ≤ k) ∧ Aside0 (Below w.heap.size w wc))
  case first =>
    have H := HC4.out
    clear HC4
    by_cases c5 : a1 < 0
    · rw [if_pos c5] at H
      have c5b0 : decide (a1 < 0) = true := decide_eq_true c5
      clear c5
      (first | rw [c5b0] | (simp only [i64_w, i32_w]; rw [c5b0]) | skip)
      have H' := Aside0.mk H
      clear H
      go_wp2
      go_meet
      case rel => exact ⟨_, (true), (by first | rfl | (simp; done) | (simp [*]; done)), H', ⟨by first | omega | exact Nat.le_refl _⟩, ⟨by repeat (first | (with_reducible first | exact HB.out | apply below_alloc | apply pw_below_drewN | apply below_drew1) | exact HB.out | exact Below.refl _ _)⟩⟩
    · rw [if_neg c5] at H
      have c5b0 : decide (a1 < 0) = false := decide_eq_false c5
      clear c5
      (first | rw [c5b0] | (simp only [i64_w, i32_w]; rw [c5b0]) | skip)
      have H' := Aside0.mk H
      clear H
      go_wp2
      go_meet
      case rel => exact ⟨_, (decide (a1 ≥ (l0.length : Int))), (by first | rfl | (simp; done) | (simp [*]; done)), H', ⟨by first | omega | exact Nat.le_refl _⟩, ⟨by repeat (first | (with_reducible first | exact HB.out | apply below_alloc | apply pw_below_drewN | apply below_drew1) | exact HB.out | exact Below.refl _ _)⟩⟩
  case rest =>
    clear HC4
    try clear c2
    try clear p2
    try clear c5
    try clear c5b0
    obtain ⟨kq, x16_3, rfl, HA, HJ3, HB⟩ := hcut
    cases kq with
    | zero => exact absurd HA.out (by simp [tidewayref05_Spoil.j0])
    | succ kj3 =>
      have H := HA.out
      clear HA
      simp only [tidewayref05_Spoil.j0] at H
      by_cases c6 : x16_3 = true
      · subst c6
        have H1 : (some (([] : List (S26)), 50)) = some (r1, r2) := by rw [if_pos rfl] at H; exact H
        clear H
        have H := H1
        clear H1
        simp only [Option.some.injEq, Prod.mk.injEq] at H
        obtain ⟨rfl, rfl⟩ := H
        go_wp2
        go_ret2
        exact ⟨_, by first | rfl | (simp [errW_none, errW_some] <;> rfl) | (simp [*, errW_none, errW_some] <;> rfl), by first | exact Kd.S_nil _ _ _ _ _ | exact Kd.N_nil _ _ _ _ _ | exact Kd.V_nil _ _ _ _ _ | exact Kd.Q_nil _ _ _ _ _ | exact Kd.R_nil _ _ _ _ _, by repeat (first | (with_reducible first | exact HB.out | apply below_alloc | apply pw_below_drewN | apply below_drew1) | exact HB.out | exact Below.refl _ _)⟩
      · replace c6 := Bool.eq_false_iff.mpr c6
        subst c6
        have H1 : (if a2 < 0 then (some (([] : List (S26)), 2)) else (if 0 ≤ a1 then (if a1 < (l0.length : Int) then (if a2 ≥ (wrap64 (8 * (((rd_T26 l0 a1).f0).length : Int))) then (some (([] : List (S26)), 2)) else ((tidewayref05_Copy.f kj3 l0).bind fun t193 => (if a1 < (t193.length : Int) then (if 0 ≤ (wrap64 (Int.tdiv a2 8)) then (if (wrap64 (Int.tdiv a2 8)) < (((rd_T26 t193 a1).f0).length : Int) then (if 0 ≤ (IntKind.u64.wrap (Int.tmod a2 8)) then (some ((t193.set (a1 : Int).toNat (⟨(((rd_T26 t193 a1).f0).set ((wrap64 (Int.tdiv a2 8)) : Int).toNat (Go.bits .xor .u8 (rd ((rd_T26 t193 a1).f0) (wrap64 (Int.tdiv a2 8))) (shl .u8 1 (IntKind.u64.wrap (Int.tmod a2 8))))), (rd_T26 t193 a1).f1⟩ : S26)), 0)) else (none)) else (none)) else (none)) else (none)))) else (none)) else (none))) = some (r1, r2) := by rw [if_neg (show ¬ (false = true) by decide)] at H; exact H
        clear H
        have H := H1
        clear H1
        by_cases c7 : a2 < 0
        · rw [if_pos c7] at H
          have c7b0 : decide (a2 < 0) = true := decide_eq_true c7
          clear c7
          simp only [Option.some.injEq, Prod.mk.injEq] at H
          obtain ⟨rfl, rfl⟩ := H
          go_wp2
          go_ret2
          exact ⟨_, by first | rfl | (simp [errW_none, errW_some] <;> rfl) | (simp [*, errW_none, errW_some] <;> rfl), by first | exact Kd.S_nil _ _ _ _ _ | exact Kd.N_nil _ _ _ _ _ | exact Kd.V_nil _ _ _ _ _ | exact Kd.Q_nil _ _ _ _ _ | exact Kd.R_nil _ _ _ _ _, by repeat (first | (with_reducible first | exact HB.out | apply below_alloc | apply pw_below_drewN | apply below_drew1) | exact HB.out | exact Below.refl _ _)⟩
        · rw [if_neg c7] at H
          have c7b0 : decide (a2 < 0) = false := decide_eq_false c7
          clear c7
          by_cases c8 : 0 ≤ a1
          · rw [if_pos c8] at H
            have c8b0 : decide (0 ≤ a1) = true := decide_eq_true c8
            clear c8
            by_cases c9 : a1 < (l0.length : Int)
            · rw [if_pos c9] at H
              have c9b0 : decide (a1 < (l0.length : Int)) = true := decide_eq_true c9
              clear c9
              by_cases c10 : a2 ≥ (wrap64 (8 * (((rd_T26 l0 a1).f0).length : Int)))
              · rw [if_pos c10] at H
                have c10b0 : decide ((wrap64 (8 * (((rd_T26 l0 a1).f0).length : Int))) ≤ a2) = true := decide_eq_true c10
                clear c10
                simp only [Option.some.injEq, Prod.mk.injEq] at H
                obtain ⟨rfl, rfl⟩ := H
                have p192 : 0 ≤ (a1 : Int) := of_decide_eq_true (by first | (with_reducible assumption) | assumption)
                have q192 : a1 < (l0.length : Int) := of_decide_eq_true (by first | (with_reducible assumption) | assumption)
                obtain ⟨ad192, A192_0, c192_0, e192, hx192_0, hx192_1, hl192_0, hi192_0⟩ := at_T26 HR0.out a1 p192 q192
                cases e192
                replace hx192_0 := (HB.out.cell (World.block_lt_of_cell? w _ hx192_0)).trans hx192_0
                replace hx192_1 := (HB.out.cell (World.block_lt_of_cell? w _ hx192_1)).trans hx192_1
                have HR192_0 := Aside0.mk hi192_0
                have HC192_0 := Aside0.mk hl192_0
                clear hi192_0 hl192_0
                replace p192 := eq_true p192
                replace q192 := eq_true q192
                go_wp2
                go_ret2
                exact ⟨_, by first | rfl | (simp [errW_none, errW_some] <;> rfl) | (simp [*, errW_none, errW_some] <;> rfl), by first | exact Kd.S_nil _ _ _ _ _ | exact Kd.N_nil _ _ _ _ _ | exact Kd.V_nil _ _ _ _ _ | exact Kd.Q_nil _ _ _ _ _ | exact Kd.R_nil _ _ _ _ _, by repeat (first | (with_reducible first | exact HB.out | apply below_alloc | apply pw_below_drewN | apply below_drew1) | exact HB.out | exact Below.refl _ _)⟩
              · rw [if_neg c10] at H
                have c10b0 : decide ((wrap64 (8 * (((rd_T26 l0 a1).f0).length : Int))) ≤ a2) = false := decide_eq_false c10
                clear c10
                replace H := Option.bind_eq_some_iff.mp H
                obtain ⟨t193, A110, H⟩ := H
                replace H : (if a1 < (t193.length : Int) then (if 0 ≤ (wrap64 (Int.tdiv a2 8)) then (if (wrap64 (Int.tdiv a2 8)) < (((rd_T26 t193 a1).f0).length : Int) then (if 0 ≤ (IntKind.u64.wrap (Int.tmod a2 8)) then (some ((t193.set (a1 : Int).toNat (⟨(((rd_T26 t193 a1).f0).set ((wrap64 (Int.tdiv a2 8)) : Int).toNat (Go.bits .xor .u8 (rd ((rd_T26 t193 a1).f0) (wrap64 (Int.tdiv a2 8))) (shl .u8 1 (IntKind.u64.wrap (Int.tmod a2 8))))), (rd_T26 t193 a1).f1⟩ : S26)), 0)) else (none)) else (none)) else (none)) else (none)) = some (r1, r2) := H
                have A11 := Aside0.mk A110
                clear A110
                by_cases c12 : a1 < (t193.length : Int)
                · rw [if_pos c12] at H
                  have c12b0 : decide (a1 < (t193.length : Int)) = true := decide_eq_true c12
                  clear c12
                  obtain ⟨ji13, hji13⟩ : ∃ j_ : Int, (wrap64 (Int.tdiv a2 8)) = j_ := ⟨_, rfl⟩
                  replace H : (if 0 ≤ (ji13) then (if (ji13) < (((rd_T26 t193 a1).f0).length : Int) then (if 0 ≤ (IntKind.u64.wrap (Int.tmod a2 8)) then (some ((t193.set (a1 : Int).toNat (⟨(((rd_T26 t193 a1).f0).set ((ji13) : Int).toNat (Go.bits .xor .u8 (rd ((rd_T26 t193 a1).f0) (ji13)) (shl .u8 1 (IntKind.u64.wrap (Int.tmod a2 8))))), (rd_T26 t193 a1).f1⟩ : S26)), 0)) else (none)) else (none)) else (none)) = some (r1, r2) := by first | (rw [hji13] at H; exact H) | (simp only [hji13] at H ⊢; exact H)
                  (try rw [hji13] at A11)
                  have hji13w : (IntKind.i64.wrap (Int.tdiv a2 8)) = ji13 := (i64_w _).trans hji13
                  by_cases c14 : 0 ≤ (ji13)
                  · rw [if_pos c14] at H
                    have c14b0 : decide (0 ≤ (ji13)) = true := decide_eq_true c14
                    clear c14
                    by_cases c15 : (ji13) < (((rd_T26 t193 a1).f0).length : Int)
                    · rw [if_pos c15] at H
                      have c15b0 : decide ((ji13) < (((rd_T26 t193 a1).f0).length : Int)) = true := decide_eq_true c15
                      clear c15
                      obtain ⟨ji16, hji16⟩ : ∃ j_ : Int, (IntKind.u64.wrap (Int.tmod a2 8)) = j_ := ⟨_, rfl⟩
                      replace H : (if 0 ≤ (ji16) then (some ((t193.set (a1 : Int).toNat (⟨(((rd_T26 t193 a1).f0).set ((ji13) : Int).toNat (Go.bits .xor .u8 (rd ((rd_T26 t193 a1).f0) (ji13)) (shl .u8 1 (ji16)))), (rd_T26 t193 a1).f1⟩ : S26)), 0)) else (none)) = some (r1, r2) := by first | (rw [hji16] at H; exact H) | (simp only [hji16] at H ⊢; exact H)
                      (try rw [hji16] at A11)
                      by_cases c17 : 0 ≤ (ji16)
                      · rw [if_pos c17] at H
                        have c17b0 := eq_true c17
                        have c17b1 : decide (0 ≤ (ji16)) = true := decide_eq_true c17
                        clear c17
                        obtain ⟨ji18, hji18⟩ : ∃ j_ : Int, (shl .u8 1 (ji16)) = j_ := ⟨_, rfl⟩
                        replace H : (some ((t193.set (a1 : Int).toNat (⟨(((rd_T26 t193 a1).f0).set ((ji13) : Int).toNat (Go.bits .xor .u8 (rd ((rd_T26 t193 a1).f0) (ji13)) (ji18))), (rd_T26 t193 a1).f1⟩ : S26)), 0)) = some (r1, r2) := by first | (rw [hji18] at H; exact H) | (simp only [hji18] at H ⊢; exact H)
                        (try rw [hji18] at A11)
                        have hji18_ : (IntKind.u8.wrap (1 * 2 ^ min (ji16).toNat 8)) = ji18 := hji18
                        have hji18z : (ji16) ≤ 8 → (IntKind.u8.wrap (1 * 2 ^ (ji16).toNat)) = ji18 := shl_small hji18
                        have hji18u : (IntKind.u8.wrap (2 ^ min (ji16).toNat 8)) = ji18 := by have h_ := hji18_; rw [Int.one_mul] at h_; exact h_
                        have hji18v : (ji16) ≤ 8 → (IntKind.u8.wrap (2 ^ (ji16).toNat)) = ji18 := fun hle_ => by have h_ := hji18z hle_; rw [Int.one_mul] at h_; exact h_
                        obtain ⟨y198, hy198⟩ : ∃ y_ : List Int, y_ = (((rd_T26 t193 a1).f0).set ((ji13) : Int).toNat (Go.bits .xor .u8 (rd ((rd_T26 t193 a1).f0) (ji13)) (ji18))) := ⟨_, rfl⟩
                        replace H : (some ((t193.set (a1 : Int).toNat (⟨y198, (rd_T26 t193 a1).f1⟩ : S26)), 0)) = some (r1, r2) := by first | (rw [hy198]; with_reducible exact H) | (have H2_ := (Option.bind_some _ _).symm.trans H; rw [hy198]; with_reducible exact H2_) | (have H2_ := (Option.bind_some _ _).symm.trans H; with_reducible exact H2_) | with_reducible exact H | (rw [hy198]; exact H) | exact H
                        have Ny198 := Aside0.mk hy198
                        clear hy198
                        obtain ⟨y200, hy200⟩ : ∃ y_ : List (S26), y_ = (t193.set (a1 : Int).toNat (⟨y198, (rd_T26 t193 a1).f1⟩ : S26)) := ⟨_, rfl⟩
                        replace H : (some (y200, 0)) = some (r1, r2) := by first | (rw [hy200]; with_reducible exact H) | (have H2_ := (Option.bind_some _ _).symm.trans H; rw [hy200]; with_reducible exact H2_) | (have H2_ := (Option.bind_some _ _).symm.trans H; with_reducible exact H2_) | with_reducible exact H | (rw [hy200]; exact H) | exact H
                        have Ny200 := Aside0.mk hy200
                        clear hy200
                        simp only [Option.some.injEq, Prod.mk.injEq] at H
                        obtain ⟨rfl, rfl⟩ := H
                        have p192 : 0 ≤ (a1 : Int) := of_decide_eq_true (by first | (with_reducible assumption) | assumption)
                        have q192 : a1 < (l0.length : Int) := of_decide_eq_true (by first | (with_reducible assumption) | assumption)
                        obtain ⟨ad192, A192_0, c192_0, e192, hx192_0, hx192_1, hl192_0, hi192_0⟩ := at_T26 HR0.out a1 p192 q192
                        cases e192
                        replace hx192_0 := (HB.out.cell (World.block_lt_of_cell? w _ hx192_0)).trans hx192_0
                        replace hx192_1 := (HB.out.cell (World.block_lt_of_cell? w _ hx192_1)).trans hx192_1
                        have HR192_0 := Aside0.mk hi192_0
                        have HC192_0 := Aside0.mk hl192_0
                        clear hi192_0 hl192_0
                        replace p192 := eq_true p192
                        replace q192 := eq_true q192
                        go_wp2_with (first | ((with_reducible refine gate_callee (f := 14) rfl ?_); refine goesL_ (some 31) rfl rfl Try.func14 (by kernel_rfl) rfl #[.slice (some ad192) l0.length c0] rfl (by (try simp only [List.map_toArray, List.map_cons, List.map_nil]); first | done | rfl | (simp only [List.length_drop, List.length_take]; rfl)) ?_; (with_reducible refine (tidewayref05_Copy.calls kj3 _ _ l0 t193 _ ?side1 ?side2 A11.out).mono ?_); (case side1 => repeat (first | exact (Kd.C_below HR0.out HB.out) | exact HR0.out | (with_reducible refine Kd.C_alloc ?_ _) | (with_reducible refine Kd.C_drewN ?_ _) | (with_reducible refine Kd.C_drew ?_))); (case side2 => exact HC0.out); rintro e w20 ⟨v194, rfl, ho0, hb⟩; refine ⟨_, rfl, ?_⟩; have n0_ := Aside0.mk (Kd.S_lower ho0 (below_size (by repeat (first | (with_reducible first | exact HB.out | apply below_alloc | apply pw_below_drewN | apply below_drew1) | exact HB.out | exact Below.refl _ _)))); have n1_ := Aside0.mk (below_step (by repeat (first | (with_reducible first | exact HB.out | apply below_alloc | apply pw_below_drewN | apply below_drew1) | exact HB.out | exact Below.refl _ _)) hb); clear HB; have HO195 := n0_; have HB := n1_; clear n0_ n1_; (try clear hb); (try clear hb2); (try clear hk); (try clear hi); (try clear ho0); obtain ⟨Ao21, co21, eo21⟩ := Kd.S_slice HO195.out; subst eo21; have p196 : 0 ≤ (a1 : Int) := of_decide_eq_true (by first | (with_reducible assumption) | assumption); have q196 : a1 < (t193.length : Int) := of_decide_eq_true (by first | (with_reducible assumption) | assumption); obtain ⟨ad196, A196_0, c196_0, e196, hx196_0, hx196_1, hl196_0, hi196_0⟩ := at_T26 (Kd.S_reads' HO195.out).2.2 a1 p196 q196; cases e196; obtain ⟨ce196, hce196, hMe196, hcc196⟩ := Kd.S_get HO195.out z26 a1 p196 (by first | exact q196 | exact of_decide_eq_true (by first | (with_reducible assumption) | assumption) | (have e_ := (Kd.S_reads' HO195.out).1; omega)); obtain ⟨ve196_0, rfl, ge196_0⟩ := k26_openM hMe196; have hv196_0 := hcc196 0 _ rfl; rw [Nat.add_zero] at hv196_0; replace hv196_0 := Option.some.inj (hv196_0.symm.trans hx196_0); rw [hv196_0] at ge196_0; have HL196_0 := Aside0.mk (show Kd.R (Kd.int .u8) 5 _ _ _ _ ((rd_T26 t193 a1).f0) from ge196_0); clear hv196_0 ge196_0; have HX196_0 := Aside0.mk hx196_0; clear hcc196 hce196; have HR196_0 := Aside0.mk hi196_0; have HC196_0 := Aside0.mk hl196_0; clear hi196_0 hl196_0; replace p196 := eq_true p196; replace q196 := eq_true q196; have p197 : 0 ≤ ((ji13) : Int) := of_decide_eq_true (by first | (with_reducible assumption) | assumption); have q197 : (ji13) < (((rd_T26 t193 a1).f0).length : Int) := of_decide_eq_true (by first | (with_reducible assumption) | assumption); obtain ⟨ad197, e197, hx197_0⟩ := Kd.at_int (by repeat (first | (with_reducible exact HR196_0.out) | (with_reducible refine Kd.C_alloc ?_ _) | (with_reducible refine Kd.C_drewN ?_ _) | (with_reducible refine Kd.C_drew ?_) | exact HR196_0.out)) (ji13) p197 q197; cases e197; replace p197 := eq_true p197; replace q197 := eq_true q197; have p19 : 0 ≤ ((ji13) : Int) := of_decide_eq_true (by first | (with_reducible assumption) | assumption); have q19 : ((ji13) : Int) < ((((rd_T26 t193 a1).f0).length : Int) : Int) := of_decide_eq_true (by first | (with_reducible assumption) | assumption); obtain ⟨go19, co19, eo19, gb19, gl19, cl19, HG19⟩ := Kd.R_form HL196_0.out (by omega); (first | cases eo19 | (injection eo19 with ea_ en_ ec_; (first | subst ea_ | (injection ea_ with ea_; subst ea_)); subst ec_; clear en_)); have GB19 := Aside0.mk gb19; have GG19 := Aside0.mk HG19; clear gb19 gl19 HG19; (first | simp only [add_plain] at hx197_0 | skip); obtain ⟨hx19_0, hf19_0⟩ := Kd.R_celln 0 HL196_0.out ((ji13) : Int) p19 q19; replace p19 := eq_true p19; replace q19 := eq_true q19; have hq22 : (a1 : Int) < (t193.length : Int) := (by have h_ : (a1 : Int) < ((t193.length : Int) : Int) := of_decide_eq_true (by first | (with_reducible assumption) | assumption); first | exact h_ | (have e_ := (Kd.S_reads' HO195.out).1; omega) | simpa only [List.length_set, List.length_set] using h_); obtain ⟨oki22, ce22, hcl22, hM22, hcc22, hok22, hbk22⟩ := Kd.S_borrow HO195.out z26 (a1 : Int) (of_decide_eq_true (by first | (with_reducible assumption) | assumption)) hq22; obtain ⟨ve22_0, rfl, ge22_0⟩ := k26_openM hM22; have hv22 := hcc22 0 _ rfl; rw [Nat.add_zero] at hv22; replace hv22 := Option.some.inj (hv22.symm.trans HX196_0.out); subst hv22; clear hcc22 hcl22; replace ge22_0 := (show Kd.R (Kd.int .u8) 5 _ _ _ _ ((rd_T26 t193 a1).f0) from ge22_0); have HP22 := Kd.R_putg ge22_0 ((ji13) : Int) (Go.bits .xor .u8 (rd ((rd_T26 t193 a1).f0) (ji13)) (ji18))) | ((with_reducible refine gate_store (t := 5) (p := 46) rfl ?_); refine store_event (t := 5) (p := 46) (v := ?vo_w23) (w1 := (w20.setCell ⟨go19, ((ji13) : Int).toNat, none⟩ (.int .u8 (Go.bits .xor .u8 (rd ((rd_T26 t193 a1).f0) (ji13)) (ji18))))) ?hg ?ho ?hn ?hr ?_; (case ho => rfl); (case hg => rfl); (case hn => rfl); (case hr => first | (go_simp; done) | (go_simp; rfl)); intro w23 hw; have hg : w20.grownBy w23 (some go19) := (by rw [hw]; exact HP22.2); have hz_ : Kd.R (Kd.int .u8) 5 w23 w.heap.size oki22 (.slice (some ⟨go19, 0, none⟩) ((rd_T26 t193 a1).f0).length c196_0) y198 := (by rw [hw, Ny198.out]; exact HP22.1); have hp_ : Kd.S k26 26 w23 w.heap.size (fun _ => True) (.slice (some ad196) t193.length co21) y200 := (by rw [Ny200.out]; exact hbk22 hg (fun k_ e_ => by injection e_ with e_; subst e_; exact ge22_0.1 _ rfl) (k26_mkM _ _ _ (⟨y198, (rd_T26 t193 a1).f1⟩ : S26) hz_)); have hm_ := Kd.R_mono hz_ hok22; clear HP22 hbk22; have n0_ := Aside0.mk (hp_); have n1_ := Aside0.mk ((by rw [hw]; exact below_set (HB.out) GB19.out : Below w.heap.size w w23)); have n2_ := Aside0.mk (hm_); have n3_ := Aside0.mk ((Kd.R_reads' hm_).2.1); clear HO195; clear HB; clear HL196_0; have HO195 := n0_; have HB := n1_; have HL201 := n2_; have HC199 := n3_; clear n0_ n1_ n2_ n3_; clear hg hw hp_ hz_ hm_ hok22))
                        go_ret2
                        exact ⟨_, by first | rfl | (simp [errW_none, errW_some] <;> rfl) | (simp only [← hji13, ← hji16, ← hji18]; first | rfl | (simp [errW_none, errW_some] <;> rfl)) | (simp [*, errW_none, errW_some] <;> rfl), by (with_reducible repeat (first | apply Kd.S_alloc | apply Kd.S_drewN | apply Kd.S_drew)); exact HO195.out, by repeat (first | (with_reducible first | exact HB.out | apply below_alloc | apply pw_below_drewN | apply below_drew1) | exact HB.out | exact Below.refl _ _)⟩
                      · rw [if_neg c17] at H
                        exact absurd H (by simp)
                    · rw [if_neg c15] at H
                      exact absurd H (by simp)
                  · rw [if_neg c14] at H
                    exact absurd H (by simp)
                · rw [if_neg c12] at H
                  exact absurd H (by simp)
            · rw [if_neg c9] at H
              exact absurd H (by simp)
          · rw [if_neg c8] at H
            exact absurd H (by simp)

-- NOT PRINTED: function 5 (tidewaylaw05_NetDoes)

-- NOT PRINTED: function 6 (tidewaylaw05_NetTwice)

end Go.Proofs.Ytpmiiokoialbmaa.PD

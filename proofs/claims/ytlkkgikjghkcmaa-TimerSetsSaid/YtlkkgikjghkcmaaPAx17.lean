-- Written for the seat Ytlkkgikjghkcmaa by this session's program hyb.py (the print's functions, with externals typed by hand).
import Derived.Test.YtlkkgikjghkcmaaPAx0
import Derived.Test.YtlkkgikjghkcmaaPAx2
import Derived.Test.YtlkkgikjghkcmaaPAx4
import Derived.Test.YtlkkgikjghkcmaaPAx6
import Derived.Test.YtlkkgikjghkcmaaPAx9
import Derived.Test.YtlkkgikjghkcmaaPAx10
import Derived.Test.YtlkkgikjghkcmaaPAx13
import Derived.Test.YtlkkgikjghkcmaaPAx15
import Derived.Test.YtlkkgikjghkcmaaPAx16
namespace Go.Proofs.Ytlkkgikjghkcmaa.PA
open Go.RowKit Go.Proofs.YtlkkgikjghkcmaaW.PrintWords Go.Proofs.YtlkkgikjghkcmaaW.PrintLast Go.Proofs.YtlkkgikjghkcmaaW.PrintMore
attribute [local go_sem] max2_int min2_int max_two min_two max_three min_three max_four min_four   -- for this text's walks alone
set_option linter.unusedVariables false
set_option linter.unusedSimpArgs false

/-! ### tidewaylaw04_TimerSets: function 4 -/
def tidewaylaw04_TimerSets.f (k : Nat) (l0 : List (S38)) (a1 : Int) (a2 : Int) : Option (Bool) := (some (([] : List (S38)) : List (S38))).bind fun y239 => (if y239.length + l0.length < 8796093022208 then ((some (y239 ++ l0 : List (S38))).bind fun y242 => ((timer_Set.f y242 a1 a2).bind fun bt245 => ((tidewayref04_Set.f k l0 a1 a2).bind fun bt249 => ((timer_Stop.f y242 a1).bind fun bt253 => ((tidewayref04_Stop.f k l0 a1).bind fun bt257 => ((tidewayref04_Same.f k bt245.1 bt249.1).bind fun t261 => (if t261 = true then (if bt245.2 = bt249.2 then ((tidewayref04_Same.f k bt253.1 bt257.1).bind fun t262 => (if t262 = true then (if bt253.2 = bt257.2 then ((timer_Check.f k l0).bind fun t263 => ((tidewayref04_Check.f k l0).bind fun t264 => (if t263 = t264 then ((tidewayref04_Same.f k y242 l0).bind fun t265 => (if t265 = true then ((tidewaylaw04_heads.f k).bind fun t266 => (some t266)) else (some false))) else (some false)))) else (some false)) else (some false))) else (some false)) else (some false)))))))) else (none))
theorem tidewaylaw04_TimerSets.mono : ∀ a0 a1 a2 k, LeO (tidewaylaw04_TimerSets.f k a0 a1 a2) (tidewaylaw04_TimerSets.f (k + 1) a0 a1 a2) := by
 intro a0 a1 a2 k
 unfold tidewaylaw04_TimerSets.f
 repeat' first
   | (with_reducible exact tidewaylaw04_heads.mono _)
   | (with_reducible exact tidewayref04_Check.mono _ _)
   | (with_reducible exact tidewayref04_Same.mono _ _ _)
   | (with_reducible exact tidewayref04_Set.mono _ _ _ _)
   | (with_reducible exact tidewayref04_Stop.mono _ _ _)
   | (with_reducible exact timer_Check.mono _ _)
   | (with_reducible exact LeO.refl _)
   | (with_reducible exact LeO.none _)
   | (with_reducible refine LeO.ite ?_ ?_)
   | (with_reducible refine LeO.bind ?_ (fun _ => ?_))
   | exact tidewaylaw04_heads.mono _
   | exact tidewayref04_Check.mono _ _
   | exact tidewayref04_Same.mono _ _ _
   | exact tidewayref04_Set.mono _ _ _ _
   | exact tidewayref04_Stop.mono _ _ _
   | exact timer_Check.mono _ _
   | exact LeO.none _
   | refine LeO.ite ?_ ?_
   | refine LeO.bind ?_ (fun _ => ?_)
set_option maxHeartbeats 8000000 in
set_option maxRecDepth 100000 in
theorem tidewaylaw04_TimerSets.calls (k : Nat) (A0 : Option Addr) (c0 : Nat) (l0 : List (S38)) (a1 : Int) (a2 : Int) (r : Bool) (w : World) (hr0 : Kd.C k38 w A0 l0.length l0) (hc0 : l0.length ≤ c0) (h : tidewaylaw04_TimerSets.f k l0 a1 a2 = some r) (hrT : r = true := by rfl) :
  Calls Try.prog 4 #[.slice A0 l0.length c0, .int .i64 a1, .int .i64 a2] w fun e w' => e = .returned (.bool r) ∧ Below w.heap.size w w' := by
 have HRT := Aside0.mk hrT
 clear hrT
 have HR0 := Aside0.mk hr0
 have HC0 := Aside0.mk hc0
 clear hr0 hc0
 have HB := Aside0.mk (Below.refl w.heap.size w)
 have H : ((some (([] : List (S38)) : List (S38))).bind fun y239 => (if y239.length + l0.length < 8796093022208 then ((some (y239 ++ l0 : List (S38))).bind fun y242 => ((timer_Set.f y242 a1 a2).bind fun bt245 => ((tidewayref04_Set.f k l0 a1 a2).bind fun bt249 => ((timer_Stop.f y242 a1).bind fun bt253 => ((tidewayref04_Stop.f k l0 a1).bind fun bt257 => ((tidewayref04_Same.f k bt245.1 bt249.1).bind fun t261 => (if t261 = true then (if bt245.2 = bt249.2 then ((tidewayref04_Same.f k bt253.1 bt257.1).bind fun t262 => (if t262 = true then (if bt253.2 = bt257.2 then ((timer_Check.f k l0).bind fun t263 => ((tidewayref04_Check.f k l0).bind fun t264 => (if t263 = t264 then ((tidewayref04_Same.f k y242 l0).bind fun t265 => (if t265 = true then ((tidewaylaw04_heads.f k).bind fun t266 => (some t266)) else (some false))) else (some false)))) else (some false)) else (some false))) else (some false)) else (some false)))))))) else (none))) = some r := h
 clear h
 obtain ⟨y239, hy239⟩ : ∃ y_ : List (S38), y_ = (([] : List (S38))) := ⟨_, rfl⟩
 replace H : (if y239.length + l0.length < 8796093022208 then ((some (y239 ++ l0 : List (S38))).bind fun y242 => ((timer_Set.f y242 a1 a2).bind fun bt245 => ((tidewayref04_Set.f k l0 a1 a2).bind fun bt249 => ((timer_Stop.f y242 a1).bind fun bt253 => ((tidewayref04_Stop.f k l0 a1).bind fun bt257 => ((tidewayref04_Same.f k bt245.1 bt249.1).bind fun t261 => (if t261 = true then (if bt245.2 = bt249.2 then ((tidewayref04_Same.f k bt253.1 bt257.1).bind fun t262 => (if t262 = true then (if bt253.2 = bt257.2 then ((timer_Check.f k l0).bind fun t263 => ((tidewayref04_Check.f k l0).bind fun t264 => (if t263 = t264 then ((tidewayref04_Same.f k y242 l0).bind fun t265 => (if t265 = true then ((tidewaylaw04_heads.f k).bind fun t266 => (some t266)) else (some false))) else (some false)))) else (some false)) else (some false))) else (some false)) else (some false)))))))) else (none)) = some r := by first | (rw [hy239]; with_reducible exact H) | (have H2_ := (Option.bind_some _ _).symm.trans H; rw [hy239]; with_reducible exact H2_) | (have H2_ := (Option.bind_some _ _).symm.trans H; with_reducible exact H2_) | with_reducible exact H | (rw [hy239]; exact H) | exact H
 have Ny239 := Aside0.mk hy239
 clear hy239
 by_cases c4 : y239.length + l0.length < 8796093022208
 ·rw [if_pos c4] at H
  have LMc4 := Aside0.mk c4
  clear c4
  obtain ⟨y242, hy242⟩ : ∃ y_ : List (S38), y_ = (y239 ++ l0) := ⟨_, rfl⟩
  replace H : ((timer_Set.f y242 a1 a2).bind fun bt245 => ((tidewayref04_Set.f k l0 a1 a2).bind fun bt249 => ((timer_Stop.f y242 a1).bind fun bt253 => ((tidewayref04_Stop.f k l0 a1).bind fun bt257 => ((tidewayref04_Same.f k bt245.1 bt249.1).bind fun t261 => (if t261 = true then (if bt245.2 = bt249.2 then ((tidewayref04_Same.f k bt253.1 bt257.1).bind fun t262 => (if t262 = true then (if bt253.2 = bt257.2 then ((timer_Check.f k l0).bind fun t263 => ((tidewayref04_Check.f k l0).bind fun t264 => (if t263 = t264 then ((tidewayref04_Same.f k y242 l0).bind fun t265 => (if t265 = true then ((tidewaylaw04_heads.f k).bind fun t266 => (some t266)) else (some false))) else (some false)))) else (some false)) else (some false))) else (some false)) else (some false))))))) = some r := by first | (rw [hy242]; with_reducible exact H) | (have H2_ := (Option.bind_some _ _).symm.trans H; rw [hy242]; with_reducible exact H2_) | (have H2_ := (Option.bind_some _ _).symm.trans H; with_reducible exact H2_) | with_reducible exact H | (rw [hy242]; exact H) | exact H
  have Ny242 := Aside0.mk hy242
  clear hy242
  replace H := Option.bind_eq_some_iff.mp H
  obtain ⟨⟨t245, t246⟩, A50, H⟩ := H
  replace H : ((tidewayref04_Set.f k l0 a1 a2).bind fun bt249 => ((timer_Stop.f y242 a1).bind fun bt253 => ((tidewayref04_Stop.f k l0 a1).bind fun bt257 => ((tidewayref04_Same.f k t245 bt249.1).bind fun t261 => (if t261 = true then (if t246 = bt249.2 then ((tidewayref04_Same.f k bt253.1 bt257.1).bind fun t262 => (if t262 = true then (if bt253.2 = bt257.2 then ((timer_Check.f k l0).bind fun t263 => ((tidewayref04_Check.f k l0).bind fun t264 => (if t263 = t264 then ((tidewayref04_Same.f k y242 l0).bind fun t265 => (if t265 = true then ((tidewaylaw04_heads.f k).bind fun t266 => (some t266)) else (some false))) else (some false)))) else (some false)) else (some false))) else (some false)) else (some false)))))) = some r := H
  have A5 := Aside0.mk A50
  clear A50
  replace H := Option.bind_eq_some_iff.mp H
  obtain ⟨⟨t249, t250⟩, A60, H⟩ := H
  replace H : ((timer_Stop.f y242 a1).bind fun bt253 => ((tidewayref04_Stop.f k l0 a1).bind fun bt257 => ((tidewayref04_Same.f k t245 t249).bind fun t261 => (if t261 = true then (if t246 = t250 then ((tidewayref04_Same.f k bt253.1 bt257.1).bind fun t262 => (if t262 = true then (if bt253.2 = bt257.2 then ((timer_Check.f k l0).bind fun t263 => ((tidewayref04_Check.f k l0).bind fun t264 => (if t263 = t264 then ((tidewayref04_Same.f k y242 l0).bind fun t265 => (if t265 = true then ((tidewaylaw04_heads.f k).bind fun t266 => (some t266)) else (some false))) else (some false)))) else (some false)) else (some false))) else (some false)) else (some false))))) = some r := H
  have A6 := Aside0.mk A60
  clear A60
  replace H := Option.bind_eq_some_iff.mp H
  obtain ⟨⟨t253, t254⟩, A70, H⟩ := H
  replace H : ((tidewayref04_Stop.f k l0 a1).bind fun bt257 => ((tidewayref04_Same.f k t245 t249).bind fun t261 => (if t261 = true then (if t246 = t250 then ((tidewayref04_Same.f k t253 bt257.1).bind fun t262 => (if t262 = true then (if t254 = bt257.2 then ((timer_Check.f k l0).bind fun t263 => ((tidewayref04_Check.f k l0).bind fun t264 => (if t263 = t264 then ((tidewayref04_Same.f k y242 l0).bind fun t265 => (if t265 = true then ((tidewaylaw04_heads.f k).bind fun t266 => (some t266)) else (some false))) else (some false)))) else (some false)) else (some false))) else (some false)) else (some false)))) = some r := H
  have A7 := Aside0.mk A70
  clear A70
  replace H := Option.bind_eq_some_iff.mp H
  obtain ⟨⟨t257, t258⟩, A80, H⟩ := H
  replace H : ((tidewayref04_Same.f k t245 t249).bind fun t261 => (if t261 = true then (if t246 = t250 then ((tidewayref04_Same.f k t253 t257).bind fun t262 => (if t262 = true then (if t254 = t258 then ((timer_Check.f k l0).bind fun t263 => ((tidewayref04_Check.f k l0).bind fun t264 => (if t263 = t264 then ((tidewayref04_Same.f k y242 l0).bind fun t265 => (if t265 = true then ((tidewaylaw04_heads.f k).bind fun t266 => (some t266)) else (some false))) else (some false)))) else (some false)) else (some false))) else (some false)) else (some false))) = some r := H
  have A8 := Aside0.mk A80
  clear A80
  replace H := Option.bind_eq_some_iff.mp H
  obtain ⟨t261, A90, H⟩ := H
  replace H : (if t261 = true then (if t246 = t250 then ((tidewayref04_Same.f k t253 t257).bind fun t262 => (if t262 = true then (if t254 = t258 then ((timer_Check.f k l0).bind fun t263 => ((tidewayref04_Check.f k l0).bind fun t264 => (if t263 = t264 then ((tidewayref04_Same.f k y242 l0).bind fun t265 => (if t265 = true then ((tidewaylaw04_heads.f k).bind fun t266 => (some t266)) else (some false))) else (some false)))) else (some false)) else (some false))) else (some false)) else (some false)) = some r := H
  have A9 := Aside0.mk A90
  clear A90
  by_cases c10 : t261 = true
  ·subst c10
   have H1 : (if t246 = t250 then ((tidewayref04_Same.f k t253 t257).bind fun t262 => (if t262 = true then (if t254 = t258 then ((timer_Check.f k l0).bind fun t263 => ((tidewayref04_Check.f k l0).bind fun t264 => (if t263 = t264 then ((tidewayref04_Same.f k y242 l0).bind fun t265 => (if t265 = true then ((tidewaylaw04_heads.f k).bind fun t266 => (some t266)) else (some false))) else (some false)))) else (some false)) else (some false))) else (some false)) = some r := by rw [if_pos rfl] at H; exact H
   clear H
   have H := H1
   clear H1
   by_cases c11 : t246 = t250
   ·rw [if_pos c11] at H
    have c11b0 : (t246 == t250) = true := beq_iff_eq.mpr c11
    have c11b1 : (t246 != t250) = false := bne_eq_false_iff_eq.mpr c11
    clear c11
    replace H := Option.bind_eq_some_iff.mp H
    obtain ⟨t262, A120, H⟩ := H
    replace H : (if t262 = true then (if t254 = t258 then ((timer_Check.f k l0).bind fun t263 => ((tidewayref04_Check.f k l0).bind fun t264 => (if t263 = t264 then ((tidewayref04_Same.f k y242 l0).bind fun t265 => (if t265 = true then ((tidewaylaw04_heads.f k).bind fun t266 => (some t266)) else (some false))) else (some false)))) else (some false)) else (some false)) = some r := H
    have A12 := Aside0.mk A120
    clear A120
    by_cases c13 : t262 = true
    ·subst c13
     have H1 : (if t254 = t258 then ((timer_Check.f k l0).bind fun t263 => ((tidewayref04_Check.f k l0).bind fun t264 => (if t263 = t264 then ((tidewayref04_Same.f k y242 l0).bind fun t265 => (if t265 = true then ((tidewaylaw04_heads.f k).bind fun t266 => (some t266)) else (some false))) else (some false)))) else (some false)) = some r := by rw [if_pos rfl] at H; exact H
     clear H
     have H := H1
     clear H1
     by_cases c14 : t254 = t258
     ·rw [if_pos c14] at H
      have c14b0 : (t254 == t258) = true := beq_iff_eq.mpr c14
      have c14b1 : (t254 != t258) = false := bne_eq_false_iff_eq.mpr c14
      clear c14
      replace H := Option.bind_eq_some_iff.mp H
      obtain ⟨t263, A150, H⟩ := H
      replace H : ((tidewayref04_Check.f k l0).bind fun t264 => (if t263 = t264 then ((tidewayref04_Same.f k y242 l0).bind fun t265 => (if t265 = true then ((tidewaylaw04_heads.f k).bind fun t266 => (some t266)) else (some false))) else (some false))) = some r := H
      have A15 := Aside0.mk A150
      clear A150
      replace H := Option.bind_eq_some_iff.mp H
      obtain ⟨t264, A160, H⟩ := H
      replace H : (if t263 = t264 then ((tidewayref04_Same.f k y242 l0).bind fun t265 => (if t265 = true then ((tidewaylaw04_heads.f k).bind fun t266 => (some t266)) else (some false))) else (some false)) = some r := H
      have A16 := Aside0.mk A160
      clear A160
      by_cases c17 : t263 = t264
      ·rw [if_pos c17] at H
       have c17b0 : (t263 == t264) = true := beq_iff_eq.mpr c17
       have c17b1 : (t263 != t264) = false := bne_eq_false_iff_eq.mpr c17
       clear c17
       replace H := Option.bind_eq_some_iff.mp H
       obtain ⟨t265, A180, H⟩ := H
       replace H : (if t265 = true then ((tidewaylaw04_heads.f k).bind fun t266 => (some t266)) else (some false)) = some r := H
       have A18 := Aside0.mk A180
       clear A180
       by_cases c19 : t265 = true
       ·subst c19
        have H1 : ((tidewaylaw04_heads.f k).bind fun t266 => (some t266)) = some r := by rw [if_pos rfl] at H; exact H
        clear H
        have H := H1
        clear H1
        replace H := Option.bind_eq_some_iff.mp H
        obtain ⟨t266, A200, H⟩ := H
        replace H : (some t266) = some r := H
        have A20 := Aside0.mk A200
        clear A200
        obtain rfl := Option.some.inj H
        go_enter Try.func4, Try.ntmps4
        go_wp2_with (first | ((with_reducible refine gate_dst (N := 16) rfl ?_); refine Kd.R_lit k38 _ 38 ?hg (N := 16) ?hd (xs := ([] : List (S38))) (inner := []) (ok := fun _ => True) (okp := fun _ => True) ?hr ?hp (fun _ hk => hk) trivial (Below.refl _ _) (Nat.le_refl _) (by simp) ?_; (case hd => rfl); (case hg => rfl); (case hr => first | (go_simp; done) | (go_simp; rfl)); (case hp => exact (Reps.none _ _)); intro v240 w21 ho22 hb hg_ hnew_; clear hg_ hnew_; (first | rw [← Ny239.out] at ho22 | (simp only [Int.reduceToNat] at ho22; rw [← Ny239.out] at ho22)); have n0_ := Aside0.mk (Kd.R_lower ho22 (below_size (by repeat (first | (with_reducible first | exact HB.out | apply below_alloc | apply pw_below_drewN | apply below_drew1) | exact HB.out | exact Below.refl _ _)))); have n1_ := Aside0.mk (below_step (by repeat (first | (with_reducible first | exact HB.out | apply below_alloc | apply pw_below_drewN | apply below_drew1) | exact HB.out | exact Below.refl _ _)) hb); clear HB; have HO241 := n0_; have HB := n1_; clear n0_ n1_; clear hb ho22) | ((with_reducible refine gate_builtin (b := .append) (xs := #[.tmp 16, .tmp 17]) rfl ?_); at_builtin; refine Kd.R_append_rows k38 (w0 := w) w.heap.size rfl (.tmp 16) (.tmp 17) 22 38 (.agg #[(.int .i64 0), (.int .i64 0)]) 16 rfl Try.underlying22 info38 rfl (by decide) (by omega) v240 y239 l0 _ _ _ (fun _ => True) (fun _ => False) rfl rfl ?aO ?aR (fun _ _ h => h) (fun _ h => h.elim) ?aF ?aB ?aS ?aL ?_; (case aR => repeat (first | exact (Kd.C_below HR0.out HB.out) | exact HR0.out | (with_reducible refine Kd.C_alloc ?_ _) | (with_reducible refine Kd.C_drewN ?_ _) | (with_reducible refine Kd.C_drew ?_))); (case aB => exact (by repeat (first | (with_reducible first | exact HB.out | apply below_alloc | apply pw_below_drewN | apply below_drew1) | exact HB.out | exact Below.refl _ _))); (case aF => exact (fun _ _ => trivial)); (case aO => exact (by (with_reducible repeat (first | apply Kd.R_alloc | apply Kd.R_drewN | apply Kd.R_drew)); exact HO241.out)); (case aS => exact (below_size (by repeat (first | (with_reducible first | exact HB.out | apply below_alloc | apply pw_below_drewN | apply below_drew1) | exact HB.out | exact Below.refl _ _)))); (case aL => have := LMc4.out; omega); intro v243 w23 ho hb hg hat; rw [← Ny242.out] at ho; have n0_ := Aside0.mk (hb); have n1_ := Aside0.mk (ho); clear HB; clear HO241; have HB := n0_; have HO244 := n1_; clear n0_ n1_; clear ho hb hg hat; obtain ⟨Ao24, co24, eo24⟩ := Kd.R_slice HO244.out; subst eo24) | ((with_reducible refine gate_callee (f := 10) rfl ?_); refine goesL_ (some 23) rfl rfl Try.func10 (by kernel_rfl) rfl #[.slice Ao24 y242.length co24, .int .i64 a1, .int .i64 a2] rfl (by (try simp only [List.map_toArray, List.map_cons, List.map_nil]); first | done | rfl | (simp only [List.length_drop, List.length_take]; rfl)) ?_; (with_reducible refine (timer_Set.calls _ _ y242 a1 a2 t245 t246 _ ?side1 ?side2 A5.out).mono ?_); (case side1 => repeat (first | exact (Kd.R_reads' HO244.out).2.2 | (with_reducible refine Kd.C_alloc ?_ _) | (with_reducible refine Kd.C_drewN ?_ _) | (with_reducible refine Kd.C_drew ?_))); (case side2 => exact (Kd.R_reads' HO244.out).2.1); rintro e w25 ⟨v247, rfl, ho0, hb⟩; refine ⟨_, rfl, ?_⟩; have n0_ := Aside0.mk (Kd.R_elder' (by (with_reducible repeat (first | apply Kd.R_alloc | apply Kd.R_drewN | apply Kd.R_drew)); exact HO244.out) (Kd.R_base ho0) hb); have n1_ := Aside0.mk (Kd.R_lower (Kd.R_new' ho0 (Kd.R_lt (by (with_reducible repeat (first | apply Kd.R_alloc | apply Kd.R_drewN | apply Kd.R_drew)); exact HO244.out))) (below_size (by repeat (first | (with_reducible first | exact HB.out | apply below_alloc | apply pw_below_drewN | apply below_drew1) | exact HB.out | exact Below.refl _ _)))); have n2_ := Aside0.mk (below_step (by repeat (first | (with_reducible first | exact HB.out | apply below_alloc | apply pw_below_drewN | apply below_drew1) | exact HB.out | exact Below.refl _ _)) hb); clear HO244; clear HB; have HO244 := n0_; have HO248 := n1_; have HB := n2_; clear n0_ n1_ n2_; (try clear hb); (try clear hb2); (try clear hk); (try clear hi); (try clear ho0)) | ((with_reducible refine gate_callee (f := 12) rfl ?_); refine goesL_ (some 30) rfl rfl Try.func12 (by kernel_rfl) rfl #[.slice A0 l0.length c0, .int .i64 a1, .int .i64 a2] rfl (by (try simp only [List.map_toArray, List.map_cons, List.map_nil]); first | done | rfl | (simp only [List.length_drop, List.length_take]; rfl)) ?_; (with_reducible refine (tidewayref04_Set.calls k _ _ l0 a1 a2 t249 t250 _ ?side1 ?side2 A6.out).mono ?_); (case side1 => repeat (first | exact (Kd.C_below HR0.out HB.out) | exact HR0.out | (with_reducible refine Kd.C_alloc ?_ _) | (with_reducible refine Kd.C_drewN ?_ _) | (with_reducible refine Kd.C_drew ?_))); (case side2 => exact HC0.out); rintro e w26 ⟨v251, rfl, ho0, hb⟩; refine ⟨_, rfl, ?_⟩; have n0_ := Aside0.mk (Kd.R_elder' (by (with_reducible repeat (first | apply Kd.R_alloc | apply Kd.R_drewN | apply Kd.R_drew)); exact HO244.out) (Kd.R_base ho0) hb); have n1_ := Aside0.mk (Kd.R_elder' (by (with_reducible repeat (first | apply Kd.R_alloc | apply Kd.R_drewN | apply Kd.R_drew)); exact HO248.out) (Kd.R_base ho0) hb); have n2_ := Aside0.mk (Kd.R_lower (Kd.R_new' (Kd.R_new' ho0 (Kd.R_lt (by (with_reducible repeat (first | apply Kd.R_alloc | apply Kd.R_drewN | apply Kd.R_drew)); exact HO244.out))) (Kd.R_lt (by (with_reducible repeat (first | apply Kd.R_alloc | apply Kd.R_drewN | apply Kd.R_drew)); exact HO248.out))) (below_size (by repeat (first | (with_reducible first | exact HB.out | apply below_alloc | apply pw_below_drewN | apply below_drew1) | exact HB.out | exact Below.refl _ _)))); have n3_ := Aside0.mk (below_step (by repeat (first | (with_reducible first | exact HB.out | apply below_alloc | apply pw_below_drewN | apply below_drew1) | exact HB.out | exact Below.refl _ _)) hb); clear HO244; clear HO248; clear HB; have HO244 := n0_; have HO248 := n1_; have HO252 := n2_; have HB := n3_; clear n0_ n1_ n2_ n3_; (try clear hb); (try clear hb2); (try clear hk); (try clear hi); (try clear ho0)) | ((with_reducible refine gate_callee (f := 13) rfl ?_); refine goesL_ (some 36) rfl rfl Try.func13 (by kernel_rfl) rfl #[.slice Ao24 y242.length co24, .int .i64 a1] rfl (by (try simp only [List.map_toArray, List.map_cons, List.map_nil]); first | done | rfl | (simp only [List.length_drop, List.length_take]; rfl)) ?_; (with_reducible refine (timer_Stop.calls _ _ y242 a1 t253 t254 _ ?side1 ?side2 A7.out).mono ?_); (case side1 => repeat (first | exact (Kd.R_reads' HO244.out).2.2 | (with_reducible refine Kd.C_alloc ?_ _) | (with_reducible refine Kd.C_drewN ?_ _) | (with_reducible refine Kd.C_drew ?_))); (case side2 => exact (Kd.R_reads' HO244.out).2.1); rintro e w27 ⟨v255, rfl, ho0, hb⟩; refine ⟨_, rfl, ?_⟩; have n0_ := Aside0.mk (Kd.R_elder' (by (with_reducible repeat (first | apply Kd.R_alloc | apply Kd.R_drewN | apply Kd.R_drew)); exact HO244.out) (Kd.R_base ho0) hb); have n1_ := Aside0.mk (Kd.R_elder' (by (with_reducible repeat (first | apply Kd.R_alloc | apply Kd.R_drewN | apply Kd.R_drew)); exact HO248.out) (Kd.R_base ho0) hb); have n2_ := Aside0.mk (Kd.R_elder' (by (with_reducible repeat (first | apply Kd.R_alloc | apply Kd.R_drewN | apply Kd.R_drew)); exact HO252.out) (Kd.R_base ho0) hb); have n3_ := Aside0.mk (Kd.R_lower (Kd.R_new' (Kd.R_new' (Kd.R_new' ho0 (Kd.R_lt (by (with_reducible repeat (first | apply Kd.R_alloc | apply Kd.R_drewN | apply Kd.R_drew)); exact HO244.out))) (Kd.R_lt (by (with_reducible repeat (first | apply Kd.R_alloc | apply Kd.R_drewN | apply Kd.R_drew)); exact HO248.out))) (Kd.R_lt (by (with_reducible repeat (first | apply Kd.R_alloc | apply Kd.R_drewN | apply Kd.R_drew)); exact HO252.out))) (below_size (by repeat (first | (with_reducible first | exact HB.out | apply below_alloc | apply pw_below_drewN | apply below_drew1) | exact HB.out | exact Below.refl _ _)))); have n4_ := Aside0.mk (below_step (by repeat (first | (with_reducible first | exact HB.out | apply below_alloc | apply pw_below_drewN | apply below_drew1) | exact HB.out | exact Below.refl _ _)) hb); clear HO244; clear HO248; clear HO252; clear HB; have HO244 := n0_; have HO248 := n1_; have HO252 := n2_; have HO256 := n3_; have HB := n4_; clear n0_ n1_ n2_ n3_ n4_; (try clear hb); (try clear hb2); (try clear hk); (try clear hi); (try clear ho0)) | ((with_reducible refine gate_callee (f := 14) rfl ?_); refine goesL_ (some 42) rfl rfl Try.func14 (by kernel_rfl) rfl #[.slice A0 l0.length c0, .int .i64 a1] rfl (by (try simp only [List.map_toArray, List.map_cons, List.map_nil]); first | done | rfl | (simp only [List.length_drop, List.length_take]; rfl)) ?_; (with_reducible refine (tidewayref04_Stop.calls k _ _ l0 a1 t257 t258 _ ?side1 ?side2 A8.out).mono ?_); (case side1 => repeat (first | exact (Kd.C_below HR0.out HB.out) | exact HR0.out | (with_reducible refine Kd.C_alloc ?_ _) | (with_reducible refine Kd.C_drewN ?_ _) | (with_reducible refine Kd.C_drew ?_))); (case side2 => exact HC0.out); rintro e w28 ⟨v259, rfl, ho0, hb⟩; refine ⟨_, rfl, ?_⟩; have n0_ := Aside0.mk (Kd.R_elder' (by (with_reducible repeat (first | apply Kd.R_alloc | apply Kd.R_drewN | apply Kd.R_drew)); exact HO244.out) (Kd.R_base ho0) hb); have n1_ := Aside0.mk (Kd.R_elder' (by (with_reducible repeat (first | apply Kd.R_alloc | apply Kd.R_drewN | apply Kd.R_drew)); exact HO248.out) (Kd.R_base ho0) hb); have n2_ := Aside0.mk (Kd.R_elder' (by (with_reducible repeat (first | apply Kd.R_alloc | apply Kd.R_drewN | apply Kd.R_drew)); exact HO252.out) (Kd.R_base ho0) hb); have n3_ := Aside0.mk (Kd.R_elder' (by (with_reducible repeat (first | apply Kd.R_alloc | apply Kd.R_drewN | apply Kd.R_drew)); exact HO256.out) (Kd.R_base ho0) hb); have n4_ := Aside0.mk (Kd.R_lower (Kd.R_new' (Kd.R_new' (Kd.R_new' (Kd.R_new' ho0 (Kd.R_lt (by (with_reducible repeat (first | apply Kd.R_alloc | apply Kd.R_drewN | apply Kd.R_drew)); exact HO244.out))) (Kd.R_lt (by (with_reducible repeat (first | apply Kd.R_alloc | apply Kd.R_drewN | apply Kd.R_drew)); exact HO248.out))) (Kd.R_lt (by (with_reducible repeat (first | apply Kd.R_alloc | apply Kd.R_drewN | apply Kd.R_drew)); exact HO252.out))) (Kd.R_lt (by (with_reducible repeat (first | apply Kd.R_alloc | apply Kd.R_drewN | apply Kd.R_drew)); exact HO256.out))) (below_size (by repeat (first | (with_reducible first | exact HB.out | apply below_alloc | apply pw_below_drewN | apply below_drew1) | exact HB.out | exact Below.refl _ _)))); have n5_ := Aside0.mk (below_step (by repeat (first | (with_reducible first | exact HB.out | apply below_alloc | apply pw_below_drewN | apply below_drew1) | exact HB.out | exact Below.refl _ _)) hb); clear HO244; clear HO248; clear HO252; clear HO256; clear HB; have HO244 := n0_; have HO248 := n1_; have HO252 := n2_; have HO256 := n3_; have HO260 := n4_; have HB := n5_; clear n0_ n1_ n2_ n3_ n4_ n5_; (try clear hb); (try clear hb2); (try clear hk); (try clear hi); (try clear ho0); obtain ⟨Ao29, co29, eo29⟩ := Kd.R_slice HO248.out; subst eo29; obtain ⟨Ao30, co30, eo30⟩ := Kd.R_slice HO252.out; subst eo30) | ((with_reducible refine gate_callee (f := 11) rfl ?_); refine goesL_ (some 47) rfl rfl Try.func11 (by kernel_rfl) rfl #[.slice Ao29 t245.length co29, .slice Ao30 t249.length co30] rfl (by (try simp only [List.map_toArray, List.map_cons, List.map_nil]); first | done | rfl | (simp only [List.length_drop, List.length_take]; rfl)) ?_; (with_reducible refine (tidewayref04_Same.calls k _ _ t245 _ _ t249 true _ ?side1 ?side2 ?side3 ?side4 A9.out).mono ?_); (case side1 => repeat (first | exact (Kd.R_reads' HO248.out).2.2 | (with_reducible refine Kd.C_alloc ?_ _) | (with_reducible refine Kd.C_drewN ?_ _) | (with_reducible refine Kd.C_drew ?_))); (case side2 => exact (Kd.R_reads' HO248.out).2.1); (case side3 => repeat (first | exact (Kd.R_reads' HO252.out).2.2 | (with_reducible refine Kd.C_alloc ?_ _) | (with_reducible refine Kd.C_drewN ?_ _) | (with_reducible refine Kd.C_drew ?_))); (case side4 => exact (Kd.R_reads' HO252.out).2.1); rintro e w' ⟨rfl, ⟨nd, rfl⟩⟩; refine ⟨_, rfl, ?_⟩; obtain ⟨Ao31, co31, eo31⟩ := Kd.R_slice HO256.out; subst eo31; obtain ⟨Ao32, co32, eo32⟩ := Kd.R_slice HO260.out; subst eo32) | (go_at_call 11; (with_reducible refine (tidewayref04_Same.calls k _ _ t253 _ _ t257 true _ ?side1 ?side2 ?side3 ?side4 A12.out).mono ?_); (case side1 => repeat (first | exact (Kd.R_reads' HO256.out).2.2 | (with_reducible refine Kd.C_alloc ?_ _) | (with_reducible refine Kd.C_drewN ?_ _) | (with_reducible refine Kd.C_drew ?_))); (case side2 => exact (Kd.R_reads' HO256.out).2.1); (case side3 => repeat (first | exact (Kd.R_reads' HO260.out).2.2 | (with_reducible refine Kd.C_alloc ?_ _) | (with_reducible refine Kd.C_drewN ?_ _) | (with_reducible refine Kd.C_drew ?_))); (case side4 => exact (Kd.R_reads' HO260.out).2.1); rintro e w' ⟨rfl, ⟨nd, rfl⟩⟩) | (go_at_call 8; (with_reducible refine (timer_Check.calls k _ _ l0 t263 _ ?side1 ?side2 A15.out).mono ?_); (case side1 => repeat (first | exact (Kd.C_below HR0.out (by repeat (first | (with_reducible first | exact HB.out | apply below_alloc | apply pw_below_drewN | apply below_drew1) | exact HB.out | exact Below.refl _ _))) | (with_reducible refine Kd.C_alloc ?_ _) | (with_reducible refine Kd.C_drewN ?_ _) | (with_reducible refine Kd.C_drew ?_))); (case side2 => exact HC0.out); rintro e w33 ⟨rfl, hb⟩; have n0_ := Aside0.mk (Kd.R_below (by (with_reducible repeat (first | apply Kd.R_alloc | apply Kd.R_drewN | apply Kd.R_drew)); exact HO244.out) hb); have n1_ := Aside0.mk (Kd.R_below (by (with_reducible repeat (first | apply Kd.R_alloc | apply Kd.R_drewN | apply Kd.R_drew)); exact HO248.out) hb); have n2_ := Aside0.mk (Kd.R_below (by (with_reducible repeat (first | apply Kd.R_alloc | apply Kd.R_drewN | apply Kd.R_drew)); exact HO252.out) hb); have n3_ := Aside0.mk (Kd.R_below (by (with_reducible repeat (first | apply Kd.R_alloc | apply Kd.R_drewN | apply Kd.R_drew)); exact HO256.out) hb); have n4_ := Aside0.mk (Kd.R_below (by (with_reducible repeat (first | apply Kd.R_alloc | apply Kd.R_drewN | apply Kd.R_drew)); exact HO260.out) hb); have n5_ := Aside0.mk (below_step (by repeat (first | (with_reducible first | exact HB.out | apply below_alloc | apply pw_below_drewN | apply below_drew1) | exact HB.out | exact Below.refl _ _)) hb); clear HO244; clear HO248; clear HO252; clear HO256; clear HO260; clear HB; have HO244 := n0_; have HO248 := n1_; have HO252 := n2_; have HO256 := n3_; have HO260 := n4_; have HB := n5_; clear n0_ n1_ n2_ n3_ n4_ n5_; (try clear hb); (try clear hb2); (try clear hk); (try clear hi)) | (go_at_call 15; (with_reducible refine (tidewayref04_Check.calls k _ _ l0 t264 _ ?side1 ?side2 A16.out).mono ?_); (case side1 => repeat (first | exact (Kd.C_below HR0.out HB.out) | exact HR0.out | (with_reducible refine Kd.C_alloc ?_ _) | (with_reducible refine Kd.C_drewN ?_ _) | (with_reducible refine Kd.C_drew ?_))); (case side2 => exact HC0.out); rintro e w34 ⟨rfl, hb⟩; have n0_ := Aside0.mk (Kd.R_below (by (with_reducible repeat (first | apply Kd.R_alloc | apply Kd.R_drewN | apply Kd.R_drew)); exact HO244.out) hb); have n1_ := Aside0.mk (Kd.R_below (by (with_reducible repeat (first | apply Kd.R_alloc | apply Kd.R_drewN | apply Kd.R_drew)); exact HO248.out) hb); have n2_ := Aside0.mk (Kd.R_below (by (with_reducible repeat (first | apply Kd.R_alloc | apply Kd.R_drewN | apply Kd.R_drew)); exact HO252.out) hb); have n3_ := Aside0.mk (Kd.R_below (by (with_reducible repeat (first | apply Kd.R_alloc | apply Kd.R_drewN | apply Kd.R_drew)); exact HO256.out) hb); have n4_ := Aside0.mk (Kd.R_below (by (with_reducible repeat (first | apply Kd.R_alloc | apply Kd.R_drewN | apply Kd.R_drew)); exact HO260.out) hb); have n5_ := Aside0.mk (below_step (by repeat (first | (with_reducible first | exact HB.out | apply below_alloc | apply pw_below_drewN | apply below_drew1) | exact HB.out | exact Below.refl _ _)) hb); clear HO244; clear HO248; clear HO252; clear HO256; clear HO260; clear HB; have HO244 := n0_; have HO248 := n1_; have HO252 := n2_; have HO256 := n3_; have HO260 := n4_; have HB := n5_; clear n0_ n1_ n2_ n3_ n4_ n5_; (try clear hb); (try clear hb2); (try clear hk); (try clear hi)) | (go_at_call 11; (with_reducible refine (tidewayref04_Same.calls k _ _ y242 _ _ l0 true _ ?side1 ?side2 ?side3 ?side4 A18.out).mono ?_); (case side1 => repeat (first | exact (Kd.R_reads' HO244.out).2.2 | (with_reducible refine Kd.C_alloc ?_ _) | (with_reducible refine Kd.C_drewN ?_ _) | (with_reducible refine Kd.C_drew ?_))); (case side2 => exact (Kd.R_reads' HO244.out).2.1); (case side3 => repeat (first | exact (Kd.C_below HR0.out HB.out) | exact HR0.out | (with_reducible refine Kd.C_alloc ?_ _) | (with_reducible refine Kd.C_drewN ?_ _) | (with_reducible refine Kd.C_drew ?_))); (case side4 => exact HC0.out); rintro e w' ⟨rfl, ⟨nd, rfl⟩⟩) | (go_at_call 9; (with_reducible refine (tidewaylaw04_heads.calls k  t266 _ A20.out).mono ?_); rintro e w35 ⟨rfl, hb⟩; have n0_ := Aside0.mk (Kd.R_below (by (with_reducible repeat (first | apply Kd.R_alloc | apply Kd.R_drewN | apply Kd.R_drew)); exact HO244.out) hb); have n1_ := Aside0.mk (Kd.R_below (by (with_reducible repeat (first | apply Kd.R_alloc | apply Kd.R_drewN | apply Kd.R_drew)); exact HO248.out) hb); have n2_ := Aside0.mk (Kd.R_below (by (with_reducible repeat (first | apply Kd.R_alloc | apply Kd.R_drewN | apply Kd.R_drew)); exact HO252.out) hb); have n3_ := Aside0.mk (Kd.R_below (by (with_reducible repeat (first | apply Kd.R_alloc | apply Kd.R_drewN | apply Kd.R_drew)); exact HO256.out) hb); have n4_ := Aside0.mk (Kd.R_below (by (with_reducible repeat (first | apply Kd.R_alloc | apply Kd.R_drewN | apply Kd.R_drew)); exact HO260.out) hb); have n5_ := Aside0.mk (below_step (by repeat (first | (with_reducible first | exact HB.out | apply below_alloc | apply pw_below_drewN | apply below_drew1) | exact HB.out | exact Below.refl _ _)) hb); clear HO244; clear HO248; clear HO252; clear HO256; clear HO260; clear HB; have HO244 := n0_; have HO248 := n1_; have HO252 := n2_; have HO256 := n3_; have HO260 := n4_; have HB := n5_; clear n0_ n1_ n2_ n3_ n4_ n5_; (try clear hb); (try clear hb2); (try clear hk); (try clear hi)))
        go_ret
        exact ⟨by first | rfl | (simp [errW_none, errW_some] <;> rfl) | (simp [*, errW_none, errW_some] <;> rfl), by repeat (first | (with_reducible first | exact HB.out | apply below_alloc | apply pw_below_drewN | apply below_drew1) | exact HB.out | exact Below.refl _ _)⟩
       ·replace c19 := Bool.eq_false_iff.mpr c19
        subst c19
        have H1 : (some false) = some r := by rw [if_neg (show ¬ (false = true) by decide)] at H; exact H
        clear H
        have H := H1
        clear H1
        exact absurd ((Option.some.inj H).trans HRT.out) (by decide)
      ·rw [if_neg c17] at H
       have c17b0 : (t263 == t264) = false := beq_eq_false_iff_ne.mpr c17
       have c17b1 : (t263 != t264) = true := bne_iff_ne.mpr c17
       exact absurd ((Option.some.inj H).trans HRT.out) (by decide)
     ·rw [if_neg c14] at H
      have c14b0 : (t254 == t258) = false := beq_eq_false_iff_ne.mpr c14
      have c14b1 : (t254 != t258) = true := bne_iff_ne.mpr c14
      exact absurd ((Option.some.inj H).trans HRT.out) (by decide)
    ·replace c13 := Bool.eq_false_iff.mpr c13
     subst c13
     have H1 : (some false) = some r := by rw [if_neg (show ¬ (false = true) by decide)] at H; exact H
     clear H
     have H := H1
     clear H1
     exact absurd ((Option.some.inj H).trans HRT.out) (by decide)
   ·rw [if_neg c11] at H
    have c11b0 : (t246 == t250) = false := beq_eq_false_iff_ne.mpr c11
    have c11b1 : (t246 != t250) = true := bne_iff_ne.mpr c11
    exact absurd ((Option.some.inj H).trans HRT.out) (by decide)
  ·replace c10 := Bool.eq_false_iff.mpr c10
   subst c10
   have H1 : (some false) = some r := by rw [if_neg (show ¬ (false = true) by decide)] at H; exact H
   clear H
   have H := H1
   clear H1
   exact absurd ((Option.some.inj H).trans HRT.out) (by decide)
 ·rw [if_neg c4] at H
  exact absurd H (by simp)

end Go.Proofs.Ytlkkgikjghkcmaa.PA

-- Written for the seat Ytpmiiokoialbmaa by this session's program hyb.py (the print's functions, with externals typed by hand).
import Derived.Test.YtpmiiokoialbmaaPDx0
import Derived.Test.YtpmiiokoialbmaaPDx2
import Derived.Test.YtpmiiokoialbmaaPDx3
namespace Go.Proofs.Ytpmiiokoialbmaa.PD
open Go.RowKit Go.Proofs.YtpmiiokoialbmaaW.PrintWords Go.Proofs.YtpmiiokoialbmaaW.PrintLast Go.Proofs.YtpmiiokoialbmaaW.PrintMore
attribute [local go_sem] max2_int min2_int max_two min_two max_three min_three max_four min_four   -- for this text's walks alone
set_option linter.unusedVariables false
set_option linter.unusedSimpArgs false

/-! ### net_Send: function 11 (typed by hand) -/
def net_Send.f (l0 : List S26) (l1 : List Int) (a2 : Int) : Option (List S26 × Int) :=
  if (l0.length : Int) ≥ 65536 then some ([], 70) else if net_lim l0 = true then (if l1.length < 140737488355328 then some (l0 ++ [⟨l1, a2⟩], 0) else none) else none
def net_Hold (p : Prop) : Prop := p
theorem net_hold_of {p : Prop} (h : net_Hold p) : p := h
theorem net_hold_mk {p : Prop} (h : p) : net_Hold p := h
/-- A row whose elements were made before its block, and one more. -/
theorem net_snoc {w W w' : World} {v' : Value} {l0 : List S26} {x : S26} {inner : List Value} {v1 : Value} (hw : w.heap.size ≤ W.heap.size)
    (hr : Reps (k26.M W w.heap.size (fun _ => True)) 2 l0 inner) (h1 : (Kd.int .u8).R 5 W w.heap.size (fun _ => True) v1 x.f0)
    (hg : W.grownBy w' none) (ho : w'.ownsRow W.heap.size 26 2 v' (l0.length + 1) (inner ++ [v1, .int .i64 x.f1])) :
    Kd.V k26 26 w' w.heap.size (fun k_ => (w.heap.size ≤ k_)) v' (l0 ++ [x]) := by
  refine Kd.R_V (base := w.heap.size) ⟨fun k hk => Nat.le_trans hw (own_base ho k hk), inner ++ [v1, .int .i64 x.f1], by rw [List.length_append]; exact own_less ho hw, ?_⟩
  have key : ∀ k, k < W.heap.size → some k ≠ v'.ownBlock := fun k hk he => by have := own_base ho k he.symm; omega
  refine Reps.snoc (hr.imp_ fun p c hp => ?_) (k26_mkM w' w.heap.size _ x ?_) rfl
  · refine k26.M_mono (fun k hk => ⟨hk.2.1, key k hk.2.2.1⟩) (k26.M_move (fun k hk => hg.block k hk.2.2.1 (by simp)) (k26.M_bound hp))
  · exact Kd.R_mono (Kd.R_move (Kd.R_bound h1) (fun k hk => hg.block k hk.2.2.1 (by simp))) (fun k hk => ⟨hk.2.1, key k hk.2.2.1⟩)
set_option maxRecDepth 100000 in
set_option maxHeartbeats 2000000 in
theorem net_Send.calls (A0 : Option Addr) (c0 : Nat) (l0 : List (S26)) (A1 : Option Addr) (c1 : Nat) (l1 : List Int) (a2 : Int) (r1 : List (S26)) (r2 : Int) (w : World) (hr0 : Kd.C k26 w A0 l0.length l0) (hc0 : l0.length ≤ c0) (hr1 : Kd.C (Kd.int .u8) w A1 l1.length l1) (hc1 : l1.length ≤ c1) (h : net_Send.f l0 l1 a2 = some (r1, r2)) :
    Calls Try.prog 11 #[.slice A0 l0.length c0, .slice A1 l1.length c1, .int .i64 a2] w fun e w' => ∃ v0_ : Value, e = .returned (.tuple #[v0_, .int .i64 r2]) ∧ Kd.V k26 26 w' w.heap.size (fun k_ => (w.heap.size ≤ k_)) v0_ r1 ∧ Below w.heap.size w w' := by
  unfold net_Send.f at h
  have HC0 := Lib.hid hr0; clear hr0
  have HC1 := Lib.hid hr1; clear hr1
  by_cases hf : (l0.length : Int) ≥ 65536
  · rw [if_pos hf] at h
    obtain ⟨rfl, rfl⟩ := Prod.mk.inj (Option.some.inj h)
    have hq : decide ((65536 : Int) ≤ (l0.length : Int)) = true := decide_eq_true (by omega)
    clear h hf
    go_enter Try.func11, Try.ntmps11
    go_wp2
    go_ret2
    exact ⟨_, rfl, Kd.V_nil _ _ _ _ _, Below.refl _ _⟩
  · rw [if_neg hf] at h
    have hl : net_lim l0 = true := by
      by_cases hl : net_lim l0 = true
      · exact hl
      · rw [if_neg hl] at h; cases h
    rw [if_pos hl] at h
    have hd : l1.length < 140737488355328 := by
      by_cases hd : l1.length < 140737488355328
      · exact hd
      · rw [if_neg hd] at h; cases h
    rw [if_pos hd] at h
    obtain ⟨rfl, rfl⟩ := Prod.mk.inj (Option.some.inj h)
    clear h
    have HL := Lib.hid hl; clear hl
    have hcl : bytes_Clone.f l1 = some l1 := by rw [bytes_Clone.f, if_pos hd]
    have HCL := Lib.hid hcl; clear hcl
    have HI := Lib.hid (info_parts info26)
    have hq : decide ((65536 : Int) ≤ (l0.length : Int)) = false := decide_eq_false (by omega)
    have HF := Lib.hid hf
    have HD := Lib.hid hd; clear hd hf
    go_enter Try.func11, Try.ntmps11
    go_wp2_with (first | (go_at_call 25; refine (net_copied.any A0 c0 l0 _ HC0.out hc0 HL.out).mono ?_; rintro e w1 ⟨A, c, rfl, hle, hS, hb1⟩; have HS := Lib.hid hS; clear hS; have HB1 := Lib.hid hb1; clear hb1) | (go_at_call 26; refine (bytes_Clone.calls A1 c1 l1 l1 _ (Kd.C_below HC1.out HB1.out) hc1 HCL.out).mono ?_; rintro e w2 ⟨v1, rfl, hR, hb2⟩; obtain ⟨Av, cv, rfl⟩ := Kd.R_slice hR; have HR := Lib.hid hR; clear hR; have HB2 := Lib.hid hb2; clear hb2) | (at_builtin; refine net_hold_of ?_))
    refine net_hold_mk ?_
    obtain ⟨i0, hi, hz0, hz1, hz2⟩ := HI.out
    obtain ⟨_, inner, hown, hrep⟩ := Kd.S_R HS.out
    have hin : inner.length = l0.length * 2 := hown.1
    have hb2' : Below w1.heap.size w1 (w2.alloc (.cells #[.slice Av l1.length cv, .int .i64 a2] 26)) := below_alloc HB2.out _
    have hsz1 := HB1.out.size
    have hsz2 := HB2.out.size
    refine wpList_append_grows _ rfl (.tmp 12) (.tmp 17) 22 rfl 26 i0 _ 2 32 Try.underlying22 hi hz0 hz1 hz2 rfl (by decide) A l0.length l0.length inner rfl ?c1 hin ?c2 ⟨w2.heap.size, 0, none⟩ 1 1 [.slice Av l1.length cv, .int .i64 a2] rfl rfl ?c3 ?c4 (by omega) ?c5 ?c6 ?_
    case c1 =>
      rintro rfl
      rcases hown.2 with ⟨he, h0⟩ | ⟨g, cap, cur, he, _⟩
      · exact ⟨h0, h0⟩
      · cases he
    case c2 =>
      rintro b rfl j u hu
      rcases hown.2 with ⟨he, h0⟩ | ⟨g, cap, cur, he, _⟩
      · cases he
      · injection he with he _ _
        injection he with he
        subst he
        exact pw_cell_below hb2' (hown.cells (g := g) rfl j u hu)
    case c3 => exact World.news_of_block (cs := #[.slice Av l1.length cv, .int .i64 a2]) (t := 26) (fr := (0, 0)) (heap_alloc_new w2 _)
    case c4 => simp [Value.oneCell']
    case c5 => have := HF.out; simp only [maxLen]; omega
    case c6 => have := HF.out; omega
    intro v' w' ho hg
    have hV := net_snoc (w := w) (W := w2.alloc (.cells #[.slice Av l1.length cv, .int .i64 a2] 26)) (l0 := l0) (x := ⟨l1, a2⟩) (by simp; omega)
      (hrep.imp_ fun p c hp => Kd.M_below (k26.M_mono (fun _ _ => trivial) hp) hb2') (Kd.R_lower (Kd.R_alloc HR.out _) hsz1) hg ho
    obtain ⟨A', c', e'⟩ := Kd.V_slice hV
    rw [List.length_append, List.length_singleton] at e'
    subst e'
    have HV := Lib.hid hV
    have HBB := Lib.hid ((below_alloc (below_step HB1.out HB2.out) (.cells #[.slice Av l1.length cv, .int .i64 a2] 26)).grown hg (by simp; omega) (by simp))
    clear hV ho hg hown hrep hin hb2' hsz1 hsz2 hi hz0 hz1 hz2
    go_wp2
    go_ret2
    exact ⟨_, rfl, HV.out, HBB.out⟩

end Go.Proofs.Ytpmiiokoialbmaa.PD

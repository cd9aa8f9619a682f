-- Written for the seat Ytgpbighdegdlfaa by this session's program hyb.py (the print's functions, with externals typed by hand).
import Derived.Test.YtgpbighdegdlfaaPAx0
import Derived.Test.YtgpbighdegdlfaaPAx1
import Derived.Test.YtgpbighdegdlfaaPAx4
import Derived.Test.YtgpbighdegdlfaaPAx10
import Derived.Test.YtgpbighdegdlfaaPAx18
import Derived.Test.YtgpbighdegdlfaaPAx29
namespace Go.Proofs.Ytgpbighdegdlfaa.PA
open Go.RowKit Go.Proofs.YtgpbighdegdlfaaW.PrintWords Go.Proofs.YtgpbighdegdlfaaW.PrintLast Go.Proofs.YtgpbighdegdlfaaW.PrintMore
attribute [local go_sem] max2_int min2_int max_two min_two max_three min_three max_four min_four   -- for this text's walks alone
set_option linter.unusedVariables false
set_option linter.unusedSimpArgs false

attribute [local go_sem high] eqA38
/-! ### tidewaylaw10_BoardAgain: function 6 -/
theorem gen_w {p : World → Prop} {W : World} (h : ∀ W', W = W' → p W') : p W := h W rfl
theorem cq6_1 {W : World} {q : Addr} {g n0 : Nat} {v0 : Value} (hq : q.block ≠ g) : (W.setCell ⟨g, n0, none⟩ v0).cell? q = W.cell? q := (cell_far (p := ⟨g, n0, none⟩) hq v0).trans (rfl)
theorem cq6_12 {W : World} {q : Addr} {g n0 n1 n2 n3 n4 n5 n6 n7 n8 n9 n10 n11 : Nat} {v0 v1 v2 v3 v4 v5 v6 v7 v8 v9 v10 v11 : Value} (hq : q.block ≠ g) : ((((((((((((W.setCell ⟨g, n0, none⟩ v0).setCell ⟨g, n1, none⟩ v1).setCell ⟨g, n2, none⟩ v2).setCell ⟨g, n3, none⟩ v3).setCell ⟨g, n4, none⟩ v4).setCell ⟨g, n5, none⟩ v5).setCell ⟨g, n6, none⟩ v6).setCell ⟨g, n7, none⟩ v7).setCell ⟨g, n8, none⟩ v8).setCell ⟨g, n9, none⟩ v9).setCell ⟨g, n10, none⟩ v10).setCell ⟨g, n11, none⟩ v11).cell? q = W.cell? q := (cell_far (p := ⟨g, n11, none⟩) hq v11).trans ((cell_far (p := ⟨g, n10, none⟩) hq v10).trans ((cell_far (p := ⟨g, n9, none⟩) hq v9).trans ((cell_far (p := ⟨g, n8, none⟩) hq v8).trans ((cell_far (p := ⟨g, n7, none⟩) hq v7).trans ((cell_far (p := ⟨g, n6, none⟩) hq v6).trans ((cell_far (p := ⟨g, n5, none⟩) hq v5).trans ((cell_far (p := ⟨g, n4, none⟩) hq v4).trans ((cell_far (p := ⟨g, n3, none⟩) hq v3).trans ((cell_far (p := ⟨g, n2, none⟩) hq v2).trans ((cell_far (p := ⟨g, n1, none⟩) hq v1).trans ((cell_far (p := ⟨g, n0, none⟩) hq v0).trans (rfl))))))))))))
theorem cw6_1 {W w0 : World} {q : Addr} {x : Value} {g n0 : Nat} {v0 : Value} (hw : w0.cell? q = some x) (hg : w0.heap.size ≤ g) : (W.setCell ⟨g, n0, none⟩ v0).cell? q = W.cell? q := (cell_far (p := ⟨g, n0, none⟩) (Nat.ne_of_lt (Nat.lt_of_lt_of_le (World.block_lt_of_cell? _ _ hw) hg)) v0).trans (rfl)
theorem cw6_12 {W w0 : World} {q : Addr} {x : Value} {g n0 n1 n2 n3 n4 n5 n6 n7 n8 n9 n10 n11 : Nat} {v0 v1 v2 v3 v4 v5 v6 v7 v8 v9 v10 v11 : Value} (hw : w0.cell? q = some x) (hg : w0.heap.size ≤ g) : ((((((((((((W.setCell ⟨g, n0, none⟩ v0).setCell ⟨g, n1, none⟩ v1).setCell ⟨g, n2, none⟩ v2).setCell ⟨g, n3, none⟩ v3).setCell ⟨g, n4, none⟩ v4).setCell ⟨g, n5, none⟩ v5).setCell ⟨g, n6, none⟩ v6).setCell ⟨g, n7, none⟩ v7).setCell ⟨g, n8, none⟩ v8).setCell ⟨g, n9, none⟩ v9).setCell ⟨g, n10, none⟩ v10).setCell ⟨g, n11, none⟩ v11).cell? q = W.cell? q := (cell_far (p := ⟨g, n11, none⟩) (Nat.ne_of_lt (Nat.lt_of_lt_of_le (World.block_lt_of_cell? _ _ hw) hg)) v11).trans ((cell_far (p := ⟨g, n10, none⟩) (Nat.ne_of_lt (Nat.lt_of_lt_of_le (World.block_lt_of_cell? _ _ hw) hg)) v10).trans ((cell_far (p := ⟨g, n9, none⟩) (Nat.ne_of_lt (Nat.lt_of_lt_of_le (World.block_lt_of_cell? _ _ hw) hg)) v9).trans ((cell_far (p := ⟨g, n8, none⟩) (Nat.ne_of_lt (Nat.lt_of_lt_of_le (World.block_lt_of_cell? _ _ hw) hg)) v8).trans ((cell_far (p := ⟨g, n7, none⟩) (Nat.ne_of_lt (Nat.lt_of_lt_of_le (World.block_lt_of_cell? _ _ hw) hg)) v7).trans ((cell_far (p := ⟨g, n6, none⟩) (Nat.ne_of_lt (Nat.lt_of_lt_of_le (World.block_lt_of_cell? _ _ hw) hg)) v6).trans ((cell_far (p := ⟨g, n5, none⟩) (Nat.ne_of_lt (Nat.lt_of_lt_of_le (World.block_lt_of_cell? _ _ hw) hg)) v5).trans ((cell_far (p := ⟨g, n4, none⟩) (Nat.ne_of_lt (Nat.lt_of_lt_of_le (World.block_lt_of_cell? _ _ hw) hg)) v4).trans ((cell_far (p := ⟨g, n3, none⟩) (Nat.ne_of_lt (Nat.lt_of_lt_of_le (World.block_lt_of_cell? _ _ hw) hg)) v3).trans ((cell_far (p := ⟨g, n2, none⟩) (Nat.ne_of_lt (Nat.lt_of_lt_of_le (World.block_lt_of_cell? _ _ hw) hg)) v2).trans ((cell_far (p := ⟨g, n1, none⟩) (Nat.ne_of_lt (Nat.lt_of_lt_of_le (World.block_lt_of_cell? _ _ hw) hg)) v1).trans ((cell_far (p := ⟨g, n0, none⟩) (Nat.ne_of_lt (Nat.lt_of_lt_of_le (World.block_lt_of_cell? _ _ hw) hg)) v0).trans (rfl))))))))))))
mutual
def tidewaylaw10_BoardAgain.j0 : Nat → List (S38) → Int → Int → List (S38) → Bool → Option (Bool)
 | 0, _, _, _, _, _ => none
 | k + 1, x0, x1, x2, x7, x42 => if x42 = true then (some false) else (tidewaylaw10_BoardAgain.l0 k x0 x1 x2 x7 0)
def tidewaylaw10_BoardAgain.l0 : Nat → List (S38) → Int → Int → List (S38) → Int → Option (Bool)
 | 0, _, _, _, _, _ => none
 | k + 1, x0, x1, x2, x7, x9 => if x9 < (x0.length : Int) then (if x9 = x1 then (tidewaylaw10_BoardAgain.l0 k x0 x1 x2 x7 (wrap64 (x9 + 1))) else (if 0 ≤ x9 then (if x9 < (x7.length : Int) then (if (!(((rd_T38 x7 x9).f0) == ((rd_T38 x0 x9).f0)) || (!(((rd_T38 x7 x9).f1) == ((rd_T38 x0 x9).f1)) || (!(((rd_T38 x7 x9).f2) == ((rd_T38 x0 x9).f2)) || (!(((rd_T38 x7 x9).f3) == ((rd_T38 x0 x9).f3)) || (!(((rd_T38 x7 x9).f4) == ((rd_T38 x0 x9).f4)) || (!(((rd_T38 x7 x9).f5) == ((rd_T38 x0 x9).f5)) || (!(((rd_T38 x7 x9).f6) == ((rd_T38 x0 x9).f6)) || (!(((rd_T38 x7 x9).f7) == ((rd_T38 x0 x9).f7)) || (!(((rd_T38 x7 x9).f8) == ((rd_T38 x0 x9).f8)) || (!(((rd_T38 x7 x9).f9) == ((rd_T38 x0 x9).f9)) || (!(((rd_T38 x7 x9).f10) == ((rd_T38 x0 x9).f10)) || (!(((rd_T38 x7 x9).f11) == ((rd_T38 x0 x9).f11)))))))))))))) = true then (some false) else (tidewaylaw10_BoardAgain.l0 k x0 x1 x2 x7 (wrap64 (x9 + 1)))) else (none)) else (none))) else (if 0 ≤ x1 then (if x1 < (x0.length : Int) then (if x1 < (x7.length : Int) then (if (rd_T38 x0 x1).f6 = true then (tidewaylaw10_BoardAgain.j2 k x0 x2 x7 0 (!((rd_T38 x0 x1).f7)) ((rd_T38 x0 x1).f0) ((rd_T38 x0 x1).f1) ((rd_T38 x0 x1).f2) ((rd_T38 x0 x1).f3) ((rd_T38 x0 x1).f4) ((rd_T38 x0 x1).f5) ((rd_T38 x0 x1).f6) ((rd_T38 x0 x1).f7) ((rd_T38 x0 x1).f8) ((rd_T38 x0 x1).f9) ((rd_T38 x0 x1).f10) ((rd_T38 x0 x1).f11) ((rd_T38 x7 x1).f0) ((rd_T38 x7 x1).f1) ((rd_T38 x7 x1).f2) ((rd_T38 x7 x1).f3) ((rd_T38 x7 x1).f4) ((rd_T38 x7 x1).f5) ((rd_T38 x7 x1).f6) ((rd_T38 x7 x1).f7) ((rd_T38 x7 x1).f8) ((rd_T38 x7 x1).f9) ((rd_T38 x7 x1).f10) ((rd_T38 x7 x1).f11)) else (tidewaylaw10_BoardAgain.j2 k x0 x2 x7 0 false ((rd_T38 x0 x1).f0) ((rd_T38 x0 x1).f1) ((rd_T38 x0 x1).f2) ((rd_T38 x0 x1).f3) ((rd_T38 x0 x1).f4) ((rd_T38 x0 x1).f5) ((rd_T38 x0 x1).f6) ((rd_T38 x0 x1).f7) ((rd_T38 x0 x1).f8) ((rd_T38 x0 x1).f9) ((rd_T38 x0 x1).f10) ((rd_T38 x0 x1).f11) ((rd_T38 x7 x1).f0) ((rd_T38 x7 x1).f1) ((rd_T38 x7 x1).f2) ((rd_T38 x7 x1).f3) ((rd_T38 x7 x1).f4) ((rd_T38 x7 x1).f5) ((rd_T38 x7 x1).f6) ((rd_T38 x7 x1).f7) ((rd_T38 x7 x1).f8) ((rd_T38 x7 x1).f9) ((rd_T38 x7 x1).f10) ((rd_T38 x7 x1).f11))) else (none)) else (none)) else (none))
def tidewaylaw10_BoardAgain.j2 : Nat → List (S38) → Int → List (S38) → Int → Bool → Int → Int → Bool → Int → Int → Bool → Bool → Bool → Int → Int → Int → Bool → Int → Int → Bool → Int → Int → Bool → Bool → Bool → Int → Int → Int → Bool → Option (Bool)
 | 0, _, _, _, _, _, _, _, _, _, _, _, _, _, _, _, _, _, _, _, _, _, _, _, _, _, _, _, _, _ => none
 | k + 1, x0, x2, x7, x12, x77, x365000, x365001, x365002, x365003, x365004, x365005, x365006, x365007, x365008, x365009, x365010, x365011, x366000, x366001, x366002, x366003, x366004, x366005, x366006, x366007, x366008, x366009, x366010, x366011 => if x77 = true then (tidewaylaw10_BoardAgain.j3 k x0 x2 x7 (wrap64 (x365001 - x365000)) x365000 x365001 x365002 x365003 x365004 x365005 x365006 x365007 x365008 x365009 x365010 x365011 x366000 x366001 x366002 x366003 x366004 x366005 x366006 x366007 x366008 x366009 x366010 x366011) else (tidewaylaw10_BoardAgain.j3 k x0 x2 x7 x12 x365000 x365001 x365002 x365003 x365004 x365005 x365006 x365007 x365008 x365009 x365010 x365011 x366000 x366001 x366002 x366003 x366004 x366005 x366006 x366007 x366008 x366009 x366010 x366011)
def tidewaylaw10_BoardAgain.j3 : Nat → List (S38) → Int → List (S38) → Int → Int → Int → Bool → Int → Int → Bool → Bool → Bool → Int → Int → Int → Bool → Int → Int → Bool → Int → Int → Bool → Bool → Bool → Int → Int → Int → Bool → Option (Bool)
 | 0, _, _, _, _, _, _, _, _, _, _, _, _, _, _, _, _, _, _, _, _, _, _, _, _, _, _, _, _ => none
 | k + 1, x0, x2, x7, x12, x365000, x365001, x365002, x365003, x365004, x365005, x365006, x365007, x365008, x365009, x365010, x365011, x366000, x366001, x366002, x366003, x366004, x366005, x366006, x366007, x366008, x366009, x366010, x366011 => if (x7.length : Int) = (x0.length : Int) then (if x366000 = x365000 then (if x366001 = x365001 then (if x366003 = x2 then (if (x366007 == x365006) = true then (if x366004 ≥ (mn x365004 1000000) then ((board_Pipe.f x7).bind fun t366 => ((board_Pipe.f x0).bind fun t367 => (if t366 = (wrap64 (t367 + x12)) then ((board_Check.f k x7).bind fun t368 => (if t368 = 0 then ((tidewaylaw10_heads.f k).bind fun t369 => (some t369)) else (some false))) else (some false)))) else (some false)) else (some false)) else (some false)) else (some false)) else (some false)) else (some false)
end
def tidewaylaw10_BoardAgain.f (k : Nat) (l0 : List (S38)) (a1 : Int) (a2 : Int) : Option (Bool) := (board_Again.f k l0 a1 a2).bind fun bt355 => (if bt355.2 = 0 then (if (bt355.1.length : Int) = (l0.length : Int) then (if a1 < 0 then (tidewaylaw10_BoardAgain.j0 k l0 a1 a2 bt355.1 true) else (tidewaylaw10_BoardAgain.j0 k l0 a1 a2 bt355.1 (decide (a1 ≥ (l0.length : Int))))) else (tidewaylaw10_BoardAgain.j0 k l0 a1 a2 bt355.1 true)) else (if (bt355.1.length : Int) = 0 then ((tidewaylaw10_heads.f k).bind fun t359 => (some t359)) else (some false)))
theorem tidewaylaw10_BoardAgain.mono_l : ∀ k, (∀ y0 y1 y2 y3 y4, LeO (tidewaylaw10_BoardAgain.j0 k y0 y1 y2 y3 y4) (tidewaylaw10_BoardAgain.j0 (k + 1) y0 y1 y2 y3 y4)) ∧ (∀ y0 y1 y2 y3 y4, LeO (tidewaylaw10_BoardAgain.l0 k y0 y1 y2 y3 y4) (tidewaylaw10_BoardAgain.l0 (k + 1) y0 y1 y2 y3 y4)) ∧ (∀ y0 y1 y2 y3 y4 y5 y6 y7 y8 y9 y10 y11 y12 y13 y14 y15 y16 y17 y18 y19 y20 y21 y22 y23 y24 y25 y26 y27 y28, LeO (tidewaylaw10_BoardAgain.j2 k y0 y1 y2 y3 y4 y5 y6 y7 y8 y9 y10 y11 y12 y13 y14 y15 y16 y17 y18 y19 y20 y21 y22 y23 y24 y25 y26 y27 y28) (tidewaylaw10_BoardAgain.j2 (k + 1) y0 y1 y2 y3 y4 y5 y6 y7 y8 y9 y10 y11 y12 y13 y14 y15 y16 y17 y18 y19 y20 y21 y22 y23 y24 y25 y26 y27 y28)) ∧ (∀ y0 y1 y2 y3 y4 y5 y6 y7 y8 y9 y10 y11 y12 y13 y14 y15 y16 y17 y18 y19 y20 y21 y22 y23 y24 y25 y26 y27, LeO (tidewaylaw10_BoardAgain.j3 k y0 y1 y2 y3 y4 y5 y6 y7 y8 y9 y10 y11 y12 y13 y14 y15 y16 y17 y18 y19 y20 y21 y22 y23 y24 y25 y26 y27) (tidewaylaw10_BoardAgain.j3 (k + 1) y0 y1 y2 y3 y4 y5 y6 y7 y8 y9 y10 y11 y12 y13 y14 y15 y16 y17 y18 y19 y20 y21 y22 y23 y24 y25 y26 y27))
 | 0 => ⟨fun _ _ _ _ _ r h => by simp [tidewaylaw10_BoardAgain.j0] at h, fun _ _ _ _ _ r h => by simp [tidewaylaw10_BoardAgain.l0] at h, fun _ _ _ _ _ _ _ _ _ _ _ _ _ _ _ _ _ _ _ _ _ _ _ _ _ _ _ _ _ r h => by simp [tidewaylaw10_BoardAgain.j2] at h, fun _ _ _ _ _ _ _ _ _ _ _ _ _ _ _ _ _ _ _ _ _ _ _ _ _ _ _ _ r h => by simp [tidewaylaw10_BoardAgain.j3] at h⟩
 | k + 1 => by
  obtain ⟨ih0, ih1, ih2, ih3⟩ := tidewaylaw10_BoardAgain.mono_l k
  refine ⟨?_, ?_, ?_, ?_⟩
  ·intro y0 y1 y2 y3 y4
   unfold tidewaylaw10_BoardAgain.j0
   repeat' first
   | (with_reducible exact ih0 _ _ _ _ _)
   | (with_reducible exact ih1 _ _ _ _ _)
   | (with_reducible exact ih2 _ _ _ _ _ _ _ _ _ _ _ _ _ _ _ _ _ _ _ _ _ _ _ _ _ _ _ _ _)
   | (with_reducible exact ih3 _ _ _ _ _ _ _ _ _ _ _ _ _ _ _ _ _ _ _ _ _ _ _ _ _ _ _ _)
   | (with_reducible exact board_Again.mono _ _ _ _)
   | (with_reducible exact board_Check.mono _ _)
   | (with_reducible exact tidewaylaw10_heads.mono _)
   | (with_reducible exact LeO.refl _)
   | (with_reducible exact LeO.none _)
   | (with_reducible refine LeO.ite ?_ ?_)
   | (with_reducible refine LeO.bind ?_ (fun _ => ?_))
   | exact ih0 _ _ _ _ _
   | exact ih1 _ _ _ _ _
   | exact ih2 _ _ _ _ _ _ _ _ _ _ _ _ _ _ _ _ _ _ _ _ _ _ _ _ _ _ _ _ _
   | exact ih3 _ _ _ _ _ _ _ _ _ _ _ _ _ _ _ _ _ _ _ _ _ _ _ _ _ _ _ _
   | exact board_Again.mono _ _ _ _
   | exact board_Check.mono _ _
   | exact tidewaylaw10_heads.mono _
   | exact LeO.none _
   | refine LeO.ite ?_ ?_
   | refine LeO.bind ?_ (fun _ => ?_)
  ·intro y0 y1 y2 y3 y4
   unfold tidewaylaw10_BoardAgain.l0
   repeat' first
   | (with_reducible exact ih0 _ _ _ _ _)
   | (with_reducible exact ih1 _ _ _ _ _)
   | (with_reducible exact ih2 _ _ _ _ _ _ _ _ _ _ _ _ _ _ _ _ _ _ _ _ _ _ _ _ _ _ _ _ _)
   | (with_reducible exact ih3 _ _ _ _ _ _ _ _ _ _ _ _ _ _ _ _ _ _ _ _ _ _ _ _ _ _ _ _)
   | (with_reducible exact board_Again.mono _ _ _ _)
   | (with_reducible exact board_Check.mono _ _)
   | (with_reducible exact tidewaylaw10_heads.mono _)
   | (with_reducible exact LeO.refl _)
   | (with_reducible exact LeO.none _)
   | (with_reducible refine LeO.ite ?_ ?_)
   | (with_reducible refine LeO.bind ?_ (fun _ => ?_))
   | exact ih0 _ _ _ _ _
   | exact ih1 _ _ _ _ _
   | exact ih2 _ _ _ _ _ _ _ _ _ _ _ _ _ _ _ _ _ _ _ _ _ _ _ _ _ _ _ _ _
   | exact ih3 _ _ _ _ _ _ _ _ _ _ _ _ _ _ _ _ _ _ _ _ _ _ _ _ _ _ _ _
   | exact board_Again.mono _ _ _ _
   | exact board_Check.mono _ _
   | exact tidewaylaw10_heads.mono _
   | exact LeO.none _
   | refine LeO.ite ?_ ?_
   | refine LeO.bind ?_ (fun _ => ?_)
  ·intro y0 y1 y2 y3 y4 y5 y6 y7 y8 y9 y10 y11 y12 y13 y14 y15 y16 y17 y18 y19 y20 y21 y22 y23 y24 y25 y26 y27 y28
   unfold tidewaylaw10_BoardAgain.j2
   repeat' first
   | (with_reducible exact ih0 _ _ _ _ _)
   | (with_reducible exact ih1 _ _ _ _ _)
   | (with_reducible exact ih2 _ _ _ _ _ _ _ _ _ _ _ _ _ _ _ _ _ _ _ _ _ _ _ _ _ _ _ _ _)
   | (with_reducible exact ih3 _ _ _ _ _ _ _ _ _ _ _ _ _ _ _ _ _ _ _ _ _ _ _ _ _ _ _ _)
   | (with_reducible exact board_Again.mono _ _ _ _)
   | (with_reducible exact board_Check.mono _ _)
   | (with_reducible exact tidewaylaw10_heads.mono _)
   | (with_reducible exact LeO.refl _)
   | (with_reducible exact LeO.none _)
   | (with_reducible refine LeO.ite ?_ ?_)
   | (with_reducible refine LeO.bind ?_ (fun _ => ?_))
   | exact ih0 _ _ _ _ _
   | exact ih1 _ _ _ _ _
   | exact ih2 _ _ _ _ _ _ _ _ _ _ _ _ _ _ _ _ _ _ _ _ _ _ _ _ _ _ _ _ _
   | exact ih3 _ _ _ _ _ _ _ _ _ _ _ _ _ _ _ _ _ _ _ _ _ _ _ _ _ _ _ _
   | exact board_Again.mono _ _ _ _
   | exact board_Check.mono _ _
   | exact tidewaylaw10_heads.mono _
   | exact LeO.none _
   | refine LeO.ite ?_ ?_
   | refine LeO.bind ?_ (fun _ => ?_)
  ·intro y0 y1 y2 y3 y4 y5 y6 y7 y8 y9 y10 y11 y12 y13 y14 y15 y16 y17 y18 y19 y20 y21 y22 y23 y24 y25 y26 y27
   unfold tidewaylaw10_BoardAgain.j3
   repeat' first
   | (with_reducible exact ih0 _ _ _ _ _)
   | (with_reducible exact ih1 _ _ _ _ _)
   | (with_reducible exact ih2 _ _ _ _ _ _ _ _ _ _ _ _ _ _ _ _ _ _ _ _ _ _ _ _ _ _ _ _ _)
   | (with_reducible exact ih3 _ _ _ _ _ _ _ _ _ _ _ _ _ _ _ _ _ _ _ _ _ _ _ _ _ _ _ _)
   | (with_reducible exact board_Again.mono _ _ _ _)
   | (with_reducible exact board_Check.mono _ _)
   | (with_reducible exact tidewaylaw10_heads.mono _)
   | (with_reducible exact LeO.refl _)
   | (with_reducible exact LeO.none _)
   | (with_reducible refine LeO.ite ?_ ?_)
   | (with_reducible refine LeO.bind ?_ (fun _ => ?_))
   | exact ih0 _ _ _ _ _
   | exact ih1 _ _ _ _ _
   | exact ih2 _ _ _ _ _ _ _ _ _ _ _ _ _ _ _ _ _ _ _ _ _ _ _ _ _ _ _ _ _
   | exact ih3 _ _ _ _ _ _ _ _ _ _ _ _ _ _ _ _ _ _ _ _ _ _ _ _ _ _ _ _
   | exact board_Again.mono _ _ _ _
   | exact board_Check.mono _ _
   | exact tidewaylaw10_heads.mono _
   | exact LeO.none _
   | refine LeO.ite ?_ ?_
   | refine LeO.bind ?_ (fun _ => ?_)
theorem tidewaylaw10_BoardAgain.mono : ∀ a0 a1 a2 k, LeO (tidewaylaw10_BoardAgain.f k a0 a1 a2) (tidewaylaw10_BoardAgain.f (k + 1) a0 a1 a2) := by
 intro a0 a1 a2 k
 obtain ⟨ih0, ih1, ih2, ih3⟩ := tidewaylaw10_BoardAgain.mono_l k
 unfold tidewaylaw10_BoardAgain.f
 repeat' first
   | (with_reducible exact ih0 _ _ _ _ _)
   | (with_reducible exact ih1 _ _ _ _ _)
   | (with_reducible exact ih2 _ _ _ _ _ _ _ _ _ _ _ _ _ _ _ _ _ _ _ _ _ _ _ _ _ _ _ _ _)
   | (with_reducible exact ih3 _ _ _ _ _ _ _ _ _ _ _ _ _ _ _ _ _ _ _ _ _ _ _ _ _ _ _ _)
   | (with_reducible exact board_Again.mono _ _ _ _)
   | (with_reducible exact board_Check.mono _ _)
   | (with_reducible exact tidewaylaw10_heads.mono _)
   | (with_reducible exact LeO.refl _)
   | (with_reducible exact LeO.none _)
   | (with_reducible refine LeO.ite ?_ ?_)
   | (with_reducible refine LeO.bind ?_ (fun _ => ?_))
   | exact ih0 _ _ _ _ _
   | exact ih1 _ _ _ _ _
   | exact ih2 _ _ _ _ _ _ _ _ _ _ _ _ _ _ _ _ _ _ _ _ _ _ _ _ _ _ _ _ _
   | exact ih3 _ _ _ _ _ _ _ _ _ _ _ _ _ _ _ _ _ _ _ _ _ _ _ _ _ _ _ _
   | exact board_Again.mono _ _ _ _
   | exact board_Check.mono _ _
   | exact tidewaylaw10_heads.mono _
   | exact LeO.none _
   | refine LeO.ite ?_ ?_
   | refine LeO.bind ?_ (fun _ => ?_)
def tidewaylaw10_BoardAgain.T9 : Bool × List (List Nat × List Nat) := (true, [([], []), ([], []), ([0, 1], [0, 1]), ([2], [2]), ([3], [3]), ([3], [3]), ([4, 5, 3], [3, 4, 5]), ([6, 3], [3, 6]), ([3], [3]), ([3], [3]), ([8, 9, 3], [3, 8, 9]), ([10, 3], [3, 10]), ([7, 11, 3], [3, 7, 11]), ([3, 12], [3, 12])])
def tidewaylaw10_BoardAgain.B9 : List Nat := [0, 0, 3, 7, 15, 15, 63, 127, 15, 15, 783, 1807, 4095, 8191]
theorem tidewaylaw10_BoardAgain.tab9 : rtab .any (opsOf Try.f6 9) = tidewaylaw10_BoardAgain.T9 := by kernel_rfl
theorem tidewaylaw10_BoardAgain.bits9 : waitsOk tidewaylaw10_BoardAgain.T9.2 tidewaylaw10_BoardAgain.B9 = true := by kernel_rfl
def tidewaylaw10_BoardAgain.T11 : Bool × List (List Nat × List Nat) := (true, [([], []), ([], []), ([0, 1], [0, 1]), ([2], [2]), ([], []), ([], []), ([4, 5], [4, 5]), ([6], [6]), ([], []), ([], []), ([8, 3, 0, 1, 2, 3, 8, 9], [3, 8]), ([9, 7, 10, 0, 1, 2, 3, 4, 5, 6, 7, 8, 9, 10], [7, 9])])
def tidewaylaw10_BoardAgain.B11 : List Nat := [0, 0, 3, 7, 0, 0, 48, 112, 0, 0, 783, 2047]
theorem tidewaylaw10_BoardAgain.tab11 : rtab .any (opsOf Try.f6 11) = tidewaylaw10_BoardAgain.T11 := by kernel_rfl
theorem tidewaylaw10_BoardAgain.bits11 : waitsOk tidewaylaw10_BoardAgain.T11.2 tidewaylaw10_BoardAgain.B11 = true := by kernel_rfl
set_option maxHeartbeats 8000000 in
set_option maxRecDepth 100000 in
theorem tidewaylaw10_BoardAgain.calls (k : Nat) (A0 : Option Addr) (c0 : Nat) (l0 : List (S38)) (a1 : Int) (a2 : Int) (r : Bool) (w : World) (hr0 : Kd.C k38 w A0 l0.length l0) (hc0 : l0.length ≤ c0) (h : tidewaylaw10_BoardAgain.f k l0 a1 a2 = some r) (hrT : r = true := by rfl) :
  Calls Try.prog 6 #[.slice A0 l0.length c0, .int .i64 a1, .int .i64 a2] w fun e w' => e = .returned (.bool r) ∧ Below w.heap.size w w' := by
 have HRT := Aside0.mk hrT
 clear hrT
 have hu38 := Try.underlying38
 have HR0 := Aside0.mk hr0
 have HC0 := Aside0.mk hc0
 clear hr0 hc0
 have HB := Aside0.mk (Below.refl w.heap.size w)
 have H : ((board_Again.f k l0 a1 a2).bind fun bt355 => (if bt355.2 = 0 then (if (bt355.1.length : Int) = (l0.length : Int) then (if a1 < 0 then (tidewaylaw10_BoardAgain.j0 k l0 a1 a2 bt355.1 true) else (tidewaylaw10_BoardAgain.j0 k l0 a1 a2 bt355.1 (decide (a1 ≥ (l0.length : Int))))) else (tidewaylaw10_BoardAgain.j0 k l0 a1 a2 bt355.1 true)) else (if (bt355.1.length : Int) = 0 then ((tidewaylaw10_heads.f k).bind fun t359 => (some t359)) else (some false)))) = some r := h
 clear h
 replace H := Option.bind_eq_some_iff.mp H
 obtain ⟨⟨t355, t356⟩, A40, H⟩ := H
 replace H : (if t356 = 0 then (if (t355.length : Int) = (l0.length : Int) then (if a1 < 0 then (tidewaylaw10_BoardAgain.j0 k l0 a1 a2 t355 true) else (tidewaylaw10_BoardAgain.j0 k l0 a1 a2 t355 (decide (a1 ≥ (l0.length : Int))))) else (tidewaylaw10_BoardAgain.j0 k l0 a1 a2 t355 true)) else (if (t355.length : Int) = 0 then ((tidewaylaw10_heads.f k).bind fun t359 => (some t359)) else (some false))) = some r := H
 have A4 := Aside0.mk A40
 clear A40
 by_cases c5 : t356 = 0
 ·rw [if_pos c5] at H
  have c5b0 : (t356 == 0) = true := beq_iff_eq.mpr c5
  have c5b1 : (t356 != 0) = false := bne_eq_false_iff_eq.mpr c5
  clear c5
  have HC6 := Aside0.mk H
  clear H
  go_enter Try.func6, Try.ntmps6
  go_upto_region 4 with (first | ((with_reducible refine gate_callee (f := 24) rfl ?_); refine goesL_ (some 17) rfl rfl Try.func24 (by kernel_rfl) rfl #[.slice A0 l0.length c0, .int .i64 a1, .int .i64 a2] rfl (by (try simp only [List.map_toArray, List.map_cons, List.map_nil]); first | done | rfl | (simp only [List.length_drop, List.length_take]; rfl)) ?_; (with_reducible refine (board_Again.calls k _ _ l0 a1 a2 t355 t356 _ ?side1 ?side2 A4.out).mono ?_); (case side1 => repeat (first | exact HR0.out | (with_reducible refine Kd.C_alloc ?_ _) | (with_reducible refine Kd.C_drewN ?_ _) | (with_reducible refine Kd.C_drew ?_))); (case side2 => exact HC0.out); rintro e w7 ⟨v357, rfl, ho0, hb⟩; refine ⟨_, rfl, ?_⟩; have n0_ := Aside0.mk (Kd.R_lower ho0 (below_size (by repeat (first | (with_reducible first | exact HB.out | apply below_alloc | apply pw_below_drewN | apply below_drew1) | exact HB.out | exact Below.refl _ _)))); have n1_ := Aside0.mk (below_step (by repeat (first | (with_reducible first | exact HB.out | apply below_alloc | apply pw_below_drewN | apply below_drew1) | exact HB.out | exact Below.refl _ _)) hb); clear HB; have HO358 := n0_; have HB := n1_; clear n0_ n1_; (try clear hb); (try clear hb2); (try clear hk); (try clear hi); (try clear ho0)))
  (try simp only [Act.put, List.setIfInBounds_toArray, List.set_cons_zero, List.set_cons_succ])
  go_cut [42] (fun v42 wc => ∃ (kq : Nat) (x42_5 : Bool), v42 = .bool x42_5 ∧ Aside0 (tidewaylaw10_BoardAgain.j0 kq l0 a1 a2 t355 x42_5 = some r) ∧ Aside0 (kq ≤ k) ∧ Aside0 (Kd.R k38 38 wc w.heap.size (fun _ => True) v357 t355) ∧ Aside0 (Below w.heap.size w wc))
  case first =>
   have H := HC6.out
   clear HC6
   by_cases c8 : (t355.length : Int) = (l0.length : Int)
   ·rw [if_pos c8] at H
    have c8b0 : ((t355.length : Int) == (l0.length : Int)) = true := beq_iff_eq.mpr c8
    have c8b1 : ((t355.length : Int) != (l0.length : Int)) = false := bne_eq_false_iff_eq.mpr c8
    have c8b2 : (t355.length == l0.length) = true := by first | simpa using c8 | (simp at c8 ⊢; omega)
    clear c8
    (first | rw [c8b0] | (simp only [i64_w, i32_w]; rw [c8b0]) | skip)
    by_cases c9 : a1 < 0
    ·rw [if_pos c9] at H
     have c9b0 : decide (a1 < 0) = true := decide_eq_true c9
     clear c9
     have H' := Aside0.mk H
     clear H
     obtain ⟨Ao10, co10, eo10⟩ := Kd.R_slice HO358.out
     subst eo10
     go_wp2
     go_meet
     case rel => exact ⟨_, (true), (by first | rfl | (simp; done) | (simp [*]; done)), H', ⟨by first | omega | exact Nat.le_refl _⟩, ⟨by (with_reducible repeat (first | apply Kd.R_alloc | apply Kd.R_drewN | apply Kd.R_drew)); exact HO358.out⟩, ⟨by repeat (first | (with_reducible first | exact HB.out | apply below_alloc | apply pw_below_drewN | apply below_drew1) | exact HB.out | exact Below.refl _ _)⟩⟩
    ·rw [if_neg c9] at H
     have c9b0 : decide (a1 < 0) = false := decide_eq_false c9
     clear c9
     have H' := Aside0.mk H
     clear H
     obtain ⟨Ao11, co11, eo11⟩ := Kd.R_slice HO358.out
     subst eo11
     go_wp2
     go_meet
     case rel => exact ⟨_, (decide (a1 ≥ (l0.length : Int))), (by first | rfl | (simp; done) | (simp [*]; done)), H', ⟨by first | omega | exact Nat.le_refl _⟩, ⟨by (with_reducible repeat (first | apply Kd.R_alloc | apply Kd.R_drewN | apply Kd.R_drew)); exact HO358.out⟩, ⟨by repeat (first | (with_reducible first | exact HB.out | apply below_alloc | apply pw_below_drewN | apply below_drew1) | exact HB.out | exact Below.refl _ _)⟩⟩
   ·rw [if_neg c8] at H
    have c8b0 : ((t355.length : Int) == (l0.length : Int)) = false := beq_eq_false_iff_ne.mpr c8
    have c8b1 : ((t355.length : Int) != (l0.length : Int)) = true := bne_iff_ne.mpr c8
    have c8b2 : (t355.length == l0.length) = false := by first | simpa using c8 | (simp at c8 ⊢; omega)
    (first | rw [c8b0] | (simp only [i64_w, i32_w]; rw [c8b0]) | skip)
    have H' := Aside0.mk H
    clear H
    obtain ⟨Ao12, co12, eo12⟩ := Kd.R_slice HO358.out
    subst eo12
    go_wp2
    go_meet
    case rel => exact ⟨_, (true), (by first | rfl | (simp; done) | (simp [*]; done)), H', ⟨by first | omega | exact Nat.le_refl _⟩, ⟨by (with_reducible repeat (first | apply Kd.R_alloc | apply Kd.R_drewN | apply Kd.R_drew)); exact HO358.out⟩, ⟨by repeat (first | (with_reducible first | exact HB.out | apply below_alloc | apply pw_below_drewN | apply below_drew1) | exact HB.out | exact Below.refl _ _)⟩⟩
  case rest =>
   clear HC6
   try clear c2
   try clear p2
   try clear c5
   try clear c5b0
   try clear c5b1
   try clear c6
   try clear c8
   try clear c8b0
   try clear c8b1
   try clear c8b2
   try clear c9
   try clear c9b0
   obtain ⟨kq, x42_5, rfl, HA, HJ5, HO_7, HB⟩ := hcut
   cases kq with
   | zero => exact absurd HA.out (by simp [tidewaylaw10_BoardAgain.j0])
   | succ kj5 =>
    have H := HA.out
    clear HA
    simp only [tidewaylaw10_BoardAgain.j0] at H
    by_cases c13 : x42_5 = true
    ·subst c13
     have H1 : (some false) = some r := by rw [if_pos rfl] at H; exact H
     clear H
     have H := H1
     clear H1
     exact absurd ((Option.some.inj H).trans HRT.out) (by decide)
    ·replace c13 := Bool.eq_false_iff.mpr c13
     subst c13
     have H1 : (tidewaylaw10_BoardAgain.l0 kj5 l0 a1 a2 t355 0) = some r := by rw [if_neg (show ¬ (false = true) by decide)] at H; exact H
     clear H
     have H := H1
     clear H1
     have H' := Aside0.mk H
     clear H
     go_wp2
     go_loopg [9] kj5 (fun kq v9 w' => ∃ (x9_2 : Int), v9 = .int .i64 x9_2 ∧ Aside0 (tidewaylaw10_BoardAgain.l0 kq l0 a1 a2 t355 x9_2 = some r) ∧ Aside0 (kq ≤ kj5) ∧ Aside0 (Kd.R k38 38 w' w.heap.size (fun _ => True) v357 t355) ∧ Aside0 (Below w.heap.size w w'))
     case atStart => exact ⟨(0), (by first | rfl | (simp; done) | (simp [*]; done)), H', ⟨Nat.le_refl _⟩, ⟨by (with_reducible repeat (first | apply Kd.R_alloc | apply Kd.R_drewN | apply Kd.R_drew)); exact HO_7.out⟩, ⟨by repeat (first | (with_reducible first | exact HB.out | apply below_alloc | apply pw_below_drewN | apply below_drew1) | exact HB.out | exact Below.refl _ _)⟩⟩
     case round =>
      clear H'
      try clear c1
      try clear c2
      try clear p2
      try clear c5
      try clear c5b0
      try clear c5b1
      try clear c6
      try clear c8
      try clear c8b0
      try clear c8b1
      try clear c8b2
      try clear c9
      try clear c9b0
      try clear c13
      try clear p2
      obtain ⟨x9_2, rfl, HA, HK2, HO_7, HB⟩ := hrel
      cases gk with
      | zero => exact absurd HA.out (by simp [tidewaylaw10_BoardAgain.l0])
      | succ k2 =>
       have H := HA.out
       clear HA
       simp only [tidewaylaw10_BoardAgain.l0] at H
       by_cases c14 : x9_2 < (l0.length : Int)
       ·rw [if_pos c14] at H
        have c14b0 : decide (x9_2 < (l0.length : Int)) = true := decide_eq_true c14
        clear c14
        by_cases c15 : x9_2 = a1
        ·rw [if_pos c15] at H
         have c15b0 : (x9_2 == a1) = true := beq_iff_eq.mpr c15
         have c15b1 : (x9_2 != a1) = false := bne_eq_false_iff_eq.mpr c15
         clear c15
         have H' := Aside0.mk H
         clear H
         try go_wp2
         have n0_ := Aside0.mk (Kd.R_drew HO_7.out)
         have n1_ := Aside0.mk (below_drew1 HB.out)
         clear HO_7
         clear HB
         have HO_7 := n0_
         have HB := n1_
         clear n0_ n1_
         refine start_ (n := 14) (S := fun w' => True) (ds := []) #[false, false, false, false, false, false, false, false, false, false, false, false, false, false] (by kernel_rfl) rfl rfl trivial (fun hHeld => ?_); refine with_tabW tidewaylaw10_BoardAgain.tab9 tidewaylaw10_BoardAgain.bits9 (fun HT_ HW_ => ?_)
         generalize wr.drew = w16 at HO_7 HB hHeld ⊢
         refine pure_ (i := 0) (N := some 49) (v := ?_) (a' := ?_) #[true, false, false, false, false, false, false, false, false, false, false, false, false, false] rfl rfl (any_of HT_.out (by kernel_rfl)) (fun _ _ _ h => h) (Or.inl ⟨by rfl, ?_⟩) ?_ ?_
         rotate_left
         ·intro w'
          go_simp
          with_reducible rfl
         rotate_left
         ·simp only [Act.put, List.setIfInBounds_toArray, List.set_cons_zero, List.set_cons_succ, i64_w, i32_w]
          rfl
         refine pure_ (i := 1) (N := some 50) (v := ?_) (a' := ?_) #[true, true, false, false, false, false, false, false, false, false, false, false, false, false] rfl rfl (any_of HT_.out (by kernel_rfl)) (fun _ _ _ h => h) (Or.inl ⟨by rfl, ?_⟩) ?_ ?_
         rotate_left
         ·intro w'
          go_simp
          with_reducible rfl
         rotate_left
         ·simp only [Act.put, List.setIfInBounds_toArray, List.set_cons_zero, List.set_cons_succ, i64_w, i32_w]
          rfl
         refine pure_ (i := 2) (N := some 51) (v := ?_) (a' := ?_) #[true, true, true, false, false, false, false, false, false, false, false, false, false, false] rfl rfl (any_of HT_.out (by kernel_rfl)) (fun _ _ _ h => h) (Or.inl ⟨by rfl, ?_⟩) ?_ ?_
         rotate_left
         ·intro w'
          go_simp
          with_reducible rfl
         rotate_left
         ·simp only [Act.put, List.setIfInBounds_toArray, List.set_cons_zero, List.set_cons_succ, i64_w, i32_w]
          rfl
         refine pure_ (i := 3) (N := some 52) (v := ?_) (a' := ?_) #[true, true, true, true, false, false, false, false, false, false, false, false, false, false] rfl rfl (any_of HT_.out (by kernel_rfl)) (fun _ _ _ h => h) (Or.inl ⟨by rfl, ?_⟩) ?_ ?_
         rotate_left
         ·intro w'
          go_simp
          with_reducible rfl
         rotate_left
         ·simp only [Act.put, List.setIfInBounds_toArray, List.set_cons_zero, List.set_cons_succ, i64_w, i32_w]
          rfl
         refine pure_ (i := 4) (N := some 53) (v := undef) (a' := ?_) #[true, true, true, true, true, false, false, false, false, false, false, false, false, false] rfl rfl (any_of HT_.out (by kernel_rfl)) (fun _ _ _ h => h) (Or.inr ⟨by rfl, rfl⟩) ?_ ?_
         rotate_left
         ·simp only [Act.put, List.setIfInBounds_toArray, List.set_cons_zero, List.set_cons_succ, i64_w, i32_w]
          rfl
         refine pure_ (i := 5) (N := some 54) (v := undef) (a' := ?_) #[true, true, true, true, true, true, false, false, false, false, false, false, false, false] rfl rfl (any_of HT_.out (by kernel_rfl)) (fun _ _ _ h => h) (Or.inr ⟨by rfl, rfl⟩) ?_ ?_
         rotate_left
         ·simp only [Act.put, List.setIfInBounds_toArray, List.set_cons_zero, List.set_cons_succ, i64_w, i32_w]
          rfl
         refine pure_ (i := 6) (N := some 55) (v := undef) (a' := ?_) #[true, true, true, true, true, true, true, false, false, false, false, false, false, false] rfl rfl (any_of HT_.out (by kernel_rfl)) (fun _ _ _ h => h) (Or.inr ⟨by rfl, rfl⟩) ?_ ?_
         rotate_left
         ·simp only [Act.put, List.setIfInBounds_toArray, List.set_cons_zero, List.set_cons_succ, i64_w, i32_w]
          rfl
         refine pure_ (i := 7) (N := some 56) (v := undef) (a' := ?_) #[true, true, true, true, true, true, true, true, false, false, false, false, false, false] rfl rfl (any_of HT_.out (by kernel_rfl)) (fun _ _ _ h => h) (Or.inr ⟨by rfl, rfl⟩) ?_ ?_
         rotate_left
         ·simp only [Act.put, List.setIfInBounds_toArray, List.set_cons_zero, List.set_cons_succ, i64_w, i32_w]
          rfl
         refine pure_ (i := 8) (N := some 57) (v := undef) (a' := ?_) #[true, true, true, true, true, true, true, true, true, false, false, false, false, false] rfl rfl (any_of HT_.out (by kernel_rfl)) (fun _ _ _ h => h) (Or.inr ⟨by rfl, rfl⟩) ?_ ?_
         rotate_left
         ·simp only [Act.put, List.setIfInBounds_toArray, List.set_cons_zero, List.set_cons_succ, i64_w, i32_w]
          rfl
         refine pure_ (i := 9) (N := some 58) (v := undef) (a' := ?_) #[true, true, true, true, true, true, true, true, true, true, false, false, false, false] rfl rfl (any_of HT_.out (by kernel_rfl)) (fun _ _ _ h => h) (Or.inr ⟨by rfl, rfl⟩) ?_ ?_
         rotate_left
         ·simp only [Act.put, List.setIfInBounds_toArray, List.set_cons_zero, List.set_cons_succ, i64_w, i32_w]
          rfl
         refine pure_ (i := 10) (N := some 59) (v := undef) (a' := ?_) #[true, true, true, true, true, true, true, true, true, true, true, false, false, false] rfl rfl (any_of HT_.out (by kernel_rfl)) (fun _ _ _ h => h) (Or.inr ⟨by rfl, rfl⟩) ?_ ?_
         rotate_left
         ·simp only [Act.put, List.setIfInBounds_toArray, List.set_cons_zero, List.set_cons_succ, i64_w, i32_w]
          rfl
         refine pure_ (i := 11) (N := some 60) (v := undef) (a' := ?_) #[true, true, true, true, true, true, true, true, true, true, true, true, false, false] rfl rfl (any_of HT_.out (by kernel_rfl)) (fun _ _ _ h => h) (Or.inr ⟨by rfl, rfl⟩) ?_ ?_
         rotate_left
         ·simp only [Act.put, List.setIfInBounds_toArray, List.set_cons_zero, List.set_cons_succ, i64_w, i32_w]
          rfl
         refine pure_ (i := 12) (N := some 61) (v := undef) (a' := ?_) #[true, true, true, true, true, true, true, true, true, true, true, true, true, false] rfl rfl (any_of HT_.out (by kernel_rfl)) (fun _ _ _ h => h) (Or.inr ⟨by rfl, rfl⟩) ?_ ?_
         rotate_left
         ·simp only [Act.put, List.setIfInBounds_toArray, List.set_cons_zero, List.set_cons_succ, i64_w, i32_w]
          rfl
         refine pure_ (i := 13) (N := some 62) (v := ?_) (a' := ?_) #[true, true, true, true, true, true, true, true, true, true, true, true, true, true] rfl rfl (any_of HT_.out (by kernel_rfl)) (fun _ _ _ h => h) (Or.inl ⟨by rfl, ?_⟩) ?_ ?_
         rotate_left
         ·intro w'
          go_simp
          with_reducible rfl
         rotate_left
         ·simp only [Act.put, List.setIfInBounds_toArray, List.set_cons_zero, List.set_cons_succ, i64_w, i32_w]
          rfl
         refine done_ (done_of HT_.out (by kernel_rfl)) ?_
         try go_wp2
         go_roundg k2
         case measure => have := HJ5.out; have := HK2.out; omega
         case rel => exact ⟨(wrap64 (x9_2 + 1)), (by first | rfl | (simp; done) | (simp [*]; done)), H', ⟨by have := HJ5.out; have := HK2.out; omega⟩, ⟨by (with_reducible repeat (first | apply Kd.R_alloc | apply Kd.R_drewN | apply Kd.R_drew)); exact HO_7.out⟩, ⟨by repeat (first | (with_reducible first | exact HB.out | apply below_alloc | apply pw_below_drewN | apply below_drew1) | exact HB.out | exact Below.refl _ _)⟩⟩
        ·rw [if_neg c15] at H
         have c15b0 : (x9_2 == a1) = false := beq_eq_false_iff_ne.mpr c15
         have c15b1 : (x9_2 != a1) = true := bne_iff_ne.mpr c15
         by_cases c17 : 0 ≤ x9_2
         ·rw [if_pos c17] at H
          have c17b0 : decide (0 ≤ x9_2) = true := decide_eq_true c17
          clear c17
          by_cases c18 : x9_2 < (t355.length : Int)
          ·rw [if_pos c18] at H
           have c18b0 : decide (x9_2 < (t355.length : Int)) = true := decide_eq_true c18
           clear c18
           by_cases c19 : (!(((rd_T38 t355 x9_2).f0) == ((rd_T38 l0 x9_2).f0)) || (!(((rd_T38 t355 x9_2).f1) == ((rd_T38 l0 x9_2).f1)) || (!(((rd_T38 t355 x9_2).f2) == ((rd_T38 l0 x9_2).f2)) || (!(((rd_T38 t355 x9_2).f3) == ((rd_T38 l0 x9_2).f3)) || (!(((rd_T38 t355 x9_2).f4) == ((rd_T38 l0 x9_2).f4)) || (!(((rd_T38 t355 x9_2).f5) == ((rd_T38 l0 x9_2).f5)) || (!(((rd_T38 t355 x9_2).f6) == ((rd_T38 l0 x9_2).f6)) || (!(((rd_T38 t355 x9_2).f7) == ((rd_T38 l0 x9_2).f7)) || (!(((rd_T38 t355 x9_2).f8) == ((rd_T38 l0 x9_2).f8)) || (!(((rd_T38 t355 x9_2).f9) == ((rd_T38 l0 x9_2).f9)) || (!(((rd_T38 t355 x9_2).f10) == ((rd_T38 l0 x9_2).f10)) || (!(((rd_T38 t355 x9_2).f11) == ((rd_T38 l0 x9_2).f11)))))))))))))) = true
           ·rw [if_pos c19] at H
            have c19b0 : (!(((rd_T38 t355 x9_2).f0) == ((rd_T38 l0 x9_2).f0)) || (!(((rd_T38 t355 x9_2).f1) == ((rd_T38 l0 x9_2).f1)) || (!(((rd_T38 t355 x9_2).f2) == ((rd_T38 l0 x9_2).f2)) || (!(((rd_T38 t355 x9_2).f3) == ((rd_T38 l0 x9_2).f3)) || (!(((rd_T38 t355 x9_2).f4) == ((rd_T38 l0 x9_2).f4)) || (!(((rd_T38 t355 x9_2).f5) == ((rd_T38 l0 x9_2).f5)) || (!(((rd_T38 t355 x9_2).f6) == ((rd_T38 l0 x9_2).f6)) || (!(((rd_T38 t355 x9_2).f7) == ((rd_T38 l0 x9_2).f7)) || (!(((rd_T38 t355 x9_2).f8) == ((rd_T38 l0 x9_2).f8)) || (!(((rd_T38 t355 x9_2).f9) == ((rd_T38 l0 x9_2).f9)) || (!(((rd_T38 t355 x9_2).f10) == ((rd_T38 l0 x9_2).f10)) || (!(((rd_T38 t355 x9_2).f11) == ((rd_T38 l0 x9_2).f11)))))))))))))) = true := c19
            clear c19
            exact absurd ((Option.some.inj H).trans HRT.out) (by decide)
           ·rw [if_neg c19] at H
            have c19b0 : (!(((rd_T38 t355 x9_2).f0) == ((rd_T38 l0 x9_2).f0)) || (!(((rd_T38 t355 x9_2).f1) == ((rd_T38 l0 x9_2).f1)) || (!(((rd_T38 t355 x9_2).f2) == ((rd_T38 l0 x9_2).f2)) || (!(((rd_T38 t355 x9_2).f3) == ((rd_T38 l0 x9_2).f3)) || (!(((rd_T38 t355 x9_2).f4) == ((rd_T38 l0 x9_2).f4)) || (!(((rd_T38 t355 x9_2).f5) == ((rd_T38 l0 x9_2).f5)) || (!(((rd_T38 t355 x9_2).f6) == ((rd_T38 l0 x9_2).f6)) || (!(((rd_T38 t355 x9_2).f7) == ((rd_T38 l0 x9_2).f7)) || (!(((rd_T38 t355 x9_2).f8) == ((rd_T38 l0 x9_2).f8)) || (!(((rd_T38 t355 x9_2).f9) == ((rd_T38 l0 x9_2).f9)) || (!(((rd_T38 t355 x9_2).f10) == ((rd_T38 l0 x9_2).f10)) || (!(((rd_T38 t355 x9_2).f11) == ((rd_T38 l0 x9_2).f11)))))))))))))) = false := by simpa using c19
            clear c19
            have H' := Aside0.mk H
            clear H
            try go_wp2
            have n0_ := Aside0.mk (Kd.R_drew HO_7.out)
            have n1_ := Aside0.mk (below_drew1 HB.out)
            clear HO_7
            clear HB
            have HO_7 := n0_
            have HB := n1_
            clear n0_ n1_
            obtain ⟨Ao21, co21, eo21⟩ := Kd.R_slice HO_7.out
            (first | subst eo21 | (injection eo21 with f1_ f2_ f3_; have f4_ := f1_.symm; have f5_ := f3_.symm; clear f1_ f2_ f3_; subst f4_; subst f5_))
            have p360 : 0 ≤ (x9_2 : Int) := of_decide_eq_true (by first | (with_reducible assumption) | assumption)
            have q360 : x9_2 < (t355.length : Int) := of_decide_eq_true (by first | (with_reducible assumption) | assumption)
            obtain ⟨ad360, e360, hx360_0, hx360_1, hx360_2, hx360_3, hx360_4, hx360_5, hx360_6, hx360_7, hx360_8, hx360_9, hx360_10, hx360_11⟩ := at_T38 (Kd.R_reads' HO_7.out).2.2 x9_2 p360 q360
            cases e360
            replace p360 := eq_true p360
            replace q360 := eq_true q360
            have p361 : 0 ≤ (x9_2 : Int) := of_decide_eq_true (by first | (with_reducible assumption) | assumption)
            have q361 : x9_2 < (l0.length : Int) := of_decide_eq_true (by first | (with_reducible assumption) | assumption)
            obtain ⟨ad361, e361, hx361_0, hx361_1, hx361_2, hx361_3, hx361_4, hx361_5, hx361_6, hx361_7, hx361_8, hx361_9, hx361_10, hx361_11⟩ := at_T38 HR0.out x9_2 p361 q361
            have hw361_11 := hx361_11
            have hw361_10 := hx361_10
            have hw361_9 := hx361_9
            have hw361_8 := hx361_8
            have hw361_7 := hx361_7
            have hw361_6 := hx361_6
            have hw361_5 := hx361_5
            have hw361_4 := hx361_4
            have hw361_3 := hx361_3
            have hw361_2 := hx361_2
            have hw361_1 := hx361_1
            have hw361_0 := hx361_0
            cases e361
            replace hx361_0 := (HB.out.cell (World.block_lt_of_cell? w _ hx361_0)).trans hx361_0
            replace hx361_1 := (HB.out.cell (World.block_lt_of_cell? w _ hx361_1)).trans hx361_1
            replace hx361_2 := (HB.out.cell (World.block_lt_of_cell? w _ hx361_2)).trans hx361_2
            replace hx361_3 := (HB.out.cell (World.block_lt_of_cell? w _ hx361_3)).trans hx361_3
            replace hx361_4 := (HB.out.cell (World.block_lt_of_cell? w _ hx361_4)).trans hx361_4
            replace hx361_5 := (HB.out.cell (World.block_lt_of_cell? w _ hx361_5)).trans hx361_5
            replace hx361_6 := (HB.out.cell (World.block_lt_of_cell? w _ hx361_6)).trans hx361_6
            replace hx361_7 := (HB.out.cell (World.block_lt_of_cell? w _ hx361_7)).trans hx361_7
            replace hx361_8 := (HB.out.cell (World.block_lt_of_cell? w _ hx361_8)).trans hx361_8
            replace hx361_9 := (HB.out.cell (World.block_lt_of_cell? w _ hx361_9)).trans hx361_9
            replace hx361_10 := (HB.out.cell (World.block_lt_of_cell? w _ hx361_10)).trans hx361_10
            replace hx361_11 := (HB.out.cell (World.block_lt_of_cell? w _ hx361_11)).trans hx361_11
            replace p361 := eq_true p361
            replace q361 := eq_true q361
            refine start_ (n := 14) (S := fun w' => w'.cell? (ad360.add ((x9_2).toNat * 12)) = some (.int .i64 ((rd_T38 t355 x9_2).f0)) ∧ w'.cell? ⟨(ad360.add ((x9_2).toNat * 12)).block, (ad360.add ((x9_2).toNat * 12)).off + 1, none⟩ = some (.int .i64 ((rd_T38 t355 x9_2).f1)) ∧ w'.cell? ⟨(ad360.add ((x9_2).toNat * 12)).block, (ad360.add ((x9_2).toNat * 12)).off + 2, none⟩ = some (.bool ((rd_T38 t355 x9_2).f2)) ∧ w'.cell? ⟨(ad360.add ((x9_2).toNat * 12)).block, (ad360.add ((x9_2).toNat * 12)).off + 3, none⟩ = some (.int .i64 ((rd_T38 t355 x9_2).f3)) ∧ w'.cell? ⟨(ad360.add ((x9_2).toNat * 12)).block, (ad360.add ((x9_2).toNat * 12)).off + 4, none⟩ = some (.int .i64 ((rd_T38 t355 x9_2).f4)) ∧ w'.cell? ⟨(ad360.add ((x9_2).toNat * 12)).block, (ad360.add ((x9_2).toNat * 12)).off + 5, none⟩ = some (.bool ((rd_T38 t355 x9_2).f5)) ∧ w'.cell? ⟨(ad360.add ((x9_2).toNat * 12)).block, (ad360.add ((x9_2).toNat * 12)).off + 6, none⟩ = some (.bool ((rd_T38 t355 x9_2).f6)) ∧ w'.cell? ⟨(ad360.add ((x9_2).toNat * 12)).block, (ad360.add ((x9_2).toNat * 12)).off + 7, none⟩ = some (.bool ((rd_T38 t355 x9_2).f7)) ∧ w'.cell? ⟨(ad360.add ((x9_2).toNat * 12)).block, (ad360.add ((x9_2).toNat * 12)).off + 8, none⟩ = some (.int .i64 ((rd_T38 t355 x9_2).f8)) ∧ w'.cell? ⟨(ad360.add ((x9_2).toNat * 12)).block, (ad360.add ((x9_2).toNat * 12)).off + 9, none⟩ = some (.int .i64 ((rd_T38 t355 x9_2).f9)) ∧ w'.cell? ⟨(ad360.add ((x9_2).toNat * 12)).block, (ad360.add ((x9_2).toNat * 12)).off + 10, none⟩ = some (.int .i64 ((rd_T38 t355 x9_2).f10)) ∧ w'.cell? ⟨(ad360.add ((x9_2).toNat * 12)).block, (ad360.add ((x9_2).toNat * 12)).off + 11, none⟩ = some (.bool ((rd_T38 t355 x9_2).f11)) ∧ w'.cell? (ad361.add ((x9_2).toNat * 12)) = some (.int .i64 ((rd_T38 l0 x9_2).f0)) ∧ w'.cell? ⟨(ad361.add ((x9_2).toNat * 12)).block, (ad361.add ((x9_2).toNat * 12)).off + 1, none⟩ = some (.int .i64 ((rd_T38 l0 x9_2).f1)) ∧ w'.cell? ⟨(ad361.add ((x9_2).toNat * 12)).block, (ad361.add ((x9_2).toNat * 12)).off + 2, none⟩ = some (.bool ((rd_T38 l0 x9_2).f2)) ∧ w'.cell? ⟨(ad361.add ((x9_2).toNat * 12)).block, (ad361.add ((x9_2).toNat * 12)).off + 3, none⟩ = some (.int .i64 ((rd_T38 l0 x9_2).f3)) ∧ w'.cell? ⟨(ad361.add ((x9_2).toNat * 12)).block, (ad361.add ((x9_2).toNat * 12)).off + 4, none⟩ = some (.int .i64 ((rd_T38 l0 x9_2).f4)) ∧ w'.cell? ⟨(ad361.add ((x9_2).toNat * 12)).block, (ad361.add ((x9_2).toNat * 12)).off + 5, none⟩ = some (.bool ((rd_T38 l0 x9_2).f5)) ∧ w'.cell? ⟨(ad361.add ((x9_2).toNat * 12)).block, (ad361.add ((x9_2).toNat * 12)).off + 6, none⟩ = some (.bool ((rd_T38 l0 x9_2).f6)) ∧ w'.cell? ⟨(ad361.add ((x9_2).toNat * 12)).block, (ad361.add ((x9_2).toNat * 12)).off + 7, none⟩ = some (.bool ((rd_T38 l0 x9_2).f7)) ∧ w'.cell? ⟨(ad361.add ((x9_2).toNat * 12)).block, (ad361.add ((x9_2).toNat * 12)).off + 8, none⟩ = some (.int .i64 ((rd_T38 l0 x9_2).f8)) ∧ w'.cell? ⟨(ad361.add ((x9_2).toNat * 12)).block, (ad361.add ((x9_2).toNat * 12)).off + 9, none⟩ = some (.int .i64 ((rd_T38 l0 x9_2).f9)) ∧ w'.cell? ⟨(ad361.add ((x9_2).toNat * 12)).block, (ad361.add ((x9_2).toNat * 12)).off + 10, none⟩ = some (.int .i64 ((rd_T38 l0 x9_2).f10)) ∧ w'.cell? ⟨(ad361.add ((x9_2).toNat * 12)).block, (ad361.add ((x9_2).toNat * 12)).off + 11, none⟩ = some (.bool ((rd_T38 l0 x9_2).f11))) (ds := []) #[false, false, false, false, false, false, false, false, false, false, false, false, false, false] (by kernel_rfl) rfl rfl ⟨hx360_0, hx360_1, hx360_2, hx360_3, hx360_4, hx360_5, hx360_6, hx360_7, hx360_8, hx360_9, hx360_10, hx360_11, ((HB.out.cell (World.block_lt_of_cell? w _ hw361_0)).trans hw361_0), ((HB.out.cell (World.block_lt_of_cell? w _ hw361_1)).trans hw361_1), ((HB.out.cell (World.block_lt_of_cell? w _ hw361_2)).trans hw361_2), ((HB.out.cell (World.block_lt_of_cell? w _ hw361_3)).trans hw361_3), ((HB.out.cell (World.block_lt_of_cell? w _ hw361_4)).trans hw361_4), ((HB.out.cell (World.block_lt_of_cell? w _ hw361_5)).trans hw361_5), ((HB.out.cell (World.block_lt_of_cell? w _ hw361_6)).trans hw361_6), ((HB.out.cell (World.block_lt_of_cell? w _ hw361_7)).trans hw361_7), ((HB.out.cell (World.block_lt_of_cell? w _ hw361_8)).trans hw361_8), ((HB.out.cell (World.block_lt_of_cell? w _ hw361_9)).trans hw361_9), ((HB.out.cell (World.block_lt_of_cell? w _ hw361_10)).trans hw361_10), ((HB.out.cell (World.block_lt_of_cell? w _ hw361_11)).trans hw361_11)⟩ (fun hHeld => ?_); refine with_tabW tidewaylaw10_BoardAgain.tab9 tidewaylaw10_BoardAgain.bits9 (fun HT_ HW_ => ?_)
            generalize wr.drew = w20 at HO_7 HB hx360_0 hx360_1 hx360_10 hx360_11 hx360_2 hx360_3 hx360_4 hx360_5 hx360_6 hx360_7 hx360_8 hx360_9 hx361_0 hx361_1 hx361_10 hx361_11 hx361_2 hx361_3 hx361_4 hx361_5 hx361_6 hx361_7 hx361_8 hx361_9 hHeld ⊢
            refine pure_ (i := 0) (N := some 49) (v := ?_) (a' := ?_) #[true, false, false, false, false, false, false, false, false, false, false, false, false, false] rfl rfl (any_of HT_.out (by kernel_rfl)) (fun _ _ _ h => h) (Or.inl ⟨by rfl, ?_⟩) ?_ ?_
            rotate_left
            ·intro w'
             go_simp
             with_reducible rfl
            rotate_left
            ·simp only [Act.put, List.setIfInBounds_toArray, List.set_cons_zero, List.set_cons_succ, i64_w, i32_w]
             rfl
            refine pure_ (i := 1) (N := some 50) (v := ?_) (a' := ?_) #[true, true, false, false, false, false, false, false, false, false, false, false, false, false] rfl rfl (any_of HT_.out (by kernel_rfl)) (fun _ _ _ h => h) (Or.inl ⟨by rfl, ?_⟩) ?_ ?_
            rotate_left
            ·intro w'
             go_simp
             with_reducible rfl
            rotate_left
            ·simp only [Act.put, List.setIfInBounds_toArray, List.set_cons_zero, List.set_cons_succ, i64_w, i32_w]
             rfl
            refine pure_ (i := 2) (N := some 51) (v := ?_) (a' := ?_) #[true, true, true, false, false, false, false, false, false, false, false, false, false, false] rfl rfl (any_of HT_.out (by kernel_rfl)) (fun _ _ _ h => h) (Or.inl ⟨by rfl, ?_⟩) ?_ ?_
            rotate_left
            ·intro w'
             go_simp
             with_reducible rfl
            rotate_left
            ·simp only [Act.put, List.setIfInBounds_toArray, List.set_cons_zero, List.set_cons_succ, i64_w, i32_w]
             rfl
            refine pure_ (i := 3) (N := some 52) (v := ?_) (a' := ?_) #[true, true, true, true, false, false, false, false, false, false, false, false, false, false] rfl rfl (any_of HT_.out (by kernel_rfl)) (fun _ _ _ h => h) (Or.inl ⟨by rfl, ?_⟩) ?_ ?_
            rotate_left
            ·intro w'
             go_simp
             with_reducible rfl
            rotate_left
            ·simp only [Act.put, List.setIfInBounds_toArray, List.set_cons_zero, List.set_cons_succ, i64_w, i32_w]
             rfl
            refine pure_ (i := 4) (N := some 53) (v := ?_) (a' := ?_) #[true, true, true, true, true, false, false, false, false, false, false, false, false, false] rfl rfl (any_of HT_.out (by kernel_rfl)) (fun _ _ _ h => h) (Or.inl ⟨by rfl, ?_⟩) ?_ ?_
            rotate_left
            ·intro w'
             go_simp
             with_reducible rfl
            rotate_left
            ·simp only [Act.put, List.setIfInBounds_toArray, List.set_cons_zero, List.set_cons_succ, i64_w, i32_w]
             rfl
            refine pure_ (i := 5) (N := some 54) (v := ?_) (a' := ?_) #[true, true, true, true, true, true, false, false, false, false, false, false, false, false] rfl rfl (any_of HT_.out (by kernel_rfl)) (fun _ _ _ h => h) (Or.inl ⟨by rfl, ?_⟩) ?_ ?_
            rotate_left
            ·intro w'
             go_simp
             with_reducible rfl
            rotate_left
            ·simp only [Act.put, List.setIfInBounds_toArray, List.set_cons_zero, List.set_cons_succ, i64_w, i32_w]
             rfl
            refine pure_ (i := 6) (N := some 55) (v := ?_) (a' := ?_) #[true, true, true, true, true, true, true, false, false, false, false, false, false, false] rfl rfl (any_of HT_.out (by kernel_rfl)) (fun _ _ _ h => h) (Or.inl ⟨by rfl, ?_⟩) ?_ ?_
            rotate_left
            ·intro w'
             go_simp
             with_reducible rfl
            rotate_left
            ·simp only [Act.put, List.setIfInBounds_toArray, List.set_cons_zero, List.set_cons_succ, i64_w, i32_w]
             rfl
            refine pure_ (i := 8) (N := some 57) (v := ?_) (a' := ?_) #[true, true, true, true, true, true, true, false, true, false, false, false, false, false] rfl rfl (any_of HT_.out (by kernel_rfl)) (fun _ _ _ h => h) (Or.inl ⟨by rfl, ?_⟩) ?_ ?_
            rotate_left
            ·intro w'
             go_simp
             with_reducible rfl
            rotate_left
            ·simp only [Act.put, List.setIfInBounds_toArray, List.set_cons_zero, List.set_cons_succ, i64_w, i32_w]
             rfl
            refine pure_ (i := 9) (N := some 58) (v := ?_) (a' := ?_) #[true, true, true, true, true, true, true, false, true, true, false, false, false, false] rfl rfl (any_of HT_.out (by kernel_rfl)) (fun _ _ _ h => h) (Or.inl ⟨by rfl, ?_⟩) ?_ ?_
            rotate_left
            ·intro w'
             go_simp
             with_reducible rfl
            rotate_left
            ·simp only [Act.put, List.setIfInBounds_toArray, List.set_cons_zero, List.set_cons_succ, i64_w, i32_w]
             rfl
            refine pure_ (i := 10) (N := some 59) (v := ?_) (a' := ?_) #[true, true, true, true, true, true, true, false, true, true, true, false, false, false] rfl rfl (any_of HT_.out (by kernel_rfl)) (fun _ _ _ h => h) (Or.inl ⟨by rfl, ?_⟩) ?_ ?_
            rotate_left
            ·intro w'
             go_simp
             with_reducible rfl
            rotate_left
            ·simp only [Act.put, List.setIfInBounds_toArray, List.set_cons_zero, List.set_cons_succ, i64_w, i32_w]
             rfl
            refine take_ (i := 7) (N := some 56) (v := ?_) (a' := ?_) #[true, true, true, true, true, true, true, true, true, true, true, false, false, false] rfl rfl (take_ofW HT_.out HW_.out (by kernel_rfl)) (fun _ _ _ h => h) (Or.inl ⟨by rfl, ?_⟩) hHeld ?_ ?_
            rotate_left
            ·rintro w' ⟨s0, s1, s2, s3, s4, s5, s6, s7, s8, s9, s10, s11, s12, s13, s14, s15, s16, s17, s18, s19, s20, s21, s22, s23⟩
             go_simp
             with_reducible rfl
            rotate_left
            ·simp only [Act.put, List.setIfInBounds_toArray, List.set_cons_zero, List.set_cons_succ, i64_w, i32_w]
             rfl
            refine take_ (i := 11) (N := some 60) (v := ?_) (a' := ?_) #[true, true, true, true, true, true, true, true, true, true, true, true, false, false] rfl rfl (take_ofW HT_.out HW_.out (by kernel_rfl)) (fun _ _ _ h => h) (Or.inl ⟨by rfl, ?_⟩) hHeld ?_ ?_
            rotate_left
            ·rintro w' ⟨s0, s1, s2, s3, s4, s5, s6, s7, s8, s9, s10, s11, s12, s13, s14, s15, s16, s17, s18, s19, s20, s21, s22, s23⟩
             go_simp
             with_reducible rfl
            rotate_left
            ·simp only [Act.put, List.setIfInBounds_toArray, List.set_cons_zero, List.set_cons_succ, i64_w, i32_w]
             rfl
            refine pure_ (i := 12) (N := some 61) (v := ?_) (a' := ?_) #[true, true, true, true, true, true, true, true, true, true, true, true, true, false] rfl rfl (any_of HT_.out (by kernel_rfl)) (fun _ _ _ h => h) (Or.inl ⟨by rfl, ?_⟩) ?_ ?_
            rotate_left
            ·intro w'
             go_simp
             with_reducible rfl
            rotate_left
            ·simp only [Act.put, List.setIfInBounds_toArray, List.set_cons_zero, List.set_cons_succ, i64_w, i32_w]
             rfl
            refine pure_ (i := 13) (N := some 62) (v := ?_) (a' := ?_) #[true, true, true, true, true, true, true, true, true, true, true, true, true, true] rfl rfl (any_of HT_.out (by kernel_rfl)) (fun _ _ _ h => h) (Or.inl ⟨by rfl, ?_⟩) ?_ ?_
            rotate_left
            ·intro w'
             go_simp
             with_reducible rfl
            rotate_left
            ·simp only [Act.put, List.setIfInBounds_toArray, List.set_cons_zero, List.set_cons_succ, i64_w, i32_w]
             rfl
            refine done_ (done_of HT_.out (by kernel_rfl)) ?_
            try go_wp2
            go_roundg k2
            case measure => have := HJ5.out; have := HK2.out; omega
            case rel => exact ⟨(wrap64 (x9_2 + 1)), (by first | rfl | (simp; done) | (simp [*]; done)), H', ⟨by have := HJ5.out; have := HK2.out; omega⟩, ⟨by (with_reducible repeat (first | apply Kd.R_alloc | apply Kd.R_drewN | apply Kd.R_drew)); exact HO_7.out⟩, ⟨by repeat (first | (with_reducible first | exact HB.out | apply below_alloc | apply pw_below_drewN | apply below_drew1) | exact HB.out | exact Below.refl _ _)⟩⟩
          ·rw [if_neg c18] at H
           exact absurd H (by simp)
         ·rw [if_neg c17] at H
          exact absurd H (by simp)
       ·rw [if_neg c14] at H
        have c14b0 : decide (x9_2 < (l0.length : Int)) = false := decide_eq_false c14
        clear c14
        by_cases c22 : 0 ≤ a1
        ·rw [if_pos c22] at H
         have c22b0 : decide (0 ≤ a1) = true := decide_eq_true c22
         clear c22
         by_cases c23 : a1 < (l0.length : Int)
         ·rw [if_pos c23] at H
          have c23b0 : decide (a1 < (l0.length : Int)) = true := decide_eq_true c23
          clear c23
          by_cases c24 : a1 < (t355.length : Int)
          ·rw [if_pos c24] at H
           have c24b0 : decide (a1 < (t355.length : Int)) = true := decide_eq_true c24
           clear c24
           have HC25 := Aside0.mk H
           clear H
           try go_wp2
           have n0_ := Aside0.mk (Kd.R_drew HO_7.out)
           have n1_ := Aside0.mk (below_drew1 HB.out)
           clear HO_7
           clear HB
           have HO_7 := n0_
           have HB := n1_
           clear n0_ n1_
           have p362 : 0 ≤ (a1 : Int) := of_decide_eq_true (by first | (with_reducible assumption) | assumption)
           have q362 : a1 < (l0.length : Int) := of_decide_eq_true (by first | (with_reducible assumption) | assumption)
           obtain ⟨ad362, e362, hx362_0, hx362_1, hx362_2, hx362_3, hx362_4, hx362_5, hx362_6, hx362_7, hx362_8, hx362_9, hx362_10, hx362_11⟩ := at_T38 HR0.out a1 p362 q362
           have hw362_11 := hx362_11
           have hw362_10 := hx362_10
           have hw362_9 := hx362_9
           have hw362_8 := hx362_8
           have hw362_7 := hx362_7
           have hw362_6 := hx362_6
           have hw362_5 := hx362_5
           have hw362_4 := hx362_4
           have hw362_3 := hx362_3
           have hw362_2 := hx362_2
           have hw362_1 := hx362_1
           have hw362_0 := hx362_0
           cases e362
           replace hx362_0 := (HB.out.cell (World.block_lt_of_cell? w _ hx362_0)).trans hx362_0
           replace hx362_1 := (HB.out.cell (World.block_lt_of_cell? w _ hx362_1)).trans hx362_1
           replace hx362_2 := (HB.out.cell (World.block_lt_of_cell? w _ hx362_2)).trans hx362_2
           replace hx362_3 := (HB.out.cell (World.block_lt_of_cell? w _ hx362_3)).trans hx362_3
           replace hx362_4 := (HB.out.cell (World.block_lt_of_cell? w _ hx362_4)).trans hx362_4
           replace hx362_5 := (HB.out.cell (World.block_lt_of_cell? w _ hx362_5)).trans hx362_5
           replace hx362_6 := (HB.out.cell (World.block_lt_of_cell? w _ hx362_6)).trans hx362_6
           replace hx362_7 := (HB.out.cell (World.block_lt_of_cell? w _ hx362_7)).trans hx362_7
           replace hx362_8 := (HB.out.cell (World.block_lt_of_cell? w _ hx362_8)).trans hx362_8
           replace hx362_9 := (HB.out.cell (World.block_lt_of_cell? w _ hx362_9)).trans hx362_9
           replace hx362_10 := (HB.out.cell (World.block_lt_of_cell? w _ hx362_10)).trans hx362_10
           replace hx362_11 := (HB.out.cell (World.block_lt_of_cell? w _ hx362_11)).trans hx362_11
           replace p362 := eq_true p362
           replace q362 := eq_true q362
           obtain ⟨Ao27, co27, eo27⟩ := Kd.R_slice HO_7.out
           (first | subst eo27 | (injection eo27 with f1_ f2_ f3_; have f4_ := f1_.symm; have f5_ := f3_.symm; clear f1_ f2_ f3_; subst f4_; subst f5_))
           have p363 : 0 ≤ (a1 : Int) := of_decide_eq_true (by first | (with_reducible assumption) | assumption)
           have q363 : a1 < (t355.length : Int) := of_decide_eq_true (by first | (with_reducible assumption) | assumption)
           obtain ⟨ad363, e363, hx363_0, hx363_1, hx363_2, hx363_3, hx363_4, hx363_5, hx363_6, hx363_7, hx363_8, hx363_9, hx363_10, hx363_11⟩ := at_T38 (Kd.R_reads' HO_7.out).2.2 a1 p363 q363
           cases e363
           replace p363 := eq_true p363
           replace q363 := eq_true q363
           refine start_ (n := 12) (S := fun w' => w'.cell? (ad362.add ((a1).toNat * 12)) = some (.int .i64 ((rd_T38 l0 a1).f0)) ∧ w'.cell? ⟨(ad362.add ((a1).toNat * 12)).block, (ad362.add ((a1).toNat * 12)).off + 1, none⟩ = some (.int .i64 ((rd_T38 l0 a1).f1)) ∧ w'.cell? ⟨(ad362.add ((a1).toNat * 12)).block, (ad362.add ((a1).toNat * 12)).off + 2, none⟩ = some (.bool ((rd_T38 l0 a1).f2)) ∧ w'.cell? ⟨(ad362.add ((a1).toNat * 12)).block, (ad362.add ((a1).toNat * 12)).off + 3, none⟩ = some (.int .i64 ((rd_T38 l0 a1).f3)) ∧ w'.cell? ⟨(ad362.add ((a1).toNat * 12)).block, (ad362.add ((a1).toNat * 12)).off + 4, none⟩ = some (.int .i64 ((rd_T38 l0 a1).f4)) ∧ w'.cell? ⟨(ad362.add ((a1).toNat * 12)).block, (ad362.add ((a1).toNat * 12)).off + 5, none⟩ = some (.bool ((rd_T38 l0 a1).f5)) ∧ w'.cell? ⟨(ad362.add ((a1).toNat * 12)).block, (ad362.add ((a1).toNat * 12)).off + 6, none⟩ = some (.bool ((rd_T38 l0 a1).f6)) ∧ w'.cell? ⟨(ad362.add ((a1).toNat * 12)).block, (ad362.add ((a1).toNat * 12)).off + 7, none⟩ = some (.bool ((rd_T38 l0 a1).f7)) ∧ w'.cell? ⟨(ad362.add ((a1).toNat * 12)).block, (ad362.add ((a1).toNat * 12)).off + 8, none⟩ = some (.int .i64 ((rd_T38 l0 a1).f8)) ∧ w'.cell? ⟨(ad362.add ((a1).toNat * 12)).block, (ad362.add ((a1).toNat * 12)).off + 9, none⟩ = some (.int .i64 ((rd_T38 l0 a1).f9)) ∧ w'.cell? ⟨(ad362.add ((a1).toNat * 12)).block, (ad362.add ((a1).toNat * 12)).off + 10, none⟩ = some (.int .i64 ((rd_T38 l0 a1).f10)) ∧ w'.cell? ⟨(ad362.add ((a1).toNat * 12)).block, (ad362.add ((a1).toNat * 12)).off + 11, none⟩ = some (.bool ((rd_T38 l0 a1).f11)) ∧ w'.cell? (ad363.add ((a1).toNat * 12)) = some (.int .i64 ((rd_T38 t355 a1).f0)) ∧ w'.cell? ⟨(ad363.add ((a1).toNat * 12)).block, (ad363.add ((a1).toNat * 12)).off + 1, none⟩ = some (.int .i64 ((rd_T38 t355 a1).f1)) ∧ w'.cell? ⟨(ad363.add ((a1).toNat * 12)).block, (ad363.add ((a1).toNat * 12)).off + 2, none⟩ = some (.bool ((rd_T38 t355 a1).f2)) ∧ w'.cell? ⟨(ad363.add ((a1).toNat * 12)).block, (ad363.add ((a1).toNat * 12)).off + 3, none⟩ = some (.int .i64 ((rd_T38 t355 a1).f3)) ∧ w'.cell? ⟨(ad363.add ((a1).toNat * 12)).block, (ad363.add ((a1).toNat * 12)).off + 4, none⟩ = some (.int .i64 ((rd_T38 t355 a1).f4)) ∧ w'.cell? ⟨(ad363.add ((a1).toNat * 12)).block, (ad363.add ((a1).toNat * 12)).off + 5, none⟩ = some (.bool ((rd_T38 t355 a1).f5)) ∧ w'.cell? ⟨(ad363.add ((a1).toNat * 12)).block, (ad363.add ((a1).toNat * 12)).off + 6, none⟩ = some (.bool ((rd_T38 t355 a1).f6)) ∧ w'.cell? ⟨(ad363.add ((a1).toNat * 12)).block, (ad363.add ((a1).toNat * 12)).off + 7, none⟩ = some (.bool ((rd_T38 t355 a1).f7)) ∧ w'.cell? ⟨(ad363.add ((a1).toNat * 12)).block, (ad363.add ((a1).toNat * 12)).off + 8, none⟩ = some (.int .i64 ((rd_T38 t355 a1).f8)) ∧ w'.cell? ⟨(ad363.add ((a1).toNat * 12)).block, (ad363.add ((a1).toNat * 12)).off + 9, none⟩ = some (.int .i64 ((rd_T38 t355 a1).f9)) ∧ w'.cell? ⟨(ad363.add ((a1).toNat * 12)).block, (ad363.add ((a1).toNat * 12)).off + 10, none⟩ = some (.int .i64 ((rd_T38 t355 a1).f10)) ∧ w'.cell? ⟨(ad363.add ((a1).toNat * 12)).block, (ad363.add ((a1).toNat * 12)).off + 11, none⟩ = some (.bool ((rd_T38 t355 a1).f11))) (ds := []) #[false, false, false, false, false, false, false, false, false, false, false, false] (by kernel_rfl) rfl rfl ⟨((HB.out.cell (World.block_lt_of_cell? w _ hw362_0)).trans hw362_0), ((HB.out.cell (World.block_lt_of_cell? w _ hw362_1)).trans hw362_1), ((HB.out.cell (World.block_lt_of_cell? w _ hw362_2)).trans hw362_2), ((HB.out.cell (World.block_lt_of_cell? w _ hw362_3)).trans hw362_3), ((HB.out.cell (World.block_lt_of_cell? w _ hw362_4)).trans hw362_4), ((HB.out.cell (World.block_lt_of_cell? w _ hw362_5)).trans hw362_5), ((HB.out.cell (World.block_lt_of_cell? w _ hw362_6)).trans hw362_6), ((HB.out.cell (World.block_lt_of_cell? w _ hw362_7)).trans hw362_7), ((HB.out.cell (World.block_lt_of_cell? w _ hw362_8)).trans hw362_8), ((HB.out.cell (World.block_lt_of_cell? w _ hw362_9)).trans hw362_9), ((HB.out.cell (World.block_lt_of_cell? w _ hw362_10)).trans hw362_10), ((HB.out.cell (World.block_lt_of_cell? w _ hw362_11)).trans hw362_11), hx363_0, hx363_1, hx363_2, hx363_3, hx363_4, hx363_5, hx363_6, hx363_7, hx363_8, hx363_9, hx363_10, hx363_11⟩ (fun hHeld => ?_); refine with_tabW tidewaylaw10_BoardAgain.tab11 tidewaylaw10_BoardAgain.bits11 (fun HT_ HW_ => ?_)
           generalize wr.drew = w26 at HO_7 HB hx362_0 hx362_1 hx362_10 hx362_11 hx362_2 hx362_3 hx362_4 hx362_5 hx362_6 hx362_7 hx362_8 hx362_9 hx363_0 hx363_1 hx363_10 hx363_11 hx363_2 hx363_3 hx363_4 hx363_5 hx363_6 hx363_7 hx363_8 hx363_9 hHeld ⊢
           refine pure_ (i := 0) (N := some 63) (v := ?_) (a' := ?_) #[true, false, false, false, false, false, false, false, false, false, false, false] rfl rfl (any_of HT_.out (by kernel_rfl)) (fun _ _ _ h => h) (Or.inl ⟨by rfl, ?_⟩) ?_ ?_
           rotate_left
           ·intro w'
            go_simp
            with_reducible rfl
           rotate_left
           ·simp only [Act.put, List.setIfInBounds_toArray, List.set_cons_zero, List.set_cons_succ, i64_w, i32_w]
            rfl
           refine pure_ (i := 1) (N := some 64) (v := ?_) (a' := ?_) #[true, true, false, false, false, false, false, false, false, false, false, false] rfl rfl (any_of HT_.out (by kernel_rfl)) (fun _ _ _ h => h) (Or.inl ⟨by rfl, ?_⟩) ?_ ?_
           rotate_left
           ·intro w'
            go_simp
            with_reducible rfl
           rotate_left
           ·simp only [Act.put, List.setIfInBounds_toArray, List.set_cons_zero, List.set_cons_succ, i64_w, i32_w]
            rfl
           refine pure_ (i := 2) (N := some 65) (v := ?_) (a' := ?_) #[true, true, true, false, false, false, false, false, false, false, false, false] rfl rfl (any_of HT_.out (by kernel_rfl)) (fun _ _ _ h => h) (Or.inl ⟨by rfl, ?_⟩) ?_ ?_
           rotate_left
           ·intro w'
            go_simp
            with_reducible rfl
           rotate_left
           ·simp only [Act.put, List.setIfInBounds_toArray, List.set_cons_zero, List.set_cons_succ, i64_w, i32_w]
            rfl
           refine pure_ (i := 4) (N := some 67) (v := ?_) (a' := ?_) #[true, true, true, false, true, false, false, false, false, false, false, false] rfl rfl (any_of HT_.out (by kernel_rfl)) (fun _ _ _ h => h) (Or.inl ⟨by rfl, ?_⟩) ?_ ?_
           rotate_left
           ·intro w'
            go_simp
            with_reducible rfl
           rotate_left
           ·simp only [Act.put, List.setIfInBounds_toArray, List.set_cons_zero, List.set_cons_succ, i64_w, i32_w]
            rfl
           refine pure_ (i := 5) (N := some 68) (v := ?_) (a' := ?_) #[true, true, true, false, true, true, false, false, false, false, false, false] rfl rfl (any_of HT_.out (by kernel_rfl)) (fun _ _ _ h => h) (Or.inl ⟨by rfl, ?_⟩) ?_ ?_
           rotate_left
           ·intro w'
            go_simp
            with_reducible rfl
           rotate_left
           ·simp only [Act.put, List.setIfInBounds_toArray, List.set_cons_zero, List.set_cons_succ, i64_w, i32_w]
            rfl
           refine pure_ (i := 6) (N := some 69) (v := ?_) (a' := ?_) #[true, true, true, false, true, true, true, false, false, false, false, false] rfl rfl (any_of HT_.out (by kernel_rfl)) (fun _ _ _ h => h) (Or.inl ⟨by rfl, ?_⟩) ?_ ?_
           rotate_left
           ·intro w'
            go_simp
            with_reducible rfl
           rotate_left
           ·simp only [Act.put, List.setIfInBounds_toArray, List.set_cons_zero, List.set_cons_succ, i64_w, i32_w]
            rfl
           refine take_ (i := 3) (N := some 66) (v := ?_) (a' := ?_) #[true, true, true, true, true, true, true, false, false, false, false, false] rfl rfl (take_ofW HT_.out HW_.out (by kernel_rfl)) (fun _ _ _ h => h) (Or.inl ⟨by rfl, ?_⟩) hHeld ?_ ?_
           rotate_left
           ·rintro w' ⟨s0, s1, s2, s3, s4, s5, s6, s7, s8, s9, s10, s11, s12, s13, s14, s15, s16, s17, s18, s19, s20, s21, s22, s23⟩
            go_simp
            with_reducible rfl
           rotate_left
           ·simp only [Act.put, List.setIfInBounds_toArray, List.set_cons_zero, List.set_cons_succ, i64_w, i32_w]
            rfl
           refine take_ (i := 7) (N := some 70) (v := ?_) (a' := ?_) #[true, true, true, true, true, true, true, true, false, false, false, false] rfl rfl (take_ofW HT_.out HW_.out (by kernel_rfl)) (fun _ _ _ h => h) (Or.inl ⟨by rfl, ?_⟩) hHeld ?_ ?_
           rotate_left
           ·rintro w' ⟨s0, s1, s2, s3, s4, s5, s6, s7, s8, s9, s10, s11, s12, s13, s14, s15, s16, s17, s18, s19, s20, s21, s22, s23⟩
            go_simp
            with_reducible rfl
           rotate_left
           ·simp only [Act.put, List.setIfInBounds_toArray, List.set_cons_zero, List.set_cons_succ, i64_w, i32_w]
            rfl
           refine join_ (σ := Nat × Nat) 2 #[true, true, true, true, true, true, true, true, true, true, false, false] (fun s_ => [(10, .pointer (some ⟨s_.1, 0, none⟩)), (11, .pointer (some ⟨s_.2, 0, none⟩))]) (fun s_ w' => (w'.cell? (ad362.add ((a1).toNat * 12)) = some (.int .i64 ((rd_T38 l0 a1).f0)) ∧ w'.cell? ⟨(ad362.add ((a1).toNat * 12)).block, (ad362.add ((a1).toNat * 12)).off + 1, none⟩ = some (.int .i64 ((rd_T38 l0 a1).f1)) ∧ w'.cell? ⟨(ad362.add ((a1).toNat * 12)).block, (ad362.add ((a1).toNat * 12)).off + 2, none⟩ = some (.bool ((rd_T38 l0 a1).f2)) ∧ w'.cell? ⟨(ad362.add ((a1).toNat * 12)).block, (ad362.add ((a1).toNat * 12)).off + 3, none⟩ = some (.int .i64 ((rd_T38 l0 a1).f3)) ∧ w'.cell? ⟨(ad362.add ((a1).toNat * 12)).block, (ad362.add ((a1).toNat * 12)).off + 4, none⟩ = some (.int .i64 ((rd_T38 l0 a1).f4)) ∧ w'.cell? ⟨(ad362.add ((a1).toNat * 12)).block, (ad362.add ((a1).toNat * 12)).off + 5, none⟩ = some (.bool ((rd_T38 l0 a1).f5)) ∧ w'.cell? ⟨(ad362.add ((a1).toNat * 12)).block, (ad362.add ((a1).toNat * 12)).off + 6, none⟩ = some (.bool ((rd_T38 l0 a1).f6)) ∧ w'.cell? ⟨(ad362.add ((a1).toNat * 12)).block, (ad362.add ((a1).toNat * 12)).off + 7, none⟩ = some (.bool ((rd_T38 l0 a1).f7)) ∧ w'.cell? ⟨(ad362.add ((a1).toNat * 12)).block, (ad362.add ((a1).toNat * 12)).off + 8, none⟩ = some (.int .i64 ((rd_T38 l0 a1).f8)) ∧ w'.cell? ⟨(ad362.add ((a1).toNat * 12)).block, (ad362.add ((a1).toNat * 12)).off + 9, none⟩ = some (.int .i64 ((rd_T38 l0 a1).f9)) ∧ w'.cell? ⟨(ad362.add ((a1).toNat * 12)).block, (ad362.add ((a1).toNat * 12)).off + 10, none⟩ = some (.int .i64 ((rd_T38 l0 a1).f10)) ∧ w'.cell? ⟨(ad362.add ((a1).toNat * 12)).block, (ad362.add ((a1).toNat * 12)).off + 11, none⟩ = some (.bool ((rd_T38 l0 a1).f11)) ∧ w'.cell? (ad363.add ((a1).toNat * 12)) = some (.int .i64 ((rd_T38 t355 a1).f0)) ∧ w'.cell? ⟨(ad363.add ((a1).toNat * 12)).block, (ad363.add ((a1).toNat * 12)).off + 1, none⟩ = some (.int .i64 ((rd_T38 t355 a1).f1)) ∧ w'.cell? ⟨(ad363.add ((a1).toNat * 12)).block, (ad363.add ((a1).toNat * 12)).off + 2, none⟩ = some (.bool ((rd_T38 t355 a1).f2)) ∧ w'.cell? ⟨(ad363.add ((a1).toNat * 12)).block, (ad363.add ((a1).toNat * 12)).off + 3, none⟩ = some (.int .i64 ((rd_T38 t355 a1).f3)) ∧ w'.cell? ⟨(ad363.add ((a1).toNat * 12)).block, (ad363.add ((a1).toNat * 12)).off + 4, none⟩ = some (.int .i64 ((rd_T38 t355 a1).f4)) ∧ w'.cell? ⟨(ad363.add ((a1).toNat * 12)).block, (ad363.add ((a1).toNat * 12)).off + 5, none⟩ = some (.bool ((rd_T38 t355 a1).f5)) ∧ w'.cell? ⟨(ad363.add ((a1).toNat * 12)).block, (ad363.add ((a1).toNat * 12)).off + 6, none⟩ = some (.bool ((rd_T38 t355 a1).f6)) ∧ w'.cell? ⟨(ad363.add ((a1).toNat * 12)).block, (ad363.add ((a1).toNat * 12)).off + 7, none⟩ = some (.bool ((rd_T38 t355 a1).f7)) ∧ w'.cell? ⟨(ad363.add ((a1).toNat * 12)).block, (ad363.add ((a1).toNat * 12)).off + 8, none⟩ = some (.int .i64 ((rd_T38 t355 a1).f8)) ∧ w'.cell? ⟨(ad363.add ((a1).toNat * 12)).block, (ad363.add ((a1).toNat * 12)).off + 9, none⟩ = some (.int .i64 ((rd_T38 t355 a1).f9)) ∧ w'.cell? ⟨(ad363.add ((a1).toNat * 12)).block, (ad363.add ((a1).toNat * 12)).off + 10, none⟩ = some (.int .i64 ((rd_T38 t355 a1).f10)) ∧ w'.cell? ⟨(ad363.add ((a1).toNat * 12)).block, (ad363.add ((a1).toNat * 12)).off + 11, none⟩ = some (.bool ((rd_T38 t355 a1).f11))) ∧ (Kd.R k38 38 w' w.heap.size (fun k_ => k_ ≠ s_.1 ∧ k_ ≠ s_.2) (.slice (some ad363) t355.length co27) t355) ∧ (w'.heap[s_.1]? = some (.cells #[.int .i64 0, .int .i64 0, .bool false, .int .i64 0, .int .i64 0, .bool false, .bool false, .bool false, .int .i64 0, .int .i64 0, .int .i64 0, .bool false] 38 (0, 0))) ∧ (w'.heap[s_.2]? = some (.cells #[.int .i64 0, .int .i64 0, .bool false, .int .i64 0, .int .i64 0, .bool false, .bool false, .bool false, .int .i64 0, .int .i64 0, .int .i64 0, .bool false] 38 (0, 0))) ∧ (w.heap.size ≤ s_.1) ∧ (w.heap.size ≤ s_.1) ∧ (s_.2 ≠ s_.1) ∧ (s_.1 ≠ s_.2) ∧ (w.heap.size ≤ s_.2) ∧ (w.heap.size ≤ s_.2) ∧ (Below w.heap.size w w')) ?_ ?_
           rotate_left
           ·intro hCont
            refine two_ (i := 8) (j := 9) (Ni := some 10) (Nj := some 11) #[true, true, true, true, true, true, true, true, true, false, false, false] #[true, true, true, true, true, true, true, true, false, true, false, false] rfl rfl rfl rfl (two_of HT_.out (by kernel_rfl)) (by decide) (by decide) (fun K hK => ?_) (fun K hK => ?_)
            ·skip
             refine box_step ?hg (N := 10) ?hd (cs := #[.int .i64 0, .int .i64 0, .bool false, .int .i64 0, .int .i64 0, .bool false, .bool false, .bool false, .int .i64 0, .int .i64 0, .int .i64 0, .bool false]) (t := 38) ?hr ?_; (case hd => rfl); (case hg => rfl); (case hr => first | (go_simp; done) | (go_simp; rfl))
             intro gb364 hg w28 hbox hb
             have HS12_ := (hb.cell (World.block_lt_of_cell? _ _ (hHeld.2.2.2.2.2.2.2.2.2.2.2.2.1))).trans (hHeld.2.2.2.2.2.2.2.2.2.2.2.2.1)
             have HS13_ := (hb.cell (World.block_lt_of_cell? _ _ (hHeld.2.2.2.2.2.2.2.2.2.2.2.2.2.1))).trans (hHeld.2.2.2.2.2.2.2.2.2.2.2.2.2.1)
             have HS14_ := (hb.cell (World.block_lt_of_cell? _ _ (hHeld.2.2.2.2.2.2.2.2.2.2.2.2.2.2.1))).trans (hHeld.2.2.2.2.2.2.2.2.2.2.2.2.2.2.1)
             have HS15_ := (hb.cell (World.block_lt_of_cell? _ _ (hHeld.2.2.2.2.2.2.2.2.2.2.2.2.2.2.2.1))).trans (hHeld.2.2.2.2.2.2.2.2.2.2.2.2.2.2.2.1)
             have HS16_ := (hb.cell (World.block_lt_of_cell? _ _ (hHeld.2.2.2.2.2.2.2.2.2.2.2.2.2.2.2.2.1))).trans (hHeld.2.2.2.2.2.2.2.2.2.2.2.2.2.2.2.2.1)
             have HS17_ := (hb.cell (World.block_lt_of_cell? _ _ (hHeld.2.2.2.2.2.2.2.2.2.2.2.2.2.2.2.2.2.1))).trans (hHeld.2.2.2.2.2.2.2.2.2.2.2.2.2.2.2.2.2.1)
             have HS18_ := (hb.cell (World.block_lt_of_cell? _ _ (hHeld.2.2.2.2.2.2.2.2.2.2.2.2.2.2.2.2.2.2.1))).trans (hHeld.2.2.2.2.2.2.2.2.2.2.2.2.2.2.2.2.2.2.1)
             have HS19_ := (hb.cell (World.block_lt_of_cell? _ _ (hHeld.2.2.2.2.2.2.2.2.2.2.2.2.2.2.2.2.2.2.2.1))).trans (hHeld.2.2.2.2.2.2.2.2.2.2.2.2.2.2.2.2.2.2.2.1)
             have HS20_ := (hb.cell (World.block_lt_of_cell? _ _ (hHeld.2.2.2.2.2.2.2.2.2.2.2.2.2.2.2.2.2.2.2.2.1))).trans (hHeld.2.2.2.2.2.2.2.2.2.2.2.2.2.2.2.2.2.2.2.2.1)
             have HS21_ := (hb.cell (World.block_lt_of_cell? _ _ (hHeld.2.2.2.2.2.2.2.2.2.2.2.2.2.2.2.2.2.2.2.2.2.1))).trans (hHeld.2.2.2.2.2.2.2.2.2.2.2.2.2.2.2.2.2.2.2.2.2.1)
             have HS22_ := (hb.cell (World.block_lt_of_cell? _ _ (hHeld.2.2.2.2.2.2.2.2.2.2.2.2.2.2.2.2.2.2.2.2.2.2.1))).trans (hHeld.2.2.2.2.2.2.2.2.2.2.2.2.2.2.2.2.2.2.2.2.2.2.1)
             have HS23_ := (hb.cell (World.block_lt_of_cell? _ _ (hHeld.2.2.2.2.2.2.2.2.2.2.2.2.2.2.2.2.2.2.2.2.2.2.2))).trans (hHeld.2.2.2.2.2.2.2.2.2.2.2.2.2.2.2.2.2.2.2.2.2.2.2)
             have n0_ := Aside0.mk (Kd.R_below (Kd.R_elderB (by (with_reducible repeat (first | apply Kd.R_alloc | apply Kd.R_drewN | apply Kd.R_drew)); exact HO_7.out) gb364 (Nat.le_of_eq hg.symm)) hb)
             have n1_ := Aside0.mk (below_step (by repeat (first | (with_reducible first | exact HB.out | apply below_alloc | apply pw_below_drewN | apply below_drew1) | exact HB.out | exact Below.refl _ _)) hb)
             have n2_ := Aside0.mk (hbox)
             have n3_ := Aside0.mk ((by rw [hg]; exact (below_size (by repeat (first | (with_reducible first | exact HB.out | apply below_alloc | apply pw_below_drewN | apply below_drew1) | exact HB.out | exact Below.refl _ _))) : w.heap.size ≤ gb364))
             have n4_ := Aside0.mk ((by rw [hg]; exact (below_size (by repeat (first | (with_reducible first | exact HB.out | apply below_alloc | apply pw_below_drewN | apply below_drew1) | exact HB.out | exact Below.refl _ _))) : w.heap.size ≤ gb364))
             clear HO_7
             clear HB
             have HO_7 := n0_
             have HB := n1_
             have BK364 := n2_
             have GW364 := n3_
             have GE364 := n4_
             clear n0_ n1_ n2_ n3_ n4_
             clear hb hbox hg
             refine hK.out _ _ ⟨((HB.out.cell (World.block_lt_of_cell? w _ hw362_0)).trans hw362_0), ((HB.out.cell (World.block_lt_of_cell? w _ hw362_1)).trans hw362_1), ((HB.out.cell (World.block_lt_of_cell? w _ hw362_2)).trans hw362_2), ((HB.out.cell (World.block_lt_of_cell? w _ hw362_3)).trans hw362_3), ((HB.out.cell (World.block_lt_of_cell? w _ hw362_4)).trans hw362_4), ((HB.out.cell (World.block_lt_of_cell? w _ hw362_5)).trans hw362_5), ((HB.out.cell (World.block_lt_of_cell? w _ hw362_6)).trans hw362_6), ((HB.out.cell (World.block_lt_of_cell? w _ hw362_7)).trans hw362_7), ((HB.out.cell (World.block_lt_of_cell? w _ hw362_8)).trans hw362_8), ((HB.out.cell (World.block_lt_of_cell? w _ hw362_9)).trans hw362_9), ((HB.out.cell (World.block_lt_of_cell? w _ hw362_10)).trans hw362_10), ((HB.out.cell (World.block_lt_of_cell? w _ hw362_11)).trans hw362_11), HS12_, HS13_, HS14_, HS15_, HS16_, HS17_, HS18_, HS19_, HS20_, HS21_, HS22_, HS23_⟩ (fun hHeld => ?_)
             clear hK K
             refine norm_ (a' := ?_) ?_ ?_
             rotate_left
             ·show Act.put _ (some 10) _ = _
              simp only [Act.put, List.setIfInBounds_toArray, List.set_cons_zero, List.set_cons_succ, i64_w, i32_w]
              rfl
             refine one_ (i := 9) (N := some 11) #[true, true, true, true, true, true, true, true, true, true, false, false] rfl rfl (one_of HT_.out (by kernel_rfl)) (by decide) (fun K hK => ?_)
             refine box_step ?hg (N := 11) ?hd (cs := #[.int .i64 0, .int .i64 0, .bool false, .int .i64 0, .int .i64 0, .bool false, .bool false, .bool false, .int .i64 0, .int .i64 0, .int .i64 0, .bool false]) (t := 38) ?hr ?_; (case hd => rfl); (case hg => rfl); (case hr => first | (go_simp; done) | (go_simp; rfl))
             intro gb365 hg w29 hbox hb
             have HS12_ := (hb.cell (World.block_lt_of_cell? _ _ (hHeld.2.2.2.2.2.2.2.2.2.2.2.2.1))).trans (hHeld.2.2.2.2.2.2.2.2.2.2.2.2.1)
             have HS13_ := (hb.cell (World.block_lt_of_cell? _ _ (hHeld.2.2.2.2.2.2.2.2.2.2.2.2.2.1))).trans (hHeld.2.2.2.2.2.2.2.2.2.2.2.2.2.1)
             have HS14_ := (hb.cell (World.block_lt_of_cell? _ _ (hHeld.2.2.2.2.2.2.2.2.2.2.2.2.2.2.1))).trans (hHeld.2.2.2.2.2.2.2.2.2.2.2.2.2.2.1)
             have HS15_ := (hb.cell (World.block_lt_of_cell? _ _ (hHeld.2.2.2.2.2.2.2.2.2.2.2.2.2.2.2.1))).trans (hHeld.2.2.2.2.2.2.2.2.2.2.2.2.2.2.2.1)
             have HS16_ := (hb.cell (World.block_lt_of_cell? _ _ (hHeld.2.2.2.2.2.2.2.2.2.2.2.2.2.2.2.2.1))).trans (hHeld.2.2.2.2.2.2.2.2.2.2.2.2.2.2.2.2.1)
             have HS17_ := (hb.cell (World.block_lt_of_cell? _ _ (hHeld.2.2.2.2.2.2.2.2.2.2.2.2.2.2.2.2.2.1))).trans (hHeld.2.2.2.2.2.2.2.2.2.2.2.2.2.2.2.2.2.1)
             have HS18_ := (hb.cell (World.block_lt_of_cell? _ _ (hHeld.2.2.2.2.2.2.2.2.2.2.2.2.2.2.2.2.2.2.1))).trans (hHeld.2.2.2.2.2.2.2.2.2.2.2.2.2.2.2.2.2.2.1)
             have HS19_ := (hb.cell (World.block_lt_of_cell? _ _ (hHeld.2.2.2.2.2.2.2.2.2.2.2.2.2.2.2.2.2.2.2.1))).trans (hHeld.2.2.2.2.2.2.2.2.2.2.2.2.2.2.2.2.2.2.2.1)
             have HS20_ := (hb.cell (World.block_lt_of_cell? _ _ (hHeld.2.2.2.2.2.2.2.2.2.2.2.2.2.2.2.2.2.2.2.2.1))).trans (hHeld.2.2.2.2.2.2.2.2.2.2.2.2.2.2.2.2.2.2.2.2.1)
             have HS21_ := (hb.cell (World.block_lt_of_cell? _ _ (hHeld.2.2.2.2.2.2.2.2.2.2.2.2.2.2.2.2.2.2.2.2.2.1))).trans (hHeld.2.2.2.2.2.2.2.2.2.2.2.2.2.2.2.2.2.2.2.2.2.1)
             have HS22_ := (hb.cell (World.block_lt_of_cell? _ _ (hHeld.2.2.2.2.2.2.2.2.2.2.2.2.2.2.2.2.2.2.2.2.2.2.1))).trans (hHeld.2.2.2.2.2.2.2.2.2.2.2.2.2.2.2.2.2.2.2.2.2.2.1)
             have HS23_ := (hb.cell (World.block_lt_of_cell? _ _ (hHeld.2.2.2.2.2.2.2.2.2.2.2.2.2.2.2.2.2.2.2.2.2.2.2))).trans (hHeld.2.2.2.2.2.2.2.2.2.2.2.2.2.2.2.2.2.2.2.2.2.2.2)
             have n0_ := Aside0.mk (Kd.R_below (Kd.R_elderB (by (with_reducible repeat (first | apply Kd.R_alloc | apply Kd.R_drewN | apply Kd.R_drew)); exact HO_7.out) gb365 (Nat.le_of_eq hg.symm)) hb)
             have n1_ := Aside0.mk (blk_below (g := gb364) (o := .cells #[.int .i64 0, .int .i64 0, .bool false, .int .i64 0, .int .i64 0, .bool false, .bool false, .bool false, .int .i64 0, .int .i64 0, .int .i64 0, .bool false] 38 (0, 0)) (by (with_reducible repeat (first | refine blk_drewN ?_ _ | refine blk_drew ?_ | refine blk_alloc ?_ _)); exact BK364.out) hb)
             have n2_ := Aside0.mk (below_step (by repeat (first | (with_reducible first | exact HB.out | apply below_alloc | apply pw_below_drewN | apply below_drew1 | refine below_set ?_ GE364.out) | exact HB.out)) hb)
             have n3_ := Aside0.mk (hbox)
             have n4_ := Aside0.mk ((by rw [hg]; exact (below_size (by repeat (first | (with_reducible first | exact HB.out | apply below_alloc | apply pw_below_drewN | apply below_drew1 | refine below_set ?_ GE364.out) | exact HB.out))) : w.heap.size ≤ gb365))
             have n5_ := Aside0.mk ((by rw [hg]; exact (below_size (by repeat (first | (with_reducible first | exact HB.out | apply below_alloc | apply pw_below_drewN | apply below_drew1 | refine below_set ?_ GE364.out) | exact HB.out))) : w.heap.size ≤ gb365))
             have n6_ := Aside0.mk ((by rw [hg]; exact Nat.ne_of_lt (blk_lt (g := gb364) (o := .cells #[.int .i64 0, .int .i64 0, .bool false, .int .i64 0, .int .i64 0, .bool false, .bool false, .bool false, .int .i64 0, .int .i64 0, .int .i64 0, .bool false] 38 (0, 0)) (by (with_reducible repeat (first | refine blk_drewN ?_ _ | refine blk_drew ?_ | refine blk_alloc ?_ _)); exact BK364.out)) : gb364 ≠ gb365))
             have n7_ := Aside0.mk ((by rw [hg]; exact Nat.ne_of_gt (blk_lt (g := gb364) (o := .cells #[.int .i64 0, .int .i64 0, .bool false, .int .i64 0, .int .i64 0, .bool false, .bool false, .bool false, .int .i64 0, .int .i64 0, .int .i64 0, .bool false] 38 (0, 0)) (by (with_reducible repeat (first | refine blk_drewN ?_ _ | refine blk_drew ?_ | refine blk_alloc ?_ _)); exact BK364.out)) : gb365 ≠ gb364))
             clear HO_7
             clear BK364
             clear HB
             have HO_7 := n0_
             have BK364 := n1_
             have HB := n2_
             have BK365 := n3_
             have GW365 := n4_
             have GE365 := n5_
             have NB364_365 := n6_
             have NB365_364 := n7_
             clear n0_ n1_ n2_ n3_ n4_ n5_ n6_ n7_
             clear hb hbox hg
             refine hK.out _ _ ⟨((HB.out.cell (World.block_lt_of_cell? w _ hw362_0)).trans hw362_0), ((HB.out.cell (World.block_lt_of_cell? w _ hw362_1)).trans hw362_1), ((HB.out.cell (World.block_lt_of_cell? w _ hw362_2)).trans hw362_2), ((HB.out.cell (World.block_lt_of_cell? w _ hw362_3)).trans hw362_3), ((HB.out.cell (World.block_lt_of_cell? w _ hw362_4)).trans hw362_4), ((HB.out.cell (World.block_lt_of_cell? w _ hw362_5)).trans hw362_5), ((HB.out.cell (World.block_lt_of_cell? w _ hw362_6)).trans hw362_6), ((HB.out.cell (World.block_lt_of_cell? w _ hw362_7)).trans hw362_7), ((HB.out.cell (World.block_lt_of_cell? w _ hw362_8)).trans hw362_8), ((HB.out.cell (World.block_lt_of_cell? w _ hw362_9)).trans hw362_9), ((HB.out.cell (World.block_lt_of_cell? w _ hw362_10)).trans hw362_10), ((HB.out.cell (World.block_lt_of_cell? w _ hw362_11)).trans hw362_11), HS12_, HS13_, HS14_, HS15_, HS16_, HS17_, HS18_, HS19_, HS20_, HS21_, HS22_, HS23_⟩ (fun hHeld => ?_)
             clear hK K
             refine norm_ (a' := ?_) ?_ ?_
             rotate_left
             ·show Act.put _ (some 11) _ = _
              simp only [Act.put, List.setIfInBounds_toArray, List.set_cons_zero, List.set_cons_succ, i64_w, i32_w]
              rfl
             exact norm_ (by simp only [putAll, Act.put, List.setIfInBounds_toArray, List.set_cons_zero, List.set_cons_succ]) (hCont (gb364, gb365) _ ⟨hHeld, (by (with_reducible repeat (first | apply Kd.R_alloc | apply Kd.R_drewN | apply Kd.R_drew)); exact Kd.R_mono HO_7.out (fun _ hk => ⟨hk.1.2, hk.2⟩)), (by (with_reducible repeat (first | refine blk_drewN ?_ _ | refine blk_drew ?_ | refine blk_alloc ?_ _)); exact BK364.out), (by (with_reducible repeat (first | refine blk_drewN ?_ _ | refine blk_drew ?_ | refine blk_alloc ?_ _)); exact BK365.out), GW364.out, GE364.out, NB365_364.out, NB364_365.out, GW365.out, GE365.out, (by repeat (first | (with_reducible first | exact HB.out | apply below_alloc | apply pw_below_drewN | apply below_drew1 | refine below_set ?_ GE364.out | refine below_set ?_ GE365.out) | exact HB.out))⟩)
            ·skip
             refine box_step ?hg (N := 11) ?hd (cs := #[.int .i64 0, .int .i64 0, .bool false, .int .i64 0, .int .i64 0, .bool false, .bool false, .bool false, .int .i64 0, .int .i64 0, .int .i64 0, .bool false]) (t := 38) ?hr ?_; (case hd => rfl); (case hg => rfl); (case hr => first | (go_simp; done) | (go_simp; rfl))
             intro gb365 hg w28 hbox hb
             have HS12_ := (hb.cell (World.block_lt_of_cell? _ _ (hHeld.2.2.2.2.2.2.2.2.2.2.2.2.1))).trans (hHeld.2.2.2.2.2.2.2.2.2.2.2.2.1)
             have HS13_ := (hb.cell (World.block_lt_of_cell? _ _ (hHeld.2.2.2.2.2.2.2.2.2.2.2.2.2.1))).trans (hHeld.2.2.2.2.2.2.2.2.2.2.2.2.2.1)
             have HS14_ := (hb.cell (World.block_lt_of_cell? _ _ (hHeld.2.2.2.2.2.2.2.2.2.2.2.2.2.2.1))).trans (hHeld.2.2.2.2.2.2.2.2.2.2.2.2.2.2.1)
             have HS15_ := (hb.cell (World.block_lt_of_cell? _ _ (hHeld.2.2.2.2.2.2.2.2.2.2.2.2.2.2.2.1))).trans (hHeld.2.2.2.2.2.2.2.2.2.2.2.2.2.2.2.1)
             have HS16_ := (hb.cell (World.block_lt_of_cell? _ _ (hHeld.2.2.2.2.2.2.2.2.2.2.2.2.2.2.2.2.1))).trans (hHeld.2.2.2.2.2.2.2.2.2.2.2.2.2.2.2.2.1)
             have HS17_ := (hb.cell (World.block_lt_of_cell? _ _ (hHeld.2.2.2.2.2.2.2.2.2.2.2.2.2.2.2.2.2.1))).trans (hHeld.2.2.2.2.2.2.2.2.2.2.2.2.2.2.2.2.2.1)
             have HS18_ := (hb.cell (World.block_lt_of_cell? _ _ (hHeld.2.2.2.2.2.2.2.2.2.2.2.2.2.2.2.2.2.2.1))).trans (hHeld.2.2.2.2.2.2.2.2.2.2.2.2.2.2.2.2.2.2.1)
             have HS19_ := (hb.cell (World.block_lt_of_cell? _ _ (hHeld.2.2.2.2.2.2.2.2.2.2.2.2.2.2.2.2.2.2.2.1))).trans (hHeld.2.2.2.2.2.2.2.2.2.2.2.2.2.2.2.2.2.2.2.1)
             have HS20_ := (hb.cell (World.block_lt_of_cell? _ _ (hHeld.2.2.2.2.2.2.2.2.2.2.2.2.2.2.2.2.2.2.2.2.1))).trans (hHeld.2.2.2.2.2.2.2.2.2.2.2.2.2.2.2.2.2.2.2.2.1)
             have HS21_ := (hb.cell (World.block_lt_of_cell? _ _ (hHeld.2.2.2.2.2.2.2.2.2.2.2.2.2.2.2.2.2.2.2.2.2.1))).trans (hHeld.2.2.2.2.2.2.2.2.2.2.2.2.2.2.2.2.2.2.2.2.2.1)
             have HS22_ := (hb.cell (World.block_lt_of_cell? _ _ (hHeld.2.2.2.2.2.2.2.2.2.2.2.2.2.2.2.2.2.2.2.2.2.2.1))).trans (hHeld.2.2.2.2.2.2.2.2.2.2.2.2.2.2.2.2.2.2.2.2.2.2.1)
             have HS23_ := (hb.cell (World.block_lt_of_cell? _ _ (hHeld.2.2.2.2.2.2.2.2.2.2.2.2.2.2.2.2.2.2.2.2.2.2.2))).trans (hHeld.2.2.2.2.2.2.2.2.2.2.2.2.2.2.2.2.2.2.2.2.2.2.2)
             have n0_ := Aside0.mk (Kd.R_below (Kd.R_elderB (by (with_reducible repeat (first | apply Kd.R_alloc | apply Kd.R_drewN | apply Kd.R_drew)); exact HO_7.out) gb365 (Nat.le_of_eq hg.symm)) hb)
             have n1_ := Aside0.mk (below_step (by repeat (first | (with_reducible first | exact HB.out | apply below_alloc | apply pw_below_drewN | apply below_drew1) | exact HB.out | exact Below.refl _ _)) hb)
             have n2_ := Aside0.mk (hbox)
             have n3_ := Aside0.mk ((by rw [hg]; exact (below_size (by repeat (first | (with_reducible first | exact HB.out | apply below_alloc | apply pw_below_drewN | apply below_drew1) | exact HB.out | exact Below.refl _ _))) : w.heap.size ≤ gb365))
             have n4_ := Aside0.mk ((by rw [hg]; exact (below_size (by repeat (first | (with_reducible first | exact HB.out | apply below_alloc | apply pw_below_drewN | apply below_drew1) | exact HB.out | exact Below.refl _ _))) : w.heap.size ≤ gb365))
             clear HO_7
             clear HB
             have HO_7 := n0_
             have HB := n1_
             have BK365 := n2_
             have GW365 := n3_
             have GE365 := n4_
             clear n0_ n1_ n2_ n3_ n4_
             clear hb hbox hg
             refine hK.out _ _ ⟨((HB.out.cell (World.block_lt_of_cell? w _ hw362_0)).trans hw362_0), ((HB.out.cell (World.block_lt_of_cell? w _ hw362_1)).trans hw362_1), ((HB.out.cell (World.block_lt_of_cell? w _ hw362_2)).trans hw362_2), ((HB.out.cell (World.block_lt_of_cell? w _ hw362_3)).trans hw362_3), ((HB.out.cell (World.block_lt_of_cell? w _ hw362_4)).trans hw362_4), ((HB.out.cell (World.block_lt_of_cell? w _ hw362_5)).trans hw362_5), ((HB.out.cell (World.block_lt_of_cell? w _ hw362_6)).trans hw362_6), ((HB.out.cell (World.block_lt_of_cell? w _ hw362_7)).trans hw362_7), ((HB.out.cell (World.block_lt_of_cell? w _ hw362_8)).trans hw362_8), ((HB.out.cell (World.block_lt_of_cell? w _ hw362_9)).trans hw362_9), ((HB.out.cell (World.block_lt_of_cell? w _ hw362_10)).trans hw362_10), ((HB.out.cell (World.block_lt_of_cell? w _ hw362_11)).trans hw362_11), HS12_, HS13_, HS14_, HS15_, HS16_, HS17_, HS18_, HS19_, HS20_, HS21_, HS22_, HS23_⟩ (fun hHeld => ?_)
             clear hK K
             refine norm_ (a' := ?_) ?_ ?_
             rotate_left
             ·show Act.put _ (some 11) _ = _
              simp only [Act.put, List.setIfInBounds_toArray, List.set_cons_zero, List.set_cons_succ, i64_w, i32_w]
              rfl
             refine one_ (i := 8) (N := some 10) #[true, true, true, true, true, true, true, true, true, true, false, false] rfl rfl (one_of HT_.out (by kernel_rfl)) (by decide) (fun K hK => ?_)
             refine box_step ?hg (N := 10) ?hd (cs := #[.int .i64 0, .int .i64 0, .bool false, .int .i64 0, .int .i64 0, .bool false, .bool false, .bool false, .int .i64 0, .int .i64 0, .int .i64 0, .bool false]) (t := 38) ?hr ?_; (case hd => rfl); (case hg => rfl); (case hr => first | (go_simp; done) | (go_simp; rfl))
             intro gb364 hg w29 hbox hb
             have HS12_ := (hb.cell (World.block_lt_of_cell? _ _ (hHeld.2.2.2.2.2.2.2.2.2.2.2.2.1))).trans (hHeld.2.2.2.2.2.2.2.2.2.2.2.2.1)
             have HS13_ := (hb.cell (World.block_lt_of_cell? _ _ (hHeld.2.2.2.2.2.2.2.2.2.2.2.2.2.1))).trans (hHeld.2.2.2.2.2.2.2.2.2.2.2.2.2.1)
             have HS14_ := (hb.cell (World.block_lt_of_cell? _ _ (hHeld.2.2.2.2.2.2.2.2.2.2.2.2.2.2.1))).trans (hHeld.2.2.2.2.2.2.2.2.2.2.2.2.2.2.1)
             have HS15_ := (hb.cell (World.block_lt_of_cell? _ _ (hHeld.2.2.2.2.2.2.2.2.2.2.2.2.2.2.2.1))).trans (hHeld.2.2.2.2.2.2.2.2.2.2.2.2.2.2.2.1)
             have HS16_ := (hb.cell (World.block_lt_of_cell? _ _ (hHeld.2.2.2.2.2.2.2.2.2.2.2.2.2.2.2.2.1))).trans (hHeld.2.2.2.2.2.2.2.2.2.2.2.2.2.2.2.2.1)
             have HS17_ := (hb.cell (World.block_lt_of_cell? _ _ (hHeld.2.2.2.2.2.2.2.2.2.2.2.2.2.2.2.2.2.1))).trans (hHeld.2.2.2.2.2.2.2.2.2.2.2.2.2.2.2.2.2.1)
             have HS18_ := (hb.cell (World.block_lt_of_cell? _ _ (hHeld.2.2.2.2.2.2.2.2.2.2.2.2.2.2.2.2.2.2.1))).trans (hHeld.2.2.2.2.2.2.2.2.2.2.2.2.2.2.2.2.2.2.1)
             have HS19_ := (hb.cell (World.block_lt_of_cell? _ _ (hHeld.2.2.2.2.2.2.2.2.2.2.2.2.2.2.2.2.2.2.2.1))).trans (hHeld.2.2.2.2.2.2.2.2.2.2.2.2.2.2.2.2.2.2.2.1)
             have HS20_ := (hb.cell (World.block_lt_of_cell? _ _ (hHeld.2.2.2.2.2.2.2.2.2.2.2.2.2.2.2.2.2.2.2.2.1))).trans (hHeld.2.2.2.2.2.2.2.2.2.2.2.2.2.2.2.2.2.2.2.2.1)
             have HS21_ := (hb.cell (World.block_lt_of_cell? _ _ (hHeld.2.2.2.2.2.2.2.2.2.2.2.2.2.2.2.2.2.2.2.2.2.1))).trans (hHeld.2.2.2.2.2.2.2.2.2.2.2.2.2.2.2.2.2.2.2.2.2.1)
             have HS22_ := (hb.cell (World.block_lt_of_cell? _ _ (hHeld.2.2.2.2.2.2.2.2.2.2.2.2.2.2.2.2.2.2.2.2.2.2.1))).trans (hHeld.2.2.2.2.2.2.2.2.2.2.2.2.2.2.2.2.2.2.2.2.2.2.1)
             have HS23_ := (hb.cell (World.block_lt_of_cell? _ _ (hHeld.2.2.2.2.2.2.2.2.2.2.2.2.2.2.2.2.2.2.2.2.2.2.2))).trans (hHeld.2.2.2.2.2.2.2.2.2.2.2.2.2.2.2.2.2.2.2.2.2.2.2)
             have n0_ := Aside0.mk (Kd.R_below (Kd.R_elderB (by (with_reducible repeat (first | apply Kd.R_alloc | apply Kd.R_drewN | apply Kd.R_drew)); exact HO_7.out) gb364 (Nat.le_of_eq hg.symm)) hb)
             have n1_ := Aside0.mk (blk_below (g := gb365) (o := .cells #[.int .i64 0, .int .i64 0, .bool false, .int .i64 0, .int .i64 0, .bool false, .bool false, .bool false, .int .i64 0, .int .i64 0, .int .i64 0, .bool false] 38 (0, 0)) (by (with_reducible repeat (first | refine blk_drewN ?_ _ | refine blk_drew ?_ | refine blk_alloc ?_ _)); exact BK365.out) hb)
             have n2_ := Aside0.mk (below_step (by repeat (first | (with_reducible first | exact HB.out | apply below_alloc | apply pw_below_drewN | apply below_drew1 | refine below_set ?_ GE365.out) | exact HB.out)) hb)
             have n3_ := Aside0.mk (hbox)
             have n4_ := Aside0.mk ((by rw [hg]; exact (below_size (by repeat (first | (with_reducible first | exact HB.out | apply below_alloc | apply pw_below_drewN | apply below_drew1 | refine below_set ?_ GE365.out) | exact HB.out))) : w.heap.size ≤ gb364))
             have n5_ := Aside0.mk ((by rw [hg]; exact (below_size (by repeat (first | (with_reducible first | exact HB.out | apply below_alloc | apply pw_below_drewN | apply below_drew1 | refine below_set ?_ GE365.out) | exact HB.out))) : w.heap.size ≤ gb364))
             have n6_ := Aside0.mk ((by rw [hg]; exact Nat.ne_of_lt (blk_lt (g := gb365) (o := .cells #[.int .i64 0, .int .i64 0, .bool false, .int .i64 0, .int .i64 0, .bool false, .bool false, .bool false, .int .i64 0, .int .i64 0, .int .i64 0, .bool false] 38 (0, 0)) (by (with_reducible repeat (first | refine blk_drewN ?_ _ | refine blk_drew ?_ | refine blk_alloc ?_ _)); exact BK365.out)) : gb365 ≠ gb364))
             have n7_ := Aside0.mk ((by rw [hg]; exact Nat.ne_of_gt (blk_lt (g := gb365) (o := .cells #[.int .i64 0, .int .i64 0, .bool false, .int .i64 0, .int .i64 0, .bool false, .bool false, .bool false, .int .i64 0, .int .i64 0, .int .i64 0, .bool false] 38 (0, 0)) (by (with_reducible repeat (first | refine blk_drewN ?_ _ | refine blk_drew ?_ | refine blk_alloc ?_ _)); exact BK365.out)) : gb364 ≠ gb365))
             clear HO_7
             clear BK365
             clear HB
             have HO_7 := n0_
             have BK365 := n1_
             have HB := n2_
             have BK364 := n3_
             have GW364 := n4_
             have GE364 := n5_
             have NB365_364 := n6_
             have NB364_365 := n7_
             clear n0_ n1_ n2_ n3_ n4_ n5_ n6_ n7_
             clear hb hbox hg
             refine hK.out _ _ ⟨((HB.out.cell (World.block_lt_of_cell? w _ hw362_0)).trans hw362_0), ((HB.out.cell (World.block_lt_of_cell? w _ hw362_1)).trans hw362_1), ((HB.out.cell (World.block_lt_of_cell? w _ hw362_2)).trans hw362_2), ((HB.out.cell (World.block_lt_of_cell? w _ hw362_3)).trans hw362_3), ((HB.out.cell (World.block_lt_of_cell? w _ hw362_4)).trans hw362_4), ((HB.out.cell (World.block_lt_of_cell? w _ hw362_5)).trans hw362_5), ((HB.out.cell (World.block_lt_of_cell? w _ hw362_6)).trans hw362_6), ((HB.out.cell (World.block_lt_of_cell? w _ hw362_7)).trans hw362_7), ((HB.out.cell (World.block_lt_of_cell? w _ hw362_8)).trans hw362_8), ((HB.out.cell (World.block_lt_of_cell? w _ hw362_9)).trans hw362_9), ((HB.out.cell (World.block_lt_of_cell? w _ hw362_10)).trans hw362_10), ((HB.out.cell (World.block_lt_of_cell? w _ hw362_11)).trans hw362_11), HS12_, HS13_, HS14_, HS15_, HS16_, HS17_, HS18_, HS19_, HS20_, HS21_, HS22_, HS23_⟩ (fun hHeld => ?_)
             clear hK K
             refine norm_ (a' := ?_) ?_ ?_
             rotate_left
             ·show Act.put _ (some 10) _ = _
              simp only [Act.put, List.setIfInBounds_toArray, List.set_cons_zero, List.set_cons_succ, i64_w, i32_w]
              rfl
             exact norm_ (by simp only [putAll, Act.put, List.setIfInBounds_toArray, List.set_cons_zero, List.set_cons_succ]) (hCont (gb364, gb365) _ ⟨hHeld, (by (with_reducible repeat (first | apply Kd.R_alloc | apply Kd.R_drewN | apply Kd.R_drew)); exact Kd.R_mono HO_7.out (fun _ hk => ⟨hk.2, hk.1.2⟩)), (by (with_reducible repeat (first | refine blk_drewN ?_ _ | refine blk_drew ?_ | refine blk_alloc ?_ _)); exact BK364.out), (by (with_reducible repeat (first | refine blk_drewN ?_ _ | refine blk_drew ?_ | refine blk_alloc ?_ _)); exact BK365.out), GW364.out, GE364.out, NB365_364.out, NB364_365.out, GW365.out, GE365.out, (by repeat (first | (with_reducible first | exact HB.out | apply below_alloc | apply pw_below_drewN | apply below_drew1 | refine below_set ?_ GE365.out | refine below_set ?_ GE364.out) | exact HB.out))⟩)
           rintro ⟨gb364, gb365⟩ w30 ⟨hS_, h0_, h1_, h2_, h3_, h4_, h5_, h6_, h7_, h8_, h9_⟩
           have n0_ : Aside0 (Kd.R k38 38 w30 w.heap.size (fun k_ => k_ ≠ gb364 ∧ k_ ≠ gb365) (.slice (some ad363) t355.length co27) t355) := ⟨h0_⟩
           have n1_ : Aside0 (w30.heap[gb364]? = some (.cells #[.int .i64 0, .int .i64 0, .bool false, .int .i64 0, .int .i64 0, .bool false, .bool false, .bool false, .int .i64 0, .int .i64 0, .int .i64 0, .bool false] 38 (0, 0))) := ⟨h1_⟩
           have n2_ : Aside0 (w30.heap[gb365]? = some (.cells #[.int .i64 0, .int .i64 0, .bool false, .int .i64 0, .int .i64 0, .bool false, .bool false, .bool false, .int .i64 0, .int .i64 0, .int .i64 0, .bool false] 38 (0, 0))) := ⟨h2_⟩
           have n3_ : Aside0 (w.heap.size ≤ gb364) := ⟨h3_⟩
           have n4_ : Aside0 (w.heap.size ≤ gb364) := ⟨h4_⟩
           have n5_ : Aside0 (gb365 ≠ gb364) := ⟨h5_⟩
           have n6_ : Aside0 (gb364 ≠ gb365) := ⟨h6_⟩
           have n7_ : Aside0 (w.heap.size ≤ gb365) := ⟨h7_⟩
           have n8_ : Aside0 (w.heap.size ≤ gb365) := ⟨h8_⟩
           have n9_ : Aside0 (Below w.heap.size w w30) := ⟨h9_⟩
           clear HO_7
           clear HB
           clear h0_ h1_ h2_ h3_ h4_ h5_ h6_ h7_ h8_ h9_
           have HO_7 := n0_
           have BK364 := n1_
           have BK365 := n2_
           have GW364 := n3_
           have GE364 := n4_
           have NB365_364 := n5_
           have NB364_365 := n6_
           have GW365 := n7_
           have GE365 := n8_
           have HB := n9_
           clear n0_ n1_ n2_ n3_ n4_ n5_ n6_ n7_ n8_ n9_
           have hHeld : w30.cell? (ad362.add ((a1).toNat * 12)) = some (.int .i64 ((rd_T38 l0 a1).f0)) ∧ w30.cell? ⟨(ad362.add ((a1).toNat * 12)).block, (ad362.add ((a1).toNat * 12)).off + 1, none⟩ = some (.int .i64 ((rd_T38 l0 a1).f1)) ∧ w30.cell? ⟨(ad362.add ((a1).toNat * 12)).block, (ad362.add ((a1).toNat * 12)).off + 2, none⟩ = some (.bool ((rd_T38 l0 a1).f2)) ∧ w30.cell? ⟨(ad362.add ((a1).toNat * 12)).block, (ad362.add ((a1).toNat * 12)).off + 3, none⟩ = some (.int .i64 ((rd_T38 l0 a1).f3)) ∧ w30.cell? ⟨(ad362.add ((a1).toNat * 12)).block, (ad362.add ((a1).toNat * 12)).off + 4, none⟩ = some (.int .i64 ((rd_T38 l0 a1).f4)) ∧ w30.cell? ⟨(ad362.add ((a1).toNat * 12)).block, (ad362.add ((a1).toNat * 12)).off + 5, none⟩ = some (.bool ((rd_T38 l0 a1).f5)) ∧ w30.cell? ⟨(ad362.add ((a1).toNat * 12)).block, (ad362.add ((a1).toNat * 12)).off + 6, none⟩ = some (.bool ((rd_T38 l0 a1).f6)) ∧ w30.cell? ⟨(ad362.add ((a1).toNat * 12)).block, (ad362.add ((a1).toNat * 12)).off + 7, none⟩ = some (.bool ((rd_T38 l0 a1).f7)) ∧ w30.cell? ⟨(ad362.add ((a1).toNat * 12)).block, (ad362.add ((a1).toNat * 12)).off + 8, none⟩ = some (.int .i64 ((rd_T38 l0 a1).f8)) ∧ w30.cell? ⟨(ad362.add ((a1).toNat * 12)).block, (ad362.add ((a1).toNat * 12)).off + 9, none⟩ = some (.int .i64 ((rd_T38 l0 a1).f9)) ∧ w30.cell? ⟨(ad362.add ((a1).toNat * 12)).block, (ad362.add ((a1).toNat * 12)).off + 10, none⟩ = some (.int .i64 ((rd_T38 l0 a1).f10)) ∧ w30.cell? ⟨(ad362.add ((a1).toNat * 12)).block, (ad362.add ((a1).toNat * 12)).off + 11, none⟩ = some (.bool ((rd_T38 l0 a1).f11)) ∧ w30.cell? (ad363.add ((a1).toNat * 12)) = some (.int .i64 ((rd_T38 t355 a1).f0)) ∧ w30.cell? ⟨(ad363.add ((a1).toNat * 12)).block, (ad363.add ((a1).toNat * 12)).off + 1, none⟩ = some (.int .i64 ((rd_T38 t355 a1).f1)) ∧ w30.cell? ⟨(ad363.add ((a1).toNat * 12)).block, (ad363.add ((a1).toNat * 12)).off + 2, none⟩ = some (.bool ((rd_T38 t355 a1).f2)) ∧ w30.cell? ⟨(ad363.add ((a1).toNat * 12)).block, (ad363.add ((a1).toNat * 12)).off + 3, none⟩ = some (.int .i64 ((rd_T38 t355 a1).f3)) ∧ w30.cell? ⟨(ad363.add ((a1).toNat * 12)).block, (ad363.add ((a1).toNat * 12)).off + 4, none⟩ = some (.int .i64 ((rd_T38 t355 a1).f4)) ∧ w30.cell? ⟨(ad363.add ((a1).toNat * 12)).block, (ad363.add ((a1).toNat * 12)).off + 5, none⟩ = some (.bool ((rd_T38 t355 a1).f5)) ∧ w30.cell? ⟨(ad363.add ((a1).toNat * 12)).block, (ad363.add ((a1).toNat * 12)).off + 6, none⟩ = some (.bool ((rd_T38 t355 a1).f6)) ∧ w30.cell? ⟨(ad363.add ((a1).toNat * 12)).block, (ad363.add ((a1).toNat * 12)).off + 7, none⟩ = some (.bool ((rd_T38 t355 a1).f7)) ∧ w30.cell? ⟨(ad363.add ((a1).toNat * 12)).block, (ad363.add ((a1).toNat * 12)).off + 8, none⟩ = some (.int .i64 ((rd_T38 t355 a1).f8)) ∧ w30.cell? ⟨(ad363.add ((a1).toNat * 12)).block, (ad363.add ((a1).toNat * 12)).off + 9, none⟩ = some (.int .i64 ((rd_T38 t355 a1).f9)) ∧ w30.cell? ⟨(ad363.add ((a1).toNat * 12)).block, (ad363.add ((a1).toNat * 12)).off + 10, none⟩ = some (.int .i64 ((rd_T38 t355 a1).f10)) ∧ w30.cell? ⟨(ad363.add ((a1).toNat * 12)).block, (ad363.add ((a1).toNat * 12)).off + 11, none⟩ = some (.bool ((rd_T38 t355 a1).f11)) := hS_
           refine norm_ (a' := ?_) ?_ ?_
           rotate_left
           ·simp only [putAll, Act.put, List.setIfInBounds_toArray, List.set_cons_zero, List.set_cons_succ]
            rfl
           refine one_ (i := 10) (N := none) #[true, true, true, true, true, true, true, true, true, true, true, false] rfl rfl (one_of HT_.out (by kernel_rfl)) (by decide) (fun K hK => ?_)
           have hs31 : w30.cell? ⟨gb364, 0, none⟩ = some (.int .i64 0) := (blk_cell BK364.out 0).trans rfl
           have hfs31 := blk_frozen BK364.out 0
           have hns31_1 := NB365_364.out
           have hms31_1 := NB364_365.out
           have hs32 : w30.cell? ⟨gb364, 1, none⟩ = some (.int .i64 0) := (blk_cell BK364.out 1).trans rfl
           have hfs32 := blk_frozen BK364.out 1
           have hns32_1 := NB365_364.out
           have hms32_1 := NB364_365.out
           have hs33 : w30.cell? ⟨gb364, 2, none⟩ = some (.bool false) := (blk_cell BK364.out 2).trans rfl
           have hfs33 := blk_frozen BK364.out 2
           have hns33_1 := NB365_364.out
           have hms33_1 := NB364_365.out
           have hs34 : w30.cell? ⟨gb364, 3, none⟩ = some (.int .i64 0) := (blk_cell BK364.out 3).trans rfl
           have hfs34 := blk_frozen BK364.out 3
           have hns34_1 := NB365_364.out
           have hms34_1 := NB364_365.out
           have hs35 : w30.cell? ⟨gb364, 4, none⟩ = some (.int .i64 0) := (blk_cell BK364.out 4).trans rfl
           have hfs35 := blk_frozen BK364.out 4
           have hns35_1 := NB365_364.out
           have hms35_1 := NB364_365.out
           have hs36 : w30.cell? ⟨gb364, 5, none⟩ = some (.bool false) := (blk_cell BK364.out 5).trans rfl
           have hfs36 := blk_frozen BK364.out 5
           have hns36_1 := NB365_364.out
           have hms36_1 := NB364_365.out
           have hs37 : w30.cell? ⟨gb364, 6, none⟩ = some (.bool false) := (blk_cell BK364.out 6).trans rfl
           have hfs37 := blk_frozen BK364.out 6
           have hns37_1 := NB365_364.out
           have hms37_1 := NB364_365.out
           have hs38 : w30.cell? ⟨gb364, 7, none⟩ = some (.bool false) := (blk_cell BK364.out 7).trans rfl
           have hfs38 := blk_frozen BK364.out 7
           have hns38_1 := NB365_364.out
           have hms38_1 := NB364_365.out
           have hs39 : w30.cell? ⟨gb364, 8, none⟩ = some (.int .i64 0) := (blk_cell BK364.out 8).trans rfl
           have hfs39 := blk_frozen BK364.out 8
           have hns39_1 := NB365_364.out
           have hms39_1 := NB364_365.out
           have hs40 : w30.cell? ⟨gb364, 9, none⟩ = some (.int .i64 0) := (blk_cell BK364.out 9).trans rfl
           have hfs40 := blk_frozen BK364.out 9
           have hns40_1 := NB365_364.out
           have hms40_1 := NB364_365.out
           have hs41 : w30.cell? ⟨gb364, 10, none⟩ = some (.int .i64 0) := (blk_cell BK364.out 10).trans rfl
           have hfs41 := blk_frozen BK364.out 10
           have hns41_1 := NB365_364.out
           have hms41_1 := NB364_365.out
           have hs42 : w30.cell? ⟨gb364, 11, none⟩ = some (.bool false) := (blk_cell BK364.out 11).trans rfl
           have hfs42 := blk_frozen BK364.out 11
           have hns42_1 := NB365_364.out
           have hms42_1 := NB364_365.out
           refine skip_ (w1 := ?_) (by rfl) rfl ?_ ?_
           rotate_left
           ·go_simp
            rfl
           refine hK.out _ _ ?hS_ (fun hHeld => ?_)
           case hS_ => exact ⟨((cw6_12 (g := gb364) hw362_0 GW364.out).trans (hHeld.1)), ((cw6_12 (g := gb364) hw362_1 GW364.out).trans (hHeld.2.1)), ((cw6_12 (g := gb364) hw362_2 GW364.out).trans (hHeld.2.2.1)), ((cw6_12 (g := gb364) hw362_3 GW364.out).trans (hHeld.2.2.2.1)), ((cw6_12 (g := gb364) hw362_4 GW364.out).trans (hHeld.2.2.2.2.1)), ((cw6_12 (g := gb364) hw362_5 GW364.out).trans (hHeld.2.2.2.2.2.1)), ((cw6_12 (g := gb364) hw362_6 GW364.out).trans (hHeld.2.2.2.2.2.2.1)), ((cw6_12 (g := gb364) hw362_7 GW364.out).trans (hHeld.2.2.2.2.2.2.2.1)), ((cw6_12 (g := gb364) hw362_8 GW364.out).trans (hHeld.2.2.2.2.2.2.2.2.1)), ((cw6_12 (g := gb364) hw362_9 GW364.out).trans (hHeld.2.2.2.2.2.2.2.2.2.1)), ((cw6_12 (g := gb364) hw362_10 GW364.out).trans (hHeld.2.2.2.2.2.2.2.2.2.2.1)), ((cw6_12 (g := gb364) hw362_11 GW364.out).trans (hHeld.2.2.2.2.2.2.2.2.2.2.2.1)), ((cq6_12 (g := gb364) (by first | exact Kd.own_blk (Kd.R_away HO_7.out (fun _ hk => hk.1)) | (rw [add_block]; exact Kd.own_blk (Kd.R_away HO_7.out (fun _ hk => hk.1))) | (show (Addr.add _ _).block ≠ _; rw [add_block]; exact Kd.own_blk (Kd.R_away HO_7.out (fun _ hk => hk.1))) | (dsimp only; exact Kd.own_blk (Kd.R_away HO_7.out (fun _ hk => hk.1))))).trans (hHeld.2.2.2.2.2.2.2.2.2.2.2.2.1)), ((cq6_12 (g := gb364) (by first | exact Kd.own_blk (Kd.R_away HO_7.out (fun _ hk => hk.1)) | (rw [add_block]; exact Kd.own_blk (Kd.R_away HO_7.out (fun _ hk => hk.1))) | (show (Addr.add _ _).block ≠ _; rw [add_block]; exact Kd.own_blk (Kd.R_away HO_7.out (fun _ hk => hk.1))) | (dsimp only; exact Kd.own_blk (Kd.R_away HO_7.out (fun _ hk => hk.1))))).trans (hHeld.2.2.2.2.2.2.2.2.2.2.2.2.2.1)), ((cq6_12 (g := gb364) (by first | exact Kd.own_blk (Kd.R_away HO_7.out (fun _ hk => hk.1)) | (rw [add_block]; exact Kd.own_blk (Kd.R_away HO_7.out (fun _ hk => hk.1))) | (show (Addr.add _ _).block ≠ _; rw [add_block]; exact Kd.own_blk (Kd.R_away HO_7.out (fun _ hk => hk.1))) | (dsimp only; exact Kd.own_blk (Kd.R_away HO_7.out (fun _ hk => hk.1))))).trans (hHeld.2.2.2.2.2.2.2.2.2.2.2.2.2.2.1)), ((cq6_12 (g := gb364) (by first | exact Kd.own_blk (Kd.R_away HO_7.out (fun _ hk => hk.1)) | (rw [add_block]; exact Kd.own_blk (Kd.R_away HO_7.out (fun _ hk => hk.1))) | (show (Addr.add _ _).block ≠ _; rw [add_block]; exact Kd.own_blk (Kd.R_away HO_7.out (fun _ hk => hk.1))) | (dsimp only; exact Kd.own_blk (Kd.R_away HO_7.out (fun _ hk => hk.1))))).trans (hHeld.2.2.2.2.2.2.2.2.2.2.2.2.2.2.2.1)), ((cq6_12 (g := gb364) (by first | exact Kd.own_blk (Kd.R_away HO_7.out (fun _ hk => hk.1)) | (rw [add_block]; exact Kd.own_blk (Kd.R_away HO_7.out (fun _ hk => hk.1))) | (show (Addr.add _ _).block ≠ _; rw [add_block]; exact Kd.own_blk (Kd.R_away HO_7.out (fun _ hk => hk.1))) | (dsimp only; exact Kd.own_blk (Kd.R_away HO_7.out (fun _ hk => hk.1))))).trans (hHeld.2.2.2.2.2.2.2.2.2.2.2.2.2.2.2.2.1)), ((cq6_12 (g := gb364) (by first | exact Kd.own_blk (Kd.R_away HO_7.out (fun _ hk => hk.1)) | (rw [add_block]; exact Kd.own_blk (Kd.R_away HO_7.out (fun _ hk => hk.1))) | (show (Addr.add _ _).block ≠ _; rw [add_block]; exact Kd.own_blk (Kd.R_away HO_7.out (fun _ hk => hk.1))) | (dsimp only; exact Kd.own_blk (Kd.R_away HO_7.out (fun _ hk => hk.1))))).trans (hHeld.2.2.2.2.2.2.2.2.2.2.2.2.2.2.2.2.2.1)), ((cq6_12 (g := gb364) (by first | exact Kd.own_blk (Kd.R_away HO_7.out (fun _ hk => hk.1)) | (rw [add_block]; exact Kd.own_blk (Kd.R_away HO_7.out (fun _ hk => hk.1))) | (show (Addr.add _ _).block ≠ _; rw [add_block]; exact Kd.own_blk (Kd.R_away HO_7.out (fun _ hk => hk.1))) | (dsimp only; exact Kd.own_blk (Kd.R_away HO_7.out (fun _ hk => hk.1))))).trans (hHeld.2.2.2.2.2.2.2.2.2.2.2.2.2.2.2.2.2.2.1)), ((cq6_12 (g := gb364) (by first | exact Kd.own_blk (Kd.R_away HO_7.out (fun _ hk => hk.1)) | (rw [add_block]; exact Kd.own_blk (Kd.R_away HO_7.out (fun _ hk => hk.1))) | (show (Addr.add _ _).block ≠ _; rw [add_block]; exact Kd.own_blk (Kd.R_away HO_7.out (fun _ hk => hk.1))) | (dsimp only; exact Kd.own_blk (Kd.R_away HO_7.out (fun _ hk => hk.1))))).trans (hHeld.2.2.2.2.2.2.2.2.2.2.2.2.2.2.2.2.2.2.2.1)), ((cq6_12 (g := gb364) (by first | exact Kd.own_blk (Kd.R_away HO_7.out (fun _ hk => hk.1)) | (rw [add_block]; exact Kd.own_blk (Kd.R_away HO_7.out (fun _ hk => hk.1))) | (show (Addr.add _ _).block ≠ _; rw [add_block]; exact Kd.own_blk (Kd.R_away HO_7.out (fun _ hk => hk.1))) | (dsimp only; exact Kd.own_blk (Kd.R_away HO_7.out (fun _ hk => hk.1))))).trans (hHeld.2.2.2.2.2.2.2.2.2.2.2.2.2.2.2.2.2.2.2.2.1)), ((cq6_12 (g := gb364) (by first | exact Kd.own_blk (Kd.R_away HO_7.out (fun _ hk => hk.1)) | (rw [add_block]; exact Kd.own_blk (Kd.R_away HO_7.out (fun _ hk => hk.1))) | (show (Addr.add _ _).block ≠ _; rw [add_block]; exact Kd.own_blk (Kd.R_away HO_7.out (fun _ hk => hk.1))) | (dsimp only; exact Kd.own_blk (Kd.R_away HO_7.out (fun _ hk => hk.1))))).trans (hHeld.2.2.2.2.2.2.2.2.2.2.2.2.2.2.2.2.2.2.2.2.2.1)), ((cq6_12 (g := gb364) (by first | exact Kd.own_blk (Kd.R_away HO_7.out (fun _ hk => hk.1)) | (rw [add_block]; exact Kd.own_blk (Kd.R_away HO_7.out (fun _ hk => hk.1))) | (show (Addr.add _ _).block ≠ _; rw [add_block]; exact Kd.own_blk (Kd.R_away HO_7.out (fun _ hk => hk.1))) | (dsimp only; exact Kd.own_blk (Kd.R_away HO_7.out (fun _ hk => hk.1))))).trans (hHeld.2.2.2.2.2.2.2.2.2.2.2.2.2.2.2.2.2.2.2.2.2.2.1)), ((cq6_12 (g := gb364) (by first | exact Kd.own_blk (Kd.R_away HO_7.out (fun _ hk => hk.1)) | (rw [add_block]; exact Kd.own_blk (Kd.R_away HO_7.out (fun _ hk => hk.1))) | (show (Addr.add _ _).block ≠ _; rw [add_block]; exact Kd.own_blk (Kd.R_away HO_7.out (fun _ hk => hk.1))) | (dsimp only; exact Kd.own_blk (Kd.R_away HO_7.out (fun _ hk => hk.1))))).trans (hHeld.2.2.2.2.2.2.2.2.2.2.2.2.2.2.2.2.2.2.2.2.2.2.2))⟩
           clear hK K
           refine gen_w (p := fun W_ => wpAnyLast _ _ _ _ _ _ _ _ _ W_) ?_
           intro W5 hW5
           rw [hW5] at hHeld
           have hb5 : W5.heap[gb365]? = some (.cells #[.int .i64 0, .int .i64 0, .bool false, .int .i64 0, .int .i64 0, .bool false, .bool false, .bool false, .int .i64 0, .int .i64 0, .int .i64 0, .bool false] 38 (0, 0)) := by rw [← hW5]; exact blk_far (blk_far (blk_far (blk_far (blk_far (blk_far (blk_far (blk_far (blk_far (blk_far (blk_far (blk_far (BK365.out) NB365_364.out _) NB365_364.out _) NB365_364.out _) NB365_364.out _) NB365_364.out _) NB365_364.out _) NB365_364.out _) NB365_364.out _) NB365_364.out _) NB365_364.out _) NB365_364.out _) NB365_364.out _
           refine one_ (i := 11) (N := none) #[true, true, true, true, true, true, true, true, true, true, true, true] rfl rfl (one_of HT_.out (by kernel_rfl)) (by decide) (fun K hK => ?_)
           have hs43 : W5.cell? ⟨gb365, 0, none⟩ = some (.int .i64 0) := (blk_cell hb5 0).trans rfl
           have hfs43 := blk_frozen hb5 0
           have hns43_0 := NB364_365.out
           have hms43_0 := NB365_364.out
           have hs44 : W5.cell? ⟨gb365, 1, none⟩ = some (.int .i64 0) := (blk_cell hb5 1).trans rfl
           have hfs44 := blk_frozen hb5 1
           have hns44_0 := NB364_365.out
           have hms44_0 := NB365_364.out
           have hs45 : W5.cell? ⟨gb365, 2, none⟩ = some (.bool false) := (blk_cell hb5 2).trans rfl
           have hfs45 := blk_frozen hb5 2
           have hns45_0 := NB364_365.out
           have hms45_0 := NB365_364.out
           have hs46 : W5.cell? ⟨gb365, 3, none⟩ = some (.int .i64 0) := (blk_cell hb5 3).trans rfl
           have hfs46 := blk_frozen hb5 3
           have hns46_0 := NB364_365.out
           have hms46_0 := NB365_364.out
           have hs47 : W5.cell? ⟨gb365, 4, none⟩ = some (.int .i64 0) := (blk_cell hb5 4).trans rfl
           have hfs47 := blk_frozen hb5 4
           have hns47_0 := NB364_365.out
           have hms47_0 := NB365_364.out
           have hs48 : W5.cell? ⟨gb365, 5, none⟩ = some (.bool false) := (blk_cell hb5 5).trans rfl
           have hfs48 := blk_frozen hb5 5
           have hns48_0 := NB364_365.out
           have hms48_0 := NB365_364.out
           have hs49 : W5.cell? ⟨gb365, 6, none⟩ = some (.bool false) := (blk_cell hb5 6).trans rfl
           have hfs49 := blk_frozen hb5 6
           have hns49_0 := NB364_365.out
           have hms49_0 := NB365_364.out
           have hs50 : W5.cell? ⟨gb365, 7, none⟩ = some (.bool false) := (blk_cell hb5 7).trans rfl
           have hfs50 := blk_frozen hb5 7
           have hns50_0 := NB364_365.out
           have hms50_0 := NB365_364.out
           have hs51 : W5.cell? ⟨gb365, 8, none⟩ = some (.int .i64 0) := (blk_cell hb5 8).trans rfl
           have hfs51 := blk_frozen hb5 8
           have hns51_0 := NB364_365.out
           have hms51_0 := NB365_364.out
           have hs52 : W5.cell? ⟨gb365, 9, none⟩ = some (.int .i64 0) := (blk_cell hb5 9).trans rfl
           have hfs52 := blk_frozen hb5 9
           have hns52_0 := NB364_365.out
           have hms52_0 := NB365_364.out
           have hs53 : W5.cell? ⟨gb365, 10, none⟩ = some (.int .i64 0) := (blk_cell hb5 10).trans rfl
           have hfs53 := blk_frozen hb5 10
           have hns53_0 := NB364_365.out
           have hms53_0 := NB365_364.out
           have hs54 : W5.cell? ⟨gb365, 11, none⟩ = some (.bool false) := (blk_cell hb5 11).trans rfl
           have hfs54 := blk_frozen hb5 11
           have hns54_0 := NB364_365.out
           have hms54_0 := NB365_364.out
           refine skip_ (w1 := ?_) (by rfl) rfl ?_ ?_
           rotate_left
           ·go_simp
            rfl
           refine hK.out _ _ ?hS_ (fun hHeld => ?_)
           case hS_ => exact ⟨((cw6_12 (g := gb365) hw362_0 GW365.out).trans (hHeld.1)), ((cw6_12 (g := gb365) hw362_1 GW365.out).trans (hHeld.2.1)), ((cw6_12 (g := gb365) hw362_2 GW365.out).trans (hHeld.2.2.1)), ((cw6_12 (g := gb365) hw362_3 GW365.out).trans (hHeld.2.2.2.1)), ((cw6_12 (g := gb365) hw362_4 GW365.out).trans (hHeld.2.2.2.2.1)), ((cw6_12 (g := gb365) hw362_5 GW365.out).trans (hHeld.2.2.2.2.2.1)), ((cw6_12 (g := gb365) hw362_6 GW365.out).trans (hHeld.2.2.2.2.2.2.1)), ((cw6_12 (g := gb365) hw362_7 GW365.out).trans (hHeld.2.2.2.2.2.2.2.1)), ((cw6_12 (g := gb365) hw362_8 GW365.out).trans (hHeld.2.2.2.2.2.2.2.2.1)), ((cw6_12 (g := gb365) hw362_9 GW365.out).trans (hHeld.2.2.2.2.2.2.2.2.2.1)), ((cw6_12 (g := gb365) hw362_10 GW365.out).trans (hHeld.2.2.2.2.2.2.2.2.2.2.1)), ((cw6_12 (g := gb365) hw362_11 GW365.out).trans (hHeld.2.2.2.2.2.2.2.2.2.2.2.1)), ((cq6_12 (g := gb365) (by first | exact Kd.own_blk (Kd.R_away HO_7.out (fun _ hk => hk.2)) | (rw [add_block]; exact Kd.own_blk (Kd.R_away HO_7.out (fun _ hk => hk.2))) | (show (Addr.add _ _).block ≠ _; rw [add_block]; exact Kd.own_blk (Kd.R_away HO_7.out (fun _ hk => hk.2))) | (dsimp only; exact Kd.own_blk (Kd.R_away HO_7.out (fun _ hk => hk.2))))).trans (hHeld.2.2.2.2.2.2.2.2.2.2.2.2.1)), ((cq6_12 (g := gb365) (by first | exact Kd.own_blk (Kd.R_away HO_7.out (fun _ hk => hk.2)) | (rw [add_block]; exact Kd.own_blk (Kd.R_away HO_7.out (fun _ hk => hk.2))) | (show (Addr.add _ _).block ≠ _; rw [add_block]; exact Kd.own_blk (Kd.R_away HO_7.out (fun _ hk => hk.2))) | (dsimp only; exact Kd.own_blk (Kd.R_away HO_7.out (fun _ hk => hk.2))))).trans (hHeld.2.2.2.2.2.2.2.2.2.2.2.2.2.1)), ((cq6_12 (g := gb365) (by first | exact Kd.own_blk (Kd.R_away HO_7.out (fun _ hk => hk.2)) | (rw [add_block]; exact Kd.own_blk (Kd.R_away HO_7.out (fun _ hk => hk.2))) | (show (Addr.add _ _).block ≠ _; rw [add_block]; exact Kd.own_blk (Kd.R_away HO_7.out (fun _ hk => hk.2))) | (dsimp only; exact Kd.own_blk (Kd.R_away HO_7.out (fun _ hk => hk.2))))).trans (hHeld.2.2.2.2.2.2.2.2.2.2.2.2.2.2.1)), ((cq6_12 (g := gb365) (by first | exact Kd.own_blk (Kd.R_away HO_7.out (fun _ hk => hk.2)) | (rw [add_block]; exact Kd.own_blk (Kd.R_away HO_7.out (fun _ hk => hk.2))) | (show (Addr.add _ _).block ≠ _; rw [add_block]; exact Kd.own_blk (Kd.R_away HO_7.out (fun _ hk => hk.2))) | (dsimp only; exact Kd.own_blk (Kd.R_away HO_7.out (fun _ hk => hk.2))))).trans (hHeld.2.2.2.2.2.2.2.2.2.2.2.2.2.2.2.1)), ((cq6_12 (g := gb365) (by first | exact Kd.own_blk (Kd.R_away HO_7.out (fun _ hk => hk.2)) | (rw [add_block]; exact Kd.own_blk (Kd.R_away HO_7.out (fun _ hk => hk.2))) | (show (Addr.add _ _).block ≠ _; rw [add_block]; exact Kd.own_blk (Kd.R_away HO_7.out (fun _ hk => hk.2))) | (dsimp only; exact Kd.own_blk (Kd.R_away HO_7.out (fun _ hk => hk.2))))).trans (hHeld.2.2.2.2.2.2.2.2.2.2.2.2.2.2.2.2.1)), ((cq6_12 (g := gb365) (by first | exact Kd.own_blk (Kd.R_away HO_7.out (fun _ hk => hk.2)) | (rw [add_block]; exact Kd.own_blk (Kd.R_away HO_7.out (fun _ hk => hk.2))) | (show (Addr.add _ _).block ≠ _; rw [add_block]; exact Kd.own_blk (Kd.R_away HO_7.out (fun _ hk => hk.2))) | (dsimp only; exact Kd.own_blk (Kd.R_away HO_7.out (fun _ hk => hk.2))))).trans (hHeld.2.2.2.2.2.2.2.2.2.2.2.2.2.2.2.2.2.1)), ((cq6_12 (g := gb365) (by first | exact Kd.own_blk (Kd.R_away HO_7.out (fun _ hk => hk.2)) | (rw [add_block]; exact Kd.own_blk (Kd.R_away HO_7.out (fun _ hk => hk.2))) | (show (Addr.add _ _).block ≠ _; rw [add_block]; exact Kd.own_blk (Kd.R_away HO_7.out (fun _ hk => hk.2))) | (dsimp only; exact Kd.own_blk (Kd.R_away HO_7.out (fun _ hk => hk.2))))).trans (hHeld.2.2.2.2.2.2.2.2.2.2.2.2.2.2.2.2.2.2.1)), ((cq6_12 (g := gb365) (by first | exact Kd.own_blk (Kd.R_away HO_7.out (fun _ hk => hk.2)) | (rw [add_block]; exact Kd.own_blk (Kd.R_away HO_7.out (fun _ hk => hk.2))) | (show (Addr.add _ _).block ≠ _; rw [add_block]; exact Kd.own_blk (Kd.R_away HO_7.out (fun _ hk => hk.2))) | (dsimp only; exact Kd.own_blk (Kd.R_away HO_7.out (fun _ hk => hk.2))))).trans (hHeld.2.2.2.2.2.2.2.2.2.2.2.2.2.2.2.2.2.2.2.1)), ((cq6_12 (g := gb365) (by first | exact Kd.own_blk (Kd.R_away HO_7.out (fun _ hk => hk.2)) | (rw [add_block]; exact Kd.own_blk (Kd.R_away HO_7.out (fun _ hk => hk.2))) | (show (Addr.add _ _).block ≠ _; rw [add_block]; exact Kd.own_blk (Kd.R_away HO_7.out (fun _ hk => hk.2))) | (dsimp only; exact Kd.own_blk (Kd.R_away HO_7.out (fun _ hk => hk.2))))).trans (hHeld.2.2.2.2.2.2.2.2.2.2.2.2.2.2.2.2.2.2.2.2.1)), ((cq6_12 (g := gb365) (by first | exact Kd.own_blk (Kd.R_away HO_7.out (fun _ hk => hk.2)) | (rw [add_block]; exact Kd.own_blk (Kd.R_away HO_7.out (fun _ hk => hk.2))) | (show (Addr.add _ _).block ≠ _; rw [add_block]; exact Kd.own_blk (Kd.R_away HO_7.out (fun _ hk => hk.2))) | (dsimp only; exact Kd.own_blk (Kd.R_away HO_7.out (fun _ hk => hk.2))))).trans (hHeld.2.2.2.2.2.2.2.2.2.2.2.2.2.2.2.2.2.2.2.2.2.1)), ((cq6_12 (g := gb365) (by first | exact Kd.own_blk (Kd.R_away HO_7.out (fun _ hk => hk.2)) | (rw [add_block]; exact Kd.own_blk (Kd.R_away HO_7.out (fun _ hk => hk.2))) | (show (Addr.add _ _).block ≠ _; rw [add_block]; exact Kd.own_blk (Kd.R_away HO_7.out (fun _ hk => hk.2))) | (dsimp only; exact Kd.own_blk (Kd.R_away HO_7.out (fun _ hk => hk.2))))).trans (hHeld.2.2.2.2.2.2.2.2.2.2.2.2.2.2.2.2.2.2.2.2.2.2.1)), ((cq6_12 (g := gb365) (by first | exact Kd.own_blk (Kd.R_away HO_7.out (fun _ hk => hk.2)) | (rw [add_block]; exact Kd.own_blk (Kd.R_away HO_7.out (fun _ hk => hk.2))) | (show (Addr.add _ _).block ≠ _; rw [add_block]; exact Kd.own_blk (Kd.R_away HO_7.out (fun _ hk => hk.2))) | (dsimp only; exact Kd.own_blk (Kd.R_away HO_7.out (fun _ hk => hk.2))))).trans (hHeld.2.2.2.2.2.2.2.2.2.2.2.2.2.2.2.2.2.2.2.2.2.2.2))⟩
           clear hK K
           clear hb5
           subst hW5
           refine done_ (done_of HT_.out (by kernel_rfl)) ?_
           go_upto_region 13 with (fail)
           go_cut [77] (fun v77 wc => ∃ (kq : Nat) (x77_24 : Bool), v77 = .bool x77_24 ∧ Aside0 (tidewaylaw10_BoardAgain.j2 kq l0 a2 t355 0 x77_24 ((rd_T38 l0 a1).f0) ((rd_T38 l0 a1).f1) ((rd_T38 l0 a1).f2) ((rd_T38 l0 a1).f3) ((rd_T38 l0 a1).f4) ((rd_T38 l0 a1).f5) ((rd_T38 l0 a1).f6) ((rd_T38 l0 a1).f7) ((rd_T38 l0 a1).f8) ((rd_T38 l0 a1).f9) ((rd_T38 l0 a1).f10) ((rd_T38 l0 a1).f11) ((rd_T38 t355 a1).f0) ((rd_T38 t355 a1).f1) ((rd_T38 t355 a1).f2) ((rd_T38 t355 a1).f3) ((rd_T38 t355 a1).f4) ((rd_T38 t355 a1).f5) ((rd_T38 t355 a1).f6) ((rd_T38 t355 a1).f7) ((rd_T38 t355 a1).f8) ((rd_T38 t355 a1).f9) ((rd_T38 t355 a1).f10) ((rd_T38 t355 a1).f11) = some r) ∧ Aside0 (kq ≤ k2) ∧ Aside0 (Kd.R k38 38 wc w.heap.size (fun k_ => k_ ≠ gb364 ∧ k_ ≠ gb365) (.slice (some ad363) t355.length co27) t355) ∧ Aside0 (wc.heap[gb364]? = some (.cells #[.int .i64 ((rd_T38 l0 a1).f0), .int .i64 ((rd_T38 l0 a1).f1), .bool ((rd_T38 l0 a1).f2), .int .i64 ((rd_T38 l0 a1).f3), .int .i64 ((rd_T38 l0 a1).f4), .bool ((rd_T38 l0 a1).f5), .bool ((rd_T38 l0 a1).f6), .bool ((rd_T38 l0 a1).f7), .int .i64 ((rd_T38 l0 a1).f8), .int .i64 ((rd_T38 l0 a1).f9), .int .i64 ((rd_T38 l0 a1).f10), .bool ((rd_T38 l0 a1).f11)] 38 (0, 0))) ∧ Aside0 (wc.heap[gb365]? = some (.cells #[.int .i64 ((rd_T38 t355 a1).f0), .int .i64 ((rd_T38 t355 a1).f1), .bool ((rd_T38 t355 a1).f2), .int .i64 ((rd_T38 t355 a1).f3), .int .i64 ((rd_T38 t355 a1).f4), .bool ((rd_T38 t355 a1).f5), .bool ((rd_T38 t355 a1).f6), .bool ((rd_T38 t355 a1).f7), .int .i64 ((rd_T38 t355 a1).f8), .int .i64 ((rd_T38 t355 a1).f9), .int .i64 ((rd_T38 t355 a1).f10), .bool ((rd_T38 t355 a1).f11)] 38 (0, 0))) ∧ Aside0 (Below w.heap.size w wc))
           case first =>
            have H := HC25.out
            clear HC25
            obtain ⟨bq55, hbq55⟩ : ∃ b_ : Bool, b_ = ((rd_T38 l0 a1).f6) := ⟨_, rfl⟩
            replace H : (if bq55 = true then (tidewaylaw10_BoardAgain.j2 k2 l0 a2 t355 0 (!((rd_T38 l0 a1).f7)) ((rd_T38 l0 a1).f0) ((rd_T38 l0 a1).f1) ((rd_T38 l0 a1).f2) ((rd_T38 l0 a1).f3) ((rd_T38 l0 a1).f4) ((rd_T38 l0 a1).f5) bq55 ((rd_T38 l0 a1).f7) ((rd_T38 l0 a1).f8) ((rd_T38 l0 a1).f9) ((rd_T38 l0 a1).f10) ((rd_T38 l0 a1).f11) ((rd_T38 t355 a1).f0) ((rd_T38 t355 a1).f1) ((rd_T38 t355 a1).f2) ((rd_T38 t355 a1).f3) ((rd_T38 t355 a1).f4) ((rd_T38 t355 a1).f5) ((rd_T38 t355 a1).f6) ((rd_T38 t355 a1).f7) ((rd_T38 t355 a1).f8) ((rd_T38 t355 a1).f9) ((rd_T38 t355 a1).f10) ((rd_T38 t355 a1).f11)) else (tidewaylaw10_BoardAgain.j2 k2 l0 a2 t355 0 false ((rd_T38 l0 a1).f0) ((rd_T38 l0 a1).f1) ((rd_T38 l0 a1).f2) ((rd_T38 l0 a1).f3) ((rd_T38 l0 a1).f4) ((rd_T38 l0 a1).f5) bq55 ((rd_T38 l0 a1).f7) ((rd_T38 l0 a1).f8) ((rd_T38 l0 a1).f9) ((rd_T38 l0 a1).f10) ((rd_T38 l0 a1).f11) ((rd_T38 t355 a1).f0) ((rd_T38 t355 a1).f1) ((rd_T38 t355 a1).f2) ((rd_T38 t355 a1).f3) ((rd_T38 t355 a1).f4) ((rd_T38 t355 a1).f5) ((rd_T38 t355 a1).f6) ((rd_T38 t355 a1).f7) ((rd_T38 t355 a1).f8) ((rd_T38 t355 a1).f9) ((rd_T38 t355 a1).f10) ((rd_T38 t355 a1).f11))) = some r := by rw [← hbq55] at H; exact H
            have Nbq55 := Aside0.mk hbq55
            clear hbq55
            (try rw [← Nbq55.out])
            by_cases c56 : bq55 = true
            ·subst c56
             have H1 : (tidewaylaw10_BoardAgain.j2 k2 l0 a2 t355 0 (!((rd_T38 l0 a1).f7)) ((rd_T38 l0 a1).f0) ((rd_T38 l0 a1).f1) ((rd_T38 l0 a1).f2) ((rd_T38 l0 a1).f3) ((rd_T38 l0 a1).f4) ((rd_T38 l0 a1).f5) true ((rd_T38 l0 a1).f7) ((rd_T38 l0 a1).f8) ((rd_T38 l0 a1).f9) ((rd_T38 l0 a1).f10) ((rd_T38 l0 a1).f11) ((rd_T38 t355 a1).f0) ((rd_T38 t355 a1).f1) ((rd_T38 t355 a1).f2) ((rd_T38 t355 a1).f3) ((rd_T38 t355 a1).f4) ((rd_T38 t355 a1).f5) ((rd_T38 t355 a1).f6) ((rd_T38 t355 a1).f7) ((rd_T38 t355 a1).f8) ((rd_T38 t355 a1).f9) ((rd_T38 t355 a1).f10) ((rd_T38 t355 a1).f11)) = some r := by rw [if_pos rfl] at H; exact H
             clear H
             have H := H1
             clear H1
             have H' := Aside0.mk H
             clear H
             have hnb57 := NB364_365.out
             have hnc57 := NB365_364.out
             have hcz58_0 : w30.cell? ⟨gb364, 0, none⟩ = some (.int .i64 0) := (blk_cell BK364.out 0).trans rfl
             have hcz58_1 : w30.cell? ⟨gb364, 1, none⟩ = some (.int .i64 0) := (blk_cell BK364.out 1).trans rfl
             have hcz58_2 : w30.cell? ⟨gb364, 2, none⟩ = some (.bool false) := (blk_cell BK364.out 2).trans rfl
             have hcz58_3 : w30.cell? ⟨gb364, 3, none⟩ = some (.int .i64 0) := (blk_cell BK364.out 3).trans rfl
             have hcz58_4 : w30.cell? ⟨gb364, 4, none⟩ = some (.int .i64 0) := (blk_cell BK364.out 4).trans rfl
             have hcz58_5 : w30.cell? ⟨gb364, 5, none⟩ = some (.bool false) := (blk_cell BK364.out 5).trans rfl
             have hcz58_6 : w30.cell? ⟨gb364, 6, none⟩ = some (.bool false) := (blk_cell BK364.out 6).trans rfl
             have hcz58_7 : w30.cell? ⟨gb364, 7, none⟩ = some (.bool false) := (blk_cell BK364.out 7).trans rfl
             have hcz58_8 : w30.cell? ⟨gb364, 8, none⟩ = some (.int .i64 0) := (blk_cell BK364.out 8).trans rfl
             have hcz58_9 : w30.cell? ⟨gb364, 9, none⟩ = some (.int .i64 0) := (blk_cell BK364.out 9).trans rfl
             have hcz58_10 : w30.cell? ⟨gb364, 10, none⟩ = some (.int .i64 0) := (blk_cell BK364.out 10).trans rfl
             have hcz58_11 : w30.cell? ⟨gb364, 11, none⟩ = some (.bool false) := (blk_cell BK364.out 11).trans rfl
             have hfz58_0 := blk_frozen BK364.out 0
             have hfz58_1 := blk_frozen BK364.out 1
             have hfz58_2 := blk_frozen BK364.out 2
             have hfz58_3 := blk_frozen BK364.out 3
             have hfz58_4 := blk_frozen BK364.out 4
             have hfz58_5 := blk_frozen BK364.out 5
             have hfz58_6 := blk_frozen BK364.out 6
             have hfz58_7 := blk_frozen BK364.out 7
             have hfz58_8 := blk_frozen BK364.out 8
             have hfz58_9 := blk_frozen BK364.out 9
             have hfz58_10 := blk_frozen BK364.out 10
             have hfz58_11 := blk_frozen BK364.out 11
             go_wp2
             go_meet
             case rel => (try rw [← Nbq55.out]); exact ⟨_, (!((rd_T38 l0 a1).f7)), (by first | rfl | (simp; done) | (simp [*]; done)), H', ⟨by have := HJ5.out; have := HK2.out; first | omega | exact Nat.le_refl _⟩, ⟨by (with_reducible repeat (first | apply Kd.R_alloc | apply Kd.R_drewN | apply Kd.R_drew)); exact Kd.R_mono (Kd.R_far (p := ⟨gb365, 11, none⟩) (Kd.R_far (p := ⟨gb365, 10, none⟩) (Kd.R_far (p := ⟨gb365, 9, none⟩) (Kd.R_far (p := ⟨gb365, 8, none⟩) (Kd.R_far (p := ⟨gb365, 7, none⟩) (Kd.R_far (p := ⟨gb365, 6, none⟩) (Kd.R_far (p := ⟨gb365, 5, none⟩) (Kd.R_far (p := ⟨gb365, 4, none⟩) (Kd.R_far (p := ⟨gb365, 3, none⟩) (Kd.R_far (p := ⟨gb365, 2, none⟩) (Kd.R_far (p := ⟨gb365, 1, none⟩) (Kd.R_far (p := ⟨gb365, 0, none⟩) (Kd.R_far (p := ⟨gb364, 11, none⟩) (Kd.R_far (p := ⟨gb364, 10, none⟩) (Kd.R_far (p := ⟨gb364, 9, none⟩) (Kd.R_far (p := ⟨gb364, 8, none⟩) (Kd.R_far (p := ⟨gb364, 7, none⟩) (Kd.R_far (p := ⟨gb364, 6, none⟩) (Kd.R_far (p := ⟨gb364, 5, none⟩) (Kd.R_far (p := ⟨gb364, 4, none⟩) (Kd.R_far (p := ⟨gb364, 3, none⟩) (Kd.R_far (p := ⟨gb364, 2, none⟩) (Kd.R_far (p := ⟨gb364, 1, none⟩) (Kd.R_far (p := ⟨gb364, 0, none⟩) (Kd.R_mono (Kd.R_mono HO_7.out (fun k_ hk => (⟨hk, hk.1⟩ : _ ∧ k_ ≠ gb364))) (fun k_ hk => (⟨hk, hk.1.2⟩ : _ ∧ k_ ≠ gb365))) (fun _ hk => hk.1.2) (.int .i64 ((rd_T38 l0 a1).f0))) (fun _ hk => hk.1.2) (.int .i64 ((rd_T38 l0 a1).f1))) (fun _ hk => hk.1.2) (.bool ((rd_T38 l0 a1).f2))) (fun _ hk => hk.1.2) (.int .i64 ((rd_T38 l0 a1).f3))) (fun _ hk => hk.1.2) (.int .i64 ((rd_T38 l0 a1).f4))) (fun _ hk => hk.1.2) (.bool ((rd_T38 l0 a1).f5))) (fun _ hk => hk.1.2) (.bool (true))) (fun _ hk => hk.1.2) (.bool ((rd_T38 l0 a1).f7))) (fun _ hk => hk.1.2) (.int .i64 ((rd_T38 l0 a1).f8))) (fun _ hk => hk.1.2) (.int .i64 ((rd_T38 l0 a1).f9))) (fun _ hk => hk.1.2) (.int .i64 ((rd_T38 l0 a1).f10))) (fun _ hk => hk.1.2) (.bool ((rd_T38 l0 a1).f11))) (fun _ hk => hk.2) (.int .i64 ((rd_T38 t355 a1).f0))) (fun _ hk => hk.2) (.int .i64 ((rd_T38 t355 a1).f1))) (fun _ hk => hk.2) (.bool ((rd_T38 t355 a1).f2))) (fun _ hk => hk.2) (.int .i64 ((rd_T38 t355 a1).f3))) (fun _ hk => hk.2) (.int .i64 ((rd_T38 t355 a1).f4))) (fun _ hk => hk.2) (.bool ((rd_T38 t355 a1).f5))) (fun _ hk => hk.2) (.bool ((rd_T38 t355 a1).f6))) (fun _ hk => hk.2) (.bool ((rd_T38 t355 a1).f7))) (fun _ hk => hk.2) (.int .i64 ((rd_T38 t355 a1).f8))) (fun _ hk => hk.2) (.int .i64 ((rd_T38 t355 a1).f9))) (fun _ hk => hk.2) (.int .i64 ((rd_T38 t355 a1).f10))) (fun _ hk => hk.2) (.bool ((rd_T38 t355 a1).f11))) (fun _ hk => ⟨hk.1.1.1, hk.1.1.2⟩)⟩, ⟨by (with_reducible repeat (first | refine blk_drewN ?_ _ | refine blk_drew ?_ | refine blk_alloc ?_ _)); refine blk_far ?_ NB364_365.out _; (with_reducible repeat (first | refine blk_drewN ?_ _ | refine blk_drew ?_ | refine blk_alloc ?_ _)); refine blk_far ?_ NB364_365.out _; (with_reducible repeat (first | refine blk_drewN ?_ _ | refine blk_drew ?_ | refine blk_alloc ?_ _)); refine blk_far ?_ NB364_365.out _; (with_reducible repeat (first | refine blk_drewN ?_ _ | refine blk_drew ?_ | refine blk_alloc ?_ _)); refine blk_far ?_ NB364_365.out _; (with_reducible repeat (first | refine blk_drewN ?_ _ | refine blk_drew ?_ | refine blk_alloc ?_ _)); refine blk_far ?_ NB364_365.out _; (with_reducible repeat (first | refine blk_drewN ?_ _ | refine blk_drew ?_ | refine blk_alloc ?_ _)); refine blk_far ?_ NB364_365.out _; (with_reducible repeat (first | refine blk_drewN ?_ _ | refine blk_drew ?_ | refine blk_alloc ?_ _)); refine blk_far ?_ NB364_365.out _; (with_reducible repeat (first | refine blk_drewN ?_ _ | refine blk_drew ?_ | refine blk_alloc ?_ _)); refine blk_far ?_ NB364_365.out _; (with_reducible repeat (first | refine blk_drewN ?_ _ | refine blk_drew ?_ | refine blk_alloc ?_ _)); refine blk_far ?_ NB364_365.out _; (with_reducible repeat (first | refine blk_drewN ?_ _ | refine blk_drew ?_ | refine blk_alloc ?_ _)); refine blk_far ?_ NB364_365.out _; (with_reducible repeat (first | refine blk_drewN ?_ _ | refine blk_drew ?_ | refine blk_alloc ?_ _)); refine blk_far ?_ NB364_365.out _; (with_reducible repeat (first | refine blk_drewN ?_ _ | refine blk_drew ?_ | refine blk_alloc ?_ _)); refine blk_far ?_ NB364_365.out _; (with_reducible repeat (first | refine blk_drewN ?_ _ | refine blk_drew ?_ | refine blk_alloc ?_ _)); refine blk_put (cs := #[.int .i64 ((rd_T38 l0 a1).f0), .int .i64 ((rd_T38 l0 a1).f1), .bool ((rd_T38 l0 a1).f2), .int .i64 ((rd_T38 l0 a1).f3), .int .i64 ((rd_T38 l0 a1).f4), .bool ((rd_T38 l0 a1).f5), .bool (true), .bool ((rd_T38 l0 a1).f7), .int .i64 ((rd_T38 l0 a1).f8), .int .i64 ((rd_T38 l0 a1).f9), .int .i64 ((rd_T38 l0 a1).f10), .bool false]) ?_ 11 _ rfl; (with_reducible repeat (first | refine blk_drewN ?_ _ | refine blk_drew ?_ | refine blk_alloc ?_ _)); refine blk_put (cs := #[.int .i64 ((rd_T38 l0 a1).f0), .int .i64 ((rd_T38 l0 a1).f1), .bool ((rd_T38 l0 a1).f2), .int .i64 ((rd_T38 l0 a1).f3), .int .i64 ((rd_T38 l0 a1).f4), .bool ((rd_T38 l0 a1).f5), .bool (true), .bool ((rd_T38 l0 a1).f7), .int .i64 ((rd_T38 l0 a1).f8), .int .i64 ((rd_T38 l0 a1).f9), .int .i64 0, .bool false]) ?_ 10 _ rfl; (with_reducible repeat (first | refine blk_drewN ?_ _ | refine blk_drew ?_ | refine blk_alloc ?_ _)); refine blk_put (cs := #[.int .i64 ((rd_T38 l0 a1).f0), .int .i64 ((rd_T38 l0 a1).f1), .bool ((rd_T38 l0 a1).f2), .int .i64 ((rd_T38 l0 a1).f3), .int .i64 ((rd_T38 l0 a1).f4), .bool ((rd_T38 l0 a1).f5), .bool (true), .bool ((rd_T38 l0 a1).f7), .int .i64 ((rd_T38 l0 a1).f8), .int .i64 0, .int .i64 0, .bool false]) ?_ 9 _ rfl; (with_reducible repeat (first | refine blk_drewN ?_ _ | refine blk_drew ?_ | refine blk_alloc ?_ _)); refine blk_put (cs := #[.int .i64 ((rd_T38 l0 a1).f0), .int .i64 ((rd_T38 l0 a1).f1), .bool ((rd_T38 l0 a1).f2), .int .i64 ((rd_T38 l0 a1).f3), .int .i64 ((rd_T38 l0 a1).f4), .bool ((rd_T38 l0 a1).f5), .bool (true), .bool ((rd_T38 l0 a1).f7), .int .i64 0, .int .i64 0, .int .i64 0, .bool false]) ?_ 8 _ rfl; (with_reducible repeat (first | refine blk_drewN ?_ _ | refine blk_drew ?_ | refine blk_alloc ?_ _)); refine blk_put (cs := #[.int .i64 ((rd_T38 l0 a1).f0), .int .i64 ((rd_T38 l0 a1).f1), .bool ((rd_T38 l0 a1).f2), .int .i64 ((rd_T38 l0 a1).f3), .int .i64 ((rd_T38 l0 a1).f4), .bool ((rd_T38 l0 a1).f5), .bool (true), .bool false, .int .i64 0, .int .i64 0, .int .i64 0, .bool false]) ?_ 7 _ rfl; (with_reducible repeat (first | refine blk_drewN ?_ _ | refine blk_drew ?_ | refine blk_alloc ?_ _)); refine blk_put (cs := #[.int .i64 ((rd_T38 l0 a1).f0), .int .i64 ((rd_T38 l0 a1).f1), .bool ((rd_T38 l0 a1).f2), .int .i64 ((rd_T38 l0 a1).f3), .int .i64 ((rd_T38 l0 a1).f4), .bool ((rd_T38 l0 a1).f5), .bool false, .bool false, .int .i64 0, .int .i64 0, .int .i64 0, .bool false]) ?_ 6 _ rfl; (with_reducible repeat (first | refine blk_drewN ?_ _ | refine blk_drew ?_ | refine blk_alloc ?_ _)); refine blk_put (cs := #[.int .i64 ((rd_T38 l0 a1).f0), .int .i64 ((rd_T38 l0 a1).f1), .bool ((rd_T38 l0 a1).f2), .int .i64 ((rd_T38 l0 a1).f3), .int .i64 ((rd_T38 l0 a1).f4), .bool false, .bool false, .bool false, .int .i64 0, .int .i64 0, .int .i64 0, .bool false]) ?_ 5 _ rfl; (with_reducible repeat (first | refine blk_drewN ?_ _ | refine blk_drew ?_ | refine blk_alloc ?_ _)); refine blk_put (cs := #[.int .i64 ((rd_T38 l0 a1).f0), .int .i64 ((rd_T38 l0 a1).f1), .bool ((rd_T38 l0 a1).f2), .int .i64 ((rd_T38 l0 a1).f3), .int .i64 0, .bool false, .bool false, .bool false, .int .i64 0, .int .i64 0, .int .i64 0, .bool false]) ?_ 4 _ rfl; (with_reducible repeat (first | refine blk_drewN ?_ _ | refine blk_drew ?_ | refine blk_alloc ?_ _)); refine blk_put (cs := #[.int .i64 ((rd_T38 l0 a1).f0), .int .i64 ((rd_T38 l0 a1).f1), .bool ((rd_T38 l0 a1).f2), .int .i64 0, .int .i64 0, .bool false, .bool false, .bool false, .int .i64 0, .int .i64 0, .int .i64 0, .bool false]) ?_ 3 _ rfl; (with_reducible repeat (first | refine blk_drewN ?_ _ | refine blk_drew ?_ | refine blk_alloc ?_ _)); refine blk_put (cs := #[.int .i64 ((rd_T38 l0 a1).f0), .int .i64 ((rd_T38 l0 a1).f1), .bool false, .int .i64 0, .int .i64 0, .bool false, .bool false, .bool false, .int .i64 0, .int .i64 0, .int .i64 0, .bool false]) ?_ 2 _ rfl; (with_reducible repeat (first | refine blk_drewN ?_ _ | refine blk_drew ?_ | refine blk_alloc ?_ _)); refine blk_put (cs := #[.int .i64 ((rd_T38 l0 a1).f0), .int .i64 0, .bool false, .int .i64 0, .int .i64 0, .bool false, .bool false, .bool false, .int .i64 0, .int .i64 0, .int .i64 0, .bool false]) ?_ 1 _ rfl; (with_reducible repeat (first | refine blk_drewN ?_ _ | refine blk_drew ?_ | refine blk_alloc ?_ _)); refine blk_put (cs := #[.int .i64 0, .int .i64 0, .bool false, .int .i64 0, .int .i64 0, .bool false, .bool false, .bool false, .int .i64 0, .int .i64 0, .int .i64 0, .bool false]) ?_ 0 _ rfl; (with_reducible repeat (first | refine blk_drewN ?_ _ | refine blk_drew ?_ | refine blk_alloc ?_ _)); exact BK364.out⟩, ⟨by (with_reducible repeat (first | refine blk_drewN ?_ _ | refine blk_drew ?_ | refine blk_alloc ?_ _)); refine blk_put (cs := #[.int .i64 ((rd_T38 t355 a1).f0), .int .i64 ((rd_T38 t355 a1).f1), .bool ((rd_T38 t355 a1).f2), .int .i64 ((rd_T38 t355 a1).f3), .int .i64 ((rd_T38 t355 a1).f4), .bool ((rd_T38 t355 a1).f5), .bool ((rd_T38 t355 a1).f6), .bool ((rd_T38 t355 a1).f7), .int .i64 ((rd_T38 t355 a1).f8), .int .i64 ((rd_T38 t355 a1).f9), .int .i64 ((rd_T38 t355 a1).f10), .bool false]) ?_ 11 _ rfl; (with_reducible repeat (first | refine blk_drewN ?_ _ | refine blk_drew ?_ | refine blk_alloc ?_ _)); refine blk_put (cs := #[.int .i64 ((rd_T38 t355 a1).f0), .int .i64 ((rd_T38 t355 a1).f1), .bool ((rd_T38 t355 a1).f2), .int .i64 ((rd_T38 t355 a1).f3), .int .i64 ((rd_T38 t355 a1).f4), .bool ((rd_T38 t355 a1).f5), .bool ((rd_T38 t355 a1).f6), .bool ((rd_T38 t355 a1).f7), .int .i64 ((rd_T38 t355 a1).f8), .int .i64 ((rd_T38 t355 a1).f9), .int .i64 0, .bool false]) ?_ 10 _ rfl; (with_reducible repeat (first | refine blk_drewN ?_ _ | refine blk_drew ?_ | refine blk_alloc ?_ _)); refine blk_put (cs := #[.int .i64 ((rd_T38 t355 a1).f0), .int .i64 ((rd_T38 t355 a1).f1), .bool ((rd_T38 t355 a1).f2), .int .i64 ((rd_T38 t355 a1).f3), .int .i64 ((rd_T38 t355 a1).f4), .bool ((rd_T38 t355 a1).f5), .bool ((rd_T38 t355 a1).f6), .bool ((rd_T38 t355 a1).f7), .int .i64 ((rd_T38 t355 a1).f8), .int .i64 0, .int .i64 0, .bool false]) ?_ 9 _ rfl; (with_reducible repeat (first | refine blk_drewN ?_ _ | refine blk_drew ?_ | refine blk_alloc ?_ _)); refine blk_put (cs := #[.int .i64 ((rd_T38 t355 a1).f0), .int .i64 ((rd_T38 t355 a1).f1), .bool ((rd_T38 t355 a1).f2), .int .i64 ((rd_T38 t355 a1).f3), .int .i64 ((rd_T38 t355 a1).f4), .bool ((rd_T38 t355 a1).f5), .bool ((rd_T38 t355 a1).f6), .bool ((rd_T38 t355 a1).f7), .int .i64 0, .int .i64 0, .int .i64 0, .bool false]) ?_ 8 _ rfl; (with_reducible repeat (first | refine blk_drewN ?_ _ | refine blk_drew ?_ | refine blk_alloc ?_ _)); refine blk_put (cs := #[.int .i64 ((rd_T38 t355 a1).f0), .int .i64 ((rd_T38 t355 a1).f1), .bool ((rd_T38 t355 a1).f2), .int .i64 ((rd_T38 t355 a1).f3), .int .i64 ((rd_T38 t355 a1).f4), .bool ((rd_T38 t355 a1).f5), .bool ((rd_T38 t355 a1).f6), .bool false, .int .i64 0, .int .i64 0, .int .i64 0, .bool false]) ?_ 7 _ rfl; (with_reducible repeat (first | refine blk_drewN ?_ _ | refine blk_drew ?_ | refine blk_alloc ?_ _)); refine blk_put (cs := #[.int .i64 ((rd_T38 t355 a1).f0), .int .i64 ((rd_T38 t355 a1).f1), .bool ((rd_T38 t355 a1).f2), .int .i64 ((rd_T38 t355 a1).f3), .int .i64 ((rd_T38 t355 a1).f4), .bool ((rd_T38 t355 a1).f5), .bool false, .bool false, .int .i64 0, .int .i64 0, .int .i64 0, .bool false]) ?_ 6 _ rfl; (with_reducible repeat (first | refine blk_drewN ?_ _ | refine blk_drew ?_ | refine blk_alloc ?_ _)); refine blk_put (cs := #[.int .i64 ((rd_T38 t355 a1).f0), .int .i64 ((rd_T38 t355 a1).f1), .bool ((rd_T38 t355 a1).f2), .int .i64 ((rd_T38 t355 a1).f3), .int .i64 ((rd_T38 t355 a1).f4), .bool false, .bool false, .bool false, .int .i64 0, .int .i64 0, .int .i64 0, .bool false]) ?_ 5 _ rfl; (with_reducible repeat (first | refine blk_drewN ?_ _ | refine blk_drew ?_ | refine blk_alloc ?_ _)); refine blk_put (cs := #[.int .i64 ((rd_T38 t355 a1).f0), .int .i64 ((rd_T38 t355 a1).f1), .bool ((rd_T38 t355 a1).f2), .int .i64 ((rd_T38 t355 a1).f3), .int .i64 0, .bool false, .bool false, .bool false, .int .i64 0, .int .i64 0, .int .i64 0, .bool false]) ?_ 4 _ rfl; (with_reducible repeat (first | refine blk_drewN ?_ _ | refine blk_drew ?_ | refine blk_alloc ?_ _)); refine blk_put (cs := #[.int .i64 ((rd_T38 t355 a1).f0), .int .i64 ((rd_T38 t355 a1).f1), .bool ((rd_T38 t355 a1).f2), .int .i64 0, .int .i64 0, .bool false, .bool false, .bool false, .int .i64 0, .int .i64 0, .int .i64 0, .bool false]) ?_ 3 _ rfl; (with_reducible repeat (first | refine blk_drewN ?_ _ | refine blk_drew ?_ | refine blk_alloc ?_ _)); refine blk_put (cs := #[.int .i64 ((rd_T38 t355 a1).f0), .int .i64 ((rd_T38 t355 a1).f1), .bool false, .int .i64 0, .int .i64 0, .bool false, .bool false, .bool false, .int .i64 0, .int .i64 0, .int .i64 0, .bool false]) ?_ 2 _ rfl; (with_reducible repeat (first | refine blk_drewN ?_ _ | refine blk_drew ?_ | refine blk_alloc ?_ _)); refine blk_put (cs := #[.int .i64 ((rd_T38 t355 a1).f0), .int .i64 0, .bool false, .int .i64 0, .int .i64 0, .bool false, .bool false, .bool false, .int .i64 0, .int .i64 0, .int .i64 0, .bool false]) ?_ 1 _ rfl; (with_reducible repeat (first | refine blk_drewN ?_ _ | refine blk_drew ?_ | refine blk_alloc ?_ _)); refine blk_put (cs := #[.int .i64 0, .int .i64 0, .bool false, .int .i64 0, .int .i64 0, .bool false, .bool false, .bool false, .int .i64 0, .int .i64 0, .int .i64 0, .bool false]) ?_ 0 _ rfl; (with_reducible repeat (first | refine blk_drewN ?_ _ | refine blk_drew ?_ | refine blk_alloc ?_ _)); refine blk_far ?_ NB365_364.out _; (with_reducible repeat (first | refine blk_drewN ?_ _ | refine blk_drew ?_ | refine blk_alloc ?_ _)); refine blk_far ?_ NB365_364.out _; (with_reducible repeat (first | refine blk_drewN ?_ _ | refine blk_drew ?_ | refine blk_alloc ?_ _)); refine blk_far ?_ NB365_364.out _; (with_reducible repeat (first | refine blk_drewN ?_ _ | refine blk_drew ?_ | refine blk_alloc ?_ _)); refine blk_far ?_ NB365_364.out _; (with_reducible repeat (first | refine blk_drewN ?_ _ | refine blk_drew ?_ | refine blk_alloc ?_ _)); refine blk_far ?_ NB365_364.out _; (with_reducible repeat (first | refine blk_drewN ?_ _ | refine blk_drew ?_ | refine blk_alloc ?_ _)); refine blk_far ?_ NB365_364.out _; (with_reducible repeat (first | refine blk_drewN ?_ _ | refine blk_drew ?_ | refine blk_alloc ?_ _)); refine blk_far ?_ NB365_364.out _; (with_reducible repeat (first | refine blk_drewN ?_ _ | refine blk_drew ?_ | refine blk_alloc ?_ _)); refine blk_far ?_ NB365_364.out _; (with_reducible repeat (first | refine blk_drewN ?_ _ | refine blk_drew ?_ | refine blk_alloc ?_ _)); refine blk_far ?_ NB365_364.out _; (with_reducible repeat (first | refine blk_drewN ?_ _ | refine blk_drew ?_ | refine blk_alloc ?_ _)); refine blk_far ?_ NB365_364.out _; (with_reducible repeat (first | refine blk_drewN ?_ _ | refine blk_drew ?_ | refine blk_alloc ?_ _)); refine blk_far ?_ NB365_364.out _; (with_reducible repeat (first | refine blk_drewN ?_ _ | refine blk_drew ?_ | refine blk_alloc ?_ _)); refine blk_far ?_ NB365_364.out _; (with_reducible repeat (first | refine blk_drewN ?_ _ | refine blk_drew ?_ | refine blk_alloc ?_ _)); exact BK365.out⟩, ⟨by repeat (first | (with_reducible first | exact HB.out | apply below_alloc | apply pw_below_drewN | apply below_drew1 | refine below_set ?_ GE364.out | refine below_set ?_ GE365.out) | exact HB.out)⟩⟩
            ·replace c56 := Bool.eq_false_iff.mpr c56
             subst c56
             have H1 : (tidewaylaw10_BoardAgain.j2 k2 l0 a2 t355 0 false ((rd_T38 l0 a1).f0) ((rd_T38 l0 a1).f1) ((rd_T38 l0 a1).f2) ((rd_T38 l0 a1).f3) ((rd_T38 l0 a1).f4) ((rd_T38 l0 a1).f5) false ((rd_T38 l0 a1).f7) ((rd_T38 l0 a1).f8) ((rd_T38 l0 a1).f9) ((rd_T38 l0 a1).f10) ((rd_T38 l0 a1).f11) ((rd_T38 t355 a1).f0) ((rd_T38 t355 a1).f1) ((rd_T38 t355 a1).f2) ((rd_T38 t355 a1).f3) ((rd_T38 t355 a1).f4) ((rd_T38 t355 a1).f5) ((rd_T38 t355 a1).f6) ((rd_T38 t355 a1).f7) ((rd_T38 t355 a1).f8) ((rd_T38 t355 a1).f9) ((rd_T38 t355 a1).f10) ((rd_T38 t355 a1).f11)) = some r := by rw [if_neg (show ¬ (false = true) by decide)] at H; exact H
             clear H
             have H := H1
             clear H1
             have H' := Aside0.mk H
             clear H
             have hnb59 := NB364_365.out
             have hnc59 := NB365_364.out
             have hcz60_0 : w30.cell? ⟨gb364, 0, none⟩ = some (.int .i64 0) := (blk_cell BK364.out 0).trans rfl
             have hcz60_1 : w30.cell? ⟨gb364, 1, none⟩ = some (.int .i64 0) := (blk_cell BK364.out 1).trans rfl
             have hcz60_2 : w30.cell? ⟨gb364, 2, none⟩ = some (.bool false) := (blk_cell BK364.out 2).trans rfl
             have hcz60_3 : w30.cell? ⟨gb364, 3, none⟩ = some (.int .i64 0) := (blk_cell BK364.out 3).trans rfl
             have hcz60_4 : w30.cell? ⟨gb364, 4, none⟩ = some (.int .i64 0) := (blk_cell BK364.out 4).trans rfl
             have hcz60_5 : w30.cell? ⟨gb364, 5, none⟩ = some (.bool false) := (blk_cell BK364.out 5).trans rfl
             have hcz60_6 : w30.cell? ⟨gb364, 6, none⟩ = some (.bool false) := (blk_cell BK364.out 6).trans rfl
             have hcz60_7 : w30.cell? ⟨gb364, 7, none⟩ = some (.bool false) := (blk_cell BK364.out 7).trans rfl
             have hcz60_8 : w30.cell? ⟨gb364, 8, none⟩ = some (.int .i64 0) := (blk_cell BK364.out 8).trans rfl
             have hcz60_9 : w30.cell? ⟨gb364, 9, none⟩ = some (.int .i64 0) := (blk_cell BK364.out 9).trans rfl
             have hcz60_10 : w30.cell? ⟨gb364, 10, none⟩ = some (.int .i64 0) := (blk_cell BK364.out 10).trans rfl
             have hcz60_11 : w30.cell? ⟨gb364, 11, none⟩ = some (.bool false) := (blk_cell BK364.out 11).trans rfl
             have hfz60_0 := blk_frozen BK364.out 0
             have hfz60_1 := blk_frozen BK364.out 1
             have hfz60_2 := blk_frozen BK364.out 2
             have hfz60_3 := blk_frozen BK364.out 3
             have hfz60_4 := blk_frozen BK364.out 4
             have hfz60_5 := blk_frozen BK364.out 5
             have hfz60_6 := blk_frozen BK364.out 6
             have hfz60_7 := blk_frozen BK364.out 7
             have hfz60_8 := blk_frozen BK364.out 8
             have hfz60_9 := blk_frozen BK364.out 9
             have hfz60_10 := blk_frozen BK364.out 10
             have hfz60_11 := blk_frozen BK364.out 11
             go_wp2
             go_meet
             case rel => (try rw [← Nbq55.out]); exact ⟨_, (false), (by first | rfl | (simp; done) | (simp [*]; done)), H', ⟨by have := HJ5.out; have := HK2.out; first | omega | exact Nat.le_refl _⟩, ⟨by (with_reducible repeat (first | apply Kd.R_alloc | apply Kd.R_drewN | apply Kd.R_drew)); exact Kd.R_mono (Kd.R_far (p := ⟨gb365, 11, none⟩) (Kd.R_far (p := ⟨gb365, 10, none⟩) (Kd.R_far (p := ⟨gb365, 9, none⟩) (Kd.R_far (p := ⟨gb365, 8, none⟩) (Kd.R_far (p := ⟨gb365, 7, none⟩) (Kd.R_far (p := ⟨gb365, 6, none⟩) (Kd.R_far (p := ⟨gb365, 5, none⟩) (Kd.R_far (p := ⟨gb365, 4, none⟩) (Kd.R_far (p := ⟨gb365, 3, none⟩) (Kd.R_far (p := ⟨gb365, 2, none⟩) (Kd.R_far (p := ⟨gb365, 1, none⟩) (Kd.R_far (p := ⟨gb365, 0, none⟩) (Kd.R_far (p := ⟨gb364, 11, none⟩) (Kd.R_far (p := ⟨gb364, 10, none⟩) (Kd.R_far (p := ⟨gb364, 9, none⟩) (Kd.R_far (p := ⟨gb364, 8, none⟩) (Kd.R_far (p := ⟨gb364, 7, none⟩) (Kd.R_far (p := ⟨gb364, 6, none⟩) (Kd.R_far (p := ⟨gb364, 5, none⟩) (Kd.R_far (p := ⟨gb364, 4, none⟩) (Kd.R_far (p := ⟨gb364, 3, none⟩) (Kd.R_far (p := ⟨gb364, 2, none⟩) (Kd.R_far (p := ⟨gb364, 1, none⟩) (Kd.R_far (p := ⟨gb364, 0, none⟩) (Kd.R_mono (Kd.R_mono HO_7.out (fun k_ hk => (⟨hk, hk.1⟩ : _ ∧ k_ ≠ gb364))) (fun k_ hk => (⟨hk, hk.1.2⟩ : _ ∧ k_ ≠ gb365))) (fun _ hk => hk.1.2) (.int .i64 ((rd_T38 l0 a1).f0))) (fun _ hk => hk.1.2) (.int .i64 ((rd_T38 l0 a1).f1))) (fun _ hk => hk.1.2) (.bool ((rd_T38 l0 a1).f2))) (fun _ hk => hk.1.2) (.int .i64 ((rd_T38 l0 a1).f3))) (fun _ hk => hk.1.2) (.int .i64 ((rd_T38 l0 a1).f4))) (fun _ hk => hk.1.2) (.bool ((rd_T38 l0 a1).f5))) (fun _ hk => hk.1.2) (.bool (false))) (fun _ hk => hk.1.2) (.bool ((rd_T38 l0 a1).f7))) (fun _ hk => hk.1.2) (.int .i64 ((rd_T38 l0 a1).f8))) (fun _ hk => hk.1.2) (.int .i64 ((rd_T38 l0 a1).f9))) (fun _ hk => hk.1.2) (.int .i64 ((rd_T38 l0 a1).f10))) (fun _ hk => hk.1.2) (.bool ((rd_T38 l0 a1).f11))) (fun _ hk => hk.2) (.int .i64 ((rd_T38 t355 a1).f0))) (fun _ hk => hk.2) (.int .i64 ((rd_T38 t355 a1).f1))) (fun _ hk => hk.2) (.bool ((rd_T38 t355 a1).f2))) (fun _ hk => hk.2) (.int .i64 ((rd_T38 t355 a1).f3))) (fun _ hk => hk.2) (.int .i64 ((rd_T38 t355 a1).f4))) (fun _ hk => hk.2) (.bool ((rd_T38 t355 a1).f5))) (fun _ hk => hk.2) (.bool ((rd_T38 t355 a1).f6))) (fun _ hk => hk.2) (.bool ((rd_T38 t355 a1).f7))) (fun _ hk => hk.2) (.int .i64 ((rd_T38 t355 a1).f8))) (fun _ hk => hk.2) (.int .i64 ((rd_T38 t355 a1).f9))) (fun _ hk => hk.2) (.int .i64 ((rd_T38 t355 a1).f10))) (fun _ hk => hk.2) (.bool ((rd_T38 t355 a1).f11))) (fun _ hk => ⟨hk.1.1.1, hk.1.1.2⟩)⟩, ⟨by (with_reducible repeat (first | refine blk_drewN ?_ _ | refine blk_drew ?_ | refine blk_alloc ?_ _)); refine blk_far ?_ NB364_365.out _; (with_reducible repeat (first | refine blk_drewN ?_ _ | refine blk_drew ?_ | refine blk_alloc ?_ _)); refine blk_far ?_ NB364_365.out _; (with_reducible repeat (first | refine blk_drewN ?_ _ | refine blk_drew ?_ | refine blk_alloc ?_ _)); refine blk_far ?_ NB364_365.out _; (with_reducible repeat (first | refine blk_drewN ?_ _ | refine blk_drew ?_ | refine blk_alloc ?_ _)); refine blk_far ?_ NB364_365.out _; (with_reducible repeat (first | refine blk_drewN ?_ _ | refine blk_drew ?_ | refine blk_alloc ?_ _)); refine blk_far ?_ NB364_365.out _; (with_reducible repeat (first | refine blk_drewN ?_ _ | refine blk_drew ?_ | refine blk_alloc ?_ _)); refine blk_far ?_ NB364_365.out _; (with_reducible repeat (first | refine blk_drewN ?_ _ | refine blk_drew ?_ | refine blk_alloc ?_ _)); refine blk_far ?_ NB364_365.out _; (with_reducible repeat (first | refine blk_drewN ?_ _ | refine blk_drew ?_ | refine blk_alloc ?_ _)); refine blk_far ?_ NB364_365.out _; (with_reducible repeat (first | refine blk_drewN ?_ _ | refine blk_drew ?_ | refine blk_alloc ?_ _)); refine blk_far ?_ NB364_365.out _; (with_reducible repeat (first | refine blk_drewN ?_ _ | refine blk_drew ?_ | refine blk_alloc ?_ _)); refine blk_far ?_ NB364_365.out _; (with_reducible repeat (first | refine blk_drewN ?_ _ | refine blk_drew ?_ | refine blk_alloc ?_ _)); refine blk_far ?_ NB364_365.out _; (with_reducible repeat (first | refine blk_drewN ?_ _ | refine blk_drew ?_ | refine blk_alloc ?_ _)); refine blk_far ?_ NB364_365.out _; (with_reducible repeat (first | refine blk_drewN ?_ _ | refine blk_drew ?_ | refine blk_alloc ?_ _)); refine blk_put (cs := #[.int .i64 ((rd_T38 l0 a1).f0), .int .i64 ((rd_T38 l0 a1).f1), .bool ((rd_T38 l0 a1).f2), .int .i64 ((rd_T38 l0 a1).f3), .int .i64 ((rd_T38 l0 a1).f4), .bool ((rd_T38 l0 a1).f5), .bool (false), .bool ((rd_T38 l0 a1).f7), .int .i64 ((rd_T38 l0 a1).f8), .int .i64 ((rd_T38 l0 a1).f9), .int .i64 ((rd_T38 l0 a1).f10), .bool false]) ?_ 11 _ rfl; (with_reducible repeat (first | refine blk_drewN ?_ _ | refine blk_drew ?_ | refine blk_alloc ?_ _)); refine blk_put (cs := #[.int .i64 ((rd_T38 l0 a1).f0), .int .i64 ((rd_T38 l0 a1).f1), .bool ((rd_T38 l0 a1).f2), .int .i64 ((rd_T38 l0 a1).f3), .int .i64 ((rd_T38 l0 a1).f4), .bool ((rd_T38 l0 a1).f5), .bool (false), .bool ((rd_T38 l0 a1).f7), .int .i64 ((rd_T38 l0 a1).f8), .int .i64 ((rd_T38 l0 a1).f9), .int .i64 0, .bool false]) ?_ 10 _ rfl; (with_reducible repeat (first | refine blk_drewN ?_ _ | refine blk_drew ?_ | refine blk_alloc ?_ _)); refine blk_put (cs := #[.int .i64 ((rd_T38 l0 a1).f0), .int .i64 ((rd_T38 l0 a1).f1), .bool ((rd_T38 l0 a1).f2), .int .i64 ((rd_T38 l0 a1).f3), .int .i64 ((rd_T38 l0 a1).f4), .bool ((rd_T38 l0 a1).f5), .bool (false), .bool ((rd_T38 l0 a1).f7), .int .i64 ((rd_T38 l0 a1).f8), .int .i64 0, .int .i64 0, .bool false]) ?_ 9 _ rfl; (with_reducible repeat (first | refine blk_drewN ?_ _ | refine blk_drew ?_ | refine blk_alloc ?_ _)); refine blk_put (cs := #[.int .i64 ((rd_T38 l0 a1).f0), .int .i64 ((rd_T38 l0 a1).f1), .bool ((rd_T38 l0 a1).f2), .int .i64 ((rd_T38 l0 a1).f3), .int .i64 ((rd_T38 l0 a1).f4), .bool ((rd_T38 l0 a1).f5), .bool (false), .bool ((rd_T38 l0 a1).f7), .int .i64 0, .int .i64 0, .int .i64 0, .bool false]) ?_ 8 _ rfl; (with_reducible repeat (first | refine blk_drewN ?_ _ | refine blk_drew ?_ | refine blk_alloc ?_ _)); refine blk_put (cs := #[.int .i64 ((rd_T38 l0 a1).f0), .int .i64 ((rd_T38 l0 a1).f1), .bool ((rd_T38 l0 a1).f2), .int .i64 ((rd_T38 l0 a1).f3), .int .i64 ((rd_T38 l0 a1).f4), .bool ((rd_T38 l0 a1).f5), .bool (false), .bool false, .int .i64 0, .int .i64 0, .int .i64 0, .bool false]) ?_ 7 _ rfl; (with_reducible repeat (first | refine blk_drewN ?_ _ | refine blk_drew ?_ | refine blk_alloc ?_ _)); refine blk_put (cs := #[.int .i64 ((rd_T38 l0 a1).f0), .int .i64 ((rd_T38 l0 a1).f1), .bool ((rd_T38 l0 a1).f2), .int .i64 ((rd_T38 l0 a1).f3), .int .i64 ((rd_T38 l0 a1).f4), .bool ((rd_T38 l0 a1).f5), .bool false, .bool false, .int .i64 0, .int .i64 0, .int .i64 0, .bool false]) ?_ 6 _ rfl; (with_reducible repeat (first | refine blk_drewN ?_ _ | refine blk_drew ?_ | refine blk_alloc ?_ _)); refine blk_put (cs := #[.int .i64 ((rd_T38 l0 a1).f0), .int .i64 ((rd_T38 l0 a1).f1), .bool ((rd_T38 l0 a1).f2), .int .i64 ((rd_T38 l0 a1).f3), .int .i64 ((rd_T38 l0 a1).f4), .bool false, .bool false, .bool false, .int .i64 0, .int .i64 0, .int .i64 0, .bool false]) ?_ 5 _ rfl; (with_reducible repeat (first | refine blk_drewN ?_ _ | refine blk_drew ?_ | refine blk_alloc ?_ _)); refine blk_put (cs := #[.int .i64 ((rd_T38 l0 a1).f0), .int .i64 ((rd_T38 l0 a1).f1), .bool ((rd_T38 l0 a1).f2), .int .i64 ((rd_T38 l0 a1).f3), .int .i64 0, .bool false, .bool false, .bool false, .int .i64 0, .int .i64 0, .int .i64 0, .bool false]) ?_ 4 _ rfl; (with_reducible repeat (first | refine blk_drewN ?_ _ | refine blk_drew ?_ | refine blk_alloc ?_ _)); refine blk_put (cs := #[.int .i64 ((rd_T38 l0 a1).f0), .int .i64 ((rd_T38 l0 a1).f1), .bool ((rd_T38 l0 a1).f2), .int .i64 0, .int .i64 0, .bool false, .bool false, .bool false, .int .i64 0, .int .i64 0, .int .i64 0, .bool false]) ?_ 3 _ rfl; (with_reducible repeat (first | refine blk_drewN ?_ _ | refine blk_drew ?_ | refine blk_alloc ?_ _)); refine blk_put (cs := #[.int .i64 ((rd_T38 l0 a1).f0), .int .i64 ((rd_T38 l0 a1).f1), .bool false, .int .i64 0, .int .i64 0, .bool false, .bool false, .bool false, .int .i64 0, .int .i64 0, .int .i64 0, .bool false]) ?_ 2 _ rfl; (with_reducible repeat (first | refine blk_drewN ?_ _ | refine blk_drew ?_ | refine blk_alloc ?_ _)); refine blk_put (cs := #[.int .i64 ((rd_T38 l0 a1).f0), .int .i64 0, .bool false, .int .i64 0, .int .i64 0, .bool false, .bool false, .bool false, .int .i64 0, .int .i64 0, .int .i64 0, .bool false]) ?_ 1 _ rfl; (with_reducible repeat (first | refine blk_drewN ?_ _ | refine blk_drew ?_ | refine blk_alloc ?_ _)); refine blk_put (cs := #[.int .i64 0, .int .i64 0, .bool false, .int .i64 0, .int .i64 0, .bool false, .bool false, .bool false, .int .i64 0, .int .i64 0, .int .i64 0, .bool false]) ?_ 0 _ rfl; (with_reducible repeat (first | refine blk_drewN ?_ _ | refine blk_drew ?_ | refine blk_alloc ?_ _)); exact BK364.out⟩, ⟨by (with_reducible repeat (first | refine blk_drewN ?_ _ | refine blk_drew ?_ | refine blk_alloc ?_ _)); refine blk_put (cs := #[.int .i64 ((rd_T38 t355 a1).f0), .int .i64 ((rd_T38 t355 a1).f1), .bool ((rd_T38 t355 a1).f2), .int .i64 ((rd_T38 t355 a1).f3), .int .i64 ((rd_T38 t355 a1).f4), .bool ((rd_T38 t355 a1).f5), .bool ((rd_T38 t355 a1).f6), .bool ((rd_T38 t355 a1).f7), .int .i64 ((rd_T38 t355 a1).f8), .int .i64 ((rd_T38 t355 a1).f9), .int .i64 ((rd_T38 t355 a1).f10), .bool false]) ?_ 11 _ rfl; (with_reducible repeat (first | refine blk_drewN ?_ _ | refine blk_drew ?_ | refine blk_alloc ?_ _)); refine blk_put (cs := #[.int .i64 ((rd_T38 t355 a1).f0), .int .i64 ((rd_T38 t355 a1).f1), .bool ((rd_T38 t355 a1).f2), .int .i64 ((rd_T38 t355 a1).f3), .int .i64 ((rd_T38 t355 a1).f4), .bool ((rd_T38 t355 a1).f5), .bool ((rd_T38 t355 a1).f6), .bool ((rd_T38 t355 a1).f7), .int .i64 ((rd_T38 t355 a1).f8), .int .i64 ((rd_T38 t355 a1).f9), .int .i64 0, .bool false]) ?_ 10 _ rfl; (with_reducible repeat (first | refine blk_drewN ?_ _ | refine blk_drew ?_ | refine blk_alloc ?_ _)); refine blk_put (cs := #[.int .i64 ((rd_T38 t355 a1).f0), .int .i64 ((rd_T38 t355 a1).f1), .bool ((rd_T38 t355 a1).f2), .int .i64 ((rd_T38 t355 a1).f3), .int .i64 ((rd_T38 t355 a1).f4), .bool ((rd_T38 t355 a1).f5), .bool ((rd_T38 t355 a1).f6), .bool ((rd_T38 t355 a1).f7), .int .i64 ((rd_T38 t355 a1).f8), .int .i64 0, .int .i64 0, .bool false]) ?_ 9 _ rfl; (with_reducible repeat (first | refine blk_drewN ?_ _ | refine blk_drew ?_ | refine blk_alloc ?_ _)); refine blk_put (cs := #[.int .i64 ((rd_T38 t355 a1).f0), .int .i64 ((rd_T38 t355 a1).f1), .bool ((rd_T38 t355 a1).f2), .int .i64 ((rd_T38 t355 a1).f3), .int .i64 ((rd_T38 t355 a1).f4), .bool ((rd_T38 t355 a1).f5), .bool ((rd_T38 t355 a1).f6), .bool ((rd_T38 t355 a1).f7), .int .i64 0, .int .i64 0, .int .i64 0, .bool false]) ?_ 8 _ rfl; (with_reducible repeat (first | refine blk_drewN ?_ _ | refine blk_drew ?_ | refine blk_alloc ?_ _)); refine blk_put (cs := #[.int .i64 ((rd_T38 t355 a1).f0), .int .i64 ((rd_T38 t355 a1).f1), .bool ((rd_T38 t355 a1).f2), .int .i64 ((rd_T38 t355 a1).f3), .int .i64 ((rd_T38 t355 a1).f4), .bool ((rd_T38 t355 a1).f5), .bool ((rd_T38 t355 a1).f6), .bool false, .int .i64 0, .int .i64 0, .int .i64 0, .bool false]) ?_ 7 _ rfl; (with_reducible repeat (first | refine blk_drewN ?_ _ | refine blk_drew ?_ | refine blk_alloc ?_ _)); refine blk_put (cs := #[.int .i64 ((rd_T38 t355 a1).f0), .int .i64 ((rd_T38 t355 a1).f1), .bool ((rd_T38 t355 a1).f2), .int .i64 ((rd_T38 t355 a1).f3), .int .i64 ((rd_T38 t355 a1).f4), .bool ((rd_T38 t355 a1).f5), .bool false, .bool false, .int .i64 0, .int .i64 0, .int .i64 0, .bool false]) ?_ 6 _ rfl; (with_reducible repeat (first | refine blk_drewN ?_ _ | refine blk_drew ?_ | refine blk_alloc ?_ _)); refine blk_put (cs := #[.int .i64 ((rd_T38 t355 a1).f0), .int .i64 ((rd_T38 t355 a1).f1), .bool ((rd_T38 t355 a1).f2), .int .i64 ((rd_T38 t355 a1).f3), .int .i64 ((rd_T38 t355 a1).f4), .bool false, .bool false, .bool false, .int .i64 0, .int .i64 0, .int .i64 0, .bool false]) ?_ 5 _ rfl; (with_reducible repeat (first | refine blk_drewN ?_ _ | refine blk_drew ?_ | refine blk_alloc ?_ _)); refine blk_put (cs := #[.int .i64 ((rd_T38 t355 a1).f0), .int .i64 ((rd_T38 t355 a1).f1), .bool ((rd_T38 t355 a1).f2), .int .i64 ((rd_T38 t355 a1).f3), .int .i64 0, .bool false, .bool false, .bool false, .int .i64 0, .int .i64 0, .int .i64 0, .bool false]) ?_ 4 _ rfl; (with_reducible repeat (first | refine blk_drewN ?_ _ | refine blk_drew ?_ | refine blk_alloc ?_ _)); refine blk_put (cs := #[.int .i64 ((rd_T38 t355 a1).f0), .int .i64 ((rd_T38 t355 a1).f1), .bool ((rd_T38 t355 a1).f2), .int .i64 0, .int .i64 0, .bool false, .bool false, .bool false, .int .i64 0, .int .i64 0, .int .i64 0, .bool false]) ?_ 3 _ rfl; (with_reducible repeat (first | refine blk_drewN ?_ _ | refine blk_drew ?_ | refine blk_alloc ?_ _)); refine blk_put (cs := #[.int .i64 ((rd_T38 t355 a1).f0), .int .i64 ((rd_T38 t355 a1).f1), .bool false, .int .i64 0, .int .i64 0, .bool false, .bool false, .bool false, .int .i64 0, .int .i64 0, .int .i64 0, .bool false]) ?_ 2 _ rfl; (with_reducible repeat (first | refine blk_drewN ?_ _ | refine blk_drew ?_ | refine blk_alloc ?_ _)); refine blk_put (cs := #[.int .i64 ((rd_T38 t355 a1).f0), .int .i64 0, .bool false, .int .i64 0, .int .i64 0, .bool false, .bool false, .bool false, .int .i64 0, .int .i64 0, .int .i64 0, .bool false]) ?_ 1 _ rfl; (with_reducible repeat (first | refine blk_drewN ?_ _ | refine blk_drew ?_ | refine blk_alloc ?_ _)); refine blk_put (cs := #[.int .i64 0, .int .i64 0, .bool false, .int .i64 0, .int .i64 0, .bool false, .bool false, .bool false, .int .i64 0, .int .i64 0, .int .i64 0, .bool false]) ?_ 0 _ rfl; (with_reducible repeat (first | refine blk_drewN ?_ _ | refine blk_drew ?_ | refine blk_alloc ?_ _)); refine blk_far ?_ NB365_364.out _; (with_reducible repeat (first | refine blk_drewN ?_ _ | refine blk_drew ?_ | refine blk_alloc ?_ _)); refine blk_far ?_ NB365_364.out _; (with_reducible repeat (first | refine blk_drewN ?_ _ | refine blk_drew ?_ | refine blk_alloc ?_ _)); refine blk_far ?_ NB365_364.out _; (with_reducible repeat (first | refine blk_drewN ?_ _ | refine blk_drew ?_ | refine blk_alloc ?_ _)); refine blk_far ?_ NB365_364.out _; (with_reducible repeat (first | refine blk_drewN ?_ _ | refine blk_drew ?_ | refine blk_alloc ?_ _)); refine blk_far ?_ NB365_364.out _; (with_reducible repeat (first | refine blk_drewN ?_ _ | refine blk_drew ?_ | refine blk_alloc ?_ _)); refine blk_far ?_ NB365_364.out _; (with_reducible repeat (first | refine blk_drewN ?_ _ | refine blk_drew ?_ | refine blk_alloc ?_ _)); refine blk_far ?_ NB365_364.out _; (with_reducible repeat (first | refine blk_drewN ?_ _ | refine blk_drew ?_ | refine blk_alloc ?_ _)); refine blk_far ?_ NB365_364.out _; (with_reducible repeat (first | refine blk_drewN ?_ _ | refine blk_drew ?_ | refine blk_alloc ?_ _)); refine blk_far ?_ NB365_364.out _; (with_reducible repeat (first | refine blk_drewN ?_ _ | refine blk_drew ?_ | refine blk_alloc ?_ _)); refine blk_far ?_ NB365_364.out _; (with_reducible repeat (first | refine blk_drewN ?_ _ | refine blk_drew ?_ | refine blk_alloc ?_ _)); refine blk_far ?_ NB365_364.out _; (with_reducible repeat (first | refine blk_drewN ?_ _ | refine blk_drew ?_ | refine blk_alloc ?_ _)); refine blk_far ?_ NB365_364.out _; (with_reducible repeat (first | refine blk_drewN ?_ _ | refine blk_drew ?_ | refine blk_alloc ?_ _)); exact BK365.out⟩, ⟨by repeat (first | (with_reducible first | exact HB.out | apply below_alloc | apply pw_below_drewN | apply below_drew1 | refine below_set ?_ GE364.out | refine below_set ?_ GE365.out) | exact HB.out)⟩⟩
           case rest =>
            clear HC25
            try clear c1
            try clear c2
            try clear p2
            try clear p3
            try clear q3
            try clear hx3
            try clear c5
            try clear q5
            try clear p6
            try clear c14
            try clear c14b0
            try clear c17
            try clear c18
            try clear c22
            try clear c22b0
            try clear c23
            try clear c23b0
            try clear c24
            try clear c24b0
            try clear p36
            try clear q36
            try clear hx36
            try clear q55
            try clear c56
            try clear c57
            try clear c59
            try clear hcz58_0
            try clear hcz58_1
            try clear hcz58_10
            try clear hcz58_11
            try clear hcz58_2
            try clear hcz58_3
            try clear hcz58_4
            try clear hcz58_5
            try clear hcz58_6
            try clear hcz58_7
            try clear hcz58_8
            try clear hcz58_9
            try clear hcz60_0
            try clear hcz60_1
            try clear hcz60_10
            try clear hcz60_11
            try clear hcz60_2
            try clear hcz60_3
            try clear hcz60_4
            try clear hcz60_5
            try clear hcz60_6
            try clear hcz60_7
            try clear hcz60_8
            try clear hcz60_9
            try clear hfz58_0
            try clear hfz58_1
            try clear hfz58_10
            try clear hfz58_11
            try clear hfz58_2
            try clear hfz58_3
            try clear hfz58_4
            try clear hfz58_5
            try clear hfz58_6
            try clear hfz58_7
            try clear hfz58_8
            try clear hfz58_9
            try clear hfz60_0
            try clear hfz60_1
            try clear hfz60_10
            try clear hfz60_11
            try clear hfz60_2
            try clear hfz60_3
            try clear hfz60_4
            try clear hfz60_5
            try clear hfz60_6
            try clear hfz60_7
            try clear hfz60_8
            try clear hfz60_9
            try clear hx362_0
            try clear hx362_1
            try clear hx362_10
            try clear hx362_11
            try clear hx362_2
            try clear hx362_3
            try clear hx362_4
            try clear hx362_5
            try clear hx362_6
            try clear hx362_7
            try clear hx362_8
            try clear hx362_9
            try clear hx363_0
            try clear hx363_1
            try clear hx363_10
            try clear hx363_11
            try clear hx363_2
            try clear hx363_3
            try clear hx363_4
            try clear hx363_5
            try clear hx363_6
            try clear hx363_7
            try clear hx363_8
            try clear hx363_9
            try clear p362
            try clear p363
            try clear q362
            try clear q363
            obtain ⟨kq, x77_24, rfl, HA, HJ24, HO_7, BK364, BK365, HB⟩ := hcut
            cases kq with
            | zero => exact absurd HA.out (by simp [tidewaylaw10_BoardAgain.j2])
            | succ kj24 =>
             have H := HA.out
             clear HA
             simp only [tidewaylaw10_BoardAgain.j2] at H
             have HC61 := Aside0.mk H
             clear H
             go_upto_if 77 with (fail)
             go_cut [12] (fun v12 wc => ∃ (kq : Nat) (x12_60 : Int), v12 = .int .i64 x12_60 ∧ Aside0 (tidewaylaw10_BoardAgain.j3 kq l0 a2 t355 x12_60 ((rd_T38 l0 a1).f0) ((rd_T38 l0 a1).f1) ((rd_T38 l0 a1).f2) ((rd_T38 l0 a1).f3) ((rd_T38 l0 a1).f4) ((rd_T38 l0 a1).f5) ((rd_T38 l0 a1).f6) ((rd_T38 l0 a1).f7) ((rd_T38 l0 a1).f8) ((rd_T38 l0 a1).f9) ((rd_T38 l0 a1).f10) ((rd_T38 l0 a1).f11) ((rd_T38 t355 a1).f0) ((rd_T38 t355 a1).f1) ((rd_T38 t355 a1).f2) ((rd_T38 t355 a1).f3) ((rd_T38 t355 a1).f4) ((rd_T38 t355 a1).f5) ((rd_T38 t355 a1).f6) ((rd_T38 t355 a1).f7) ((rd_T38 t355 a1).f8) ((rd_T38 t355 a1).f9) ((rd_T38 t355 a1).f10) ((rd_T38 t355 a1).f11) = some r) ∧ Aside0 (kq ≤ kj24) ∧ Aside0 (Kd.R k38 38 wc w.heap.size (fun k_ => k_ ≠ gb364 ∧ k_ ≠ gb365) (.slice (some ad363) t355.length co27) t355) ∧ Aside0 (wc.heap[gb364]? = some (.cells #[.int .i64 ((rd_T38 l0 a1).f0), .int .i64 ((rd_T38 l0 a1).f1), .bool ((rd_T38 l0 a1).f2), .int .i64 ((rd_T38 l0 a1).f3), .int .i64 ((rd_T38 l0 a1).f4), .bool ((rd_T38 l0 a1).f5), .bool ((rd_T38 l0 a1).f6), .bool ((rd_T38 l0 a1).f7), .int .i64 ((rd_T38 l0 a1).f8), .int .i64 ((rd_T38 l0 a1).f9), .int .i64 ((rd_T38 l0 a1).f10), .bool ((rd_T38 l0 a1).f11)] 38 (0, 0))) ∧ Aside0 (wc.heap[gb365]? = some (.cells #[.int .i64 ((rd_T38 t355 a1).f0), .int .i64 ((rd_T38 t355 a1).f1), .bool ((rd_T38 t355 a1).f2), .int .i64 ((rd_T38 t355 a1).f3), .int .i64 ((rd_T38 t355 a1).f4), .bool ((rd_T38 t355 a1).f5), .bool ((rd_T38 t355 a1).f6), .bool ((rd_T38 t355 a1).f7), .int .i64 ((rd_T38 t355 a1).f8), .int .i64 ((rd_T38 t355 a1).f9), .int .i64 ((rd_T38 t355 a1).f10), .bool ((rd_T38 t355 a1).f11)] 38 (0, 0))) ∧ Aside0 (Below w.heap.size w wc))
             case first =>
              have H := HC61.out
              clear HC61
              by_cases c62 : x77_24 = true
              ·subst c62
               have H1 : (tidewaylaw10_BoardAgain.j3 kj24 l0 a2 t355 (wrap64 (((rd_T38 l0 a1).f1) - ((rd_T38 l0 a1).f0))) ((rd_T38 l0 a1).f0) ((rd_T38 l0 a1).f1) ((rd_T38 l0 a1).f2) ((rd_T38 l0 a1).f3) ((rd_T38 l0 a1).f4) ((rd_T38 l0 a1).f5) ((rd_T38 l0 a1).f6) ((rd_T38 l0 a1).f7) ((rd_T38 l0 a1).f8) ((rd_T38 l0 a1).f9) ((rd_T38 l0 a1).f10) ((rd_T38 l0 a1).f11) ((rd_T38 t355 a1).f0) ((rd_T38 t355 a1).f1) ((rd_T38 t355 a1).f2) ((rd_T38 t355 a1).f3) ((rd_T38 t355 a1).f4) ((rd_T38 t355 a1).f5) ((rd_T38 t355 a1).f6) ((rd_T38 t355 a1).f7) ((rd_T38 t355 a1).f8) ((rd_T38 t355 a1).f9) ((rd_T38 t355 a1).f10) ((rd_T38 t355 a1).f11)) = some r := by rw [if_pos rfl] at H; exact H
               clear H
               have H := H1
               clear H1
               have H' := Aside0.mk H
               clear H
               have hnb63 := NB364_365.out
               have hnc63 := NB365_364.out
               have hcz64_0 : wc.cell? ⟨gb364, 0, none⟩ = some (.int .i64 ((rd_T38 l0 a1).f0)) := (blk_cell BK364.out 0).trans rfl
               have hcz64_1 : wc.cell? ⟨gb364, 1, none⟩ = some (.int .i64 ((rd_T38 l0 a1).f1)) := (blk_cell BK364.out 1).trans rfl
               have hcz64_2 : wc.cell? ⟨gb364, 2, none⟩ = some (.bool ((rd_T38 l0 a1).f2)) := (blk_cell BK364.out 2).trans rfl
               have hcz64_3 : wc.cell? ⟨gb364, 3, none⟩ = some (.int .i64 ((rd_T38 l0 a1).f3)) := (blk_cell BK364.out 3).trans rfl
               have hcz64_4 : wc.cell? ⟨gb364, 4, none⟩ = some (.int .i64 ((rd_T38 l0 a1).f4)) := (blk_cell BK364.out 4).trans rfl
               have hcz64_5 : wc.cell? ⟨gb364, 5, none⟩ = some (.bool ((rd_T38 l0 a1).f5)) := (blk_cell BK364.out 5).trans rfl
               have hcz64_6 : wc.cell? ⟨gb364, 6, none⟩ = some (.bool ((rd_T38 l0 a1).f6)) := (blk_cell BK364.out 6).trans rfl
               have hcz64_7 : wc.cell? ⟨gb364, 7, none⟩ = some (.bool ((rd_T38 l0 a1).f7)) := (blk_cell BK364.out 7).trans rfl
               have hcz64_8 : wc.cell? ⟨gb364, 8, none⟩ = some (.int .i64 ((rd_T38 l0 a1).f8)) := (blk_cell BK364.out 8).trans rfl
               have hcz64_9 : wc.cell? ⟨gb364, 9, none⟩ = some (.int .i64 ((rd_T38 l0 a1).f9)) := (blk_cell BK364.out 9).trans rfl
               have hcz64_10 : wc.cell? ⟨gb364, 10, none⟩ = some (.int .i64 ((rd_T38 l0 a1).f10)) := (blk_cell BK364.out 10).trans rfl
               have hcz64_11 : wc.cell? ⟨gb364, 11, none⟩ = some (.bool ((rd_T38 l0 a1).f11)) := (blk_cell BK364.out 11).trans rfl
               have hfz64_0 := blk_frozen BK364.out 0
               have hfz64_1 := blk_frozen BK364.out 1
               have hfz64_2 := blk_frozen BK364.out 2
               have hfz64_3 := blk_frozen BK364.out 3
               have hfz64_4 := blk_frozen BK364.out 4
               have hfz64_5 := blk_frozen BK364.out 5
               have hfz64_6 := blk_frozen BK364.out 6
               have hfz64_7 := blk_frozen BK364.out 7
               have hfz64_8 := blk_frozen BK364.out 8
               have hfz64_9 := blk_frozen BK364.out 9
               have hfz64_10 := blk_frozen BK364.out 10
               have hfz64_11 := blk_frozen BK364.out 11
               go_wp2
               go_meet
               case rel => exact ⟨_, (wrap64 (((rd_T38 l0 a1).f1) - ((rd_T38 l0 a1).f0))), (by first | rfl | (simp; done) | (simp [*]; done)), H', ⟨by have := HJ5.out; have := HK2.out; have := HJ24.out; first | omega | exact Nat.le_refl _⟩, ⟨by (with_reducible repeat (first | apply Kd.R_alloc | apply Kd.R_drewN | apply Kd.R_drew)); exact HO_7.out⟩, ⟨by (with_reducible repeat (first | refine blk_drewN ?_ _ | refine blk_drew ?_ | refine blk_alloc ?_ _)); exact BK364.out⟩, ⟨by (with_reducible repeat (first | refine blk_drewN ?_ _ | refine blk_drew ?_ | refine blk_alloc ?_ _)); exact BK365.out⟩, ⟨by repeat (first | (with_reducible first | exact HB.out | apply below_alloc | apply pw_below_drewN | apply below_drew1 | refine below_set ?_ GE364.out | refine below_set ?_ GE365.out) | exact HB.out)⟩⟩
              ·replace c62 := Bool.eq_false_iff.mpr c62
               subst c62
               have H1 : (tidewaylaw10_BoardAgain.j3 kj24 l0 a2 t355 0 ((rd_T38 l0 a1).f0) ((rd_T38 l0 a1).f1) ((rd_T38 l0 a1).f2) ((rd_T38 l0 a1).f3) ((rd_T38 l0 a1).f4) ((rd_T38 l0 a1).f5) ((rd_T38 l0 a1).f6) ((rd_T38 l0 a1).f7) ((rd_T38 l0 a1).f8) ((rd_T38 l0 a1).f9) ((rd_T38 l0 a1).f10) ((rd_T38 l0 a1).f11) ((rd_T38 t355 a1).f0) ((rd_T38 t355 a1).f1) ((rd_T38 t355 a1).f2) ((rd_T38 t355 a1).f3) ((rd_T38 t355 a1).f4) ((rd_T38 t355 a1).f5) ((rd_T38 t355 a1).f6) ((rd_T38 t355 a1).f7) ((rd_T38 t355 a1).f8) ((rd_T38 t355 a1).f9) ((rd_T38 t355 a1).f10) ((rd_T38 t355 a1).f11)) = some r := by rw [if_neg (show ¬ (false = true) by decide)] at H; exact H
               clear H
               have H := H1
               clear H1
               have H' := Aside0.mk H
               clear H
               go_wp2
               go_meet
               case rel => exact ⟨_, (0), (by first | rfl | (simp; done) | (simp [*]; done)), H', ⟨by have := HJ5.out; have := HK2.out; have := HJ24.out; first | omega | exact Nat.le_refl _⟩, ⟨by (with_reducible repeat (first | apply Kd.R_alloc | apply Kd.R_drewN | apply Kd.R_drew)); exact HO_7.out⟩, ⟨by (with_reducible repeat (first | refine blk_drewN ?_ _ | refine blk_drew ?_ | refine blk_alloc ?_ _)); exact BK364.out⟩, ⟨by (with_reducible repeat (first | refine blk_drewN ?_ _ | refine blk_drew ?_ | refine blk_alloc ?_ _)); exact BK365.out⟩, ⟨by repeat (first | (with_reducible first | exact HB.out | apply below_alloc | apply pw_below_drewN | apply below_drew1 | refine below_set ?_ GE364.out | refine below_set ?_ GE365.out) | exact HB.out)⟩⟩
             case rest =>
              clear HC61
              try clear c1
              try clear c2
              try clear p2
              try clear p3
              try clear q3
              try clear hx3
              try clear c5
              try clear q5
              try clear c6
              try clear p6
              try clear c14
              try clear c14b0
              try clear c17
              try clear c18
              try clear c22
              try clear c22b0
              try clear c23
              try clear c23b0
              try clear c24
              try clear c24b0
              try clear p36
              try clear q36
              try clear hx36
              try clear q55
              try clear c56
              try clear c57
              try clear c59
              try clear c62
              try clear c63
              try clear p64
              try clear hcz58_0
              try clear hcz58_1
              try clear hcz58_10
              try clear hcz58_11
              try clear hcz58_2
              try clear hcz58_3
              try clear hcz58_4
              try clear hcz58_5
              try clear hcz58_6
              try clear hcz58_7
              try clear hcz58_8
              try clear hcz58_9
              try clear hcz60_0
              try clear hcz60_1
              try clear hcz60_10
              try clear hcz60_11
              try clear hcz60_2
              try clear hcz60_3
              try clear hcz60_4
              try clear hcz60_5
              try clear hcz60_6
              try clear hcz60_7
              try clear hcz60_8
              try clear hcz60_9
              try clear hcz64_0
              try clear hcz64_1
              try clear hcz64_10
              try clear hcz64_11
              try clear hcz64_2
              try clear hcz64_3
              try clear hcz64_4
              try clear hcz64_5
              try clear hcz64_6
              try clear hcz64_7
              try clear hcz64_8
              try clear hcz64_9
              try clear hfz58_0
              try clear hfz58_1
              try clear hfz58_10
              try clear hfz58_11
              try clear hfz58_2
              try clear hfz58_3
              try clear hfz58_4
              try clear hfz58_5
              try clear hfz58_6
              try clear hfz58_7
              try clear hfz58_8
              try clear hfz58_9
              try clear hfz60_0
              try clear hfz60_1
              try clear hfz60_10
              try clear hfz60_11
              try clear hfz60_2
              try clear hfz60_3
              try clear hfz60_4
              try clear hfz60_5
              try clear hfz60_6
              try clear hfz60_7
              try clear hfz60_8
              try clear hfz60_9
              try clear hfz64_0
              try clear hfz64_1
              try clear hfz64_10
              try clear hfz64_11
              try clear hfz64_2
              try clear hfz64_3
              try clear hfz64_4
              try clear hfz64_5
              try clear hfz64_6
              try clear hfz64_7
              try clear hfz64_8
              try clear hfz64_9
              try clear hx362_0
              try clear hx362_1
              try clear hx362_10
              try clear hx362_11
              try clear hx362_2
              try clear hx362_3
              try clear hx362_4
              try clear hx362_5
              try clear hx362_6
              try clear hx362_7
              try clear hx362_8
              try clear hx362_9
              try clear hx363_0
              try clear hx363_1
              try clear hx363_10
              try clear hx363_11
              try clear hx363_2
              try clear hx363_3
              try clear hx363_4
              try clear hx363_5
              try clear hx363_6
              try clear hx363_7
              try clear hx363_8
              try clear hx363_9
              try clear p2
              try clear p3
              try clear p36
              try clear p362
              try clear p363
              try clear p6
              try clear q3
              try clear q36
              try clear q362
              try clear q363
              try clear q5
              try clear q55
              obtain ⟨kq, x12_60, rfl, HA, HJ60, HO_7, BK364, BK365, HB⟩ := hcut
              cases kq with
              | zero => exact absurd HA.out (by simp [tidewaylaw10_BoardAgain.j3])
              | succ kj60 =>
               have H := HA.out
               clear HA
               simp only [tidewaylaw10_BoardAgain.j3] at H
               by_cases c65 : (t355.length : Int) = (l0.length : Int)
               ·rw [if_pos c65] at H
                have c65b0 : ((t355.length : Int) == (l0.length : Int)) = true := beq_iff_eq.mpr c65
                have c65b1 : ((t355.length : Int) != (l0.length : Int)) = false := bne_eq_false_iff_eq.mpr c65
                have c65b2 : (t355.length == l0.length) = true := by first | simpa using c65 | (simp at c65 ⊢; omega)
                clear c65
                by_cases c66 : ((rd_T38 t355 a1).f0) = ((rd_T38 l0 a1).f0)
                ·rw [if_pos c66] at H
                 have c66b0 : (((rd_T38 t355 a1).f0) == ((rd_T38 l0 a1).f0)) = true := beq_iff_eq.mpr c66
                 have c66b1 : (((rd_T38 t355 a1).f0) != ((rd_T38 l0 a1).f0)) = false := bne_eq_false_iff_eq.mpr c66
                 clear c66
                 by_cases c67 : ((rd_T38 t355 a1).f1) = ((rd_T38 l0 a1).f1)
                 ·rw [if_pos c67] at H
                  have c67b0 : (((rd_T38 t355 a1).f1) == ((rd_T38 l0 a1).f1)) = true := beq_iff_eq.mpr c67
                  have c67b1 : (((rd_T38 t355 a1).f1) != ((rd_T38 l0 a1).f1)) = false := bne_eq_false_iff_eq.mpr c67
                  clear c67
                  by_cases c68 : ((rd_T38 t355 a1).f3) = a2
                  ·rw [if_pos c68] at H
                   have c68b0 : (((rd_T38 t355 a1).f3) == a2) = true := beq_iff_eq.mpr c68
                   have c68b1 : (((rd_T38 t355 a1).f3) != a2) = false := bne_eq_false_iff_eq.mpr c68
                   clear c68
                   by_cases c69 : (((rd_T38 t355 a1).f7) == ((rd_T38 l0 a1).f6)) = true
                   ·rw [if_pos c69] at H
                    have c69b0 : (((rd_T38 t355 a1).f7) == ((rd_T38 l0 a1).f6)) = true := c69
                    (try (have c69b1 : decide (((rd_T38 t355 a1).f7) = ((rd_T38 l0 a1).f6)) = true := by simpa using c69))
                    (try (have c69b2 : (((rd_T38 t355 a1).f7) == ((rd_T38 l0 a1).f6)) = true := by simpa using c69))
                    clear c69
                    obtain ⟨ji70, hji70⟩ : ∃ j_ : Int, (mn ((rd_T38 l0 a1).f4) 1000000) = j_ := ⟨_, rfl⟩
                    replace H : (if ((rd_T38 t355 a1).f4) ≥ (ji70) then ((board_Pipe.f t355).bind fun t366 => ((board_Pipe.f l0).bind fun t367 => (if t366 = (wrap64 (t367 + x12_60)) then ((board_Check.f kj60 t355).bind fun t368 => (if t368 = 0 then ((tidewaylaw10_heads.f kj60).bind fun t369 => (some t369)) else (some false))) else (some false)))) else (some false)) = some r := by first | (rw [hji70] at H; exact H) | (simp only [hji70] at H ⊢; exact H)
                    have hji70_ : (if 1000000 < ((rd_T38 l0 a1).f4) then 1000000 else ((rd_T38 l0 a1).f4)) = ji70 := hji70
                    by_cases c71 : ((rd_T38 t355 a1).f4) ≥ (ji70)
                    ·rw [if_pos c71] at H
                     have c71b0 : decide ((ji70) ≤ ((rd_T38 t355 a1).f4)) = true := decide_eq_true c71
                     clear c71
                     replace H := Option.bind_eq_some_iff.mp H
                     obtain ⟨t366, A720, H⟩ := H
                     replace H : ((board_Pipe.f l0).bind fun t367 => (if t366 = (wrap64 (t367 + x12_60)) then ((board_Check.f kj60 t355).bind fun t368 => (if t368 = 0 then ((tidewaylaw10_heads.f kj60).bind fun t369 => (some t369)) else (some false))) else (some false))) = some r := H
                     have A72 := Aside0.mk A720
                     clear A720
                     replace H := Option.bind_eq_some_iff.mp H
                     obtain ⟨t367, A730, H⟩ := H
                     replace H : (if t366 = (wrap64 (t367 + x12_60)) then ((board_Check.f kj60 t355).bind fun t368 => (if t368 = 0 then ((tidewaylaw10_heads.f kj60).bind fun t369 => (some t369)) else (some false))) else (some false)) = some r := H
                     have A73 := Aside0.mk A730
                     clear A730
                     by_cases c74 : t366 = (wrap64 (t367 + x12_60))
                     ·rw [if_pos c74] at H
                      have c74b0 : (t366 == (wrap64 (t367 + x12_60))) = true := beq_iff_eq.mpr c74
                      have c74b1 : (t366 != (wrap64 (t367 + x12_60))) = false := bne_eq_false_iff_eq.mpr c74
                      clear c74
                      replace H := Option.bind_eq_some_iff.mp H
                      obtain ⟨t368, A750, H⟩ := H
                      replace H : (if t368 = 0 then ((tidewaylaw10_heads.f kj60).bind fun t369 => (some t369)) else (some false)) = some r := H
                      have A75 := Aside0.mk A750
                      clear A750
                      by_cases c76 : t368 = 0
                      ·rw [if_pos c76] at H
                       have c76b0 : (t368 == 0) = true := beq_iff_eq.mpr c76
                       have c76b1 : (t368 != 0) = false := bne_eq_false_iff_eq.mpr c76
                       clear c76
                       replace H := Option.bind_eq_some_iff.mp H
                       obtain ⟨t369, A770, H⟩ := H
                       replace H : (some t369) = some r := H
                       have A77 := Aside0.mk A770
                       clear A770
                       obtain rfl := Option.some.inj H
                       have hnb78 := NB365_364.out
                       have hnc78 := NB364_365.out
                       have hcz79_0 : wc.cell? ⟨gb365, 0, none⟩ = some (.int .i64 ((rd_T38 t355 a1).f0)) := (blk_cell BK365.out 0).trans rfl
                       have hcz79_1 : wc.cell? ⟨gb365, 1, none⟩ = some (.int .i64 ((rd_T38 t355 a1).f1)) := (blk_cell BK365.out 1).trans rfl
                       have hcz79_2 : wc.cell? ⟨gb365, 2, none⟩ = some (.bool ((rd_T38 t355 a1).f2)) := (blk_cell BK365.out 2).trans rfl
                       have hcz79_3 : wc.cell? ⟨gb365, 3, none⟩ = some (.int .i64 ((rd_T38 t355 a1).f3)) := (blk_cell BK365.out 3).trans rfl
                       have hcz79_4 : wc.cell? ⟨gb365, 4, none⟩ = some (.int .i64 ((rd_T38 t355 a1).f4)) := (blk_cell BK365.out 4).trans rfl
                       have hcz79_5 : wc.cell? ⟨gb365, 5, none⟩ = some (.bool ((rd_T38 t355 a1).f5)) := (blk_cell BK365.out 5).trans rfl
                       have hcz79_6 : wc.cell? ⟨gb365, 6, none⟩ = some (.bool ((rd_T38 t355 a1).f6)) := (blk_cell BK365.out 6).trans rfl
                       have hcz79_7 : wc.cell? ⟨gb365, 7, none⟩ = some (.bool ((rd_T38 t355 a1).f7)) := (blk_cell BK365.out 7).trans rfl
                       have hcz79_8 : wc.cell? ⟨gb365, 8, none⟩ = some (.int .i64 ((rd_T38 t355 a1).f8)) := (blk_cell BK365.out 8).trans rfl
                       have hcz79_9 : wc.cell? ⟨gb365, 9, none⟩ = some (.int .i64 ((rd_T38 t355 a1).f9)) := (blk_cell BK365.out 9).trans rfl
                       have hcz79_10 : wc.cell? ⟨gb365, 10, none⟩ = some (.int .i64 ((rd_T38 t355 a1).f10)) := (blk_cell BK365.out 10).trans rfl
                       have hcz79_11 : wc.cell? ⟨gb365, 11, none⟩ = some (.bool ((rd_T38 t355 a1).f11)) := (blk_cell BK365.out 11).trans rfl
                       have hfz79_0 := blk_frozen BK365.out 0
                       have hfz79_1 := blk_frozen BK365.out 1
                       have hfz79_2 := blk_frozen BK365.out 2
                       have hfz79_3 := blk_frozen BK365.out 3
                       have hfz79_4 := blk_frozen BK365.out 4
                       have hfz79_5 := blk_frozen BK365.out 5
                       have hfz79_6 := blk_frozen BK365.out 6
                       have hfz79_7 := blk_frozen BK365.out 7
                       have hfz79_8 := blk_frozen BK365.out 8
                       have hfz79_9 := blk_frozen BK365.out 9
                       have hfz79_10 := blk_frozen BK365.out 10
                       have hfz79_11 := blk_frozen BK365.out 11
                       have hcz80_0 : wc.cell? ⟨gb364, 0, none⟩ = some (.int .i64 ((rd_T38 l0 a1).f0)) := (blk_cell BK364.out 0).trans rfl
                       have hcz80_1 : wc.cell? ⟨gb364, 1, none⟩ = some (.int .i64 ((rd_T38 l0 a1).f1)) := (blk_cell BK364.out 1).trans rfl
                       have hcz80_2 : wc.cell? ⟨gb364, 2, none⟩ = some (.bool ((rd_T38 l0 a1).f2)) := (blk_cell BK364.out 2).trans rfl
                       have hcz80_3 : wc.cell? ⟨gb364, 3, none⟩ = some (.int .i64 ((rd_T38 l0 a1).f3)) := (blk_cell BK364.out 3).trans rfl
                       have hcz80_4 : wc.cell? ⟨gb364, 4, none⟩ = some (.int .i64 ((rd_T38 l0 a1).f4)) := (blk_cell BK364.out 4).trans rfl
                       have hcz80_5 : wc.cell? ⟨gb364, 5, none⟩ = some (.bool ((rd_T38 l0 a1).f5)) := (blk_cell BK364.out 5).trans rfl
                       have hcz80_6 : wc.cell? ⟨gb364, 6, none⟩ = some (.bool ((rd_T38 l0 a1).f6)) := (blk_cell BK364.out 6).trans rfl
                       have hcz80_7 : wc.cell? ⟨gb364, 7, none⟩ = some (.bool ((rd_T38 l0 a1).f7)) := (blk_cell BK364.out 7).trans rfl
                       have hcz80_8 : wc.cell? ⟨gb364, 8, none⟩ = some (.int .i64 ((rd_T38 l0 a1).f8)) := (blk_cell BK364.out 8).trans rfl
                       have hcz80_9 : wc.cell? ⟨gb364, 9, none⟩ = some (.int .i64 ((rd_T38 l0 a1).f9)) := (blk_cell BK364.out 9).trans rfl
                       have hcz80_10 : wc.cell? ⟨gb364, 10, none⟩ = some (.int .i64 ((rd_T38 l0 a1).f10)) := (blk_cell BK364.out 10).trans rfl
                       have hcz80_11 : wc.cell? ⟨gb364, 11, none⟩ = some (.bool ((rd_T38 l0 a1).f11)) := (blk_cell BK364.out 11).trans rfl
                       have hfz80_0 := blk_frozen BK364.out 0
                       have hfz80_1 := blk_frozen BK364.out 1
                       have hfz80_2 := blk_frozen BK364.out 2
                       have hfz80_3 := blk_frozen BK364.out 3
                       have hfz80_4 := blk_frozen BK364.out 4
                       have hfz80_5 := blk_frozen BK364.out 5
                       have hfz80_6 := blk_frozen BK364.out 6
                       have hfz80_7 := blk_frozen BK364.out 7
                       have hfz80_8 := blk_frozen BK364.out 8
                       have hfz80_9 := blk_frozen BK364.out 9
                       have hfz80_10 := blk_frozen BK364.out 10
                       have hfz80_11 := blk_frozen BK364.out 11
                       go_wp2_with (first | (go_at_call 14; (with_reducible refine (board_Pipe.calls _ _ t355 t366 _ ?side1 ?side2 A72.out).mono ?_); (case side1 => repeat (first | exact (Kd.R_reads' HO_7.out).2.2 | (with_reducible refine Kd.C_alloc ?_ _) | (with_reducible refine Kd.C_drewN ?_ _) | (with_reducible refine Kd.C_drew ?_))); (case side2 => exact (Kd.R_reads' HO_7.out).2.1); rintro e w81 ⟨rfl, hb⟩; have n0_ := Aside0.mk (Kd.R_below (by (with_reducible repeat (first | apply Kd.R_alloc | apply Kd.R_drewN | apply Kd.R_drew)); exact HO_7.out) hb); have n1_ := Aside0.mk (blk_below (g := gb364) (o := .cells #[.int .i64 ((rd_T38 l0 a1).f0), .int .i64 ((rd_T38 l0 a1).f1), .bool ((rd_T38 l0 a1).f2), .int .i64 ((rd_T38 l0 a1).f3), .int .i64 ((rd_T38 l0 a1).f4), .bool ((rd_T38 l0 a1).f5), .bool ((rd_T38 l0 a1).f6), .bool ((rd_T38 l0 a1).f7), .int .i64 ((rd_T38 l0 a1).f8), .int .i64 ((rd_T38 l0 a1).f9), .int .i64 ((rd_T38 l0 a1).f10), .bool ((rd_T38 l0 a1).f11)] 38 (0, 0)) (by (with_reducible repeat (first | refine blk_drewN ?_ _ | refine blk_drew ?_ | refine blk_alloc ?_ _)); exact BK364.out) hb); have n2_ := Aside0.mk (blk_below (g := gb365) (o := .cells #[.int .i64 ((rd_T38 t355 a1).f0), .int .i64 ((rd_T38 t355 a1).f1), .bool ((rd_T38 t355 a1).f2), .int .i64 ((rd_T38 t355 a1).f3), .int .i64 ((rd_T38 t355 a1).f4), .bool ((rd_T38 t355 a1).f5), .bool ((rd_T38 t355 a1).f6), .bool ((rd_T38 t355 a1).f7), .int .i64 ((rd_T38 t355 a1).f8), .int .i64 ((rd_T38 t355 a1).f9), .int .i64 ((rd_T38 t355 a1).f10), .bool ((rd_T38 t355 a1).f11)] 38 (0, 0)) (by (with_reducible repeat (first | refine blk_drewN ?_ _ | refine blk_drew ?_ | refine blk_alloc ?_ _)); exact BK365.out) hb); have n3_ := Aside0.mk (below_step (by repeat (first | (with_reducible first | exact HB.out | apply below_alloc | apply pw_below_drewN | apply below_drew1 | refine below_set ?_ GE364.out | refine below_set ?_ GE365.out) | exact HB.out)) hb); clear HO_7; clear BK364; clear BK365; clear HB; have HO_7 := n0_; have BK364 := n1_; have BK365 := n2_; have HB := n3_; clear n0_ n1_ n2_ n3_; (try clear hb); (try clear hb2); (try clear hk); (try clear hi)) | (go_at_call 14; (with_reducible refine (board_Pipe.calls _ _ l0 t367 _ ?side1 ?side2 A73.out).mono ?_); (case side1 => repeat (first | exact (Kd.C_below HR0.out HB.out) | exact HR0.out | (with_reducible refine Kd.C_alloc ?_ _) | (with_reducible refine Kd.C_drewN ?_ _) | (with_reducible refine Kd.C_drew ?_))); (case side2 => exact HC0.out); rintro e w82 ⟨rfl, hb⟩; have n0_ := Aside0.mk (Kd.R_below (by (with_reducible repeat (first | apply Kd.R_alloc | apply Kd.R_drewN | apply Kd.R_drew)); exact HO_7.out) hb); have n1_ := Aside0.mk (blk_below (g := gb364) (o := .cells #[.int .i64 ((rd_T38 l0 a1).f0), .int .i64 ((rd_T38 l0 a1).f1), .bool ((rd_T38 l0 a1).f2), .int .i64 ((rd_T38 l0 a1).f3), .int .i64 ((rd_T38 l0 a1).f4), .bool ((rd_T38 l0 a1).f5), .bool ((rd_T38 l0 a1).f6), .bool ((rd_T38 l0 a1).f7), .int .i64 ((rd_T38 l0 a1).f8), .int .i64 ((rd_T38 l0 a1).f9), .int .i64 ((rd_T38 l0 a1).f10), .bool ((rd_T38 l0 a1).f11)] 38 (0, 0)) (by (with_reducible repeat (first | refine blk_drewN ?_ _ | refine blk_drew ?_ | refine blk_alloc ?_ _)); exact BK364.out) hb); have n2_ := Aside0.mk (blk_below (g := gb365) (o := .cells #[.int .i64 ((rd_T38 t355 a1).f0), .int .i64 ((rd_T38 t355 a1).f1), .bool ((rd_T38 t355 a1).f2), .int .i64 ((rd_T38 t355 a1).f3), .int .i64 ((rd_T38 t355 a1).f4), .bool ((rd_T38 t355 a1).f5), .bool ((rd_T38 t355 a1).f6), .bool ((rd_T38 t355 a1).f7), .int .i64 ((rd_T38 t355 a1).f8), .int .i64 ((rd_T38 t355 a1).f9), .int .i64 ((rd_T38 t355 a1).f10), .bool ((rd_T38 t355 a1).f11)] 38 (0, 0)) (by (with_reducible repeat (first | refine blk_drewN ?_ _ | refine blk_drew ?_ | refine blk_alloc ?_ _)); exact BK365.out) hb); have n3_ := Aside0.mk (below_step (by repeat (first | (with_reducible first | exact HB.out | apply below_alloc | apply pw_below_drewN | apply below_drew1 | refine below_set ?_ GE364.out | refine below_set ?_ GE365.out) | exact HB.out)) hb); clear HO_7; clear BK364; clear BK365; clear HB; have HO_7 := n0_; have BK364 := n1_; have BK365 := n2_; have HB := n3_; clear n0_ n1_ n2_ n3_; (try clear hb); (try clear hb2); (try clear hk); (try clear hi)) | (go_at_call 23; (with_reducible refine (board_Check.calls kj60 _ _ t355 t368 _ ?side1 ?side2 A75.out).mono ?_); (case side1 => repeat (first | exact (Kd.R_reads' HO_7.out).2.2 | (with_reducible refine Kd.C_alloc ?_ _) | (with_reducible refine Kd.C_drewN ?_ _) | (with_reducible refine Kd.C_drew ?_))); (case side2 => exact (Kd.R_reads' HO_7.out).2.1); rintro e w83 ⟨rfl, hb⟩; have n0_ := Aside0.mk (Kd.R_below (by (with_reducible repeat (first | apply Kd.R_alloc | apply Kd.R_drewN | apply Kd.R_drew)); exact HO_7.out) hb); have n1_ := Aside0.mk (blk_below (g := gb364) (o := .cells #[.int .i64 ((rd_T38 l0 a1).f0), .int .i64 ((rd_T38 l0 a1).f1), .bool ((rd_T38 l0 a1).f2), .int .i64 ((rd_T38 l0 a1).f3), .int .i64 ((rd_T38 l0 a1).f4), .bool ((rd_T38 l0 a1).f5), .bool ((rd_T38 l0 a1).f6), .bool ((rd_T38 l0 a1).f7), .int .i64 ((rd_T38 l0 a1).f8), .int .i64 ((rd_T38 l0 a1).f9), .int .i64 ((rd_T38 l0 a1).f10), .bool ((rd_T38 l0 a1).f11)] 38 (0, 0)) (by (with_reducible repeat (first | refine blk_drewN ?_ _ | refine blk_drew ?_ | refine blk_alloc ?_ _)); exact BK364.out) hb); have n2_ := Aside0.mk (blk_below (g := gb365) (o := .cells #[.int .i64 ((rd_T38 t355 a1).f0), .int .i64 ((rd_T38 t355 a1).f1), .bool ((rd_T38 t355 a1).f2), .int .i64 ((rd_T38 t355 a1).f3), .int .i64 ((rd_T38 t355 a1).f4), .bool ((rd_T38 t355 a1).f5), .bool ((rd_T38 t355 a1).f6), .bool ((rd_T38 t355 a1).f7), .int .i64 ((rd_T38 t355 a1).f8), .int .i64 ((rd_T38 t355 a1).f9), .int .i64 ((rd_T38 t355 a1).f10), .bool ((rd_T38 t355 a1).f11)] 38 (0, 0)) (by (with_reducible repeat (first | refine blk_drewN ?_ _ | refine blk_drew ?_ | refine blk_alloc ?_ _)); exact BK365.out) hb); have n3_ := Aside0.mk (below_step (by repeat (first | (with_reducible first | exact HB.out | apply below_alloc | apply pw_below_drewN | apply below_drew1 | refine below_set ?_ GE364.out | refine below_set ?_ GE365.out) | exact HB.out)) hb); clear HO_7; clear BK364; clear BK365; clear HB; have HO_7 := n0_; have BK364 := n1_; have BK365 := n2_; have HB := n3_; clear n0_ n1_ n2_ n3_; (try clear hb); (try clear hb2); (try clear hk); (try clear hi)) | (go_at_call 22; (with_reducible refine (tidewaylaw10_heads.calls kj60  t369 _ A77.out).mono ?_); rintro e w84 ⟨rfl, hb⟩; have n0_ := Aside0.mk (Kd.R_below (by (with_reducible repeat (first | apply Kd.R_alloc | apply Kd.R_drewN | apply Kd.R_drew)); exact HO_7.out) hb); have n1_ := Aside0.mk (blk_below (g := gb364) (o := .cells #[.int .i64 ((rd_T38 l0 a1).f0), .int .i64 ((rd_T38 l0 a1).f1), .bool ((rd_T38 l0 a1).f2), .int .i64 ((rd_T38 l0 a1).f3), .int .i64 ((rd_T38 l0 a1).f4), .bool ((rd_T38 l0 a1).f5), .bool ((rd_T38 l0 a1).f6), .bool ((rd_T38 l0 a1).f7), .int .i64 ((rd_T38 l0 a1).f8), .int .i64 ((rd_T38 l0 a1).f9), .int .i64 ((rd_T38 l0 a1).f10), .bool ((rd_T38 l0 a1).f11)] 38 (0, 0)) (by (with_reducible repeat (first | refine blk_drewN ?_ _ | refine blk_drew ?_ | refine blk_alloc ?_ _)); exact BK364.out) hb); have n2_ := Aside0.mk (blk_below (g := gb365) (o := .cells #[.int .i64 ((rd_T38 t355 a1).f0), .int .i64 ((rd_T38 t355 a1).f1), .bool ((rd_T38 t355 a1).f2), .int .i64 ((rd_T38 t355 a1).f3), .int .i64 ((rd_T38 t355 a1).f4), .bool ((rd_T38 t355 a1).f5), .bool ((rd_T38 t355 a1).f6), .bool ((rd_T38 t355 a1).f7), .int .i64 ((rd_T38 t355 a1).f8), .int .i64 ((rd_T38 t355 a1).f9), .int .i64 ((rd_T38 t355 a1).f10), .bool ((rd_T38 t355 a1).f11)] 38 (0, 0)) (by (with_reducible repeat (first | refine blk_drewN ?_ _ | refine blk_drew ?_ | refine blk_alloc ?_ _)); exact BK365.out) hb); have n3_ := Aside0.mk (below_step (by repeat (first | (with_reducible first | exact HB.out | apply below_alloc | apply pw_below_drewN | apply below_drew1 | refine below_set ?_ GE364.out | refine below_set ?_ GE365.out) | exact HB.out)) hb); clear HO_7; clear BK364; clear BK365; clear HB; have HO_7 := n0_; have BK364 := n1_; have BK365 := n2_; have HB := n3_; clear n0_ n1_ n2_ n3_; (try clear hb); (try clear hb2); (try clear hk); (try clear hi)))
                       go_ret
                       exact ⟨by first | rfl | (simp [errW_none, errW_some] <;> rfl) | (simp only [← hji70]; first | rfl | (simp [errW_none, errW_some] <;> rfl)) | (simp [*, errW_none, errW_some] <;> rfl), by repeat (first | (with_reducible first | exact HB.out | apply below_alloc | apply pw_below_drewN | apply below_drew1 | refine below_set ?_ GE364.out | refine below_set ?_ GE365.out) | exact HB.out)⟩
                      ·rw [if_neg c76] at H
                       have c76b0 : (t368 == 0) = false := beq_eq_false_iff_ne.mpr c76
                       have c76b1 : (t368 != 0) = true := bne_iff_ne.mpr c76
                       exact absurd ((Option.some.inj H).trans HRT.out) (by decide)
                     ·rw [if_neg c74] at H
                      have c74b0 : (t366 == (wrap64 (t367 + x12_60))) = false := beq_eq_false_iff_ne.mpr c74
                      have c74b1 : (t366 != (wrap64 (t367 + x12_60))) = true := bne_iff_ne.mpr c74
                      exact absurd ((Option.some.inj H).trans HRT.out) (by decide)
                    ·rw [if_neg c71] at H
                     have c71b0 : decide ((ji70) ≤ ((rd_T38 t355 a1).f4)) = false := decide_eq_false c71
                     clear c71
                     exact absurd ((Option.some.inj H).trans HRT.out) (by decide)
                   ·rw [if_neg c69] at H
                    have c69b0 : (((rd_T38 t355 a1).f7) == ((rd_T38 l0 a1).f6)) = false := by simpa using c69
                    (try (have c69b1 : decide (((rd_T38 t355 a1).f7) = ((rd_T38 l0 a1).f6)) = false := by simpa using c69))
                    (try (have c69b2 : (((rd_T38 t355 a1).f7) == ((rd_T38 l0 a1).f6)) = false := by simpa using c69))
                    (try (have c69b3 : ¬ (((rd_T38 t355 a1).f7) = ((rd_T38 l0 a1).f6)) := by simpa using c69))
                    clear c69
                    exact absurd ((Option.some.inj H).trans HRT.out) (by decide)
                  ·rw [if_neg c68] at H
                   have c68b0 : (((rd_T38 t355 a1).f3) == a2) = false := beq_eq_false_iff_ne.mpr c68
                   have c68b1 : (((rd_T38 t355 a1).f3) != a2) = true := bne_iff_ne.mpr c68
                   exact absurd ((Option.some.inj H).trans HRT.out) (by decide)
                 ·rw [if_neg c67] at H
                  have c67b0 : (((rd_T38 t355 a1).f1) == ((rd_T38 l0 a1).f1)) = false := beq_eq_false_iff_ne.mpr c67
                  have c67b1 : (((rd_T38 t355 a1).f1) != ((rd_T38 l0 a1).f1)) = true := bne_iff_ne.mpr c67
                  exact absurd ((Option.some.inj H).trans HRT.out) (by decide)
                ·rw [if_neg c66] at H
                 have c66b0 : (((rd_T38 t355 a1).f0) == ((rd_T38 l0 a1).f0)) = false := beq_eq_false_iff_ne.mpr c66
                 have c66b1 : (((rd_T38 t355 a1).f0) != ((rd_T38 l0 a1).f0)) = true := bne_iff_ne.mpr c66
                 exact absurd ((Option.some.inj H).trans HRT.out) (by decide)
               ·rw [if_neg c65] at H
                have c65b0 : ((t355.length : Int) == (l0.length : Int)) = false := beq_eq_false_iff_ne.mpr c65
                have c65b1 : ((t355.length : Int) != (l0.length : Int)) = true := bne_iff_ne.mpr c65
                have c65b2 : (t355.length == l0.length) = false := by first | simpa using c65 | (simp at c65 ⊢; omega)
                exact absurd ((Option.some.inj H).trans HRT.out) (by decide)
          ·rw [if_neg c24] at H
           exact absurd H (by simp)
         ·rw [if_neg c23] at H
          exact absurd H (by simp)
        ·rw [if_neg c22] at H
         exact absurd H (by simp)
 ·rw [if_neg c5] at H
  have c5b0 : (t356 == 0) = false := beq_eq_false_iff_ne.mpr c5
  have c5b1 : (t356 != 0) = true := bne_iff_ne.mpr c5
  by_cases c85 : (t355.length : Int) = 0
  ·rw [if_pos c85] at H
   have c85b0 : ((t355.length : Int) == 0) = true := beq_iff_eq.mpr c85
   have c85b1 : ((t355.length : Int) != 0) = false := bne_eq_false_iff_eq.mpr c85
   clear c85
   replace H := Option.bind_eq_some_iff.mp H
   obtain ⟨t359, A860, H⟩ := H
   replace H : (some t359) = some r := H
   have A86 := Aside0.mk A860
   clear A860
   obtain rfl := Option.some.inj H
   go_enter Try.func6, Try.ntmps6
   go_wp2_with (first | ((with_reducible refine gate_callee (f := 24) rfl ?_); refine goesL_ (some 17) rfl rfl Try.func24 (by kernel_rfl) rfl #[.slice A0 l0.length c0, .int .i64 a1, .int .i64 a2] rfl (by (try simp only [List.map_toArray, List.map_cons, List.map_nil]); first | done | rfl | (simp only [List.length_drop, List.length_take]; rfl)) ?_; (with_reducible refine (board_Again.calls k _ _ l0 a1 a2 t355 t356 _ ?side1 ?side2 A4.out).mono ?_); (case side1 => repeat (first | exact HR0.out | (with_reducible refine Kd.C_alloc ?_ _) | (with_reducible refine Kd.C_drewN ?_ _) | (with_reducible refine Kd.C_drew ?_))); (case side2 => exact HC0.out); rintro e w87 ⟨v357, rfl, ho0, hb⟩; refine ⟨_, rfl, ?_⟩; have n0_ := Aside0.mk (Kd.R_lower ho0 (below_size (by repeat (first | (with_reducible first | exact HB.out | apply below_alloc | apply pw_below_drewN | apply below_drew1) | exact HB.out | exact Below.refl _ _)))); have n1_ := Aside0.mk (below_step (by repeat (first | (with_reducible first | exact HB.out | apply below_alloc | apply pw_below_drewN | apply below_drew1) | exact HB.out | exact Below.refl _ _)) hb); clear HB; have HO358 := n0_; have HB := n1_; clear n0_ n1_; (try clear hb); (try clear hb2); (try clear hk); (try clear hi); (try clear ho0); obtain ⟨Ao88, co88, eo88⟩ := Kd.R_slice HO358.out; subst eo88) | (go_at_call 22; (with_reducible refine (tidewaylaw10_heads.calls k  t359 _ A86.out).mono ?_); rintro e w89 ⟨rfl, hb⟩; have n0_ := Aside0.mk (Kd.R_below (by (with_reducible repeat (first | apply Kd.R_alloc | apply Kd.R_drewN | apply Kd.R_drew)); exact HO358.out) hb); have n1_ := Aside0.mk (below_step (by repeat (first | (with_reducible first | exact HB.out | apply below_alloc | apply pw_below_drewN | apply below_drew1) | exact HB.out | exact Below.refl _ _)) hb); clear HO358; clear HB; have HO358 := n0_; have HB := n1_; clear n0_ n1_; (try clear hb); (try clear hb2); (try clear hk); (try clear hi)))
   go_ret
   exact ⟨by first | rfl | (simp [errW_none, errW_some] <;> rfl) | (simp [*, errW_none, errW_some] <;> rfl), by repeat (first | (with_reducible first | exact HB.out | apply below_alloc | apply pw_below_drewN | apply below_drew1) | exact HB.out | exact Below.refl _ _)⟩
  ·rw [if_neg c85] at H
   have c85b0 : ((t355.length : Int) == 0) = false := beq_eq_false_iff_ne.mpr c85
   have c85b1 : ((t355.length : Int) != 0) = true := bne_iff_ne.mpr c85
   have c85b2 : ¬ (t355 = []) := fun h_ => c85 (by rw [h_]; rfl)
   exact absurd ((Option.some.inj H).trans HRT.out) (by decide)

end Go.Proofs.Ytgpbighdegdlfaa.PA

-- Written for the seat Ytlkkgikjghkcmaa by this session's program hyb.py (the print's functions, with externals typed by hand).
import Derived.Lib.Hide
import Derived.LoopIn
import Derived.LoopNIn
import Derived.OwnWalkIn
import Derived.RangeFuncBound
import Derived.RangeFuncBox
import Derived.RangeFuncCalls
import Derived.RangeFuncLeaves
import Derived.RangeFuncNested
import Derived.Shelf.Abstract
import Derived.Shelf.AbstractIn
import Derived.Shelf.RegionOpen
import Derived.Shelf.SlSortCmp.SmallK
import Derived.Shelf.Small.Bits
import Derived.TacticsInMore
import Derived.WalkKit
import Derived.Test.YtlkkgikjghkcmaaPAx0
import Derived.Test.YtlkkgikjghkcmaaPAx2
import Derived.Test.YtlkkgikjghkcmaaPAx3
import Derived.Test.YtlkkgikjghkcmaaPAx4
import Derived.Test.YtlkkgikjghkcmaaPAx5
namespace Go.Proofs.Ytlkkgikjghkcmaa.PA
open Go.RowKit Go.Proofs.YtlkkgikjghkcmaaW.PrintWords Go.Proofs.YtlkkgikjghkcmaaW.PrintLast Go.Proofs.YtlkkgikjghkcmaaW.PrintMore
attribute [local go_sem] max2_int min2_int max_two min_two max_three min_three max_four min_four   -- for this text's walks alone
set_option linter.unusedVariables false
set_option linter.unusedSimpArgs false

/-! ### timer_Set: function 10 (typed by hand) -/
section
open Go.Shelf
def tm_sort_ren : Go.Shelf.Ren := ⟨fun | 6 => 21 | 15 => 35 | 14 => 34 | 28 => 46 | 29 => 47 | 20 => 38 | 21 => 39 | 22 => 40 | 23 => 41 | 24 => 42 | 25 => 43 | 26 => 44 | 27 => 45 | 46 => 48 | 47 => 49 | 48 => 50 | 49 => 51 | 50 => 52 | 57 => 53 | n => n, fun | 22 => 22 | 24 => 38 | 25 => 51 | 3 => 3 | 39 => 61 | 0 => 0 | 53 => 71 | 55 => 73 | 4 => 4 | 46 => 65 | 45 => 64 | 50 => 42 | 5 => 5 | 9 => 9 | 66 => 74 | 70 => 78 | 76 => 80 | 77 => 81 | n => n, fun | n => n⟩
theorem tm_sortT : Go.Proofs.SlLaysF0.n6 Try.prog tm_sort_ren := {
 mixed := by kernel_rfl
 f6 := ⟨Try.f21.name, by decide, Try.func21.trans (congrArg some (by kernel_rfl))⟩
 f14 := ⟨Try.f34.name, by decide, Try.func34.trans (congrArg some (by kernel_rfl))⟩
 f15 := Try.func35.trans (congrArg some (by kernel_rfl))
 f20 := ⟨Try.f38.name, by decide, Try.func38.trans (congrArg some (by kernel_rfl))⟩
 f21 := ⟨Try.f39.name, by decide, Try.func39.trans (congrArg some (by kernel_rfl))⟩
 f22 := ⟨Try.f40.name, by decide, Try.func40.trans (congrArg some (by kernel_rfl))⟩
 f23 := ⟨Try.f41.name, by decide, Try.func41.trans (congrArg some (by kernel_rfl))⟩
 f24 := ⟨Try.f42.name, by decide, Try.func42.trans (congrArg some (by kernel_rfl))⟩
 f25 := ⟨Try.f43.name, by decide, Try.func43.trans (congrArg some (by kernel_rfl))⟩
 f26 := ⟨Try.f44.name, by decide, Try.func44.trans (congrArg some (by kernel_rfl))⟩
 f27 := ⟨Try.f45.name, by decide, Try.func45.trans (congrArg some (by kernel_rfl))⟩
 f28 := Try.func46.trans (congrArg some (by kernel_rfl))
 f29 := Try.func47.trans (congrArg some (by kernel_rfl))
 f46 := ⟨Try.f48.name, by decide, Try.func48.trans (congrArg some (by kernel_rfl))⟩
 f47 := Try.func49.trans (congrArg some (by kernel_rfl))
 f48 := Try.func50.trans (congrArg some (by kernel_rfl))
 f49 := ⟨Try.f51.name, by decide, Try.func51.trans (congrArg some (by kernel_rfl))⟩
 f50 := ⟨Try.f52.name, by decide, Try.func52.trans (congrArg some (by kernel_rfl))⟩
 f57 := ⟨Try.f53.name, by decide, Try.func53.trans (congrArg some (by kernel_rfl))⟩
 t0 := Try.underlying0
 a0 := Try.isAgg0
 z0 := Try.sizeOf0
 v0 := Try.zeroValue0
 t3 := Try.underlying3
 a3 := Try.isAgg3
 z3 := Try.sizeOf3
 v3 := Try.zeroValue3
 t4 := Try.underlying4
 a4 := Try.isAgg4
 z4 := Try.sizeOf4
 v4 := Try.zeroValue4
 t5 := Try.underlying5
 a5 := Try.isAgg5
 z5 := Try.sizeOf5
 v5 := Try.zeroValue5
 t9 := Try.underlying9
 a9 := Try.isAgg9
 z9 := Try.sizeOf9
 v9 := Try.zeroValue9
 t22 := Try.underlying22
 a22 := Try.isAgg22
 z22 := Try.sizeOf22
 v22 := Try.zeroValue22
 t25 := Try.underlying51
 a25 := Try.isAgg51
 z25 := Try.sizeOf51
 v25 := Try.zeroValue51
 t39 := Try.underlying61
 a39 := Try.isAgg61
 z39 := Try.sizeOf61
 v39 := Try.zeroValue61
 t45 := Try.underlying64
 a45 := Try.isAgg64
 z45 := Try.sizeOf64
 v45 := Try.zeroValue64
 t46 := Try.underlying65
 a46 := Try.isAgg65
 z46 := Try.sizeOf65
 v46 := Try.zeroValue65
 t50 := Try.underlying42
 a50 := Try.isAgg42
 z50 := Try.sizeOf42
 v50 := Try.zeroValue42
 t53 := Try.underlying71
 a53 := Try.isAgg71
 z53 := Try.sizeOf71
 v53 := Try.zeroValue71
 t55 := Try.underlying73
 a55 := Try.isAgg73
 z55 := Try.sizeOf73
 v55 := Try.zeroValue73
 t66 := Try.underlying74
 a66 := Try.isAgg74
 z66 := Try.sizeOf74
 v66 := Try.zeroValue74
 t70 := Try.underlying78
 a70 := Try.isAgg78
 z70 := Try.sizeOf78
 v70 := Try.zeroValue78
 t76 := Try.underlying80
 a76 := Try.isAgg80
 z76 := Try.sizeOf80
 v76 := Try.zeroValue80
 t77 := Try.underlying81
 a77 := Try.isAgg81
 z77 := Try.sizeOf81
 v77 := Try.zeroValue81 }
def tm_bits_ren : Go.Shelf.Ren := ⟨fun | 125 => 35 | 128 => 46 | 129 => 47 | n => n, fun | 46 => 61 | 3 => 3 | 51 => 71 | 53 => 73 | 4 => 4 | 5 => 5 | 9 => 9 | n => n, fun | n => n⟩
theorem tm_bitsLen : Go.Proofs.Lays.n125 Try.prog tm_bits_ren := {
 mixed := by kernel_rfl
 f125 := Try.func35.trans (congrArg some (by kernel_rfl))
 f128 := Try.func46.trans (congrArg some (by kernel_rfl))
 f129 := Try.func47.trans (congrArg some (by kernel_rfl))
 t3 := Try.underlying3
 a3 := Try.isAgg3
 z3 := Try.sizeOf3
 v3 := Try.zeroValue3
 t4 := Try.underlying4
 a4 := Try.isAgg4
 z4 := Try.sizeOf4
 v4 := Try.zeroValue4
 t5 := Try.underlying5
 a5 := Try.isAgg5
 z5 := Try.sizeOf5
 v5 := Try.zeroValue5
 t9 := Try.underlying9
 a9 := Try.isAgg9
 z9 := Try.sizeOf9
 v9 := Try.zeroValue9
 t46 := Try.underlying61
 a46 := Try.isAgg61
 z46 := Try.sizeOf61
 v46 := Try.zeroValue61
 t51 := Try.underlying71
 a51 := Try.isAgg71
 z51 := Try.sizeOf71
 v51 := Try.zeroValue71
 t53 := Try.underlying73
 a53 := Try.isAgg73
 z53 := Try.sizeOf73
 v53 := Try.zeroValue73 }

instance tm_inh : Inhabited S38 := ⟨z38⟩
def tm_enc (x : S38) : List Value := [.int .i64 x.f0, .int .i64 x.f1]
def tm_c (a b : Int) : Int := if a < b then -1 else if a > b then 1 else 0
def tm_outF (lt : S38 → S38 → Bool) : Nat → Nat → Array S38 → Array S38
 | 0, _, d => d
 | n + 1, i, d => tm_outF lt n (i + 1) (Go.Sort.insInner lt 0 i d)
theorem tm_outF_eq (lt : S38 → S38 → Bool) (b : Nat) : ∀ (n i : Nat) (d : Array S38), b - i = n → Go.Sort.insOuter lt 0 b i d = tm_outF lt n i d := by
 intro n
 induction n with
 | zero => intro i d h; rw [Go.Sort.insOuter, if_neg (by omega)]; rfl
 | succ n ih => intro i d h; rw [Go.Sort.insOuter, if_pos (by omega), ih _ _ (by omega)]; rfl
def tm_sorted (l : List S38) : List S38 := (tm_outF (Go.Proofs.ltOf fun x y : S38 => tm_c x.f0 y.f0) (l.length - 1) 1 l.toArray).toList
theorem tm_sorted_eq (l : List S38) : (Go.Sort.insertionSort (Go.Proofs.ltOf fun x y : S38 => tm_c x.f0 y.f0) l.toArray 0 l.length).toList = tm_sorted l := by
 unfold Go.Sort.insertionSort tm_sorted
 rw [tm_outF_eq _ _ _ _ _ rfl]
theorem tm_ins_size (lt : S38 → S38 → Bool) (a : Nat) : ∀ (j : Nat) (d : Array S38), (Go.Sort.insInner lt a j d).size = d.size := by
 intro j
 induction j with
 | zero => intro d; rfl
 | succ j ih => intro d; rw [Go.Sort.insInner]; split <;> simp [ih, Go.Sort.size_swp]
theorem tm_out_size (lt : S38 → S38 → Bool) (a b : Nat) : ∀ (n i : Nat) (d : Array S38), b - i ≤ n → (Go.Sort.insOuter lt a b i d).size = d.size := by
 intro n
 induction n with
 | zero => intro i d h; rw [Go.Sort.insOuter, if_neg (by omega)]
 | succ n ih =>
  intro i d h
  rw [Go.Sort.insOuter]
  by_cases hi : i < b
  ·rw [if_pos hi, ih _ _ (by omega), tm_ins_size]
  ·rw [if_neg hi]
theorem tm_sorted_len (l : List S38) : (tm_sorted l).length = l.length := by
 rw [← tm_sorted_eq]
 unfold Go.Sort.insertionSort
 rw [Array.length_toList, tm_out_size _ _ _ _ _ _ (Nat.le_refl _)]
 simp
theorem tm_compare (a b : Int) (w : World) : Calls Try.prog 23 #[.int .i64 a, .int .i64 b] w fun e w' => e = .returned (.int .i64 (tm_c a b)) ∧ ∃ q, w' = w.drewN q :=
 (api_TimerKind_23.calls a b (tm_c a b) w (by unfold api_TimerKind_23.f api_TimerKind_36.f tm_c; by_cases h1 : a < b <;> by_cases h2 : a > b <;> simp [h1, h2])).mono fun e w' h => ⟨h.1, h.2.out⟩
set_option maxHeartbeats 1000000 in
theorem tm_closure (x y : S38) (W : World) : Calls Try.prog 22 #[.agg #[.int .i64 x.f0, .int .i64 x.f1], .agg #[.int .i64 y.f0, .int .i64 y.f1]] W fun e w' => e = .returned (.int .i64 (tm_c x.f0 y.f0)) ∧ ∃ q os', w' = Go.Sort.grow (W.drewN q) os' := by
 have HCC := Lib.hid (fun W' => tm_compare x.f0 y.f0 W')
 go_enter Try.func22, Try.ntmps22
 go_wp2_with (go_at_call 23; refine (HCC.out _).mono ?_; rintro e w' ⟨rfl, q, rfl⟩)
 go_ret
 exact ⟨rfl, q, _, by rw [Go.Sort.alloc_eq_grow, Go.Sort.alloc_eq_grow, Go.Sort.grow_grow]; rfl⟩
theorem tm_fm (l : List S38) : ∀ j : Nat, (l.flatMap tm_enc)[j]? = (l[j / 2]?).bind fun x => (tm_enc x)[j % 2]? := by
 induction l with
 | nil => intro j; simp
 | cons x l ih =>
  intro j
  rw [List.flatMap_cons]
  match j with
  | 0 => rfl
  | 1 => rfl
  | j + 2 =>
   have h1 : (j + 2) / 2 = j / 2 + 1 := by omega
   have h2 : (j + 2) % 2 = j % 2 := by omega
   rw [h1, h2, List.getElem?_cons_succ, ← ih j]
   rfl
theorem tm_flat (d : Array S38) : (Go.Sort.flatK tm_enc 2 d).toList = d.toList.flatMap tm_enc := by
 refine List.ext_getElem? fun j => ?_
 rw [tm_fm]
 by_cases hj : j < d.size * 2
 ·have hj2 : j / 2 < d.size := by omega
  have hg := Go.Sort.get_flatK tm_enc 2 d j hj
  have hs : j < (Go.Sort.flatK tm_enc 2 d).size := by rw [Go.Sort.size_flatK]; exact hj
  rw [getElem!_pos _ j hs, getElem!_pos d (j / 2) hj2] at hg
  rw [Array.getElem?_toList, Array.getElem?_eq_getElem hs, hg, Array.getElem?_toList, Array.getElem?_eq_getElem hj2]
  have h2 : j % 2 = 0 ∨ j % 2 = 1 := by omega
  rcases h2 with h2 | h2 <;> rw [h2] <;> rfl
 ·have hj2 : ¬ j / 2 < d.size := by omega
  rw [Array.getElem?_toList, Array.getElem?_eq_none (by rw [Go.Sort.size_flatK]; omega), Array.getElem?_toList, Array.getElem?_eq_none (by omega)]
  rfl
theorem tm_inner {w : World} {base : Nat} {ok : Nat → Prop} : ∀ {xs : List S38} {inner : List Value}, Reps (k38.M w base ok) 2 xs inner → inner = xs.flatMap tm_enc := by
 intro xs inner h
 refine List.ext_getElem? fun j => ?_
 rw [tm_fm]
 by_cases hj : j / 2 < xs.length
 ·have h1 := k38_openM (h.2 (j / 2) _ (List.getElem?_eq_getElem hj))
  rw [List.getElem?_eq_getElem hj]
  have h2 : ((inner.drop (j / 2 * 2)).take 2)[j % 2]? = inner[j]? := by
   rw [List.getElem?_take, if_pos (by omega), List.getElem?_drop]; congr 1; omega
  rw [← h2, h1]; rfl
 ·rw [List.getElem?_eq_none (by rw [h.1]; show xs.length * 2 ≤ j; omega), List.getElem?_eq_none (by omega)]; rfl
theorem tm_reps (w : World) (base : Nat) (ok : Nat → Prop) : ∀ xs : List S38, Reps (k38.M w base ok) 2 xs (xs.flatMap tm_enc)
 | [] => Reps.none _ _
 | x :: xs => Reps.front (k38_mkM w base ok x) rfl (tm_reps w base ok xs) rfl
set_option maxHeartbeats 2000000 in
theorem tm_sort (W : World) (base : Nat) (ok : Nat → Prop) (A : Option Addr) (c : Nat) (xs : List S38) (h0 : 1 ≤ xs.length) (h12 : xs.length ≤ 12) (hR : Kd.R k38 38 W base ok (.slice A xs.length c) xs) :
  Calls Try.prog 21 #[.slice A xs.length c, .func (.func 22) #[] #[]] W fun e w' => e = .returned (.tuple #[]) ∧ Kd.R k38 38 w' base ok (.slice A xs.length c) (tm_sorted xs) ∧ W.grownBy w' (Value.slice A xs.length c).ownBlock := by
 obtain ⟨hok, inner, ⟨hlen, how⟩, hr⟩ := hR
 rcases how with ⟨hv, hn⟩ | ⟨g, cap, cur, hv, hg, hh, hnc, hcm, hsz, htake⟩
 ·omega
 ·injection hv with hA _ hc
  subst hA; subst hc
  have hs2 : cur.size = c * 2 := hsz
  have hin := tm_inner hr
  have hF := tm_flat xs.toArray
  have hFs : (Go.Sort.flatK tm_enc 2 xs.toArray).size = xs.length * 2 := by rw [Go.Sort.size_flatK]; simp
  have htk : ∀ j, j < xs.length * 2 → cur[j]? = some (Go.Sort.flatK tm_enc 2 xs.toArray)[j]! := by
   intro j hj
   have h1 : (cur.toList.take (xs.length * 2))[j]? = cur[j]? := by rw [List.getElem?_take, if_pos hj, Array.getElem?_toList]
   have h2 : cur.toList.take (xs.length * 2) = (Go.Sort.flatK tm_enc 2 xs.toArray).toList := by rw [hF]; exact htake.trans hin
   rw [← h1, h2, Array.getElem?_toList, Array.getElem?_eq_getElem (by rw [hFs]; exact hj), getElem!_pos _ j (by rw [hFs]; exact hj)]
  have hH : Go.Sort.HoldsK tm_enc 2 W g 0 xs.toArray := by
   intro j hj
   rw [hFs] at hj
   exact ⟨by rw [Nat.zero_add]; exact (blk_cell hh j).trans (htk j hj), blk_frozen hh _⟩
  have hcon := Go.Proofs.AnyQ.slices_SortFunc_small tm_sortT 2 Try.isAgg38 Try.sizeOf38 tm_enc (fun _ => rfl) (fun x v hv => by simp [tm_enc] at hv; rcases hv with rfl | rfl <;> rfl) (fun x y : S38 => tm_c x.f0 y.f0) 22 #[] g 0 c xs.toArray W (enters_of Try.func22 (by kernel_rfl) rfl) (fun _ _ _ _ x y => tm_closure x y _) hH (blk_lt hh) (by simpa using h12)
   (fun n W' h => (Go.Proofs.Any.bits_Len tm_bitsLen n W' (by omega) (by omega)).mono fun _ _ ⟨he, hw⟩ => ⟨⟨_, he⟩, hw⟩)
  change Calls Try.prog 21 _ _ _ at hcon
  rw [show xs.toArray.size = xs.length by simp] at hcon
  refine hcon.mono ?_
  rintro e w' ⟨rfl, n, os, rfl⟩
  have hsl := tm_sorted_len xs
  have hsd : (Go.Sort.insertionSort (Go.Proofs.ltOf fun x y : S38 => tm_c x.f0 y.f0) xs.toArray 0 xs.length).toList = tm_sorted xs := tm_sorted_eq xs
  obtain ⟨d', hd'⟩ : ∃ d', Go.Sort.insertionSort (Go.Proofs.ltOf fun x y : S38 => tm_c x.f0 y.f0) xs.toArray 0 xs.length = d' := ⟨_, rfl⟩
  rw [hd'] at hsd ⊢
  have hds : d'.size = xs.length := by rw [← hsl, ← hsd, Array.length_toList]
  have hgl : g < W.heap.size := blk_lt hh
  have hgs : g < (Go.Sort.putRowK tm_enc 2 (Go.Sort.ahead W n) g 0 d').heap.size := by unfold Go.Sort.putRowK Go.Sort.putRow Go.Sort.mapBlock; simpa using hgl
  have hold : ∀ k, k < W.heap.size → (Go.Proofs.sortWorldK tm_enc 2 W g 0 n d' os).heap[k]? = (Go.Sort.putRowK tm_enc 2 (Go.Sort.ahead W n) g 0 d').heap[k]? := by
   intro k hk
   unfold Go.Proofs.sortWorldK
   exact Go.Sort.heap_grow_old _ _ (by unfold Go.Sort.putRowK Go.Sort.putRow Go.Sort.mapBlock; simpa using hk)
  have hput : ∀ k, (Go.Sort.putRowK tm_enc 2 (Go.Sort.ahead W n) g 0 d').heap[k]? = if g = k then (W.heap[k]?).map (Go.Sort.onCells (Go.Sort.putCells id 0 (Go.Sort.flatK tm_enc 2 d'))) else W.heap[k]? := by
   intro k
   show (W.heap.modify g _)[k]? = _
   rw [Array.getElem?_modify]
  have hnew : (Go.Proofs.sortWorldK tm_enc 2 W g 0 n d' os).heap[g]? = some (.cells (Go.Sort.putCells id 0 (Go.Sort.flatK tm_enc 2 d') cur) 38 (0, 0)) := by
   rw [hold g hgl, hput, if_pos rfl, hh]; rfl
  have hF' : (Go.Sort.flatK tm_enc 2 d').size = xs.length * 2 := by rw [Go.Sort.size_flatK, hds]
  have htake' : (Go.Sort.putCells id 0 (Go.Sort.flatK tm_enc 2 d') cur).toList.take (xs.length * 2) = (tm_sorted xs).flatMap tm_enc := by
   rw [← hsd, ← tm_flat]
   refine List.ext_getElem? fun j => ?_
   rw [List.getElem?_take]
   by_cases hj : j < xs.length * 2
   ·have e1 : (Go.Sort.flatK tm_enc 2 d')[j]? = some (Go.Sort.flatK tm_enc 2 d')[j]! := by rw [Array.getElem?_eq_getElem (by rw [hF']; exact hj), getElem!_pos _ _ (by rw [hF']; exact hj)]
    rw [if_pos hj, Array.getElem?_toList, Array.getElem?_toList, e1]
    unfold Go.Sort.putCells
    rw [Array.getElem?_mapIdx, Array.getElem?_eq_getElem (show j < cur.size by omega)]
    simp [hF', hj]
   ·rw [if_neg hj, Array.getElem?_toList, Array.getElem?_eq_none (by rw [hF']; omega)]
  refine ⟨rfl, ⟨hok, (tm_sorted xs).flatMap tm_enc, ⟨?_, .inr ⟨g, c, _, by rw [hsl], hg, hnew, by rw [hsl]; exact hnc, hcm, ?_, by rw [hsl]; exact htake'⟩⟩, tm_reps _ _ _ _⟩, ?_⟩
  ·have := (tm_reps W base ok (tm_sorted xs)).1; exact this
  ·show (Go.Sort.putCells id 0 _ cur).size = c * 2
   unfold Go.Sort.putCells
   rw [Array.size_mapIdx, hs2]
  ·refine ⟨rfl, rfl, rfl, ?_, ?_⟩
   ·unfold Go.Proofs.sortWorldK Go.Sort.grow Go.Sort.putRowK Go.Sort.putRow Go.Sort.mapBlock Go.Sort.ahead; simp
   ·intro k hk hne
    rw [hold k hk, hput, if_neg (fun e => hne (by rw [← e]; rfl))]
end
def tm_set (l : List S38) (kk : Int) (at_ : Int) : List S38 × Int := if tm_chk l ≠ 0 then ([], tm_chk l) else if tm_may ⟨kk, at_⟩ = true then (tm_sorted ((⟨kk, at_⟩ : S38) :: l.filter (tm_not kk)), 0) else ([], 2)
def timer_Set.f (l0 : List S38) (a1 : Int) (a2 : Int) : Option (List S38 × Int) := some (tm_set l0 a1 a2)
section
open Go.Shelf
attribute [local go_sem] Oper.semAt_some
set_option maxRecDepth 100000 in
set_option maxHeartbeats 8000000 in
theorem timer_Set.calls (A0 : Option Addr) (c0 : Nat) (l0 : List S38) (a1 : Int) (a2 : Int) (r1 : List S38) (r2 : Int) (w : World) (hr0 : Kd.C k38 w A0 l0.length l0) (hc0 : l0.length ≤ c0) (h : timer_Set.f l0 a1 a2 = some (r1, r2)) :
  Calls Try.prog 10 #[.slice A0 l0.length c0, .int .i64 a1, .int .i64 a2] w fun e w' => ∃ v0_ : Value, e = .returned (.tuple #[v0_, .int .i64 r2]) ∧ Kd.R k38 38 w' w.heap.size (fun _ => True) v0_ r1 ∧ Below w.heap.size w w' := by
 have hr : tm_set l0 a1 a2 = (r1, r2) := Option.some.inj h
 clear h
 have HC := Lib.hid hr0; have HC0 := Lib.hid hc0
 clear hr0 hc0
 unfold tm_set at hr
 obtain ⟨ec, hec⟩ : ∃ ec, tm_chk l0 = ec := ⟨_, rfl⟩
 rw [hec] at hr
 have HE := Lib.hid hec
 by_cases h1 : ec = 0
 case neg =>
  have q1 : (ec != 0) = true := bne_iff_ne.mpr h1
  rw [if_pos h1] at hr
  obtain ⟨rfl, rfl⟩ := Prod.mk.inj hr
  clear hr h1 hec
  go_enter Try.func10, Try.ntmps10
  go_wp2_with (go_at_call 8; refine (tm_check A0 c0 l0 _ HC.out HC0.out).mono ?_; rintro e w1 ⟨rfl, hb⟩; have HB1 := Lib.hid hb; clear hb; rw [HE.out])
  go_ret2
  exact ⟨_, rfl, Kd.R_nil _ _ _ _ _, HB1.out⟩
 subst h1
 rw [if_neg (by simp)] at hr
 have hm := tm_may_f (⟨a1, a2⟩ : S38)
 by_cases h2 : tm_may (⟨a1, a2⟩ : S38) = true
 case neg =>
  rw [if_neg h2] at hr
  obtain ⟨rfl, rfl⟩ := Prod.mk.inj hr
  rw [Bool.eq_false_iff.mpr h2] at hm
  have HM := Lib.hid (show timer_may.f a1 a2 = some false from hm)
  clear hr h2 hec hm
  go_enter Try.func10, Try.ntmps10
  go_wp2_with (first | (go_at_call 8; refine (tm_check A0 c0 l0 _ HC.out HC0.out).mono ?_; rintro e w1 ⟨rfl, hb⟩; have HB1 := Lib.hid hb; clear hb; rw [HE.out]) | (go_at_call 19; refine (timer_may.calls a1 a2 _ _ HM.out).mono ?_; rintro e w2 ⟨rfl, hb⟩; have HB2 := Lib.hid (below_step (below_alloc HB1.out _) hb); have hfx := blk_below (blk_new w1 (.cells #[.int .i64 a1, .int .i64 a2] 38)) hb; have f0 := (blk_cell hfx 0).trans rfl; have f1 := (blk_cell hfx 1).trans rfl; clear hb hfx))
  go_ret2
  exact ⟨_, rfl, Kd.R_nil _ _ _ _ _, HB2.out⟩
 rw [if_pos h2] at hr
 obtain ⟨rfl, rfl⟩ := Prod.mk.inj hr
 rw [h2] at hm
 have HM := Lib.hid (show timer_may.f a1 a2 = some true from hm)
 have HL := Lib.hid (tm_len l0 hec)
 clear hr h2 hec hm
 refine callsIn_wide (n := 9).1 ?_
 refine callsIn_of_wp_marks Try.func10 rfl trivial ?_ rfl
 refine wpIn_wide.2 ?_
 simp only [Try.ntmps10, List.size_toArray, List.length_cons, List.length_nil, Nat.reduceAdd, Nat.reduceSub, Array.replicate_succ, Array.replicate_zero, List.push_toArray, List.append_toArray, List.nil_append, List.cons_append]
 go_wp2_with (first | (go_at_call 8; refine (tm_check A0 c0 l0 _ HC.out HC0.out).mono ?_; rintro e w1 ⟨rfl, hb⟩; have HB1 := Lib.hid hb; clear hb; rw [HE.out]) | (go_at_call 19; refine (timer_may.calls a1 a2 _ _ HM.out).mono ?_; rintro e w2 ⟨rfl, hb⟩; have HB2 := Lib.hid (below_step (below_alloc HB1.out _) hb); have hfx := blk_below (blk_new w1 (.cells #[.int .i64 a1, .int .i64 a2] 38)) hb; have f0 := (blk_cell hfx 0).trans rfl; have f1 := (blk_cell hfx 1).trans rfl; clear hb hfx) | ((with_reducible refine gate_dst (N := 24) rfl ?_); refine Kd.R_lit k38 _ 38 ?hg (N := 24) ?hd (xs := ([(⟨a1, a2⟩ : S38)] : List S38)) (inner := [.int .i64 a1, .int .i64 a2]) (ok := fun _ => True) (okp := fun _ => True) ?hr ?hp (fun _ hk => hk) trivial (Below.refl _ _) (Nat.le_refl _) (by simp) ?_; (case hd => rfl); (case hg => rfl); (case hr => first | (go_simp; done) | (go_simp; rfl)); (case hp => exact (Reps.c2 (k38_mkM _ _ _ (⟨a1, a2⟩ : S38)) (Reps.none _ _))); intro v3 w3 ho hb hg_ hnew_; obtain ⟨A3, c3, rfl⟩ := Kd.R_slice ho; have HO3 := Lib.hid ho; have HB3 := Lib.hid hb; clear ho hb hg_ hnew_) | (go_at_call 20; refine (tm_others_call _ _ _ _ _).mono ?_; rintro e w4 ⟨rfl, hw'⟩))
 have h5 := tm_three w3 (.cells #[.slice A3 1 c3] 22) (.cells #[.slice A0 l0.length c0] 22) (.cells #[.int .i64 a1] 28)
 try simp only [World.size_alloc]
 obtain ⟨W0, hW0⟩ : ∃ W0, (((w3.alloc (.cells #[.slice A3 1 c3] 22)).alloc (.cells #[.slice A0 l0.length c0] 22)).alloc (.cells #[.int .i64 a1] 28)) = W0 := ⟨_, rfl⟩
 rw [hW0] at hw'
 subst hw'
 simp only [hW0] at h5
 have HF := Lib.hid h5
 have HI0 := Lib.hid (show TmI w w3.heap.size [(⟨a1, a2⟩ : S38)] W0 from ⟨_, HF.out.1, Kd.R_below (Kd.R_lower (Kd.R_mono (Kd.R_bound HO3.out) (fun k hk => Or.inl hk.2.2.1)) HB2.out.size) HF.out.2.2.2.2, (HB2.out.trans (HB3.out.mono HB2.out.size)).trans (HF.out.2.2.2.2.mono (Nat.le_trans HB2.out.size HB3.out.size)), Nat.le_of_eq HF.out.2.2.2.1.symm, Nat.le_trans HB2.out.size HB3.out.size⟩)
 clear h5 hW0
 refine wpIn_wide (n := 9).1 ?_
 refine wpIn_rangeFunc_ownH (α := S38) (encs := fun x => #[.agg #[.int .i64 x.f0, .int .i64 x.f1]]) (Kp := KpB w.heap.size [w3.heap.size + 1 + 1]) (S := fun ys => ys = l0.filter (tm_not a1)) (Sp := fun _ => True) (N := l0.length + 1) (w0 := W0)
  rfl (by omega) (gf := 33) (lb := #[.pointer (some ⟨w3.heap.size + 1, 0, none⟩), .pointer (some ⟨w3.heap.size + 1 + 1, 0, none⟩)]) rfl trivial (enters_of Try.func33 (by kernel_rfl) rfl)
  (fun l J Jx W hW hJ hJx hY h0 => tm_others 8 (by omega) a1 l (w3.heap.size + 1) (w3.heap.size + 1 + 1) A0 c0 l0 w J Jx W hJ (fun pre x W1 hj hl => hY pre x W1 hj hl)
   ((hW.cell (p := ⟨w3.heap.size + 1, 0, none⟩) (blk_lt HF.out.2.1)).trans ((blk_cell HF.out.2.1 0).trans rfl)) (tm_hb (W := W0) hW HF.out.2.2.1) HC.out (HI0.out.choose_spec.2.2.1.trans (hW.mono HI0.out.choose_spec.2.2.1.size)) h0)
  KpB.trans (KpB.put HI0.out.choose_spec.2.2.1.size (by intro b hb; rw [List.mem_singleton.1 hb, HF.out.2.2.2.1]; omega)) (Below.refl _ _) (fun _ => rfl)
  (fun pre W => TmI w w3.heap.size ((⟨a1, a2⟩ : S38) :: pre) W) (fun _ _ _ => False)
  (fun s A B row hs hg hr => hs.grown hg (fun r e => ⟨Nat.le_trans HI0.out.choose_spec.2.2.1.size (hr r e).1, (hr r e).2⟩))
  (fun c s A B row hs hg hr => hs) HI0.out
  (fun x a' W => ∃ b : Nat, a' = { tmps := #[.slice A0 l0.length c0, .int .i64 a1, .int .i64 a2, undef, undef, undef, .slice none 0 0, .int .i64 0, .int .i64 0, .pointer (some ⟨w1.heap.size, 0, none⟩), .pointer (some ⟨w3.heap.size, 0, none⟩), .pointer (some ⟨b, 0, none⟩), .slice A0 l0.length c0, .int .i64 0, .int .i64 0, .bool false, undef, .int .i64 a1, .int .i64 a2, .agg #[.int .i64 a1, .int .i64 a2], .agg #[.int .i64 a1, .int .i64 a2], .bool true, .bool false, .agg #[.int .i64 a1, .int .i64 a2], .slice A3 1 c3, .slice A0 l0.length c0, .int .i64 a1, .func (.func 33) #[] #[.pointer (some ⟨w3.heap.size + 1, 0, none⟩), .pointer (some ⟨w3.heap.size + 1 + 1, 0, none⟩)], .agg #[.int .i64 x.f0, .int .i64 x.f1], undef, undef, undef, undef, undef, undef, undef], defers := [] } ∧ w3.heap.size + 1 + 1 + 1 ≤ b ∧ W.heap[b]? = some (.cells #[.int .i64 x.f0, .int .i64 x.f1] 38 (0, 0)))
  (fun x a' s A B row hs hg hr => by obtain ⟨b, h1, h2, h3⟩ := hs; exact ⟨b, h1, h2, blk_own h3 hg (fun r e => (hr r e).2)⟩) ?assign ?body ?done ?stop
 case assign =>
  intro l pre x W K hI hK
  rw [show W0.heap.size = w3.heap.size + 1 + 1 + 1 from HF.out.2.2.2.1] at hK
  gi_wp2
  exact hK _ _ ((KeepsOthers.alloc _ _).from _) (KpB.of_below (below_alloc (Below.refl _ _) _) hI.choose_spec.2.2.1.size) (hI.below (below_alloc (Below.refl _ _) _)) ⟨W.heap.size, rfl, hI.choose_spec.2.2.2.1, blk_new W _⟩
 case body =>
  rintro l pre x a' W hl0 _ hI ⟨b, rfl, hb, hx⟩ hlen
  obtain ⟨v, h1, h2, h3, h4, h5⟩ := hI
  have k0 := (blk_cell h1 0).trans rfl
  have kf := blk_frozen h1 0
  have y0 := (blk_cell hx 0).trans rfl
  have y1 := (blk_cell hx 1).trans rfl
  have H1 := Lib.hid h1; have H2 := Lib.hid h2; have H3 := Lib.hid h3; have H4 := Lib.hid h4; have H5 := Lib.hid h5
  have HLN := Lib.hid hlen
  clear h1 h2 h3 h4 h5 hlen hx
  refine wpIn_block ?_
  refine list_r (by rintro ⟨_, _, h⟩; exact h) (by rfl) ?_
  go_wp2_with ((with_reducible refine gate_builtin (b := .append) (xs := #[.tmp 29, .tmp 31]) rfl ?_); at_builtin; refine Kd.R_append k38 (w0 := w) w.heap.size rfl (.tmp 29) (.tmp 31) 22 38 (.agg #[.int .i64 0, .int .i64 0]) 16 rfl Try.underlying22 info38 rfl (by decide) (by omega) v ((⟨a1, a2⟩ : S38) :: pre) x [.int .i64 x.f0, .int .i64 x.f1] (TmOk w3.heap.size) (fun _ => False) rfl rfl ?aP (fun _ hk => hk.elim) ?aF ?aO ?aB ?aS ?aL ?_; (case aP => exact k38_mkM _ _ _ x); (case aB => exact H3.out); (case aF => exact (fun k hk => Or.inr (Nat.le_trans H4.out hk))); (case aO => exact H2.out); (case aS => exact H3.out.size); (case aL => have := HLN.out; have := HL.out; rw [List.length_cons]; omega); intro v1 w9 ho hb9 hg hat; obtain ⟨A1, c1, rfl⟩ := Kd.R_slice ho; have HO := Lib.hid ho; have HB9 := Lib.hid hb9; have HG := Lib.hid hg; have k1 : w9.cell? ⟨w3.heap.size, 0, none⟩ = some v := (blk_cell (tm_stay H1.out H2.out H4.out HG.out) 0).trans rfl; have kf1 := blk_frozen (tm_stay H1.out H2.out H4.out HG.out) 0; clear ho hb9 hg hat)
  exact tm_snoc (pre := (⟨a1, a2⟩ : S38) :: pre) H1.out H2.out H4.out H5.out (by have := HO.out; simpa only [List.length_append, List.length_singleton, List.length_cons, List.length_nil, Nat.zero_add] using this) HB9.out HG.out
 case done =>
  rintro D ys W hD rfl hI hK
  have HI := Lib.hid hI; have HK := Lib.hid hK
  obtain ⟨v, h1, h2, h3, h4, h5⟩ := hI
  obtain ⟨A5, c5, rfl⟩ := Kd.R_slice h2
  have k0 := (blk_cell h1 0).trans rfl
  have H1 := Lib.hid h1; have H2 := Lib.hid h2; have H4 := Lib.hid h4
  have hl5 : ((⟨a1, a2⟩ : S38) :: l0.filter (tm_not a1)).length ≤ 12 := by have := List.length_filter_le (tm_not a1) l0; have := HL.out; rw [List.length_cons]; omega
  have HS := Lib.hid (tm_sort W _ _ A5 c5 ((⟨a1, a2⟩ : S38) :: l0.filter (tm_not a1)) (by rw [List.length_cons]; omega) hl5 h2)
  clear h1 h2 h3 h4 h5 hK hl5
  simp only [Exit.inBlock, Exit.then]
  go_wp2_with (go_at_call 21; refine HS.out.mono ?_; rintro e w8 ⟨rfl, hs8, hg8⟩; have HS8 := Lib.hid hs8; have HG8 := Lib.hid hg8; have k8 := (blk_cell (tm_stay H1.out H2.out H4.out hg8) 0).trans rfl; clear hs8 hg8 k0)
  have hD8 : w8.heap[D]? = some (.deferred (some [])) := (HG8.out.block D (Array.getElem?_eq_some_iff.1 HK.out).1 (fun e => by
   obtain ⟨inner, how, _⟩ := H2.out.2
   obtain ⟨cells, hc⟩ := own_typed how D e.symm
   have := HK.out; rw [hc] at this; cases this)).trans HK.out
  refine ⟨by simp, .inl ⟨_, _, rfl, run_takeDeferred hD8, ?_⟩⟩
  have hb8 : Below w.heap.size w w8 := Below.grown HI.out.choose_spec.2.2.1 HG8.out HI.out.choose_spec.2.2.1.size (fun r e => Kd.R_base H2.out r e)
  exact ⟨_, results_tmp2 rfl _ _ _, _, rfl, Kd.R_mono (R_own' HS8.out (grownBy_putObj' w8 D (.deferred none)) (fun r e => by cases e; exact ⟨_, hD8, rfl⟩)) (fun _ _ => trivial), hb8.grown (grownBy_putObj' w8 D (.deferred none)) hb8.size (fun r e => by cases e; exact Nat.le_trans HI0.out.choose_spec.2.2.1.size hD)⟩
 case stop =>
  rintro D c pre W _ _ h _
  exact h.elim
end


end Go.Proofs.Ytlkkgikjghkcmaa.PA

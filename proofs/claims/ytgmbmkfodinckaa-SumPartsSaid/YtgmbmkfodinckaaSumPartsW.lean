/- Where parts end does not matter: of all bytes, two places. -/
import Derived.Lib.Hide
import Derived.Deep.RegionHeld3
import Derived.Test.YtgmbmkfodinckaaSumFacts
import Derived.Test.YtgmbmkfodinckaaRow8
set_option linter.unusedVariables false
set_option linter.unusedSimpArgs false
namespace Go.Proofs.Ytgmbmkfodinckaa.Pure
open Go.RowKit Go.Proofs.Ytgmbmkfodinckaa.PA Go.Proofs.YtgmbmkfodinckaaW.PrintWords Go.Proofs.Ytgmbmkfodinckaa.SumPlain Go.Proofs.Ytgmbmkfodinckaa.SumFacts Go.Proofs.Ytgmbmkfodinckaa.Row8
/-- A literal row of three rows of bytes reads as those. -/
theorem lit_three {W : World} {A B D : Option Addr} {ca cb cd na nb nd b : Nat} {la lb ld : List Int} (hsz : W.heap.size = b) (hna : la.length = na) (hca : la.length ≤ ca) (ha : Kd.C B8 W A la.length la) (hnb : lb.length = nb) (hcb : lb.length ≤ cb) (hb : Kd.C B8 W B lb.length lb) (hnd : ld.length = nd) (hcd : ld.length ≤ cd) (hd : Kd.C B8 W D ld.length ld) :
    Kd.C (Kd.slice 5 B8) (W.alloc (.cells #[.slice A na ca, .slice B nb cb, .slice D nd cd] 24)) (some ⟨b, 0, none⟩) ([la, lb, ld] : List (List Int)).length [la, lb, ld] := by
  subst hna; subst hnb; subst hnd; subst hsz
  have hbw : Below W.heap.size W (W.alloc (.cells #[.slice A la.length ca, .slice B lb.length cb, .slice D ld.length cd] 24)) := (Below.refl _ W).alloc (Nat.le_refl _) _
  have hcell : ∀ (j : Nat) (u : Value), (#[Value.slice A la.length ca, .slice B lb.length cb, .slice D ld.length cd] : Array Value)[j]? = some u → (W.alloc (.cells #[.slice A la.length ca, .slice B lb.length cb, .slice D ld.length cd] 24)).cell? ((⟨W.heap.size, 0, none⟩ : Addr).add j) = some u := by
    intro j u hu
    rw [add_plain]
    unfold World.cell?
    dsimp only
    rw [heap_alloc_new W]
    exact hu
  refine ⟨rfl, by simp, fun _ => ⟨_, rfl, fun j p hj => ?_⟩⟩
  match j, hj with
  | 0, hj =>
    obtain rfl : la = p := by simpa using hj
    exact ⟨[.slice A la.length ca], rfl, ⟨A, ca, rfl, hca, Kd.C_below ha hbw⟩, fun i u hu => by
      match i, hu with
      | 0, hu => exact hcell 0 u hu⟩
  | 1, hj =>
    obtain rfl : lb = p := by simpa using hj
    exact ⟨[.slice B lb.length cb], rfl, ⟨B, cb, rfl, hcb, Kd.C_below hb hbw⟩, fun i u hu => by
      match i, hu with
      | 0, hu => exact hcell 1 u hu⟩
  | 2, hj =>
    obtain rfl : ld = p := by simpa using hj
    exact ⟨[.slice D ld.length cd], rfl, ⟨D, cd, rfl, hcd, Kd.C_below hd hbw⟩, fun i u hu => by
      match i, hu with
      | 0, hu => exact hcell 2 u hu⟩
theorem C_none (W : World) (A : Option Addr) : Kd.C B8 W A ([] : List Int).length [] := ⟨rfl, by simp, fun h => absurd h (by simp)⟩
set_option maxHeartbeats 4000000 in
set_option maxRecDepth 100000 in
theorem parts_in (A0 : Option Addr) (c0 : Nat) (l0 : List Int) (i k : Nat) (hik : i ≤ k) (hk : k ≤ l0.length) (w : World) (hr0 : Kd.C B8 w A0 l0.length l0) (hc0 : l0.length ≤ c0) (hl : byts l0) :
    Calls Try.prog 7 #[.slice A0 l0.length c0, .int .i64 (i : Int), .int .i64 (k : Int)] w fun e w' => e = .returned (.bool true) ∧ Below w.heap.size w w' := by
  have hm : l0.length ≤ 9223372036854775807 := hr0.2.1
  obtain ⟨r, hrr⟩ : ∃ r, 65535 - norm (wsum true l0) = r := ⟨_, rfl⟩
  have HS := Lib.hid (fun (ls : List (List Int)) (A : Option Addr) (c : Nat) (W : World) (hf : ls.flatten = l0) (hC : Kd.C (Kd.slice 5 B8) W A ls.length ls) (hc : ls.length ≤ c) => sum_Sum.calls A c ls r W hC hc (by rw [sumF ls (by rw [hf]; exact hl), hf, hrr]))
  have F1 := Lib.hid (show ([l0] : List (List Int)).flatten = l0 by simp)
  have F3 := Lib.hid (show ([l0.take i, (l0.take k).drop i, l0.drop k] : List (List Int)).flatten = l0 by
    have h1 : l0.take i = (l0.take k).take i := by rw [List.take_take, Nat.min_eq_left hik]
    rw [List.flatten_cons, List.flatten_cons, List.flatten_cons, List.flatten_nil, List.append_nil, ← List.append_assoc, h1, List.take_append_drop, List.take_append_drop])
  have F4 := Lib.hid (show ([[], l0, []] : List (List Int)).flatten = l0 by simp)
  have K1 := Lib.hid (fun (b : Nat) (W : World) (hC : Kd.C (Kd.slice 5 B8) W (some ⟨b, 0, none⟩) 1 [l0]) => show Calls Try.prog 10 #[.slice (some ⟨b, 0, none⟩) 1 1] W (fun e w' => e = .returned (.int .u16 r) ∧ Below W.heap.size W w') from HS.out [l0] _ 1 W F1.out hC (by simp))
  have K3 := Lib.hid (fun (b : Nat) (W : World) (hC : Kd.C (Kd.slice 5 B8) W (some ⟨b, 0, none⟩) 3 [l0.take i, (l0.take k).drop i, l0.drop k]) => show Calls Try.prog 10 #[.slice (some ⟨b, 0, none⟩) 3 3] W (fun e w' => e = .returned (.int .u16 r) ∧ Below W.heap.size W w') from HS.out [l0.take i, (l0.take k).drop i, l0.drop k] _ 3 W F3.out hC (by simp))
  have K4 := Lib.hid (fun (b : Nat) (W : World) (hC : Kd.C (Kd.slice 5 B8) W (some ⟨b, 0, none⟩) 3 [[], l0, []]) => show Calls Try.prog 10 #[.slice (some ⟨b, 0, none⟩) 3 3] W (fun e w' => e = .returned (.int .u16 r) ∧ Below W.heap.size W w') from HS.out [[], l0, []] _ 3 W F4.out hC (by simp))
  obtain ⟨u0, hu0, _, hsz, _⟩ := info_parts info5
  have cut1 := cut_to (P := Try.prog) 24 5 .i64 Try.underlying24 hu0 A0 l0.length c0 (i : Int) (by omega) (by omega) hc0
  have cut2 := cut_mid (P := Try.prog) 24 5 .i64 .i64 Try.underlying24 hu0 1 hsz A0 l0.length c0 (i : Int) (k : Int) (by omega) (by omega) (by omega) hc0
  have cut3 := cut_from (P := Try.prog) 24 5 .i64 Try.underlying24 hu0 1 hsz A0 l0.length c0 (k : Int) (by omega) (by omega)
  simp only [Int.toNat_natCast, Nat.mul_one] at cut1 cut2 cut3
  obtain ⟨A2, hA2⟩ : ∃ A2, (if c0 = i then A0 else A0.map (·.add i)) = A2 := ⟨_, rfl⟩
  obtain ⟨A3, hA3⟩ : ∃ A3, (if c0 = k then A0 else A0.map (·.add k)) = A3 := ⟨_, rfl⟩
  rw [hA2] at cut2
  rw [hA3] at cut3
  have R1 := Lib.hid (show Kd.C B8 w A0 (l0.take i).length (l0.take i) from Kd.C_take (m := i) hr0 (by omega))
  have hd2 : ((l0.take k).drop i).length = k - i := by rw [List.length_drop, List.length_take, Nat.min_eq_left hk]
  have hd3 : (l0.drop k).length = l0.length - k := List.length_drop
  have hd1 : (l0.take i).length = i := by rw [List.length_take, Nat.min_eq_left (by omega)]
  have R2 := Lib.hid (show Kd.C B8 w A2 ((l0.take k).drop i).length ((l0.take k).drop i) from by
    have := Kd.C_drop (m := i) (c := c0) (Kd.C_take (m := k) hr0 hk) (by rw [List.length_take]; omega) (by rw [List.length_take]; omega)
    rw [show i * B8.sz = i from Nat.mul_one i, hA2] at this
    exact this)
  have R3 := Lib.hid (show Kd.C B8 w A3 (l0.drop k).length (l0.drop k) from by
    have := Kd.C_drop (m := k) (c := c0) hr0 hk hc0
    rw [show k * B8.sz = k from Nat.mul_one k, hA3] at this
    exact this)
  have HC := Lib.hid hr0; clear hr0 hl hrr hA2 hA3
  have hlw : ∀ {W : World} {A : Option Addr} {l : List Int}, Below w.heap.size w W → Kd.C B8 w A l.length l → Kd.C B8 W A l.length l := fun hb h => Kd.C_below h hb
  have L1 := Lib.hid (fun (W : World) (b : Nat) (hs : W.heap.size = b) (hb : Below w.heap.size w W) => show Kd.C (Kd.slice 5 B8) (W.alloc (.cells #[.slice A0 l0.length c0] 24)) (some ⟨b, 0, none⟩) 1 [l0] from lit_one hs rfl hc0 (hlw hb HC.out))
  have L3 := Lib.hid (fun (W : World) (b : Nat) (hs : W.heap.size = b) (hb : Below w.heap.size w W) => show Kd.C (Kd.slice 5 B8) (W.alloc (.cells #[.slice A0 i c0, .slice A2 (k - i) (c0 - i), .slice A3 (l0.length - k) (c0 - k)] 24)) (some ⟨b, 0, none⟩) 3 [l0.take i, (l0.take k).drop i, l0.drop k] from lit_three hs hd1 (by omega) (hlw hb R1.out) hd2 (by omega) (hlw hb R2.out) hd3 (by omega) (hlw hb R3.out))
  have L4 := Lib.hid (fun (W : World) (b : Nat) (B : Option Addr) (hs : W.heap.size = b) (hb : Below w.heap.size w W) => show Kd.C (Kd.slice 5 B8) (W.alloc (.cells #[.slice none 0 0, .slice A0 l0.length c0, .slice B 0 0] 24)) (some ⟨b, 0, none⟩) 3 [[], l0, []] from lit_three (la := []) (lb := l0) (ld := []) hs rfl (Nat.le_refl _) (C_none _ _) rfl hc0 (hlw hb HC.out) rfl (Nat.le_refl _) (C_none _ _))
  clear hlw
  have D1 := Lib.hid hd1; have D2 := Lib.hid hd2; have D3 := Lib.hid hd3; clear hd1 hd2 hd3
  have g1 : decide ((i : Int) < 0) = false := decide_eq_false (by omega)
  have g2 : decide (k < i) = false := decide_eq_false (by omega)
  have g3 : decide (l0.length < k) = false := decide_eq_false (by omega)
  go_enter Try.func7, Try.ntmps7
  go_upto_region 3 with (fail)
  go_region_held3 (fun _ => True) (trivial) (first
    | (go_at_call 10; first
        | (with_reducible refine (K1.out _ _ ?row).mono ?_; (case row => repeat (first | (with_reducible refine Kd.C_drew ?_) | (with_reducible refine L1.out _ _ ?_ ?_; (first | with_reducible rfl | simp); (repeat (first | with_reducible exact Below.refl _ _ | with_reducible apply below_alloc | with_reducible apply below_drew1 | (with_reducible refine below_step ?_ (by assumption))))) | (with_reducible refine Kd.C_alloc ?_ _) | (with_reducible refine Kd.C_below ?_ (by assumption)))); rintro e w1 ⟨rfl, hb⟩)
        | (with_reducible refine (K3.out _ _ ?row).mono ?_; (case row => repeat (first | (with_reducible refine Kd.C_drew ?_) | (with_reducible refine L3.out _ _ ?_ ?_; (first | with_reducible rfl | simp); (repeat (first | with_reducible exact Below.refl _ _ | with_reducible apply below_alloc | with_reducible apply below_drew1 | (with_reducible refine below_step ?_ (by assumption))))) | (with_reducible refine Kd.C_alloc ?_ _) | (with_reducible refine Kd.C_below ?_ (by assumption)))); rintro e w1 ⟨rfl, hb⟩)
        | (with_reducible refine (K4.out _ _ ?row).mono ?_; (case row => repeat (first | (with_reducible refine Kd.C_drew ?_) | (with_reducible refine L4.out _ _ _ ?_ ?_; (first | with_reducible rfl | simp); (repeat (first | with_reducible exact Below.refl _ _ | with_reducible apply below_alloc | with_reducible apply below_drew1 | (with_reducible refine below_step ?_ (by assumption))))) | (with_reducible refine Kd.C_alloc ?_ _) | (with_reducible refine Kd.C_below ?_ (by assumption)))); rintro e w1 ⟨rfl, hb⟩))
    | (go_at_call 15; refine (tidewaylaw02_heads.calls true _ headsF).mono ?_; rintro e w1 ⟨rfl, hb⟩))
  all_goals (go_wp2; go_ret; exact ⟨by first | rfl | (simp; done), by repeat (first | with_reducible exact Below.refl _ _ | with_reducible apply below_alloc | with_reducible apply below_drew1 | (with_reducible refine below_step ?_ (by assumption)))⟩)
theorem parts_out (A0 : Option Addr) (c0 : Nat) (l0 : List Int) (a1 a2 : Int) (h : a1 < 0 ∨ a2 < a1 ∨ (l0.length : Int) < a2) (w : World) (hr0 : Kd.C B8 w A0 l0.length l0) (hc0 : l0.length ≤ c0) :
    Calls Try.prog 7 #[.slice A0 l0.length c0, .int .i64 a1, .int .i64 a2] w fun e w' => e = .returned (.bool true) ∧ Below w.heap.size w w' := by
  have hm : l0.length ≤ 9223372036854775807 := hr0.2.1
  clear hr0
  go_enter Try.func7, Try.ntmps7
  by_cases h1 : a1 < 0
  · have g1 : decide (a1 < 0) = true := decide_eq_true h1
    clear h
    go_wp2_with (go_at_call 15; refine (tidewaylaw02_heads.calls true _ headsF).mono ?_; rintro e w4 ⟨rfl, hb4⟩)
    go_ret
    exact ⟨rfl, hb4⟩
  have g1 : decide (a1 < 0) = false := decide_eq_false h1
  by_cases h2 : a2 < a1
  · have g2 : decide (a2 < a1) = true := decide_eq_true h2
    clear h
    go_wp2_with (go_at_call 15; refine (tidewaylaw02_heads.calls true _ headsF).mono ?_; rintro e w4 ⟨rfl, hb4⟩)
    go_ret
    exact ⟨rfl, hb4⟩
  have g2 : decide (a2 < a1) = false := decide_eq_false h2
  have g3 : decide ((l0.length : Int) < a2) = true := decide_eq_true (by omega)
  clear h
  go_wp2_with (go_at_call 15; refine (tidewaylaw02_heads.calls true _ headsF).mono ?_; rintro e w4 ⟨rfl, hb4⟩)
  go_ret
  exact ⟨rfl, hb4⟩
end Go.Proofs.Ytgmbmkfodinckaa.Pure

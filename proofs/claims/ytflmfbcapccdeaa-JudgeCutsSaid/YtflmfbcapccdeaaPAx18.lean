-- Written for the seat Ytflmfbcapccdeaa by this session's program hyb.py (the print's functions, with externals typed by hand).
import Derived.Laws.BitsLemmas
import Derived.Lib.Hide
import Derived.LoopIn
import Derived.LoopNIn
import Derived.OwnWalkIn
import Derived.RangeFuncBound
import Derived.RangeFuncBox
import Derived.RangeFuncCalls
import Derived.RangeFuncLeaves
import Derived.RangeFuncNested
import Derived.Shelf.Abstract
import Derived.Shelf.RegionOpen
import Derived.TacticsInMore
import Derived.WalkKit
import Derived.Test.YtflmfbcapccdeaaPAx0
import Derived.Test.YtflmfbcapccdeaaPAx4
import Derived.Test.YtflmfbcapccdeaaPAx17
namespace Go.Proofs.Ytflmfbcapccdeaa.PA
open Go.RowKit Go.Proofs.YtflmfbcapccdeaaW.PrintWords Go.Proofs.YtflmfbcapccdeaaW.PrintLast Go.Proofs.YtflmfbcapccdeaaW.PrintMore
attribute [local go_sem] max2_int min2_int max_two min_two max_three min_three max_four min_four   -- for this text's walks alone
set_option linter.unusedVariables false
set_option linter.unusedSimpArgs false

/-! ### sum_Sum: function 43 (typed by hand) -/
section
open Go.Shelf
attribute [local go_sem] Oper.semAt_some
def wstep (s : List Int × Bool × Int) (c : Int) : List Int × Bool × Int := if s.2.1 = true then (s.1 ++ [s.2.2 * 256 + c], false, s.2.2) else (s.1, true, c)
def wfold (bs : List Int) : List Int × Bool × Int := bs.foldl wstep ([], false, 0)
def wall (bs : List Int) : List Int := if (wfold bs).2.1 = true then (wfold bs).1 ++ [(wfold bs).2.2 * 256] else (wfold bs).1
theorem wfold_snoc (bs : List Int) (c : Int) : wfold (bs ++ [c]) = wstep (wfold bs) c := by simp [wfold]

theorem wfold_len_hi (bs : List Int) : ∀ s : List Int × Bool × Int, (bs.foldl wstep s).1.length ≤ s.1.length + bs.length ∧ ((0 ≤ s.2.2 ∧ s.2.2 ≤ 255) → (∀ c ∈ bs, 0 ≤ c ∧ c ≤ 255) → 0 ≤ (bs.foldl wstep s).2.2 ∧ (bs.foldl wstep s).2.2 ≤ 255) := by
 induction bs with
 | nil => intro s; simp
 | cons c bs ih =>
  intro s
  have h := ih (wstep s c)
  rw [List.foldl_cons]
  have hs : (wstep s c).1.length ≤ s.1.length + 1 := by unfold wstep; split <;> simp
  refine ⟨by rw [List.length_cons]; omega, fun h0 hc => h.2 ?_ (fun x hx => hc x (List.mem_cons_of_mem _ hx))⟩
  have := hc c List.mem_cons_self
  unfold wstep; split
  ·exact h0
  ·exact this
theorem wfold_len (bs : List Int) : (wfold bs).1.length ≤ bs.length := by have := (wfold_len_hi bs ([], false, 0)).1; simpa [wfold] using this
theorem wfold_hi (bs : List Int) (h : ∀ c ∈ bs, 0 ≤ c ∧ c ≤ 255) : 0 ≤ (wfold bs).2.2 ∧ (wfold bs).2.2 ≤ 255 := (wfold_len_hi bs ([], false, 0)).2 ⟨by simp, by simp⟩ h
theorem wrap_u16 (n : Int) : IntKind.u16.wrap n = n % 65536 := by simp [IntKind.wrap, IntKind.bits, IntKind.signed]
theorem u16_or {h c : Int} (h0 : 0 ≤ h) (h1 : h ≤ 255) (c0 : 0 ≤ c) (c1 : c ≤ 255) : bits .or .u16 (h * 256) c = h * 256 + c :=
 bits_join .u16 16 (by decide) (fun n h0 h1 => by rw [wrap_u16]; omega) 8 (h * 256) c (by omega) (by omega) (by omega) (by omega) (by omega) (by omega)
set_option maxRecDepth 100000 in
set_option maxHeartbeats 2000000 in
theorem words1_in (n : Nat) (hn : 1 ≤ n) (l Bs n₀ : Nat) (A0 : Option Addr) (c0 : Nat) (l0 : List (List Int)) (w0 : World) (hn0 : w0.heap.size = n₀) (J Jx : List Int → World → Prop)
  (hl : ∀ p ∈ l0, ∀ c ∈ p, 0 ≤ c ∧ c ≤ 255)
  (hY : ∀ pre x W, J pre W → pre.length < l0.flatten.length + 1 → YieldAt Fence.wide (n - 1) Try.prog l #[.int .u16 x] W fun e W' =>
   (e = .returned (.bool true) ∧ J (pre ++ [x]) W' ∧ Below n₀ W W') ∨ (e = .returned (.bool false) ∧ Jx (pre ++ [x]) W'))
  (W : World) (hBs : W.cell? ⟨Bs, 0, none⟩ = some (.slice A0 l0.length c0)) (hC : Kd.C (Kd.slice 5 (Kd.int .u8)) w0 A0 l0.length l0) (hB : Below n₀ w0 W) (h0 : J [] W) :
  CallsIn Fence.wide n Try.prog 92 #[.func (.yield l) #[] #[], .pointer (some ⟨Bs, 0, none⟩)] W fun e W' => (∃ v, e = .returned v) ∧
   ((∃ ys, ys = wall l0.flatten ∧ J ys W') ∨ (∃ pre, True ∧ Jx pre W')) := by
 refine callsIn_of_wp Try.func92 rfl trivial ?_ rfl
 simp only [Try.ntmps92, List.size_toArray, List.length_cons, List.length_nil, Nat.reduceAdd, Nat.reduceSub, Array.replicate_succ, Array.replicate_zero, List.push_toArray, List.append_toArray, List.nil_append, List.cons_append]
 have hm : l0.length ≤ 9223372036854775807 := hC.2.1
 gi_wp2
 gi_loopw [11, 3, 4] (fun i hi hf wr => ∃ k : Nat, k ≤ l0.length ∧ i = .int .i64 k ∧ hi = .int .u8 (wfold (l0.take k).flatten).2.2 ∧ hf = .bool (wfold (l0.take k).flatten).2.1 ∧ J (wfold (l0.take k).flatten).1 wr ∧ Below n₀ W wr)
  (fun i _ _ _ => l0.length - (intOf i).toNat)
 case atStart => exact ⟨0, Nat.zero_le _, rfl, rfl, rfl, h0, Below.refl _ _⟩
 case round =>
  obtain ⟨k, hk, rfl, rfl, rfl, hJs, hnx⟩ := hrel
  by_cases hlt : k < l0.length
  ·obtain ⟨ad, cs, rfl, _, hK, hcell⟩ := Kd.C_get hC ([] : List Int) (k : Int) (by omega) (by omega)
   obtain ⟨A1, c1, rfl, hle1, hC1⟩ := hK
   have hk0 : w0.cell? (ad.add k) = some (.slice A1 (l0.getD k []).length c1) := by have := hcell 0 _ rfl; simpa [Kd.slice] using this
   have hkr : wr.cell? (ad.add k) = some (.slice A1 (l0.getD k []).length c1) := ((hB.trans hnx).cell (by rw [← hn0]; exact World.block_lt_of_cell? w0 _ hk0)).trans hk0
   obtain ⟨p, hp⟩ : ∃ p, l0.getD k [] = p := ⟨_, rfl⟩
   obtain ⟨bs, hbs⟩ : ∃ bs, (l0.take k).flatten = bs := ⟨_, rfl⟩
   have hpl : ∀ c ∈ p, 0 ≤ c ∧ c ≤ 255 := hl p (by rw [← hp, List.getD_eq_getElem?_getD, List.getElem?_eq_getElem hlt]; exact List.getElem_mem _)
   have hnext : (l0.take (k + 1)).flatten = bs ++ p := by
    rw [List.take_succ_eq_append_getElem hlt, List.flatten_append, hbs, ← hp, List.getD_eq_getElem?_getD, List.getElem?_eq_getElem hlt]; simp
   have hfin : ∀ q, (bs ++ p.take q).length ≤ l0.flatten.length := fun q => by
    have h1 : (l0.take (k + 1)).flatten.length ≤ l0.flatten.length := by
     conv => rhs; rw [← List.take_append_drop (k + 1) l0, List.flatten_append, List.length_append]
     omega
    rw [hnext] at h1
    simp only [List.length_append, List.length_take] at *
    omega
   simp only [Int.toNat_natCast] at hC1 hle1
   rw [hp] at hC1 hkr hle1
   rw [hbs] at hJs ⊢
   have HX := Lib.hid hp; clear hp
   have HY := Lib.hid hbs; clear hbs
   have HZ := Lib.hid hnext; clear hnext
   have HF := Lib.hid hfin; clear hfin
   have HL := Lib.hid hpl; clear hpl
   have hpm : p.length ≤ 9223372036854775807 := hC1.2.1
   have HC := Lib.hid hC1; clear hC1
   have HN := Lib.hid hl; clear hl
   clear hk0 hcell
   gi_wp2
   gi_loopw [17, 3, 4] (fun i hi hf wr2 => ∃ q : Nat, q ≤ p.length ∧ i = .int .i64 q ∧ hi = .int .u8 (wfold (bs ++ p.take q)).2.2 ∧ hf = .bool (wfold (bs ++ p.take q)).2.1 ∧ J (wfold (bs ++ p.take q)).1 wr2 ∧ Below n₀ W wr2)
    (fun i _ _ _ => p.length - (intOf i).toNat)
   case atStart => exact ⟨0, Nat.zero_le _, rfl, by simp, by simp, by simpa using hJs, hnx⟩
   case round =>
    obtain ⟨q, hq, rfl, rfl, rfl, hJ2, hn2⟩ := hrel
    by_cases hlt2 : q < p.length
    ·have hg : p.getD q 0 = p[q] := by rw [List.getD_eq_getElem?_getD, List.getElem?_eq_getElem hlt2]; rfl
     obtain ⟨ad1, cs1, rfl, _, hK1, hcell1⟩ := Kd.C_get HC.out (0 : Int) (q : Int) (by omega) (by omega)
     obtain rfl : cs1 = [.int .u8 (p.getD q 0)] := hK1
     have hk1 : w0.cell? (ad1.add q) = some (.int .u8 (p.getD q 0)) := by have := hcell1 0 _ rfl; simpa [Kd.int, Kd.scalar] using this
     have hkr1 : wr.cell? (ad1.add q) = some (.int .u8 (p.getD q 0)) := ((hB.trans hn2).cell (by rw [← hn0]; exact World.block_lt_of_cell? w0 _ hk1)).trans hk1
     obtain ⟨c, hc⟩ : ∃ c, p.getD q 0 = c := ⟨_, rfl⟩
     have hcr := HL.out c (by rw [← hc, hg]; exact List.getElem_mem _)
     have hsn : bs ++ p.take (q + 1) = (bs ++ p.take q) ++ [c] := by rw [List.take_succ_eq_append_getElem hlt2, ← hc, hg]; simp
     have hf := HF.out q
     rw [hc] at hkr1
     clear hcell1 hk1 hg
     have HG := Lib.hid hc; clear hc
     obtain ⟨⟨ws, b, h⟩, hst⟩ : ∃ s, wfold (bs ++ p.take q) = s := ⟨_, rfl⟩
     have hs1 : wfold (bs ++ p.take (q + 1)) = wstep (ws, b, h) c := by rw [hsn, wfold_snoc, hst]
     rw [hst] at hJ2 ⊢
     have HS := Lib.hid hst; clear hst
     have HS1 := Lib.hid hs1; clear hs1 hsn
     have HFF := Lib.hid hf; clear hf
     cases b with
     | false =>
      gi_wp2
      go_roundw
      case rel => exact ⟨q + 1, by omega, by simp, by rw [HS1.out]; rfl, by rw [HS1.out]; rfl, by rw [HS1.out]; exact hJ2, hn2⟩
      case measure => simp [intOf]; omega
     | true =>
      have hlen : ws.length < l0.flatten.length + 1 := by
       have h1 := wfold_len (bs ++ p.take q); rw [HS.out] at h1
       exact Nat.lt_succ_of_le (Nat.le_trans h1 HFF.out)
      have hh : 0 ≤ h ∧ h ≤ 255 := by
       have h1 := wfold_hi (bs ++ p.take q) (by
        intro c' hc'
        obtain ⟨p', hp', hcp⟩ := List.mem_flatten.1 (show c' ∈ (l0.take (k + 1)).flatten by
         rw [HZ.out]; rcases List.mem_append.1 hc' with h | h
         ·exact List.mem_append_left _ h
         ·exact List.mem_append_right _ (List.mem_of_mem_take h))
        exact HN.out p' (List.mem_of_mem_take hp') c' hcp)
       rw [HS.out] at h1; exact h1
      obtain ⟨fn, tmps, assign, body, hy, hR⟩ := hY _ (h * 256 + c) wr hJ2 hlen
      have hor := u16_or hh.1 hh.2 hcr.1 hcr.2
      gi_wp2
      refine hR.mono ?_
      rintro e W3 (⟨rfl, hJ3, hk3⟩ | ⟨rfl, hJx3⟩)
      ·gi_wp2
       go_roundw
       case rel => exact ⟨q + 1, by omega, by simp, by rw [HS1.out]; rfl, by rw [HS1.out]; rfl, by rw [HS1.out]; exact hJ3, hn2.trans hk3⟩
       case measure => simp [intOf]; omega
      ·gi_wp2
       refine bodyPost_ret (results_none rfl _ _ _) rfl ?_
       exact ⟨⟨_, rfl⟩, .inr ⟨_, trivial, hJx3⟩⟩
    ·obtain rfl : q = p.length := by omega
     rw [List.take_length] at hJ2 ⊢
     gi_wp2
     go_roundw
     case rel => exact ⟨k + 1, by omega, by simp, by rw [HZ.out], by rw [HZ.out], by rw [HZ.out]; exact hJ2, hn2⟩
     case measure => simp [intOf]; omega
  ·obtain rfl : k = l0.length := by omega
   rw [List.take_length] at hJs ⊢
   obtain ⟨⟨ws, b, h⟩, hst⟩ : ∃ s, wfold l0.flatten = s := ⟨_, rfl⟩
   rw [hst] at hJs ⊢
   have HS := Lib.hid hst; clear hst
   cases b with
   | false =>
    gi_wp2
    go_end0
    exact ⟨⟨_, rfl⟩, .inl (by rw [show wall l0.flatten = ws by simp [wall, HS.out]]; exact hJs)⟩
   | true =>
    have hlen : ws.length < l0.flatten.length + 1 := by have := wfold_len l0.flatten; rw [HS.out] at this; exact Nat.lt_succ_of_le this
    have hh : 0 ≤ h ∧ h ≤ 255 := by
     have h1 := wfold_hi l0.flatten (by intro c hc; obtain ⟨p, hp, hcp⟩ := List.mem_flatten.1 hc; exact hl p hp c hcp); rw [HS.out] at h1; exact h1
    have hw : wall l0.flatten = ws ++ [h * 256] := by simp only [wall, HS.out, if_true]
    have HW := Lib.hid hw; clear hw
    obtain ⟨fn, tmps, assign, body, hy, hR⟩ := hY _ (h * 256) wr hJs hlen
    gi_wp2
    refine hR.mono ?_
    rintro e W3 (⟨rfl, hJ3, hk3⟩ | ⟨rfl, hJx3⟩)
    ·gi_wp2
     go_end0
     exact ⟨⟨_, rfl⟩, .inl ⟨_, rfl, by rw [HW.out]; exact hJ3⟩⟩
    ·gi_wp2
     go_end0
     exact ⟨⟨_, rfl⟩, .inr ⟨_, trivial, hJx3⟩⟩

theorem words1_stops (n : Nat) (hn : 1 ≤ n) (Bs n₀ : Nat) (A0 : Option Addr) (c0 : Nat) (l0 : List (List Int)) (w0 w : World) (hn0 : w0.heap.size = n₀) (hl : ∀ p ∈ l0, ∀ c ∈ p, 0 ≤ c ∧ c ≤ 255)
  (hBl : Bs < w.heap.size) (hBs : w.cell? ⟨Bs, 0, none⟩ = some (.slice A0 l0.length c0)) (hC : Kd.C (Kd.slice 5 (Kd.int .u8)) w0 A0 l0.length l0) (hB : Below n₀ w0 w) :
  SeqStopsK Fence.wide n Try.prog 92 #[.pointer (some ⟨Bs, 0, none⟩)] (fun x : Int => #[Value.int .u16 x]) (Below n₀) (fun ys => ys = wall l0.flatten) (fun _ => True) (l0.flatten.length + 1) w :=
 fun l J Jx W hW _ _ hY h0 => words1_in n hn l Bs n₀ A0 c0 l0 w0 hn0 J Jx hl hY W ((hW.cell (p := ⟨Bs, 0, none⟩) hBl).trans hBs) hC (hB.trans (hW.mono (by have := hB.size; omega))) h0

theorem words_any (v : Value) (w : World) (hv : v.oneCell' = true) : Calls Try.prog 64 #[v] w fun e w' => e = .returned (.func (.func 92) #[] #[.pointer (some ⟨w.heap.size, 0, none⟩)]) ∧ w.alloc (.cells #[v] 113) = w' := by
 go_enter Try.func64, Try.ntmps64
 go_wp2
 go_ret
 exact ⟨rfl, rfl⟩

def bytesIn (l : List (List Int)) : Bool := l.all fun p => p.all fun c => decide (0 ≤ c) && decide (c ≤ 255)
theorem bytesIn_of {l : List (List Int)} (h : bytesIn l = true) : ∀ p ∈ l, ∀ c ∈ p, 0 ≤ c ∧ c ≤ 255 := by
 intro p hp c hc
 have := List.all_eq_true.1 (List.all_eq_true.1 h p hp) c hc
 simpa using this
def sum_Sum.g (l0 : List (List Int)) : Option Int := (wall l0.flatten).foldlM (fun n x => sum_Join.f n x) 0
def sum_Sum.f (l0 : List (List Int)) : Option Int := if bytesIn l0 = true then (sum_Sum.g l0).bind fun n => some (bits .xor .u16 IntKind.u16.max n) else none
set_option maxRecDepth 100000 in
set_option maxHeartbeats 2000000 in
theorem sum_Sum.calls (A0 : Option Addr) (c0 : Nat) (l0 : List (List Int)) (r : Int) (w : World) (hr0 : Kd.C (Kd.slice 5 (Kd.int .u8)) w A0 l0.length l0) (hc0 : l0.length ≤ c0) (h : sum_Sum.f l0 = some r) :
  Calls Try.prog 43 #[.slice A0 l0.length c0] w fun e w' => e = .returned (.int .u16 r) ∧ Below w.heap.size w w' := by
 unfold sum_Sum.f at h
 have hb : bytesIn l0 = true := by
  by_cases hb : bytesIn l0 = true
  ·exact hb
  ·rw [if_neg hb] at h; cases h
 rw [if_pos hb] at h
 obtain ⟨m, hm, hr⟩ := Option.bind_eq_some_iff.1 h
 replace hr := Option.some.inj hr
 have hl := Lib.hid (bytesIn_of hb)
 clear h hb
 have HG := Lib.hid hm; clear hm
 have HR := Lib.hid hr; clear hr
 have HC := Lib.hid hr0; clear hr0
 refine callsIn_wide (n := 9).1 ?_
 refine callsIn_of_wp_marks Try.func43 rfl trivial ?_ rfl
 simp only [Try.ntmps43, List.size_toArray, List.length_cons, List.length_nil, Nat.reduceAdd, Nat.reduceSub, Array.replicate_succ, Array.replicate_zero, List.push_toArray, List.append_toArray, List.nil_append, List.cons_append]
 gi_wp2_with (refine ⟨trivial, ?_⟩; gi_at_call 64; refine (callsIn_wide.2 (words_any _ _ rfl)).mono ?_; rintro e w' ⟨rfl, rfl⟩)
 have hs := rf_new w (.int .u16 0) 82
 have hb := rf_new (w.alloc (.cells #[.int .u16 0] 82)) (.slice A0 l0.length c0) 113
 rw [World.size_alloc] at hb
 have hB0 : Below w.heap.size w ((w.alloc (.cells #[.int .u16 0] 82)).alloc (.cells #[.slice A0 l0.length c0] 113)) := ((Below.refl _ w).alloc (Nat.le_refl _) _).alloc (by simp) _
 refine wpIn_rangeFunc_ownF rfl (by omega) (gf := 92) (lb := #[.pointer (some ⟨w.heap.size + 1, 0, none⟩)]) rfl trivial (enters_of Try.func92 (by kernel_rfl) rfl)
  (words1_stops 8 (by omega) (w.heap.size + 1) w.heap.size A0 c0 l0 w _ rfl hl.out (by simp) hb.1 HC.out hB0) belowK_t (belowK_b (by simp; omega)) (Below.refl _ _) (fun _ => rfl)
  (fun pre W => (∃ x, pre.foldlM (fun n x => sum_Join.f n x) 0 = some x ∧ W.cell? ⟨w.heap.size, 0, none⟩ = some (.int .u16 x) ∧ W.frozen? ⟨w.heap.size, 0, none⟩ = false) ∧ Below w.heap.size w W)
  (fun _ _ _ => False)
  (OwnFrom.and (Own.from (fun s A B row ⟨x, h0, h1, h2⟩ hg hr => ⟨x, h0, cell_kept h1 hg hr, (frozen_kept h1 hg hr).trans h2⟩) _) (ownFrom_below (Nat.le_refl _) (by simp; omega)))
  (fun _ _ _ _ _ hs _ _ => hs)
  ⟨⟨0, rfl, rf_cell _ hs.1, rf_frozen _ hs.1 hs.2⟩, hB0⟩
  (fun x => { tmps := #[.slice A0 l0.length c0, undef, .int .u16 0, .pointer (some ⟨w.heap.size, 0, none⟩), .int .u16 x, .slice A0 l0.length c0, .func (.func 92) #[] #[.pointer (some ⟨w.heap.size + 1, 0, none⟩)], .int .u16 x, undef, undef, undef, undef, undef], defers := [] }) ?assign ?body ?done ?stop
 case assign =>
  intro l x W K hK
  gi_wp2
  exact hK
 case body =>
  rintro l pre x W ⟨⟨n, hn, hc, hf⟩, hB⟩ _
  obtain ⟨m', hj⟩ : ∃ m', sum_Join.f n x = some m' := ⟨_, rfl⟩
  have HJ := Lib.hid hj; clear hj
  have HN := Lib.hid hn; clear hn
  gi_wp2_with (refine ⟨trivial, ?_⟩; gi_at_call 65; refine (CallsIn.inRound l (callsIn_wide.2 (sum_Join.calls _ _ _ _ HJ.out))).mono ?_; rintro e w' ⟨rfl, ⟨nd, rfl⟩⟩)
  refine ⟨(rf_keepsN W nd).trans (KeepsOthers.setCell _ _ _), (pw_below_drewN (Below.refl _ W) nd).setCell (p := ⟨w.heap.size, 0, none⟩) (Nat.le_refl _) _, ⟨m', ?_, ?_, ?_⟩, (pw_below_drewN hB nd).setCell (p := ⟨w.heap.size, 0, none⟩) (Nat.le_refl _) _⟩
  ·rw [List.foldlM_append, HN.out]
   show (do let y ← sum_Join.f n x; pure y) = some m'
   rw [HJ.out]
  ·exact World.cell?_setCell_same' _ _ _ (by rw [show (W.drewN nd).cell? ⟨w.heap.size, 0, none⟩ = W.cell? ⟨w.heap.size, 0, none⟩ from rfl, hc]; rfl)
  ·rw [World.frozen?_setCell]; exact hf
 case done =>
  rintro D ys W hD rfl ⟨⟨n, hn, hc, hf⟩, hB⟩ hK
  have HN := Lib.hid hn; clear hn
  gi_wp2
  refine ⟨by simp, .inl ⟨_, _, rfl, run_takeDeferred hK, ?_⟩⟩
  have e : bits .xor .u16 IntKind.u16.max n = r := by
   have h1 : some n = some m := HN.out.symm.trans HG.out
   rw [Option.some.inj h1]; exact HR.out
  exact ⟨_, results_tmp rfl _ _ _, by rw [← e]; rfl, hB.trans (belowK_b (w := w) (Nat.le_refl _) W D _ _ (by simp at hD; omega) hK rfl rfl)⟩
 case stop =>
  rintro D c pre W _ _ h _
  exact h.elim
end

end Go.Proofs.Ytflmfbcapccdeaa.PA

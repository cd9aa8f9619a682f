/- Which bytes a log carries, if each offset has one, is told as the document tells it: every log of at most 50 of at most 300 bytes each. -/
import Derived.Test.YtflmfbcapccdeaaPAx22
import Derived.LoopN
import Derived.Lib.Hide
import Derived.WalkKit
import Derived.Deep.QuietTactic
import Derived.Deep.Cut
import Derived.Deep.CutBlock
import Derived.Test.YtflmfbcapccdeaaJudgeBytesW
import Derived.Test.YtflmfbcapccdeaaWireRefGet
import Derived.IntWalk
import Derived.Test.YtflmfbcapccdeaaPAx21
import Derived.Test.YtflmfbcapccdeaaPAx14
import Derived.Test.YtflmfbcapccdeaaWireSum
import Derived.Test.YtflmfbcapccdeaaWireLaw
import Derived.Test.YtflmfbcapccdeaaPAx23
set_option linter.unusedVariables false
set_option linter.unusedSimpArgs false
namespace Go.Proofs.Ytflmfbcapccdeaa.JudgePut
open Go.RowKit Go.Proofs.Ytflmfbcapccdeaa.PA Go.Proofs.YtflmfbcapccdeaaW.PrintWords Go.Proofs.YtflmfbcapccdeaaW.PrintLast Go.Proofs.YtflmfbcapccdeaaW.PrintMore
def Hold (p : Prop) : Prop := p
theorem hold_of {p : Prop} (h : Hold p) : p := h
abbrev P := S59
/-- Element by element: what the cells say. -/
def Two (w : World) : List P → List (List Value) → Prop
  | [], [] => True
  | x :: xs, c :: cs => k59.K w x c ∧ Two w xs cs
  | _, _ => False
theorem Two.len {w : World} : ∀ {xs : List P} {cs : List (List Value)}, Two w xs cs → xs.length = cs.length
  | [], [], _ => rfl
  | _ :: _, _ :: _, h => by rw [List.length_cons, List.length_cons, Two.len h.2]
  | [], _ :: _, h => h.elim
  | _ :: _, [], h => h.elim
theorem Two.app {w : World} : ∀ {xs : List P} {cs : List (List Value)} {ys : List P} {ds : List (List Value)}, Two w xs cs → Two w ys ds → Two w (xs ++ ys) (cs ++ ds)
  | [], [], _, _, _, h => h
  | _ :: _, _ :: _, _, _, h, h2 => ⟨h.1, Two.app h.2 h2⟩
  | [], _ :: _, _, _, h, _ => h.elim
  | _ :: _, [], _, _, h, _ => h.elim
theorem Two.take {w : World} : ∀ {xs : List P} {cs : List (List Value)} (n : Nat), Two w xs cs → Two w (xs.take n) (cs.take n)
  | _, _, 0, _ => by simp [Two]
  | [], [], n + 1, _ => trivial
  | _ :: _, _ :: _, n + 1, h => ⟨h.1, Two.take n h.2⟩
  | [], _ :: _, _, h => h.elim
  | _ :: _, [], _, h => h.elim
theorem Two.drop {w : World} : ∀ {xs : List P} {cs : List (List Value)} (n : Nat), Two w xs cs → Two w (xs.drop n) (cs.drop n)
  | _, _, 0, h => h
  | [], [], n + 1, _ => trivial
  | _ :: _, _ :: _, n + 1, h => Two.drop n h.2
  | [], _ :: _, _, h => h.elim
  | _ :: _, [], _, h => h.elim
theorem Two.get {w : World} : ∀ {xs : List P} {cs : List (List Value)} (n : Nat) {x : P} {c : List Value}, Two w xs cs → xs[n]? = some x → cs[n]? = some c → k59.K w x c
  | x :: _, c :: _, 0, _, _, h, h1, h2 => by
    simp only [List.getElem?_cons_zero, Option.some.injEq] at h1 h2
    subst h1 h2
    exact h.1
  | _ :: _, _ :: _, n + 1, _, _, h, h1, h2 => Two.get n h.2 (by simpa using h1) (by simpa using h2)
  | [], _, _, _, _, _, h1, _ => by simp at h1
  | _ :: _, [], _, _, _, h, _, _ => h.elim
theorem Two.below {w w1 : World} (hb : Below w.heap.size w w1) : ∀ {xs : List P} {cs : List (List Value)}, Two w xs cs → Two w1 xs cs
  | [], [], _ => trivial
  | _ :: _, _ :: _, h => ⟨k59.K_below hb h.1, Two.below hb h.2⟩
  | [], _ :: _, h => h.elim
  | _ :: _, [], h => h.elim
theorem two_mk {w : World} : ∀ (xs : List P) (f : Nat → List Value), (∀ j p, xs[j]? = some p → k59.K w p (f j)) → Two w xs ((List.range xs.length).map f)
  | [], _, _ => trivial
  | x :: xs, f, h => by
    rw [List.length_cons, List.range_succ_eq_map, List.map_cons, List.map_map]
    exact ⟨h 0 x rfl, two_mk xs (f ∘ Nat.succ) (fun j p hj => h (j + 1) p (by simpa using hj))⟩
open Classical in
/-- A row that is read, as cells. -/
theorem raw_of_C {w : World} {A : Option Addr} {n : Nat} {xs : List P} (h : k59.C w A n xs) : ∃ rr, (Kd.raw 2).C w A n rr ∧ Two w xs rr := by
  rcases Nat.eq_zero_or_pos n with h0 | h0
  · subst h0
    obtain rfl : xs = [] := List.eq_nil_of_length_eq_zero h.1
    exact ⟨[], ⟨rfl, by simp, fun h => absurd h (Nat.lt_irrefl 0)⟩, trivial⟩
  · obtain ⟨hl, hm, hc⟩ := h
    obtain ⟨ad, hA, hc⟩ := hc h0
    have hf : ∀ j : Nat, ∃ c : List Value, ∀ p, xs[j]? = some p → c.length = 2 ∧ k59.K w p c ∧ ∀ i u, c[i]? = some u → w.cell? (ad.add (j * 2 + i)) = some u := by
      intro j
      cases hj : xs[j]? with
      | none => exact ⟨[], fun p hp => by cases hp⟩
      | some p =>
        obtain ⟨c, h1, h2, h3⟩ := hc j p hj
        exact ⟨c, fun q hq => by cases hq; exact ⟨h1, h2, h3⟩⟩
    refine ⟨(List.range xs.length).map fun j => (hf j).choose, ⟨by simpa using hl, hm, fun _ => ⟨ad, hA, fun j p hj => ?_⟩⟩, two_mk xs _ (fun j p hj => ((hf j).choose_spec p hj).2.1)⟩
    obtain ⟨hjl, hp⟩ := List.getElem?_eq_some_iff.1 hj
    rw [List.length_map, List.length_range] at hjl
    have hp2 : (hf j).choose = p := by simpa using hp
    obtain ⟨h1, h2, h3⟩ := (hf j).choose_spec xs[j] (List.getElem?_eq_getElem hjl)
    rw [hp2] at h1 h2 h3
    exact ⟨p, h1, ⟨rfl, h1, k59.K_one h2⟩, h3⟩
theorem C_of_raw {w : World} {A : Option Addr} {n : Nat} {xs : List P} {rr : List (List Value)} (h : (Kd.raw 2).C w A n rr) (ht : Two w xs rr) : k59.C w A n xs := by
  obtain ⟨hl, hm, hc⟩ := h
  refine ⟨ht.len.trans hl, hm, fun h0 => ?_⟩
  obtain ⟨ad, hA, hc⟩ := hc h0
  refine ⟨ad, hA, fun j p hj => ?_⟩
  have hjl : j < rr.length := by have := ht.len; have := (List.getElem?_eq_some_iff.1 hj).1; omega
  obtain ⟨c, h1, h2, h3⟩ := hc j _ (List.getElem?_eq_getElem hjl)
  refine ⟨c, h1, ?_, h3⟩
  have h4 := ht.get j hj (List.getElem?_eq_getElem hjl)
  rw [h2.1]; exact h4
theorem getD_len {l : List P} (hp : ∀ p ∈ l, 0 ≤ p.f0 ∧ p.f0 ≤ 4503599627370496 ∧ p.f1.length ≤ 10000000) (i : Nat) : (l.getD i z59).f1.length ≤ 10000000 := by
  rw [List.getD_eq_getElem?_getD]
  cases h : l[i]? with
  | none => exact Nat.zero_le _
  | some p => exact (hp p (List.mem_of_getElem? h)).2.2
/-- How many begin no later. -/
def kc (x : Int) : List P → Nat
  | [] => 0
  | p :: l => if p.f0 ≤ x then kc x l + 1 else 0
theorem kc_le (x : Int) : ∀ l : List P, kc x l ≤ l.length
  | [] => Nat.le_refl _
  | p :: l => by rw [kc, List.length_cons]; have := kc_le x l; split <;> omega
theorem kc_at (x : Int) (l : List P) (k : Nat) (h : k < l.length) : kc x (l.drop k) = if l[k].f0 ≤ x then kc x (l.drop (k + 1)) + 1 else 0 := by
  rw [List.drop_eq_getElem_cons h, kc]
def lfb (l : List P) (x : Int) : Bool := decide (0 < kc x l) && decide ((l.getD (kc x l - 1) z59).f0 + ((l.getD (kc x l - 1) z59).f1.length : Int) = x)
def rtb (l : List P) (x : Int) : Bool := decide (kc x l < l.length) && decide ((l.getD (kc x l) z59).f0 = x + 1)
def pre0 (l : List P) (x : Int) : Nat := if lfb l x = true then kc x l - 1 else kc x l
def mid0 (l : List P) (x b : Int) : P := if lfb l x = true then ⟨(l.getD (kc x l - 1) z59).f0, (l.getD (kc x l - 1) z59).f1 ++ [b]⟩ else ⟨x, [b]⟩
def mid1 (l : List P) (x b : Int) : P := if rtb l x = true then ⟨(mid0 l x b).f0, (mid0 l x b).f1 ++ (l.getD (kc x l) z59).f1⟩ else mid0 l x b
def suf0 (l : List P) (x : Int) : Nat := if rtb l x = true then kc x l + 1 else kc x l
def putf (l : List P) (x b : Int) : List P := l.take (pre0 l x) ++ [mid1 l x b] ++ l.drop (suf0 l x)
/-- A block of one byte, made. -/
theorem jp_new (W : World) (base : Nat) (hb : base ≤ W.heap.size) (c : Int) : Kd.R (Kd.int .u8) 5 (W.alloc (.cells #[.int .u8 c] 5)) base (fun k => k = W.heap.size) (.slice (some ⟨W.heap.size, 0, none⟩) 1 1) [c] := by
  refine Kd.R_of_own (enc := Value.int .u8) (xs := [c]) ?_ (fun k hk => ?_)
  · exact World.ownsRow_lit W #[.int .u8 c] 1 hb (by decide) rfl
  · have : W.heap.size = k := by simpa [Value.ownBlock] using hk
    exact this.symm
theorem jp_nil (W : World) (base : Nat) (hb : base ≤ W.heap.size) : Kd.R (Kd.int .u8) 5 (W.alloc (.cells #[] 5)) base (fun k => k = W.heap.size) (.slice (some ⟨W.heap.size, 0, none⟩) 0 0) [] := by
  refine Kd.R_of_own (enc := Value.int .u8) (xs := []) ?_ (fun k hk => ?_)
  · exact World.ownsRow_lit W #[] 0 hb (by decide) rfl
  · have : W.heap.size = k := by simpa [Value.ownBlock] using hk
    exact this.symm
theorem jp_nil1 (W : World) (o : Obj) (base : Nat) (hb : base ≤ W.heap.size) : Kd.R (Kd.int .u8) 5 ((W.alloc o).alloc (.cells #[] 5)) base (fun k => k = W.heap.size + 1) (.slice (some ⟨W.heap.size + 1, 0, none⟩) 0 0) [] := by
  have h := jp_nil (W.alloc o) base (by rw [World.size_alloc]; exact Nat.le_succ_of_le hb)
  rw [World.size_alloc] at h
  exact h
theorem jp_new1 (W : World) (o o' : Obj) : ((W.alloc o).alloc o').heap[W.heap.size + 1]? = some o' := by
  have h := blk_new (W.alloc o) o'
  rw [World.size_alloc] at h
  exact h
/-- An element written whole. -/
theorem jp_set {W : World} {g n cap base : Nat} {rows : List (List Value)} (h : (Kd.raw 2).R 59 W base (fun _ => True) (.slice (some ⟨g, 0, none⟩) n cap) rows) (i : Nat) (hi : i < n) {u v : Value} (hu : u.oneCell' = true) (hv : v.oneCell' = true) :
    (Kd.raw 2).R 59 ((W.setCell ⟨g, i * 2, none⟩ u).setCell ⟨g, i * 2 + 1, none⟩ v) base (fun _ => True) (.slice (some ⟨g, 0, none⟩) n cap) (rows.set i [u, v]) ∧ W.grownBy ((W.setCell ⟨g, i * 2, none⟩ u).setCell ⟨g, i * 2 + 1, none⟩ v) (some g) := by
  obtain ⟨c, hcl, hM, hcc, hfr⟩ := Kd.R_elem h [] (i : Int) (by omega) (by omega)
  have hcl2 : c.length = 2 := hcl
  have := Kd.R_seg h (i : Int) (by omega) (by omega) (c := c) (seg := [u, v]) (j := 0) hcl hcc (show 0 + 2 ≤ 2 from by decide) (x' := [u, v]) (okp := fun _ => False)
    ⟨by rw [List.take_zero, List.nil_append, List.drop_of_length_le (by simp only [List.length_cons, List.length_nil]; omega), List.append_nil], by simp [hcl2], fun a ha => by
      have ha2 : a ∈ [u, v] := by rw [List.take_zero, List.nil_append, List.drop_of_length_le (by simp only [List.length_cons, List.length_nil]; omega), List.append_nil] at ha; exact ha
      rcases List.mem_cons.1 ha2 with rfl | ha2
      · exact hu
      · rw [List.mem_singleton] at ha2; subst ha2; exact hv⟩ (fun _ hk => hk.elim)
  rw [Int.toNat_natCast] at this
  exact this
/-- The last element's cells. -/
theorem jp_last {W : World} {g n cap base : Nat} {rows : List (List Value)} {y0 y1 : Value} (h : (Kd.raw 2).R 59 W base (fun _ => True) (.slice (some ⟨g, 0, none⟩) (n + 1) cap) (rows ++ [[y0, y1]])) (hn : rows.length = n) :
    W.cell? ⟨g, n * 2, none⟩ = some y0 ∧ W.cell? ⟨g, n * 2 + 1, none⟩ = some y1 ∧ W.frozen? ⟨g, n * 2, none⟩ = false ∧ W.frozen? ⟨g, n * 2 + 1, none⟩ = false := by
  obtain ⟨c, hcl, hM, hcc, hfr⟩ := Kd.R_elem h [] (n : Int) (by omega) (by omega)
  have h1 : ((rows ++ [[y0, y1]]).getD (n : Int).toNat []) = [y0, y1] := by rw [Int.toNat_natCast, List.getD_eq_getElem?_getD, List.getElem?_append_right (by omega), hn, Nat.sub_self]; rfl
  have h2 := hM.1
  rw [h1] at h2
  subst h2
  exact ⟨hcc 0 _ rfl, hcc 1 _ rfl, hfr 0, hfr 1⟩
theorem set_last {α : Type} {rows : List α} {n : Nat} (y z : α) (hn : rows.length = n) : (rows ++ [y]).set n z = rows ++ [z] := by
  rw [List.set_append_right _ _ (by omega), hn, Nat.sub_self]; rfl
theorem jp_one {W : World} {g : Nat} {b : Int} (h : W.heap[g]? = some (.cells #[.int .u8 b] 5 (0, 0))) : Kd.C (Kd.int .u8) W (some ⟨g, 0, none⟩) 1 [b] := by
  refine ⟨rfl, by decide, fun _ => ⟨_, rfl, fun j p hj => ⟨[.int .u8 p], rfl, rfl, fun i u hu => ?_⟩⟩⟩
  have hj0 : j = 0 := by have := (List.getElem?_eq_some_iff.1 hj).1; simp only [List.length_singleton] at this; omega
  subst hj0
  have hi0 : i = 0 := by have := (List.getElem?_eq_some_iff.1 hu).1; simp only [List.length_singleton] at this; omega
  subst hi0
  obtain rfl : b = p := by simpa using hj
  obtain rfl : Value.int .u8 b = u := by simpa using hu
  exact (blk_cell h 0).trans rfl
/-- As far as the byte is laid: the row so far. -/
def Mid (w wx : World) (rl : List (List Value)) (m : Nat) (v : Value) (q : P) : Prop :=
  ∃ (g cap : Nat) (A : Option Addr) (c : Nat), v = .slice (some ⟨g, 0, none⟩) (m + 1) cap ∧ (Kd.raw 2).R 59 wx w.heap.size (fun _ => True) v (rl.take m ++ [[.int .i64 q.f0, .slice A q.f1.length c]]) ∧ (Kd.int .u8).R 5 wx w.heap.size (fun _ => True) (.slice A q.f1.length c) q.f1 ∧ Below w.heap.size w wx
set_option maxRecDepth 100000 in
set_option maxHeartbeats 64000000 in
theorem rp_calls (A0 : Option Addr) (c0 : Nat) (l0 : List P) (x b : Int) (w : World) (hC : Kd.C k59 w A0 l0.length l0) (hc0 : l0.length ≤ c0) (hl : l0.length ≤ 10000000)
    (hp : ∀ p ∈ l0, 0 ≤ p.f0 ∧ p.f0 ≤ 4503599627370496 ∧ p.f1.length ≤ 10000000) (hx : 0 ≤ x ∧ x ≤ 4503599627370496) :
    Calls Try.prog 39 #[.slice A0 l0.length c0, .int .i64 x, .int .u8 b] w fun e w' => ∃ A n c, e = .returned (.slice A n c) ∧ n = (putf l0 x b).length ∧ n ≤ c ∧ Kd.C k59 w' A n (putf l0 x b) ∧ Below w.heap.size w w' := by
  have HC := Lib.hid hC; have HC0 := Lib.hid hc0; have HL := Lib.hid hl; have HP := Lib.hid hp; have HX := Lib.hid hx
  clear hC hc0 hp
  go_enter Try.func39, Try.ntmps39
  go_upto_block 0 with (fail)
  go_cut [7] from 14 (fun v7 wx => v7 = .int .i64 (kc x l0 : Int) ∧ wx = w)
  case first =>
    go_wp2_with (fail)
    go_loopw [7] (fun v7 wr => ∃ k : Nat, k ≤ l0.length ∧ v7 = .int .i64 (k : Int) ∧ Hid (wr = w) ∧ Hid (kc x l0 = k + kc x (l0.drop k)))
      (fun v7 _ => l0.length - (intOf v7).toNat)
    case atStart => exact ⟨0, Nat.zero_le _, rfl, Lib.hid rfl, Lib.hid (by rw [List.drop_zero, Nat.zero_add])⟩
    case round =>
      obtain ⟨k, hk, rfl, HW, HK⟩ := hrel
      obtain rfl := HW.out
      clear HW
      by_cases hlt : k < l0.length
      · obtain ⟨ad, A1, c1, had, hx0, hx1, hle, hCd⟩ := at_T59 HC.out (k : Int) (by omega) (by omega)
        obtain rfl := had
        have hrd : rd_T59 l0 (k : Int) = l0[k] := by rw [rd_T59, Int.toNat_natCast, List.getD_eq_getElem?_getD, List.getElem?_eq_getElem hlt]; rfl
        rw [Int.toNat_natCast, hrd] at hx0
        have hat := kc_at x l0 k hlt
        obtain ⟨q, hq⟩ : ∃ q, l0[k] = q := ⟨_, rfl⟩
        rw [hq] at hx0 hat
        have HAT := Lib.hid hat
        have hlt' : (k : Int) < l0.length := by omega
        clear hx1 hle hCd hrd hat hq
        by_cases hqx : q.f0 ≤ x
        · go_wp2
          go_roundw
          case rel => exact ⟨k + 1, hlt, by first | rfl | (simp; done), (by first | exact Lib.hid trivial | exact Lib.hid rfl), Lib.hid (by rw [HK.out, HAT.out, if_pos hqx]; omega)⟩
          case measure => simp [intOf]; omega
        · have HKK := Lib.hid (show kc x l0 = k from by rw [HK.out, HAT.out, if_neg hqx]; rfl)
          go_wp2
          go_meet
          case rel => exact ⟨by rw [HKK.out], rfl⟩
      · obtain rfl : k = l0.length := by omega
        have HKK := Lib.hid (show kc x l0 = l0.length from by rw [HK.out, List.drop_length]; rfl)
        go_wp2
        go_meet
        case rel => exact ⟨by rw [HKK.out], rfl⟩
  case rest =>
    obtain ⟨hv7, hw0⟩ := hcut
    subst hv7
    have hw1 := hw0.symm
    subst hw1
    clear hw0
    have hkl := kc_le x l0
    obtain ⟨k, hk⟩ : ∃ k, kc x l0 = k := ⟨_, rfl⟩
    have HK := Lib.hid hk
    rw [hk] at hkl ⊢
    clear hk
    go_upto_region 4 with (fail)
    go_cut [8] from 14 (fun v8 wx => v8 = .bool (lfb l0 x) ∧ ∃ nd, Hid (wx = w.drewN nd))
    case first =>
      rcases Nat.eq_zero_or_pos k with h0 | h0
      · subst h0
        have HLF := Lib.hid (show lfb l0 x = false from by rw [lfb, HK.out]; rfl)
        go_quiet (fail)
        go_wp2
        go_meet
        case rel => exact ⟨by rw [HLF.out], nq, Lib.hid rfl⟩
      · obtain ⟨j, rfl⟩ : ∃ j, k = j + 1 := ⟨k - 1, by omega⟩
        clear h0
        obtain ⟨ad, A1, c1, had, hx0, hx1, hle, hCd⟩ := at_T59 HC.out (j : Int) (by omega) (by omega)
        obtain rfl := had
        have hrd : rd_T59 l0 (j : Int) = l0.getD j z59 := by rw [rd_T59, Int.toNat_natCast]
        rw [Int.toNat_natCast, hrd] at hx0 hx1
        have hmem : l0.getD j z59 ∈ l0 := by rw [List.getD_eq_getElem?_getD, List.getElem?_eq_getElem (by omega)]; exact List.getElem_mem _
        have hpq := HP.out _ hmem
        have HLF := Lib.hid (show lfb l0 x = decide ((l0.getD j z59).f0 + ((l0.getD j z59).f1.length : Int) = x) from by rw [lfb, HK.out]; simp)
        obtain ⟨q, hq⟩ : ∃ q, l0.getD j z59 = q := ⟨_, rfl⟩
        rw [hq] at hx0 hx1 hpq HLF
        clear hle hCd hrd hmem hq
        have hjl : (j : Int) < l0.length := by omega
        have hl := HL.out
        have hw1 : IntKind.i64.wrap (j : Int) = (j : Int) := IntWalk.i64_in _ (by omega)
        have hw2 : IntKind.i64.wrap (q.f0 + (q.f1.length : Int)) = q.f0 + (q.f1.length : Int) := IntWalk.i64_in _ (by omega)
        obtain ⟨tb, htb⟩ : ∃ tb, (q.f0 + (q.f1.length : Int) == x) = tb := ⟨_, rfl⟩
        have HTB := Lib.hid htb
        clear hl hpq
        go_quiet (fail)
        go_wp2
        go_meet
        case rel => exact ⟨by rw [HLF.out, ← HTB.out]; rfl, nq, Lib.hid rfl⟩
    case rest =>
      obtain ⟨hv8, nd, HWD⟩ := hcut
      subst hv8
      go_upto_region 5 with (fail)
      go_cut [9] from 14 (fun v9 wx => v9 = .bool (rtb l0 x) ∧ ∃ nd, Hid (wx = w.drewN nd))
      case first =>
        obtain rfl := HWD.out
        clear HWD
        by_cases hkn : k < l0.length
        · obtain ⟨ad, A1, c1, had, hx0, hx1, hle, hCd⟩ := at_T59 HC.out (k : Int) (by omega) (by omega)
          obtain rfl := had
          have hrd : rd_T59 l0 (k : Int) = l0.getD k z59 := by rw [rd_T59, Int.toNat_natCast]
          rw [Int.toNat_natCast, hrd] at hx0
          have HRT := Lib.hid (show rtb l0 x = decide ((l0.getD k z59).f0 = x + 1) from by rw [rtb, HK.out, decide_eq_true hkn]; rfl)
          obtain ⟨q, hq⟩ : ∃ q, l0.getD k z59 = q := ⟨_, rfl⟩
          rw [hq] at hx0 HRT
          have hw1 : wrap64 (x + 1) = x + 1 := by have h_ := HX.out; unfold wrap64; omega
          have hjl : (k : Int) < l0.length := by omega
          obtain ⟨tb, htb⟩ : ∃ tb, (q.f0 == x + 1) = tb := ⟨_, rfl⟩
          have HTB := Lib.hid htb
          clear hx1 hle hCd hrd hq
          go_wp2
          go_meet
          case rel => exact ⟨by rw [HRT.out, ← HTB.out]; rfl, nd, Lib.hid rfl⟩
        · have HRT := Lib.hid (show rtb l0 x = false from by rw [rtb, HK.out, decide_eq_false hkn]; rfl)
          have hjl : ¬ (k : Int) < l0.length := by omega
          go_wp2
          go_meet
          case rel => exact ⟨by rw [HRT.out], nd, Lib.hid rfl⟩
      case rest =>
        clear HWD nd
        obtain ⟨hv9, nd, HWD⟩ := hcut
        subst hv9
        obtain rfl := HWD.out
        clear HWD
        obtain ⟨rl, hraw, htwo⟩ := raw_of_C HC.out
        have hrn : rl.length = l0.length := by have := htwo.len; omega
        have htk := Kd.C_take (m := k) (hrn.symm ▸ hraw) (by omega)
        have htl : (rl.take k).length = k := by rw [List.length_take]; omega
        rw [htl] at htk
        have HTK := Lib.hid (Kd.C_drewN htk nd)
        have HRAW := Lib.hid hraw; have HTWO := Lib.hid htwo; have HRN := Lib.hid hrn; have HTL := Lib.hid htl
        clear hraw htwo hrn htk htl
        have hkc : k ≤ c0 := Nat.le_trans hkl HC0.out
        have hkc' : (k : Int) ≤ (c0 : Int) := by omega
        go_upto_if 68 with ((with_reducible refine gate_builtin (b := .append) (xs := #[.tmp 63, .tmp 66]) rfl ?_); at_builtin; refine hold_of ?_)
        unfold Hold
        refine Kd.R_append_rows (Kd.raw 2) (Rr := (Kd.raw 2).K (w.drewN nd)) (w0 := w) w.heap.size rfl (.tmp 63) (.tmp 66) 40 59 (.agg #[(.int .i64 0), (.slice none 0 0)]) 32 rfl Try.underlying40 info59 rfl (by decide) (by decide) (.slice none 0 0) [] (rl.take k) A0 k c0 (fun _ => True) (fun _ => False) rfl rfl (Kd.R_nil _ _ _ _ _) HTK.out (fun _ _ h => h) (fun _ h => h.elim) (fun _ _ => trivial) (pw_below_drewN (Below.refl w.heap.size w) nd) (Nat.le_refl _) (by have := HL.out; simp only [List.length_nil]; omega) ?_
        intro v1 w1 hr1 hb1 hg1 hat1; rw [List.nil_append] at hr1; have HR1 := Lib.hid hr1; have HB1 := Lib.hid hb1; clear hr1 hb1 hg1 hat1
        go_upto_if 68 with (fail)
        obtain ⟨lf, hlf⟩ : ∃ lf, lfb l0 x = lf := ⟨_, rfl⟩
        have HLF := Lib.hid hlf
        rw [hlf]
        clear hlf
        go_cut [10] from 14 (fun v10 wx => Hid (Mid w wx rl (pre0 l0 x) v10 (mid0 l0 x b)))
        case first =>
          cases lf with
          | false =>
            have hpre : pre0 l0 x = k := by rw [pre0, HLF.out, HK.out]; rfl
            have hmid : mid0 l0 x b = ⟨x, [b]⟩ := by rw [mid0, HLF.out]; rfl
            have HPRE := Lib.hid hpre; have HMID := Lib.hid hmid; clear hpre hmid
            go_wp2_with ((with_reducible refine gate_builtin (b := .append) (xs := #[.tmp 88, .tmp 93]) rfl ?_); at_builtin; refine Kd.R_append (Kd.raw 2) (w0 := w) w.heap.size rfl (.tmp 88) (.tmp 93) 40 59 (.agg #[(.int .i64 0), (.slice none 0 0)]) 32 rfl Try.underlying40 info59 rfl (by decide) (by decide) v1 (rl.take k) [.int .i64 x, .slice (some ⟨w1.heap.size, 0, none⟩) 1 1] [.int .i64 x, .slice (some ⟨w1.heap.size, 0, none⟩) 1 1] (fun _ => True) (fun _ => False) rfl (by rw [World.size_alloc]; rfl) ⟨rfl, rfl, by simp [Value.oneCell']⟩ (fun _ h => h.elim) (fun _ _ => trivial) (Kd.R_alloc HR1.out _) (HB1.out.alloc HB1.out.size _) (by rw [World.size_alloc]; exact Nat.le_succ_of_le HB1.out.size) (by have := HL.out; have := HTL.out; omega) ?_; intro v9 w9 hr9 hb9 hg9 hat9; have HR9 := Lib.hid hr9; have HB9 := Lib.hid hb9; have HG9 := Lib.hid hg9; clear hr9 hb9 hg9 hat9)
            go_meet
            case rel =>
              rw [HPRE.out, HMID.out]
              obtain ⟨g, cap, hv, _, _, _⟩ := Kd.R_form HR9.out (by simp)
              refine Lib.hid ⟨g, cap, _, _, ?_, HR9.out, ?_, HB9.out⟩
              · rw [hv, List.length_append, HTL.out]; rfl
              · exact Kd.R_mono (Kd.R_grown (jp_new w1 w.heap.size HB1.out.size b) HG9.out (fun r hr e => by have := Kd.R_lt HR1.out r e.symm; omega)) (fun _ _ => trivial)
          | true =>
            have hk0 : 0 < k := by
              have h_ := HLF.out
              unfold lfb at h_
              rw [HK.out, Bool.and_eq_true] at h_
              exact of_decide_eq_true h_.1
            obtain ⟨j, rfl⟩ : ∃ j, k = j + 1 := ⟨k - 1, by omega⟩
            clear hk0
            have hpre : pre0 l0 x = j := by rw [pre0, HLF.out, HK.out]; rfl
            obtain ⟨q, hq⟩ : ∃ q, l0.getD j z59 = q := ⟨_, rfl⟩
            have hmid : mid0 l0 x b = ⟨q.f0, q.f1 ++ [b]⟩ := by rw [mid0, HLF.out, HK.out, ← hq]; rfl
            obtain ⟨g, cap, hv, hbg, hgl, hgc⟩ := Kd.R_form HR1.out (by rw [HTL.out]; omega)
            rw [HTL.out] at hv
            subst hv
            obtain ⟨c, hcl, hM, hcc, hfr⟩ := Kd.R_elem HR1.out [] (j : Int) (by omega) (by omega)
            have hrj : j < rl.length := by have := HRN.out; omega
            have hcj : rl[j]? = some c := by
              have h1 : ((rl.take (j + 1)).getD (j : Int).toNat []) = rl[j] := by rw [Int.toNat_natCast, List.getD_eq_getElem?_getD, List.getElem?_take, if_pos (by omega), List.getElem?_eq_getElem hrj]; rfl
              have h2 := hM.1
              rw [h1] at h2
              rw [List.getElem?_eq_getElem hrj, h2]
            have hKq := HTWO.out.get j (show l0[j]? = some q from by rw [← hq, List.getD_eq_getElem?_getD, List.getElem?_eq_getElem (by omega)]; rfl) hcj
            obtain ⟨Aq, cq, rfl, hle, hCq⟩ := k59_open hKq
            have hx0 : w1.cell? ⟨g, j * 2, none⟩ = some (.int .i64 q.f0) := hcc 0 _ rfl
            have hx1 : w1.cell? ⟨g, j * 2 + 1, none⟩ = some (.slice Aq q.f1.length cq) := hcc 1 _ rfl
            have hw1 : IntKind.i64.wrap (j : Int) = (j : Int) := IntWalk.i64_in _ (by have := HL.out; omega)
            have hlt1 : (j : Int) < (j : Int) + 1 := by omega
            have HPRE := Lib.hid hpre; have HMID := Lib.hid hmid; have HCQ := Lib.hid hCq; have HCC := Lib.hid hcc; have HFR := Lib.hid hfr; have HLE := Lib.hid hle
            have HPQ := Lib.hid (HP.out q (by rw [← hq, List.getD_eq_getElem?_getD, List.getElem?_eq_getElem (by omega)]; exact List.getElem_mem _)).2.2
            clear hpre hmid hq hcl hM hcj hKq hCq hcc hfr hle
            have KL := Lib.hid (show (([] : List Int).length + q.f1.length) * 1 ≤ 140737488355328 from by have := HPQ.out; simp only [List.length_nil]; omega)
            have KL1 := Lib.hid (show (q.f1.length + 1) * 1 ≤ 140737488355328 from by have := HPQ.out; omega)
            go_upto_region 10 with (fail)
            -- REG10
            refine start_ (n := 15) (S := fun w' => w'.cell? ⟨w1.heap.size, 0, none⟩ = some (.int .i64 q.f0) ∧ w'.cell? ⟨w1.heap.size, 1, none⟩ = some (.slice Aq q.f1.length cq)) (ds := [14]) #[O,O,O,O,O,O,O,O,O,O,O,O,O,O,O] (by kernel_rfl) rfl rfl ⟨(blk_cell (blk_new w1 (.cells #[.int .i64 q.f0, .slice Aq q.f1.length cq] 59)) 0).trans rfl, (blk_cell (blk_new w1 (.cells #[.int .i64 q.f0, .slice Aq q.f1.length cq] 59)) 1).trans rfl⟩ (fun hHeld => ?_)
            have HX := Lib.hid (show (w1.alloc (.cells #[.int .i64 q.f0, .slice Aq q.f1.length cq] 59)).drew.heap[w1.heap.size]? = some (.cells #[.int .i64 q.f0, .slice Aq q.f1.length cq] 59 (0, 0)) from blk_new w1 _)
            have HRW := Lib.hid (show Kd.R (Kd.raw 2) 59 (w1.alloc (.cells #[.int .i64 q.f0, .slice Aq q.f1.length cq] 59)).drew w.heap.size (fun _ => True) (.slice (some ⟨g, 0, none⟩) (j + 1) cap) (rl.take (j + 1)) from Kd.R_drew (Kd.R_alloc HR1.out _))
            have hb_ : Below w1.heap.size w1 (w1.alloc (.cells #[.int .i64 q.f0, .slice Aq q.f1.length cq] 59)).drew := below_drew1 (below_alloc (Below.refl _ _) _)
            have HBW := Lib.hid (show Below w.heap.size w (w1.alloc (.cells #[.int .i64 q.f0, .slice Aq q.f1.length cq] 59)).drew from below_step HB1.out hb_)
            have HCW := Lib.hid (Kd.C_below HCQ.out HBW.out)
            have X0 := Lib.hid ((hb_.cell (World.block_lt_of_cell? w1 _ hx0)).trans hx0)
            have X1 := Lib.hid ((hb_.cell (World.block_lt_of_cell? w1 _ hx1)).trans hx1)
            have HGL := Lib.hid (show g < (w1.alloc (.cells #[.int .i64 q.f0, .slice Aq q.f1.length cq] 59)).drew.heap.size from Nat.lt_of_lt_of_le hgl hb_.size)
            clear hb_ hx0 hx1
            generalize (w1.alloc (.cells #[.int .i64 q.f0, .slice Aq q.f1.length cq] 59)).drew = W3 at HX HRW HBW HCW X0 X1 HGL hHeld ⊢
            obtain ⟨bp, hbp⟩ : ∃ bp, w1.heap.size = bp := ⟨_, rfl⟩
            rw [hbp] at HX hHeld
            try rw [hbp]
            clear hbp
            have K0 := Lib.hid (fun (W : World) (hB : Below W3.heap.size W3 W) => show W.cell? ⟨bp, 0, none⟩ = some (.int .i64 q.f0) from (blk_cell (blk_below HX.out hB) 0).trans rfl)
            have K1 := Lib.hid (fun (W : World) (hB : Below W3.heap.size W3 W) => show W.cell? ⟨bp, 1, none⟩ = some (.slice Aq q.f1.length cq) from (blk_cell (blk_below HX.out hB) 1).trans rfl)
            refine pure_ (i := 0) (N := some 74) (v := ?_) (a' := ?_) #[I,O,O,O,O,O,O,O,O,O,O,O,O,O,O] rfl rfl (by kernel_rfl) (fun _ _ _ h => h) (Or.inl ⟨by rfl, ?_⟩) ?_ ?_
            rotate_left
            · intro w'
              go_simp
              with_reducible rfl
            rotate_left
            · simp only [Act.put, sA_, sZ_, sS_, i64_w, i32_w]
              rfl
            refine pure_ (i := 1) (N := some 75) (v := ?_) (a' := ?_) #[I,I,O,O,O,O,O,O,O,O,O,O,O,O,O] rfl rfl (by kernel_rfl) (fun _ _ _ h => h) (Or.inl ⟨by rfl, ?_⟩) ?_ ?_
            rotate_left
            · intro w'
              go_simp
              with_reducible rfl
            rotate_left
            · simp only [Act.put, sA_, sZ_, sS_, i64_w, i32_w]
              rfl
            refine pure_ (i := 2) (N := some 76) (v := ?_) (a' := ?_) #[I,I,I,O,O,O,O,O,O,O,O,O,O,O,O] rfl rfl (by kernel_rfl) (fun _ _ _ h => h) (Or.inl ⟨by rfl, ?_⟩) ?_ ?_
            rotate_left
            · intro w'
              go_simp
              with_reducible rfl
            rotate_left
            · simp only [Act.put, sA_, sZ_, sS_, i64_w, i32_w]
              rfl
            refine pure_ (i := 3) (N := some 77) (v := ?_) (a' := ?_) #[I,I,I,I,O,O,O,O,O,O,O,O,O,O,O] rfl rfl (by kernel_rfl) (fun _ _ _ h => h) (Or.inl ⟨by rfl, ?_⟩) ?_ ?_
            rotate_left
            · intro w'
              go_simp
              with_reducible rfl
            rotate_left
            · simp only [Act.put, sA_, sZ_, sS_, i64_w, i32_w]
              rfl
            refine pure_ (i := 6) (N := some 80) (v := ?_) (a' := ?_) #[I,I,I,I,O,O,I,O,O,O,O,O,O,O,O] rfl rfl (by kernel_rfl) (fun _ _ _ h => h) (Or.inl ⟨by rfl, ?_⟩) ?_ ?_
            rotate_left
            · intro w'
              go_simp
              with_reducible rfl
            rotate_left
            · simp only [Act.put, sA_, sZ_, sS_, i64_w, i32_w]
              rfl
            refine pure_ (i := 9) (N := some 83) (v := ?_) (a' := ?_) #[I,I,I,I,O,O,I,O,O,I,O,O,O,O,O] rfl rfl (by kernel_rfl) (fun _ _ _ h => h) (Or.inl ⟨by rfl, ?_⟩) ?_ ?_
            rotate_left
            · intro w'
              go_simp
              with_reducible rfl
            rotate_left
            · simp only [Act.put, sA_, sZ_, sS_, i64_w, i32_w]
              rfl
            refine take_ (i := 4) (N := some 78) (v := ?_) (a' := ?_) #[I,I,I,I,I,O,I,O,O,I,O,O,O,O,O] rfl rfl (by kernel_rfl) (fun _ _ _ h => h) (Or.inl ⟨by rfl, ?_⟩) hHeld ?_ ?_
            rotate_left
            · rintro w' ⟨s0, s1⟩
              go_simp
              with_reducible rfl
            rotate_left
            · simp only [Act.put, sA_, sZ_, sS_, i64_w, i32_w]
              rfl
            refine take_ (i := 7) (N := some 81) (v := ?_) (a' := ?_) #[I,I,I,I,I,O,I,I,O,I,O,O,O,O,O] rfl rfl (by kernel_rfl) (fun _ _ _ h => h) (Or.inl ⟨by rfl, ?_⟩) hHeld ?_ ?_
            rotate_left
            · rintro w' ⟨s0, s1⟩
              go_simp
              with_reducible rfl
            rotate_left
            · simp only [Act.put, sA_, sZ_, sS_, i64_w, i32_w]
              rfl
            refine join_ (σ := Value × Value × Nat) 4 #[I,I,I,I,I,I,I,I,I,I,I,O,O,O,O] (fun s => [(79, s.1), (82, s.2.1), (84, .slice (some ⟨s.2.2, 0, none⟩) 1 1)]) (fun s w' => Kd.R (Kd.int .u8) 5 w' W3.heap.size (fun _ => True) s.2.1 q.f1 ∧ w'.heap[s.2.2]? = some (.cells #[.int .u8 b] 5 (0, 0)) ∧ Below W3.heap.size W3 w') ?_ ?_
            rotate_left
            · intro hCont
              refine two_ (i := 5) (j := 10) (Ni := some 79) (Nj := some 84) #[I,I,I,I,I,I,I,I,O,I,O,O,O,O,O] #[I,I,I,I,I,O,I,I,O,I,I,O,O,O,O] rfl rfl rfl rfl (by kernel_rfl) (by decide) (by decide) (fun K hK => ?_) (fun K hK => ?_)
              · skip
                refine value_ (w1 := ?_) (v := ?_) (by rfl) rfl ?_ ?_
                rotate_left 2
                · go_simp
                  constructor
                  · rfl
                  · rfl
                refine hK.out _ _ ⟨(K0.out _ (by repeat (first | exact hb8 | exact (Below.refl W3.heap.size W3) | with_reducible apply below_drew1 | with_reducible refine pw_below_drewN ?_ _ | with_reducible refine below_alloc ?_ _))), (K1.out _ (by repeat (first | exact hb8 | exact (Below.refl W3.heap.size W3) | with_reducible apply below_drew1 | with_reducible refine pw_below_drewN ?_ _ | with_reducible refine below_alloc ?_ _)))⟩ (fun hHeld => ?_)
                clear hK K
                refine norm_ (a' := ?_) ?_ ?_
                rotate_left
                · show Act.put _ (some 79) _ = _
                  simp only [Act.put, sA_, sZ_, sS_, i64_w, i32_w]
                  rfl
                refine two_ (i := 8) (j := 10) (Ni := some 82) (Nj := some 84) #[I,I,I,I,I,I,I,I,I,I,O,O,O,O,O] #[I,I,I,I,I,I,I,I,O,I,I,O,O,O,O] rfl rfl rfl rfl (by kernel_rfl) (by decide) (by decide) (fun K hK => ?_) (fun K hK => ?_)
                · skip
                  refine Kd.R_append_rows_step (Kd.int .u8) (Rr := fun x cs => cs = [.int .u8 x]) (w0 := W3) W3.heap.size (by rfl) (.tmp 79) (.tmp 81) 34 5 (.int .u8 0) 1 (by rfl) Try.underlying34 info5 (by rfl) (by decide) (by decide) (.slice (some ⟨W3.heap.size, 0, none⟩) 0 0) [] q.f1 Aq q.f1.length cq (fun _ => True) (fun _ => False) (by rfl) (by rfl) (Kd.R_mono (jp_nil W3 W3.heap.size (Nat.le_refl _)) (fun _ _ => trivial)) (Kd.C_below HCW.out (show Below W3.heap.size W3 (W3.alloc (.cells #[] 5)) from (by repeat (first | exact (Below.refl W3.heap.size W3) | exact (Below.refl W3.heap.size W3) | with_reducible apply below_drew1 | with_reducible refine pw_below_drewN ?_ _ | with_reducible refine below_alloc ?_ _)))) (fun _ _ e => e) (fun _ e => e.elim) (fun _ _ => trivial) (show Below W3.heap.size W3 (W3.alloc (.cells #[] 5)) from (by repeat (first | exact (Below.refl W3.heap.size W3) | exact (Below.refl W3.heap.size W3) | with_reducible apply below_drew1 | with_reducible refine pw_below_drewN ?_ _ | with_reducible refine below_alloc ?_ _))) (by have h_ := Below.size (show Below W3.heap.size W3 (W3.alloc (.cells #[] 5)) from (by repeat (first | exact (Below.refl W3.heap.size W3) | exact (Below.refl W3.heap.size W3) | with_reducible apply below_drew1 | with_reducible refine pw_below_drewN ?_ _ | with_reducible refine below_alloc ?_ _))); exact h_) KL.out ?_
                  intro v8 w8 hr8 hb8 hg8 _
                  rw [List.nil_append] at hr8
                  refine hK.out _ _ ⟨(K0.out _ hb8), (K1.out _ hb8)⟩ (fun hHeld => ?_)
                  clear hK K
                  refine norm_ (a' := ?_) ?_ ?_
                  rotate_left
                  · show Act.put _ (some 82) _ = _
                    simp only [Act.put, sA_, sZ_, sS_, i64_w, i32_w]
                    rfl
                  refine one_ (i := 10) (N := some 84) #[I,I,I,I,I,I,I,I,I,I,I,O,O,O,O] rfl rfl (by kernel_rfl) (by decide) (fun K hK => ?_)
                  refine value_ (w1 := ?_) (v := ?_) (by rfl) rfl ?_ ?_
                  rotate_left 2
                  · go_simp
                    constructor
                    · rfl
                    · rfl
                  refine hK.out _ _ ⟨(K0.out _ (by repeat (first | exact hb8 | exact (Below.refl W3.heap.size W3) | with_reducible apply below_drew1 | with_reducible refine pw_below_drewN ?_ _ | with_reducible refine below_alloc ?_ _))), (K1.out _ (by repeat (first | exact hb8 | exact (Below.refl W3.heap.size W3) | with_reducible apply below_drew1 | with_reducible refine pw_below_drewN ?_ _ | with_reducible refine below_alloc ?_ _)))⟩ (fun hHeld => ?_)
                  clear hK K
                  refine norm_ (a' := ?_) ?_ ?_
                  rotate_left
                  · show Act.put _ (some 84) _ = _
                    simp only [Act.put, sA_, sZ_, sS_, i64_w, i32_w]
                    rfl
                  exact norm_ (by simp only [putAll, Act.put, sA_, sZ_, sS_]) (hCont ((.slice (some ⟨W3.heap.size, 0, none⟩) 0 0), v8, w8.heap.size) _ ⟨Kd.R_alloc hr8 _, blk_new w8 _, below_alloc hb8 _⟩)
                · skip
                  refine value_ (w1 := ?_) (v := ?_) (by rfl) rfl ?_ ?_
                  rotate_left 2
                  · go_simp
                    constructor
                    · rfl
                    · rfl
                  refine hK.out _ _ ⟨(K0.out _ (by repeat (first | exact hb8 | exact (Below.refl W3.heap.size W3) | with_reducible apply below_drew1 | with_reducible refine pw_below_drewN ?_ _ | with_reducible refine below_alloc ?_ _))), (K1.out _ (by repeat (first | exact hb8 | exact (Below.refl W3.heap.size W3) | with_reducible apply below_drew1 | with_reducible refine pw_below_drewN ?_ _ | with_reducible refine below_alloc ?_ _)))⟩ (fun hHeld => ?_)
                  clear hK K
                  refine norm_ (a' := ?_) ?_ ?_
                  rotate_left
                  · show Act.put _ (some 84) _ = _
                    simp only [Act.put, sA_, sZ_, sS_, i64_w, i32_w]
                    rfl
                  refine one_ (i := 8) (N := some 82) #[I,I,I,I,I,I,I,I,I,I,I,O,O,O,O] rfl rfl (by kernel_rfl) (by decide) (fun K hK => ?_)
                  refine Kd.R_append_rows_step (Kd.int .u8) (Rr := fun x cs => cs = [.int .u8 x]) (w0 := W3) W3.heap.size (by rfl) (.tmp 79) (.tmp 81) 34 5 (.int .u8 0) 1 (by rfl) Try.underlying34 info5 (by rfl) (by decide) (by decide) (.slice (some ⟨W3.heap.size, 0, none⟩) 0 0) [] q.f1 Aq q.f1.length cq (fun _ => True) (fun _ => False) (by rfl) (by rfl) (Kd.R_mono (Kd.R_alloc (jp_nil W3 W3.heap.size (Nat.le_refl _)) _) (fun _ _ => trivial)) (Kd.C_below HCW.out (show Below W3.heap.size W3 ((W3.alloc (.cells #[] 5)).alloc (.cells #[.int .u8 b] 5)) from (by repeat (first | exact (Below.refl W3.heap.size W3) | exact (Below.refl W3.heap.size W3) | with_reducible apply below_drew1 | with_reducible refine pw_below_drewN ?_ _ | with_reducible refine below_alloc ?_ _)))) (fun _ _ e => e) (fun _ e => e.elim) (fun _ _ => trivial) (show Below W3.heap.size W3 ((W3.alloc (.cells #[] 5)).alloc (.cells #[.int .u8 b] 5)) from (by repeat (first | exact (Below.refl W3.heap.size W3) | exact (Below.refl W3.heap.size W3) | with_reducible apply below_drew1 | with_reducible refine pw_below_drewN ?_ _ | with_reducible refine below_alloc ?_ _))) (by have h_ := Below.size (show Below W3.heap.size W3 ((W3.alloc (.cells #[] 5)).alloc (.cells #[.int .u8 b] 5)) from (by repeat (first | exact (Below.refl W3.heap.size W3) | exact (Below.refl W3.heap.size W3) | with_reducible apply below_drew1 | with_reducible refine pw_below_drewN ?_ _ | with_reducible refine below_alloc ?_ _))); exact h_) KL.out ?_
                  intro v8 w8 hr8 hb8 hg8 _
                  rw [List.nil_append] at hr8
                  refine hK.out _ _ ⟨(K0.out _ hb8), (K1.out _ hb8)⟩ (fun hHeld => ?_)
                  clear hK K
                  refine norm_ (a' := ?_) ?_ ?_
                  rotate_left
                  · show Act.put _ (some 82) _ = _
                    simp only [Act.put, sA_, sZ_, sS_, i64_w, i32_w]
                    rfl
                  exact norm_ (by simp only [putAll, Act.put, sA_, sZ_, sS_]) (hCont ((.slice (some ⟨W3.heap.size, 0, none⟩) 0 0), v8, W3.heap.size + 1) _ ⟨hr8, blk_grown (jp_new1 W3 _ _) hg8 (fun e => by have h_ : W3.heap.size + 1 = W3.heap.size := Option.some.inj e; omega), hb8⟩)
              · skip
                refine value_ (w1 := ?_) (v := ?_) (by rfl) rfl ?_ ?_
                rotate_left 2
                · go_simp
                  constructor
                  · rfl
                  · rfl
                refine hK.out _ _ ⟨(K0.out _ (by repeat (first | exact hb8 | exact (Below.refl W3.heap.size W3) | with_reducible apply below_drew1 | with_reducible refine pw_below_drewN ?_ _ | with_reducible refine below_alloc ?_ _))), (K1.out _ (by repeat (first | exact hb8 | exact (Below.refl W3.heap.size W3) | with_reducible apply below_drew1 | with_reducible refine pw_below_drewN ?_ _ | with_reducible refine below_alloc ?_ _)))⟩ (fun hHeld => ?_)
                clear hK K
                refine norm_ (a' := ?_) ?_ ?_
                rotate_left
                · show Act.put _ (some 84) _ = _
                  simp only [Act.put, sA_, sZ_, sS_, i64_w, i32_w]
                  rfl
                refine one_ (i := 5) (N := some 79) #[I,I,I,I,I,I,I,I,O,I,I,O,O,O,O] rfl rfl (by kernel_rfl) (by decide) (fun K hK => ?_)
                refine value_ (w1 := ?_) (v := ?_) (by rfl) rfl ?_ ?_
                rotate_left 2
                · go_simp
                  constructor
                  · rfl
                  · rfl
                refine hK.out _ _ ⟨(K0.out _ (by repeat (first | exact hb8 | exact (Below.refl W3.heap.size W3) | with_reducible apply below_drew1 | with_reducible refine pw_below_drewN ?_ _ | with_reducible refine below_alloc ?_ _))), (K1.out _ (by repeat (first | exact hb8 | exact (Below.refl W3.heap.size W3) | with_reducible apply below_drew1 | with_reducible refine pw_below_drewN ?_ _ | with_reducible refine below_alloc ?_ _)))⟩ (fun hHeld => ?_)
                clear hK K
                refine norm_ (a' := ?_) ?_ ?_
                rotate_left
                · show Act.put _ (some 79) _ = _
                  simp only [Act.put, sA_, sZ_, sS_, i64_w, i32_w]
                  rfl
                refine one_ (i := 8) (N := some 82) #[I,I,I,I,I,I,I,I,I,I,I,O,O,O,O] rfl rfl (by kernel_rfl) (by decide) (fun K hK => ?_)
                refine Kd.R_append_rows_step (Kd.int .u8) (Rr := fun x cs => cs = [.int .u8 x]) (w0 := W3) W3.heap.size (by rfl) (.tmp 79) (.tmp 81) 34 5 (.int .u8 0) 1 (by rfl) Try.underlying34 info5 (by rfl) (by decide) (by decide) (.slice (some ⟨W3.heap.size + 1, 0, none⟩) 0 0) [] q.f1 Aq q.f1.length cq (fun _ => True) (fun _ => False) (by rfl) (by rfl) (Kd.R_mono (jp_nil1 W3 (.cells #[.int .u8 b] 5) W3.heap.size (Nat.le_refl _)) (fun _ _ => trivial)) (Kd.C_below HCW.out (show Below W3.heap.size W3 ((W3.alloc (.cells #[.int .u8 b] 5)).alloc (.cells #[] 5)) from (by repeat (first | exact (Below.refl W3.heap.size W3) | exact (Below.refl W3.heap.size W3) | with_reducible apply below_drew1 | with_reducible refine pw_below_drewN ?_ _ | with_reducible refine below_alloc ?_ _)))) (fun _ _ e => e) (fun _ e => e.elim) (fun _ _ => trivial) (show Below W3.heap.size W3 ((W3.alloc (.cells #[.int .u8 b] 5)).alloc (.cells #[] 5)) from (by repeat (first | exact (Below.refl W3.heap.size W3) | exact (Below.refl W3.heap.size W3) | with_reducible apply below_drew1 | with_reducible refine pw_below_drewN ?_ _ | with_reducible refine below_alloc ?_ _))) (by have h_ := Below.size (show Below W3.heap.size W3 ((W3.alloc (.cells #[.int .u8 b] 5)).alloc (.cells #[] 5)) from (by repeat (first | exact (Below.refl W3.heap.size W3) | exact (Below.refl W3.heap.size W3) | with_reducible apply below_drew1 | with_reducible refine pw_below_drewN ?_ _ | with_reducible refine below_alloc ?_ _))); exact h_) KL.out ?_
                intro v8 w8 hr8 hb8 hg8 _
                rw [List.nil_append] at hr8
                refine hK.out _ _ ⟨(K0.out _ hb8), (K1.out _ hb8)⟩ (fun hHeld => ?_)
                clear hK K
                refine norm_ (a' := ?_) ?_ ?_
                rotate_left
                · show Act.put _ (some 82) _ = _
                  simp only [Act.put, sA_, sZ_, sS_, i64_w, i32_w]
                  rfl
                exact norm_ (by simp only [putAll, Act.put, sA_, sZ_, sS_]) (hCont ((.slice (some ⟨W3.heap.size + 1, 0, none⟩) 0 0), v8, W3.heap.size) _ ⟨hr8, blk_grown (blk_alloc (blk_new W3 _) _) hg8 (fun e => by have h_ : W3.heap.size = W3.heap.size + 1 := Option.some.inj e; omega), hb8⟩)
            rintro ⟨v79, v82, g84⟩ w5 ⟨hr82, hb84, hb5⟩
            dsimp only at hr82 hb84
            obtain ⟨A82, c82, rfl⟩ := Kd.R_slice hr82
            have hHeld : w5.cell? ⟨bp, 0, none⟩ = some (.int .i64 q.f0) ∧ w5.cell? ⟨bp, 1, none⟩ = some (.slice Aq q.f1.length cq) := ⟨K0.out _ hb5, K1.out _ hb5⟩
            refine norm_ (a' := ?_) ?_ ?_
            rotate_left
            · simp only [putAll, Act.put, sA_, sZ_, sS_]
              rfl
            refine one_ (i := 11) (N := some 85) #[I,I,I,I,I,I,I,I,I,I,I,I,O,O,O] rfl rfl (by kernel_rfl) (by decide) (fun K hK => ?_)
            refine Kd.R_append_rows_step (Kd.int .u8) (Rr := fun x cs => cs = [.int .u8 x]) (w0 := W3) W3.heap.size (by rfl) (.tmp 82) (.tmp 84) 34 5 (.int .u8 0) 1 (by rfl) Try.underlying34 info5 (by rfl) (by decide) (by decide) (.slice A82 q.f1.length c82) q.f1 [b] (some ⟨g84, 0, none⟩) 1 1 (fun _ => True) (fun _ => False) (by rfl) (by rfl) (hr82) (jp_one hb84) (fun _ _ e => e) (fun _ e => e.elim) (fun _ _ => trivial) hb5 (by have h_ := Below.size hb5; exact h_) KL1.out ?_
            intro v11 w11 hr11 hb11 hg11 _
            obtain ⟨A11, c11, rfl⟩ := Kd.R_slice hr11
            have hx0 := (hb11.cell (World.block_lt_of_cell? W3 _ X0.out)).trans X0.out
            have hx1 := (hb11.cell (World.block_lt_of_cell? W3 _ X1.out)).trans X1.out
            have hrw := Kd.R_below HRW.out hb11
            obtain ⟨c, hcl, hM, hcc, hfr⟩ := Kd.R_elem hrw [] (j : Int) (by omega) (by omega)
            have hf0 : w11.frozen? ⟨g, j * 2, none⟩ = false := hfr 0
            have hf1 : w11.frozen? ⟨g, j * 2 + 1, none⟩ = false := hfr 1
            have HR11 := Lib.hid hr11; have HB11 := Lib.hid hb11; have HRW11 := Lib.hid hrw; have HCC11 := Lib.hid hcc; have HCL11 := Lib.hid hcl
            clear hr11 hb11 hg11 hrw hM hcc hfr hcl
            refine hK.out _ _ ⟨(K0.out _ HB11.out), (K1.out _ HB11.out)⟩ (fun hHeld => ?_)
            clear hK K
            refine norm_ (a' := ?_) ?_ ?_
            rotate_left
            · show Act.put _ (some 85) _ = _
              simp only [Act.put, sA_, sZ_, sS_, i64_w, i32_w]
              rfl
            refine pure_ (i := 12) (N := some 86) (v := ?_) (a' := ?_) #[I,I,I,I,I,I,I,I,I,I,I,I,I,O,O] rfl rfl (by kernel_rfl) (fun _ _ _ h => h) (Or.inl ⟨by rfl, ?_⟩) ?_ ?_
            rotate_left
            · intro w'
              go_simp
              with_reducible rfl
            rotate_left
            · simp only [Act.put, sA_, sZ_, sS_, i64_w, i32_w]
              rfl
            refine pure_ (i := 13) (N := some 87) (v := ?_) (a' := ?_) #[I,I,I,I,I,I,I,I,I,I,I,I,I,I,O] rfl rfl (by kernel_rfl) (fun _ _ _ h => h) (Or.inl ⟨by rfl, ?_⟩) ?_ ?_
            rotate_left
            · intro w'
              go_simp
              with_reducible rfl
            rotate_left
            · simp only [Act.put, sA_, sZ_, sS_, i64_w, i32_w]
              rfl
            refine last_ (i := 14) (N := none) #[I,I,I,I,I,I,I,I,I,I,I,I,I,I,I] rfl rfl (by kernel_rfl) (by decide) (fun K hK => ?_)
            refine skip_ (w1 := ?_) (by rfl) rfl ?_ ?_
            rotate_left
            · go_simp
              rfl
            refine hK.out _ _ ?_
            clear hK K
            refine done_ (by kernel_rfl) ?_
            -- END10
            have hs := jp_set HRW11.out j (by omega) (u := .int .i64 q.f0) (v := .slice A11 (q.f1 ++ [b]).length c11) rfl rfl
            have hlen9 : (q.f1 ++ [b]).length = q.f1.length + 1 := by rw [List.length_append, List.length_singleton]
            rw [hlen9] at hs
            obtain ⟨W9, hW9⟩ : ∃ W9, (w11.setCell ⟨g, j * 2, none⟩ (.int .i64 q.f0)).setCell ⟨g, j * 2 + 1, none⟩ (.slice A11 (q.f1.length + 1) c11) = W9 := ⟨_, rfl⟩
            rw [hW9] at hs ⊢
            have HS := Lib.hid hs
            clear hs hx0 hx1 hf0 hf1 hHeld hW9
            go_wp2
            go_meet
            case rel =>
              rw [HPRE.out, HMID.out]
              refine Lib.hid ⟨g, cap, A11, c11, rfl, ?_, ?_, ?_⟩
              · have e : (rl.take (j + 1)).set j [.int .i64 q.f0, .slice A11 (q.f1.length + 1) c11] = rl.take j ++ [[.int .i64 q.f0, .slice A11 (q.f1 ++ [b]).length c11]] := by
                  rw [hlen9, List.take_succ_eq_append_getElem hrj, List.set_append_right _ _ (by rw [List.length_take]; omega), List.length_take, show j - min j rl.length = 0 by omega]
                  rfl
                rw [← e]; exact HS.out.1
              · exact Kd.R_lower (Kd.R_mono (Kd.R_grown (Kd.R_bound HR11.out) HS.out.2 (fun k hk e => by have := hk.2.1; have := Option.some.inj e; have := HGL.out; omega)) (fun _ _ => trivial)) HBW.out.size
              · exact (below_step HBW.out HB11.out).grown HS.out.2 (below_step HBW.out HB11.out).size (fun r e => by cases e; exact hbg)
        case rest =>
          obtain ⟨g, cap, A, c, hv10, hRO, hR5, hBC⟩ := hcut.out
          subst hv10
          have hnk : pre0 l0 x ≤ k := by unfold pre0; rw [HK.out]; split <;> omega
          obtain ⟨n, hn⟩ : ∃ n, pre0 l0 x = n := ⟨_, rfl⟩
          obtain ⟨md, hmd⟩ : ∃ md, mid0 l0 x b = md := ⟨_, rfl⟩
          have HN := Lib.hid hn; have HMD := Lib.hid hmd
          rw [hn] at hnk hRO ⊢
          rw [hmd] at hRO hR5
          have hnl : (rl.take n).length = n := by rw [List.length_take]; have := HRN.out; omega
          have HRO := Lib.hid hRO; have HR5 := Lib.hid hR5; have HBC := Lib.hid hBC; have KT := Lib.hid hnl
          clear hcut hn hmd hRO hR5 hBC hnl HLF HR1 HB1 w1 v1
          obtain ⟨u0, hu0, _, hsz, _⟩ := info_parts info59
          have cut2 := cut_from (P := Try.prog) 40 59 .i64 Try.underlying40 hu0 2 hsz A0 l0.length c0 (k : Int) (by omega) (by omega)
          have hrow2 := Kd.C_drop (m := k) (c := c0) (HRN.out.symm ▸ HRAW.out : (Kd.raw 2).C w A0 rl.length rl) (by have := HRN.out; omega) (by have := HRN.out; have := HC0.out; omega)
          rw [Int.toNat_natCast] at cut2
          obtain ⟨A2, hA2⟩ : ∃ a : Option Addr, (if c0 = k then A0 else A0.map (·.add (k * 2))) = a := ⟨_, rfl⟩
          rw [hA2] at cut2
          rw [show k * (Kd.raw 2).sz = k * 2 from rfl, hA2] at hrow2
          have CUT3 := Lib.hid (cut_from (P := Try.prog) 40 59 .i64 Try.underlying40 hu0 2 hsz A0 l0.length c0 ((k : Int) + 1) (by omega))
          have HROW2 := Lib.hid hrow2
          clear hA2 hu0 hsz hrow2
          go_upto_if 98 with (fail)
          obtain ⟨rt, hrt⟩ : ∃ rt, rtb l0 x = rt := ⟨_, rfl⟩
          have HRT := Lib.hid hrt
          rw [hrt]
          clear hrt
          go_cut [10, 12] from 14 (fun v10 v12 wx => Hid (Mid w wx rl n v10 (mid1 l0 x b)) ∧ ∃ A3 c3, v12 = .slice A3 (rl.drop (suf0 l0 x)).length c3 ∧ Hid ((Kd.raw 2).C w A3 (rl.drop (suf0 l0 x)).length (rl.drop (suf0 l0 x))))
          case first =>
            cases rt with
            | false =>
              go_wp2
              go_meet
              case rel =>
                have hs : suf0 l0 x = k := by rw [suf0, HRT.out, HK.out]; rfl
                have hm : mid1 l0 x b = md := by rw [mid1, HRT.out, HMD.out]; rfl
                rw [hs, hm]
                exact ⟨Lib.hid ⟨g, cap, A, c, rfl, HRO.out, HR5.out, HBC.out⟩, A2, _, by rw [List.length_drop, HRN.out], HROW2⟩
            | true =>
              have hkl2 : k < l0.length := by
                have h_ := HRT.out
                unfold rtb at h_
                rw [HK.out, Bool.and_eq_true] at h_
                exact of_decide_eq_true h_.1
              obtain ⟨ad, Ak, ck, had, _, hx1, hle, hCd⟩ := at_T59 HC.out (k : Int) (by omega) (by omega)
              have hrd : rd_T59 l0 (k : Int) = l0.getD k z59 := by rw [rd_T59, Int.toNat_natCast]
              rw [Int.toNat_natCast, hrd] at hx1
              rw [hrd] at hle hCd
              have hql := getD_len HP.out k
              obtain ⟨q, hq⟩ : ∃ q, l0.getD k z59 = q := ⟨_, rfl⟩
              have hs : suf0 l0 x = k + 1 := by rw [suf0, HRT.out, HK.out]; rfl
              have hm : mid1 l0 x b = ⟨md.f0, md.f1 ++ q.f1⟩ := by rw [mid1, HRT.out, HMD.out, HK.out, hq]; rfl
              rw [hq] at hx1 hle hCd hql
              have hml : md.f1.length ≤ 10000001 := by
                rw [← HMD.out, mid0]
                split
                · rw [List.length_append]; exact Nat.succ_le_succ (getD_len HP.out _)
                · exact Nat.succ_le_succ (Nat.zero_le _)
              obtain ⟨a0, a1, _, _⟩ := jp_last HRO.out KT.out
              have X0 := Lib.hid a0; have X1 := Lib.hid a1; have X2 := Lib.hid (fun (W : World) (hB : Below w.heap.size w W) => show W.cell? ⟨(ad.add (k * 2)).block, (ad.add (k * 2)).off + 1, none⟩ = some (.slice Ak q.f1.length ck) from (hB.cell (World.block_lt_of_cell? w _ hx1)).trans hx1)
              have HCK := Lib.hid (Kd.C_below hCd HBC.out)
              have HS := Lib.hid hs; have HM1 := Lib.hid hm; have HLE := Lib.hid hle
              have KL := Lib.hid (show (md.f1.length + q.f1.length) * 1 ≤ 140737488355328 from by omega)
              have hw1 : IntKind.i64.wrap (n : Int) = (n : Int) := IntWalk.i64_in _ (by have := HL.out; omega)
              have hw2 : wrap64 (n : Int) = (n : Int) := by have := HL.out; unfold wrap64; omega
              have hlt1 : (n : Int) < (n : Int) + 1 := by omega
              have hkk : (k : Int) < (l0.length : Int) := by omega
              obtain rfl := had
              clear hrd hq hs hm a0 a1 hCd hle hml hql hx1
              go_upto_region 15 with (fail)
              -- REG15
              refine start_ (n := 21) (S := fun w' => w'.cell? ⟨g, n * 2, none⟩ = some (.int .i64 md.f0) ∧ w'.cell? ⟨g, n * 2 + 1, none⟩ = some (.slice A md.f1.length c) ∧ w'.cell? ⟨(ad.add (k * 2)).block, (ad.add (k * 2)).off + 1, none⟩ = some (.slice Ak q.f1.length ck)) (ds := [20]) #[O,O,O,O,O,O,O,O,O,O,O,O,O,O,O,O,O,O,O,O,O] (by kernel_rfl) rfl rfl ⟨X0.out, X1.out, (X2.out _ (below_drew1 HBC.out))⟩ (fun hHeld => ?_)
              refine pure_ (i := 0) (N := some 102) (v := ?_) (a' := ?_) #[I,O,O,O,O,O,O,O,O,O,O,O,O,O,O,O,O,O,O,O,O] rfl rfl (by kernel_rfl) (fun _ _ _ h => h) (Or.inl ⟨by rfl, ?_⟩) ?_ ?_
              rotate_left
              · intro w'
                go_simp
                with_reducible rfl
              rotate_left
              · simp only [Act.put, sA_, sZ_, sS_, i64_w, i32_w]
                rfl
              refine pure_ (i := 1) (N := some 103) (v := ?_) (a' := ?_) #[I,I,O,O,O,O,O,O,O,O,O,O,O,O,O,O,O,O,O,O,O] rfl rfl (by kernel_rfl) (fun _ _ _ h => h) (Or.inl ⟨by rfl, ?_⟩) ?_ ?_
              rotate_left
              · intro w'
                go_simp
                with_reducible rfl
              rotate_left
              · simp only [Act.put, sA_, sZ_, sS_, i64_w, i32_w]
                rfl
              refine pure_ (i := 2) (N := some 104) (v := ?_) (a' := ?_) #[I,I,I,O,O,O,O,O,O,O,O,O,O,O,O,O,O,O,O,O,O] rfl rfl (by kernel_rfl) (fun _ _ _ h => h) (Or.inl ⟨by rfl, ?_⟩) ?_ ?_
              rotate_left
              · intro w'
                go_simp
                with_reducible rfl
              rotate_left
              · simp only [Act.put, sA_, sZ_, sS_, i64_w, i32_w]
                rfl
              refine pure_ (i := 3) (N := some 105) (v := ?_) (a' := ?_) #[I,I,I,I,O,O,O,O,O,O,O,O,O,O,O,O,O,O,O,O,O] rfl rfl (by kernel_rfl) (fun _ _ _ h => h) (Or.inl ⟨by rfl, ?_⟩) ?_ ?_
              rotate_left
              · intro w'
                go_simp
                with_reducible rfl
              rotate_left
              · simp only [Act.put, sA_, sZ_, sS_, i64_w, i32_w]
                rfl
              refine pure_ (i := 4) (N := some 106) (v := ?_) (a' := ?_) #[I,I,I,I,I,O,O,O,O,O,O,O,O,O,O,O,O,O,O,O,O] rfl rfl (by kernel_rfl) (fun _ _ _ h => h) (Or.inl ⟨by rfl, ?_⟩) ?_ ?_
              rotate_left
              · intro w'
                go_simp
                with_reducible rfl
              rotate_left
              · simp only [Act.put, sA_, sZ_, sS_, i64_w, i32_w]
                rfl
              refine pure_ (i := 5) (N := some 107) (v := ?_) (a' := ?_) #[I,I,I,I,I,I,O,O,O,O,O,O,O,O,O,O,O,O,O,O,O] rfl rfl (by kernel_rfl) (fun _ _ _ h => h) (Or.inl ⟨by rfl, ?_⟩) ?_ ?_
              rotate_left
              · intro w'
                go_simp
                with_reducible rfl
              rotate_left
              · simp only [Act.put, sA_, sZ_, sS_, i64_w, i32_w]
                rfl
              refine pure_ (i := 7) (N := some 109) (v := ?_) (a' := ?_) #[I,I,I,I,I,I,O,I,O,O,O,O,O,O,O,O,O,O,O,O,O] rfl rfl (by kernel_rfl) (fun _ _ _ h => h) (Or.inl ⟨by rfl, ?_⟩) ?_ ?_
              rotate_left
              · intro w'
                go_simp
                with_reducible rfl
              rotate_left
              · simp only [Act.put, sA_, sZ_, sS_, i64_w, i32_w]
                rfl
              refine pure_ (i := 8) (N := some 110) (v := ?_) (a' := ?_) #[I,I,I,I,I,I,O,I,I,O,O,O,O,O,O,O,O,O,O,O,O] rfl rfl (by kernel_rfl) (fun _ _ _ h => h) (Or.inl ⟨by rfl, ?_⟩) ?_ ?_
              rotate_left
              · intro w'
                go_simp
                with_reducible rfl
              rotate_left
              · simp only [Act.put, sA_, sZ_, sS_, i64_w, i32_w]
                rfl
              refine pure_ (i := 9) (N := some 111) (v := ?_) (a' := ?_) #[I,I,I,I,I,I,O,I,I,I,O,O,O,O,O,O,O,O,O,O,O] rfl rfl (by kernel_rfl) (fun _ _ _ h => h) (Or.inl ⟨by rfl, ?_⟩) ?_ ?_
              rotate_left
              · intro w'
                go_simp
                with_reducible rfl
              rotate_left
              · simp only [Act.put, sA_, sZ_, sS_, i64_w, i32_w]
                rfl
              refine pure_ (i := 10) (N := some 112) (v := ?_) (a' := ?_) #[I,I,I,I,I,I,O,I,I,I,I,O,O,O,O,O,O,O,O,O,O] rfl rfl (by kernel_rfl) (fun _ _ _ h => h) (Or.inl ⟨by rfl, ?_⟩) ?_ ?_
              rotate_left
              · intro w'
                go_simp
                with_reducible rfl
              rotate_left
              · simp only [Act.put, sA_, sZ_, sS_, i64_w, i32_w]
                rfl
              refine pure_ (i := 12) (N := some 114) (v := ?_) (a' := ?_) #[I,I,I,I,I,I,O,I,I,I,I,O,I,O,O,O,O,O,O,O,O] rfl rfl (by kernel_rfl) (fun _ _ _ h => h) (Or.inl ⟨by rfl, ?_⟩) ?_ ?_
              rotate_left
              · intro w'
                go_simp
                with_reducible rfl
              rotate_left
              · simp only [Act.put, sA_, sZ_, sS_, i64_w, i32_w]
                rfl
              refine pure_ (i := 13) (N := some 115) (v := ?_) (a' := ?_) #[I,I,I,I,I,I,O,I,I,I,I,O,I,I,O,O,O,O,O,O,O] rfl rfl (by kernel_rfl) (fun _ _ _ h => h) (Or.inl ⟨by rfl, ?_⟩) ?_ ?_
              rotate_left
              · intro w'
                go_simp
                with_reducible rfl
              rotate_left
              · simp only [Act.put, sA_, sZ_, sS_, i64_w, i32_w]
                rfl
              refine pure_ (i := 14) (N := some 116) (v := ?_) (a' := ?_) #[I,I,I,I,I,I,O,I,I,I,I,O,I,I,I,O,O,O,O,O,O] rfl rfl (by kernel_rfl) (fun _ _ _ h => h) (Or.inl ⟨by rfl, ?_⟩) ?_ ?_
              rotate_left
              · intro w'
                go_simp
                with_reducible rfl
              rotate_left
              · simp only [Act.put, sA_, sZ_, sS_, i64_w, i32_w]
                rfl
              refine pure_ (i := 15) (N := some 117) (v := ?_) (a' := ?_) #[I,I,I,I,I,I,O,I,I,I,I,O,I,I,I,I,O,O,O,O,O] rfl rfl (by kernel_rfl) (fun _ _ _ h => h) (Or.inl ⟨by rfl, ?_⟩) ?_ ?_
              rotate_left
              · intro w'
                go_simp
                with_reducible rfl
              rotate_left
              · simp only [Act.put, sA_, sZ_, sS_, i64_w, i32_w]
                rfl
              refine take_ (i := 6) (N := some 108) (v := ?_) (a' := ?_) #[I,I,I,I,I,I,I,I,I,I,I,O,I,I,I,I,O,O,O,O,O] rfl rfl (by kernel_rfl) (fun _ _ _ h => h) (Or.inl ⟨by rfl, ?_⟩) hHeld ?_ ?_
              rotate_left
              · rintro w' ⟨s0, s1, s2⟩
                go_simp
                with_reducible rfl
              rotate_left
              · simp only [Act.put, sA_, sZ_, sS_, i64_w, i32_w]
                rfl
              refine take_ (i := 11) (N := some 113) (v := ?_) (a' := ?_) #[I,I,I,I,I,I,I,I,I,I,I,I,I,I,I,I,O,O,O,O,O] rfl rfl (by kernel_rfl) (fun _ _ _ h => h) (Or.inl ⟨by rfl, ?_⟩) hHeld ?_ ?_
              rotate_left
              · rintro w' ⟨s0, s1, s2⟩
                go_simp
                with_reducible rfl
              rotate_left
              · simp only [Act.put, sA_, sZ_, sS_, i64_w, i32_w]
                rfl
              refine take_ (i := 16) (N := some 118) (v := ?_) (a' := ?_) #[I,I,I,I,I,I,I,I,I,I,I,I,I,I,I,I,I,O,O,O,O] rfl rfl (by kernel_rfl) (fun _ _ _ h => h) (Or.inl ⟨by rfl, ?_⟩) hHeld ?_ ?_
              rotate_left
              · rintro w' ⟨s0, s1, s2⟩
                go_simp
                with_reducible rfl
              rotate_left
              · simp only [Act.put, sA_, sZ_, sS_, i64_w, i32_w]
                rfl
              refine one_ (i := 17) (N := some 119) #[I,I,I,I,I,I,I,I,I,I,I,I,I,I,I,I,I,I,O,O,O] rfl rfl (by kernel_rfl) (by decide) (fun K hK => ?_)
              refine Kd.R_append_rows_step (Kd.int .u8) (Rr := fun x cs => cs = [.int .u8 x]) (w0 := w) w.heap.size (by rfl) (.tmp 113) (.tmp 118) 34 5 (.int .u8 0) 1 (by rfl) Try.underlying34 info5 (by rfl) (by decide) (by decide) (.slice A md.f1.length c) md.f1 q.f1 Ak q.f1.length ck (fun _ => True) (fun _ => False) (by rfl) (by rfl) (Kd.R_drew HR5.out) (Kd.C_drew HCK.out) (fun _ _ e => e) (fun _ e => e.elim) (fun _ _ => trivial) (below_drew1 HBC.out) (by have h_ := Below.size (below_drew1 HBC.out); exact h_) KL.out ?_
              intro v11 w11 hr11 hb11 hg11 _
              obtain ⟨A11, c11, rfl⟩ := Kd.R_slice hr11
              have hrw := Kd.R_over' (v := .slice A md.f1.length c) (Kd.R_drew HRO.out) (Kd.R_typed (Kd.R_drew HR5.out)) (by decide) hg11
              obtain ⟨hx0, hx1, hf0, hf1⟩ := jp_last hrw KT.out
              have HR11 := Lib.hid hr11; have HB11 := Lib.hid hb11; have HRW11 := Lib.hid hrw
              clear hr11 hb11 hg11 hrw
              refine hK.out _ _ ⟨hx0, hx1, (X2.out _ HB11.out)⟩ (fun hHeld => ?_)
              clear hK K
              refine norm_ (a' := ?_) ?_ ?_
              rotate_left
              · show Act.put _ (some 119) _ = _
                simp only [Act.put, sA_, sZ_, sS_, i64_w, i32_w]
                rfl
              refine pure_ (i := 18) (N := some 120) (v := ?_) (a' := ?_) #[I,I,I,I,I,I,I,I,I,I,I,I,I,I,I,I,I,I,I,O,O] rfl rfl (by kernel_rfl) (fun _ _ _ h => h) (Or.inl ⟨by rfl, ?_⟩) ?_ ?_
              rotate_left
              · intro w'
                go_simp
                with_reducible rfl
              rotate_left
              · simp only [Act.put, sA_, sZ_, sS_, i64_w, i32_w]
                rfl
              refine pure_ (i := 19) (N := some 121) (v := ?_) (a' := ?_) #[I,I,I,I,I,I,I,I,I,I,I,I,I,I,I,I,I,I,I,I,O] rfl rfl (by kernel_rfl) (fun _ _ _ h => h) (Or.inl ⟨by rfl, ?_⟩) ?_ ?_
              rotate_left
              · intro w'
                go_simp
                with_reducible rfl
              rotate_left
              · simp only [Act.put, sA_, sZ_, sS_, i64_w, i32_w]
                rfl
              refine last_ (i := 20) (N := none) #[I,I,I,I,I,I,I,I,I,I,I,I,I,I,I,I,I,I,I,I,I] rfl rfl (by kernel_rfl) (by decide) (fun K hK => ?_)
              refine skip_ (w1 := ?_) (by rfl) rfl ?_ ?_
              rotate_left
              · go_simp
                rfl
              refine hK.out _ _ ?_
              clear hK K
              refine done_ (by kernel_rfl) ?_
              -- END15
              have hs := jp_set HRW11.out n (by omega) (u := .int .i64 md.f0) (v := .slice A11 (md.f1 ++ q.f1).length c11) rfl rfl
              rw [set_last _ _ KT.out] at hs
              have hlen9 : (md.f1 ++ q.f1).length = md.f1.length + q.f1.length := List.length_append
              obtain ⟨W9, hW9⟩ : ∃ W9, (w11.setCell ⟨g, n * 2, none⟩ (.int .i64 md.f0)).setCell ⟨g, n * 2 + 1, none⟩ (.slice A11 (md.f1.length + q.f1.length) c11) = W9 := ⟨_, rfl⟩
              rw [hlen9, hW9] at hs
              rw [hW9]
              have HW := Lib.hid hs
              have HN9 := Lib.hid hlen9
              have cut3 := CUT3.out (by omega)
              rw [show ((k : Int) + 1).toNat = k + 1 by omega] at cut3
              obtain ⟨A3, hA3⟩ : ∃ a : Option Addr, (if c0 = k + 1 then some ad else (some ad).map (·.add ((k + 1) * 2))) = a := ⟨_, rfl⟩
              rw [hA3] at cut3
              have hrow3 := Kd.C_drop (m := k + 1) (c := c0) (HRN.out.symm ▸ HRAW.out : (Kd.raw 2).C w (some ad) rl.length rl) (by have := HRN.out; omega) (by have := HRN.out; have := HC0.out; omega)
              rw [show (k + 1) * (Kd.raw 2).sz = (k + 1) * 2 from rfl, hA3] at hrow3
              have HROW3 := Lib.hid hrow3
              have hw4 : wrap64 ((k : Int) + 1) = (k : Int) + 1 := by have := HL.out; unfold wrap64; omega
              clear hs hx0 hx1 hf0 hf1 hHeld hW9 hlen9 hA3 hrow3
              go_wp2
              go_meet
              case rel =>
                rw [HS.out, HM1.out]
                refine ⟨Lib.hid ⟨g, cap, A11, c11, rfl, ?_, ?_, ?_⟩, A3, _, by rw [List.length_drop, HRN.out], HROW3⟩
                · have h := HW.out.1
                  rw [← HN9.out] at h
                  exact h
                · exact Kd.R_over' (v := .slice (some ⟨g, 0, none⟩) (n + 1) cap) HR11.out (Kd.R_typed HRW11.out) (by decide) HW.out.2
                · exact HB11.out.grown HW.out.2 HB11.out.size (fun r e => by cases e; exact Kd.R_base HRW11.out _ rfl)
          case rest =>
            obtain ⟨HM, A3, c3, hv12, HR3⟩ := hcut
            subst hv12
            obtain ⟨g9, cap9, A9, c9, hv10, hRO9, hR59, hBC9⟩ := HM.out
            subst hv10
            have HRO9 := Lib.hid hRO9; have HR59 := Lib.hid hR59; have HBC9 := Lib.hid hBC9
            obtain ⟨sf, hsf⟩ : ∃ sf, suf0 l0 x = sf := ⟨_, rfl⟩
            have HSF := Lib.hid hsf
            rw [hsf] at HR3 ⊢
            obtain ⟨m3, hm3⟩ : ∃ m3, (rl.drop sf).length = m3 := ⟨_, rfl⟩
            rw [hm3] at HR3 ⊢
            have HM3 := Lib.hid hm3
            clear HM hRO9 hR59 hBC9 hsf hm3
            go_wp2_with ((with_reducible refine gate_builtin (b := .append) (xs := #[.tmp 126, .tmp 127]) rfl ?_); at_builtin; refine hold_of ?_)
            unfold Hold
            refine Kd.R_append_rows (Kd.raw 2) (Rr := (Kd.raw 2).K w) (w0 := w) w.heap.size rfl (.tmp 126) (.tmp 127) 40 59 (.agg #[(.int .i64 0), (.slice none 0 0)]) 32 rfl Try.underlying40 info59 rfl (by decide) (by decide) (.slice (some ⟨g9, 0, none⟩) (n + 1) cap9) _ (rl.drop sf) A3 m3 c3 (fun _ => True) (fun _ => False) rfl rfl HRO9.out (Kd.C_below HR3.out HBC9.out) (fun _ _ h => h) (fun _ h => h.elim) (fun _ _ => trivial) HBC9.out HBC9.out.size (by have q1 := HL.out; have q2 := HM3.out; have q3 := KT.out; have q4 := HRN.out; rw [List.length_drop] at q2; rw [List.length_append, q3, List.length_singleton]; omega) ?_
            intro v6 w6 hr6 hb6 hg6 _
            obtain ⟨A6, c6, rfl⟩ := Kd.R_slice hr6
            have hR6 := Kd.R_over' (v := .slice (some ⟨g9, 0, none⟩) (n + 1) cap9) HR59.out (Kd.R_typed HRO9.out) (by decide) hg6
            obtain ⟨_, hn6, hC6⟩ := Kd.R_reads' hr6
            obtain ⟨_, hle9, hC9⟩ := Kd.R_reads' hR6
            have htwo : Two w6 (putf l0 x b) (rl.take n ++ [[.int .i64 (mid1 l0 x b).f0, .slice A9 (mid1 l0 x b).f1.length c9]] ++ rl.drop sf) := by
              rw [putf, HN.out, HSF.out]
              exact Two.app (Two.app ((HTWO.out.below hb6).take n) ⟨k59_mk w6 (mid1 l0 x b) hle9 hC9, trivial⟩) ((HTWO.out.below hb6).drop sf)
            have hlen6 := htwo.len
            rw [← hlen6] at hC6 hn6 ⊢
            have hfin := C_of_raw hC6 htwo
            have HFIN := Lib.hid hfin; have HB6 := Lib.hid hb6; have HN6 := Lib.hid hn6
            clear hfin hb6 hn6 hC6 hr6 hR6 hg6 hC9 htwo hlen6
            go_wp2
            go_ret
            exact ⟨_, _, _, rfl, rfl, HN6.out, HFIN.out, HB6.out⟩
end Go.Proofs.Ytflmfbcapccdeaa.JudgePut
set_option linter.unusedVariables false
set_option linter.unusedSimpArgs false
namespace Go.Proofs.Ytflmfbcapccdeaa.JudgeRP
open Go.RowKit Go.Proofs.Ytflmfbcapccdeaa.PA Go.Proofs.YtflmfbcapccdeaaW.PrintWords Go.Proofs.YtflmfbcapccdeaaW.PrintLast Go.Proofs.YtflmfbcapccdeaaW.PrintMore Go.Proofs.Ytflmfbcapccdeaa.JudgePut Go.Proofs.Ytflmfbcapccdeaa.WireG
open Go.Proofs.Ytflmfbcapccdeaa.JudgeBytesW (Q psd seg f14_len f14_byts)
/-- A byte at an offset; -1: none. -/
def atv : List P → Int → Int
  | [], _ => -1
  | p :: l, x => if p.f0 ≤ x ∧ x < p.f0 + p.f1.length then p.f1.getD (x - p.f0).toNat 0 else atv l x
def tot : List P → Nat
  | [] => 0
  | p :: l => p.f1.length + tot l
theorem tot_app : ∀ a b : List P, tot (a ++ b) = tot a + tot b
  | [], b => by simp [tot]
  | p :: a, b => by rw [List.cons_append, tot, tot, tot_app a b]; omega
theorem tot_mem : ∀ {l : List P} {p : P}, p ∈ l → p.f1.length ≤ tot l
  | q :: l, p, h => by
    rw [tot]
    rcases List.mem_cons.1 h with rfl | h
    · omega
    · have := tot_mem h; omega
/-- The four parts: what stays ahead, what is joined on the left, on the right, what stays behind. -/
theorem put_parts (l : List P) (x b : Int) : ∃ A L R D : List P, l.take (kc x l) = A ++ L ∧ l.drop (kc x l) = R ++ D ∧ l = A ++ L ++ (R ++ D) ∧ putf l x b = A ++ [mid1 l x b] ++ D ∧
    (L = [] ∧ lfb l x = false ∧ mid0 l x b = ⟨x, [b]⟩ ∨ ∃ p, L = [p] ∧ p.f0 + (p.f1.length : Int) = x ∧ mid0 l x b = ⟨p.f0, p.f1 ++ [b]⟩) ∧
    (R = [] ∧ rtb l x = false ∧ mid1 l x b = mid0 l x b ∨ ∃ q, R = [q] ∧ q.f0 = x + 1 ∧ mid1 l x b = ⟨(mid0 l x b).f0, (mid0 l x b).f1 ++ q.f1⟩) := by
  have hk := kc_le x l
  have e0 : l.take (kc x l) ++ l.drop (kc x l) = l := List.take_append_drop _ _
  obtain ⟨A, L, h1, hA, h2⟩ : ∃ A L : List P, l.take (kc x l) = A ++ L ∧ l.take (pre0 l x) = A ∧ (L = [] ∧ lfb l x = false ∧ mid0 l x b = ⟨x, [b]⟩ ∨ ∃ p, L = [p] ∧ p.f0 + (p.f1.length : Int) = x ∧ mid0 l x b = ⟨p.f0, p.f1 ++ [b]⟩) := by
    cases hl : lfb l x with
    | false => exact ⟨l.take (kc x l), [], by rw [List.append_nil], by rw [pre0, hl]; rfl, .inl ⟨rfl, rfl, by rw [mid0, hl]; rfl⟩⟩
    | true =>
      have hl2 := hl
      unfold lfb at hl2
      rw [Bool.and_eq_true] at hl2
      have h0 := of_decide_eq_true hl2.1
      have h1 := of_decide_eq_true hl2.2
      obtain ⟨j, hj⟩ : ∃ j, kc x l = j + 1 := ⟨kc x l - 1, by omega⟩
      rw [hj] at h1 ⊢
      have hjl : j < l.length := by omega
      rw [Nat.add_sub_cancel] at h1
      refine ⟨l.take j, [l.getD j z59], ?_, by rw [pre0, hl, if_pos rfl, hj, Nat.add_sub_cancel], .inr ⟨_, rfl, h1, by rw [mid0, hl, if_pos rfl, hj, Nat.add_sub_cancel]⟩⟩
      rw [List.take_succ_eq_append_getElem hjl, List.getD_eq_getElem?_getD, List.getElem?_eq_getElem hjl]; rfl
  obtain ⟨R, D, h3, hD, h4⟩ : ∃ R D : List P, l.drop (kc x l) = R ++ D ∧ l.drop (suf0 l x) = D ∧ (R = [] ∧ rtb l x = false ∧ mid1 l x b = mid0 l x b ∨ ∃ q, R = [q] ∧ q.f0 = x + 1 ∧ mid1 l x b = ⟨(mid0 l x b).f0, (mid0 l x b).f1 ++ q.f1⟩) := by
    cases hr : rtb l x with
    | false => exact ⟨[], l.drop (kc x l), rfl, by rw [suf0, hr]; rfl, .inl ⟨rfl, rfl, by rw [mid1, hr]; rfl⟩⟩
    | true =>
      have hr2 := hr
      unfold rtb at hr2
      rw [Bool.and_eq_true] at hr2
      have h0 := of_decide_eq_true hr2.1
      have h1 := of_decide_eq_true hr2.2
      refine ⟨[l.getD (kc x l) z59], l.drop (kc x l + 1), ?_, by rw [suf0, hr, if_pos rfl], .inr ⟨_, rfl, h1, by rw [mid1, hr, if_pos rfl]⟩⟩
      rw [List.drop_eq_getElem_cons h0, List.getD_eq_getElem?_getD, List.getElem?_eq_getElem h0]; rfl
  refine ⟨A, L, R, D, h1, h3, ?_, by rw [putf, hA, hD], h2, h4⟩
  rw [← h1, ← h3, e0]
/-- What may be: so many bytes, each one a byte. -/
def RB (n : Nat) (l : List P) : Prop := tot l ≤ n ∧ l.length ≤ n ∧ ∀ p ∈ l, 0 ≤ p.f0 ∧ p.f0 ≤ 1125899906942624 ∧ wgb p.f1
theorem RB.mono {n m : Nat} {l : List P} (h : RB n l) (hm : n ≤ m) : RB m l := ⟨Nat.le_trans h.1 hm, Nat.le_trans h.2.1 hm, h.2.2⟩
theorem RB.put {n : Nat} {l : List P} (h : RB n l) {x b : Int} (hx : 0 ≤ x ∧ x ≤ 1125899906942624) (hb : 0 ≤ b ∧ b ≤ 255) : RB (n + 1) (putf l x b) := by
  obtain ⟨A, L, R, D, _, _, hl, hp, h1, h2⟩ := put_parts l x b
  have ht : tot l = tot A + tot L + (tot R + tot D) := by rw [hl, tot_app, tot_app, tot_app]
  have hn : l.length = A.length + L.length + (R.length + D.length) := by rw [hl]; simp only [List.length_append]
  have hA : ∀ p ∈ A, p ∈ l := fun p hp => by rw [hl]; simp [hp]
  have hL : ∀ p ∈ L, p ∈ l := fun p hp => by rw [hl]; simp [hp]
  have hR : ∀ p ∈ R, p ∈ l := fun p hp => by rw [hl]; simp [hp]
  have hD : ∀ p ∈ D, p ∈ l := fun p hp => by rw [hl]; simp [hp]
  have hm0 : (mid0 l x b).f1.length = tot L + 1 ∧ 0 ≤ (mid0 l x b).f0 ∧ (mid0 l x b).f0 ≤ 1125899906942624 ∧ wgb (mid0 l x b).f1 := by
    rcases h1 with ⟨rfl, _, e⟩ | ⟨p, rfl, _, e⟩
    · rw [e]; exact ⟨rfl, hx.1, hx.2, fun c hc => by rw [List.mem_singleton] at hc; subst hc; exact hb⟩
    · have hpp := h.2.2 p (hL p (List.mem_singleton.2 rfl))
      rw [e]
      refine ⟨by simp [tot], hpp.1, hpp.2.1, fun c hc => ?_⟩
      rcases List.mem_append.1 hc with hc | hc
      · exact hpp.2.2 c hc
      · rw [List.mem_singleton] at hc; subst hc; exact hb
  have hm1 : (mid1 l x b).f1.length = tot L + 1 + tot R ∧ 0 ≤ (mid1 l x b).f0 ∧ (mid1 l x b).f0 ≤ 1125899906942624 ∧ wgb (mid1 l x b).f1 := by
    rcases h2 with ⟨rfl, _, e⟩ | ⟨q, rfl, _, e⟩
    · rw [e]; exact hm0
    · have hqq := h.2.2 q (hR q (List.mem_singleton.2 rfl))
      rw [e]
      refine ⟨by rw [List.length_append, hm0.1]; simp [tot], hm0.2.1, hm0.2.2.1, fun c hc => ?_⟩
      rcases List.mem_append.1 hc with hc | hc
      · exact hm0.2.2.2 c hc
      · exact hqq.2.2 c hc
  rw [hp]
  refine ⟨?_, ?_, fun p hp => ?_⟩
  · rw [tot_app, tot_app, tot, tot, hm1.1]; have := h.1; omega
  · simp only [List.length_append, List.length_singleton]; have := h.2.1; omega
  · rcases List.mem_append.1 hp with hp | hp
    · rcases List.mem_append.1 hp with hp | hp
      · exact h.2.2 p (hA p hp)
      · rw [List.mem_singleton] at hp; subst hp; exact hm1.2
    · exact h.2.2 p (hD p hp)
theorem wrap64_in (n : Int) (h : -9223372036854775808 ≤ n ∧ n ≤ 9223372036854775807) : wrap64 n = n := by unfold wrap64; omega
theorem at_l (l : List P) (x : Int) (n : Nat) (h : RB n l) (hn : n ≤ 10000000) (hx : 0 ≤ x ∧ x ≤ 1125899906942624) : ∀ (d i k : Nat), l.length - i = d → i ≤ l.length → d < k → tidewayref25_at.l0 k l x (i : Int) = some (atv (l.drop i) x) := by
  intro d
  induction d with
  | zero =>
    intro i k hd hi hk
    obtain ⟨k, rfl⟩ : ∃ j, k = j + 1 := ⟨k - 1, by omega⟩
    rw [tidewayref25_at.l0, if_neg (by omega), List.drop_of_length_le (by omega)]; rfl
  | succ d ih =>
    intro i k hd hi hk
    obtain ⟨k, rfl⟩ : ∃ j, k = j + 1 := ⟨k - 1, by omega⟩
    have hil : i < l.length := by omega
    have hr : rd_T59 l (i : Int) = l[i] := by rw [rd_T59, Int.toNat_natCast, List.getD_eq_getElem?_getD, List.getElem?_eq_getElem hil]; rfl
    have hpi := h.2.2 l[i] (List.getElem_mem hil)
    have hti := tot_mem (List.getElem_mem hil)
    have hll := h.2.1
    have hnext := ih (i + 1) k (by omega) (by omega) (by omega)
    have ht := h.1
    obtain ⟨f, hf⟩ : ∃ f, l[i].f0 = f := ⟨_, rfl⟩
    obtain ⟨bs, hbs⟩ : ∃ bs, l[i].f1 = bs := ⟨_, rfl⟩
    rw [hf, hbs] at hpi
    rw [hbs] at hti
    have c1 : (i : Int) < (l.length : Int) := by omega
    have c2 : (0 : Int) ≤ (i : Int) := by omega
    have b1 : (i : Int) + 1 ≤ 9223372036854775807 := by omega
    have b2 : -9223372036854775808 ≤ f + (bs.length : Int) ∧ f + (bs.length : Int) ≤ 9223372036854775807 := by omega
    have b3 : -9223372036854775808 ≤ x - f ∧ x - f ≤ 9223372036854775807 := by omega
    clear ih hd hk ht hn hti hll
    rw [tidewayref25_at.l0, if_pos c1, if_pos c2, hr, hf, hbs, wrap64_in _ b2, wrap64_in _ b3, wrap64_in _ ⟨by omega, b1⟩, show ((i : Int) + 1) = ((i + 1 : Nat) : Int) from rfl, hnext, List.drop_eq_getElem_cons hil, atv, hf, hbs]
    by_cases h1 : f ≤ x
    · rw [if_pos h1]
      by_cases h2 : x < f + (bs.length : Int)
      · have h3 : (x - f).toNat < bs.length := by omega
        have h4 : 0 ≤ x - f := by omega
        have h5 : x - f < (bs.length : Int) := by omega
        have hby := hpi.2.2 (bs[(x - f).toNat]) (List.getElem_mem h3)
        have hrd : rd bs (x - f) = bs[(x - f).toNat] := by rw [rd, List.getD_eq_getElem?_getD, List.getElem?_eq_getElem h3]; rfl
        rw [if_pos h2, if_pos h4, if_pos h5, if_pos ⟨h1, h2⟩, hrd, List.getD_eq_getElem?_getD, List.getElem?_eq_getElem h3, wrap64_in _ ⟨by omega, by omega⟩]; rfl
      · rw [if_neg h2, if_neg (fun h => h2 h.2)]
    · rw [if_neg h1, if_neg (fun h => h1 h.1)]
theorem at_f (l : List P) (x : Int) (n : Nat) (h : RB n l) (hn : n ≤ 10000000) (hx : 0 ≤ x ∧ x ≤ 1125899906942624) : tidewayref25_at.f (l.length + 1) l x = some (atv l x) := by
  have := at_l l x n h hn hx l.length 0 (l.length + 1) rfl (Nat.zero_le _) (Nat.lt_succ_self _)
  exact this
/-- The document's way through the bytes. -/
def rIn (fr : Int) : List Int → Nat → List P → Option (List P)
  | [], _, out => some out
  | c :: d, i, out => if 0 ≤ atv out (fr + i) ∧ atv out (fr + i) ≠ c then none else rIn fr d (i + 1) (if atv out (fr + i) < 0 then putf out (fr + i) c else out)
def rAll (vd : List Int → Bool) : List Q → List P → Option (List P)
  | [], out => some out
  | x :: l, out => (seg vd x).bind fun d => (rIn x.f2 d 0 out).bind (rAll vd l)
def rres (vd : List Int → Bool) (l : List Q) : List P × Bool := match rAll vd l [] with | some o => (o, true) | none => ([], false)
theorem rAll_at (vd : List Int → Bool) (l : List Q) (k : Nat) (h : k < l.length) (out : List P) : rAll vd (l.drop k) out = (seg vd l[k]).bind fun d => (rIn l[k].f2 d 0 out).bind (rAll vd (l.drop (k + 1))) := by
  rw [List.drop_eq_getElem_cons h, rAll]
theorem rIn_at (fr : Int) (d : List Int) (i : Nat) (h : i < d.length) (out : List P) : rIn fr (d.drop i) i out = if 0 ≤ atv out (fr + i) ∧ atv out (fr + i) ≠ d[i] then none else rIn fr (d.drop (i + 1)) (i + 1) (if atv out (fr + i) < 0 then putf out (fr + i) d[i] else out) := by
  rw [List.drop_eq_getElem_cons h, rIn]
end Go.Proofs.Ytflmfbcapccdeaa.JudgeRP
set_option linter.unusedVariables false
set_option linter.unusedSimpArgs false
set_option autoImplicit false
namespace Go.Proofs.Ytflmfbcapccdeaa.JudgeSame
open Go.RowKit Go.Proofs.Ytflmfbcapccdeaa.PA Go.Proofs.YtflmfbcapccdeaaW.PrintWords Go.Proofs.YtflmfbcapccdeaaW.PrintLast Go.Proofs.YtflmfbcapccdeaaW.PrintMore Go.Proofs.Ytflmfbcapccdeaa.JudgePut Go.Proofs.Ytflmfbcapccdeaa.WireG Go.Proofs.Ytflmfbcapccdeaa.JudgeRP Go.Proofs.Ytflmfbcapccdeaa.JudgeMap Go.Proofs.Ytflmfbcapccdeaa.JudgeSort
open Go.Proofs.Ytflmfbcapccdeaa.JudgeBytesW (Q psd seg f14_len f14_byts ks mget_mem Good good_all good_nil good_put bIn bAll bres pieces pstep fits)
/-- What one piece, what pieces hold at an offset. -/
def cov1 (p : P) (x : Int) : Option Int := if p.f0 ≤ x ∧ x < p.f0 + p.f1.length then some (p.f1.getD (x - p.f0).toNat 0) else none
def cov : List P → Int → Option Int
  | [], _ => none
  | p :: l, x => (cov1 p x).or (cov l x)
theorem cov_app : ∀ (a b : List P) (x : Int), cov (a ++ b) x = (cov a x).or (cov b x)
  | [], b, x => by simp [cov]
  | p :: a, b, x => by rw [List.cons_append, cov, cov, cov_app a b x, Option.or_assoc]
theorem atv_cov : ∀ (l : List P) (x : Int), atv l x = (cov l x).getD (-1)
  | [], x => rfl
  | p :: l, x => by
    rw [atv, cov, cov1]
    split
    · simp
    · rw [Option.none_or]; exact atv_cov l x
/-- Pieces in order, none empty, none touching the next. -/
def Nm : Int → List P → Prop
  | _, [] => True
  | lo, p :: l => lo < p.f0 ∧ 0 < p.f1.length ∧ Nm (p.f0 + p.f1.length) l
def endO : Int → List P → Int
  | lo, [] => lo
  | _, p :: l => endO (p.f0 + p.f1.length) l
theorem nm_app : ∀ (a b : List P) (lo : Int), Nm lo (a ++ b) ↔ Nm lo a ∧ Nm (endO lo a) b
  | [], b, lo => by simp [Nm, endO]
  | p :: a, b, lo => by rw [List.cons_append, Nm, Nm, endO, nm_app a b]; simp only [and_assoc]
theorem nm_low : ∀ {l : List P} {lo x : Int}, Nm lo l → x ≤ lo → cov l x = none
  | [], lo, x, _, _ => rfl
  | p :: l, lo, x, hn, hx => by
    have h1 := hn.1
    have h2 := hn.2.1
    rw [cov, cov1, if_neg (by omega), Option.none_or]
    exact nm_low hn.2.2 (by omega)
/-- What covers nothing at x and begins at or ahead of it ends at or ahead of it. -/
theorem end_le : ∀ (a : List P) (lo x : Int), lo ≤ x → (∀ p ∈ a, p.f0 ≤ x) → cov a x = none → endO lo a ≤ x
  | [], lo, x, h, _, _ => h
  | p :: a, lo, x, h, hp, hc => by
    rw [cov] at hc
    have hc1 : cov1 p x = none := by cases hh : cov1 p x with | none => rfl | some v => rw [hh] at hc; cases hc
    rw [hc1, Option.none_or] at hc
    have h0 := hp p (List.mem_cons_self ..)
    have h1 : ¬ (p.f0 ≤ x ∧ x < p.f0 + p.f1.length) := fun h => by rw [cov1, if_pos h] at hc1; cases hc1
    exact end_le a _ x (by omega) (fun q hq => hp q (List.mem_cons_of_mem _ hq)) hc
theorem endO_last : ∀ (a : List P) (p : P) (lo : Int), endO lo (a ++ [p]) = p.f0 + p.f1.length
  | [], p, lo => rfl
  | q :: a, p, lo => by rw [List.cons_append, endO]; exact endO_last a p _
theorem kc_all : ∀ (l : List P) (x : Int), ∀ p ∈ l.take (kc x l), p.f0 ≤ x
  | [], x, p, hp => by simp at hp
  | q :: l, x, p, hp => by
    rw [kc] at hp
    split at hp
    · rename_i h
      rw [List.take_succ_cons] at hp
      rcases List.mem_cons.1 hp with rfl | hp
      · exact h
      · exact kc_all l x p hp
    · simp at hp
theorem kc_head : ∀ (l : List P) (x : Int) (p : P) (t : List P), l.drop (kc x l) = p :: t → x < p.f0
  | [], x, p, t, h => by simp at h
  | q :: l, x, p, t, h => by
    rw [kc] at h
    split at h
    · rw [List.drop_succ_cons] at h; exact kc_head l x p t h
    · rename_i hn
      rw [List.drop_zero] at h
      obtain ⟨rfl, _⟩ := List.cons.inj h
      omega
theorem or_none' {a b : Option Int} (h : a.or b = none) : a = none ∧ b = none := by
  cases a with
  | none => exact ⟨rfl, by simpa using h⟩
  | some v => simp at h
theorem cov1_app (f : Int) (a b : List Int) (x : Int) : cov1 ⟨f, a ++ b⟩ x = (cov1 ⟨f, a⟩ x).or (cov1 ⟨f + a.length, b⟩ x) := by
  simp only [cov1, List.length_append]
  by_cases h1 : f ≤ x ∧ x < f + a.length
  · rw [if_pos (by omega), if_pos h1, Option.some_or]
    congr 1
    rw [List.getD_eq_getElem?_getD, List.getD_eq_getElem?_getD, List.getElem?_append_left (by omega)]
  · rw [if_neg h1, Option.none_or]
    by_cases h2 : f + a.length ≤ x ∧ x < f + a.length + b.length
    · rw [if_pos h2, if_pos (by omega)]
      congr 1
      rw [List.getD_eq_getElem?_getD, List.getD_eq_getElem?_getD, List.getElem?_append_right (by omega)]
      congr 2
      omega
    · rw [if_neg h2, if_neg (by omega)]
theorem cov_one (p : P) (x : Int) : cov [p] x = cov1 p x := by simp [cov]
theorem cov1_b (f b x : Int) : cov1 ⟨f, [b]⟩ x = if x = f then some b else none := by
  simp only [cov1, List.length_singleton]
  by_cases h : x = f
  · subst h; rw [if_pos (by omega), if_pos rfl]; simp
  · rw [if_neg (by omega), if_neg h]
/-- A byte put where none is. -/
theorem put_ok {l : List P} {x b lo : Int} (hn : Nm lo l) (hx : lo < x) (hc : cov l x = none) : Nm lo (putf l x b) ∧ ∀ y, cov (putf l x b) y = if y = x then some b else cov l y := by
  obtain ⟨A, L, R, D, h1, h3, hl, hp, h2, h4⟩ := put_parts l x b
  have hall := kc_all l x
  have hhead := kc_head l x
  rw [h1] at hall
  rw [h3] at hhead
  have hcl := hc
  rw [hl, cov_app, cov_app, cov_app] at hcl
  obtain ⟨hcAL, hcRD⟩ := or_none' hcl
  obtain ⟨hcA, hcL⟩ := or_none' hcAL
  obtain ⟨hcR, hcD⟩ := or_none' hcRD
  have hnl := hn
  rw [hl, nm_app, nm_app] at hnl
  obtain ⟨⟨hnA, hnL⟩, hnRD⟩ := hnl
  -- the middle: whence, how far, what it holds
  have hm0 : endO lo A < (mid0 l x b).f0 ∧ (mid0 l x b).f0 + ((mid0 l x b).f1.length : Int) = x + 1 ∧ 0 < (mid0 l x b).f1.length ∧ ∀ y, cov1 (mid0 l x b) y = (cov L y).or (if y = x then some b else none) := by
    rcases h2 with ⟨rfl, hlf, e⟩ | ⟨p, rfl, hpe, e⟩
    · have hle := end_le A lo x (Int.le_of_lt hx) (fun p hp => hall p (by simpa using hp)) hcA
      have hne : endO lo A ≠ x := by
        intro he
        rcases List.eq_nil_or_concat A with rfl | ⟨A', q, rfl⟩
        · exact absurd he (by simp only [endO]; omega)
        · rw [List.concat_eq_append] at he h1
          rw [endO_last] at he
          have hk : kc x l = A'.length + 1 := by
            have := congrArg List.length h1
            rw [List.length_take, List.append_nil, List.length_append, List.length_singleton] at this
            have := kc_le x l
            omega
          have hq : l.getD A'.length z59 = q := by
            have h5 : (l.take (kc x l))[A'.length]? = some q := by rw [h1]; simp
            rw [List.getElem?_take] at h5
            split at h5
            · rw [List.getD_eq_getElem?_getD, h5]; rfl
            · cases h5
          rw [lfb, hk, Nat.add_sub_cancel, hq, he] at hlf
          simp at hlf
      rw [e]
      refine ⟨by show endO lo A < x; omega, by simp, by simp, fun y => ?_⟩
      rw [cov1_b]; simp [cov]
    · rw [e]
      have hq := hnL
      refine ⟨hq.1, by simp only [List.length_append, List.length_singleton]; omega, by simp, fun y => ?_⟩
      rw [cov1_app, hpe, cov1_b, cov_one]
  obtain ⟨m1, m2, m3, m4⟩ := hm0
  have hm1 : (mid1 l x b).f0 = (mid0 l x b).f0 ∧ 0 < (mid1 l x b).f1.length ∧ Nm ((mid1 l x b).f0 + ((mid1 l x b).f1.length : Int)) D ∧ ∀ y, cov1 (mid1 l x b) y = ((cov L y).or (if y = x then some b else none)).or (cov R y) := by
    rcases h4 with ⟨rfl, hrt, e⟩ | ⟨q, rfl, hqe, e⟩
    · rw [e]
      refine ⟨rfl, m3, ?_, fun y => by rw [m4]; simp [cov]⟩
      rw [m2]
      cases D with
      | nil => trivial
      | cons d D =>
        have hd := hhead d D rfl
        have hne : d.f0 ≠ x + 1 := by
          intro he
          have hk : kc x l < l.length := by
            apply Nat.lt_of_not_le; intro hk
            rw [List.drop_of_length_le hk] at h3; simp at h3
          have hq : l.getD (kc x l) z59 = d := by
            have h5 : (l.drop (kc x l))[0]? = some d := by rw [h3]; rfl
            rw [List.getElem?_drop] at h5
            rw [List.getD_eq_getElem?_getD, show kc x l = kc x l + 0 from rfl, h5]; rfl
          rw [rtb, hq, he] at hrt
          simp [hk] at hrt
        have hnD : Nm (endO (endO lo A) L) (d :: D) := by
          have := hnRD
          rw [List.nil_append] at this
          rw [← show endO lo (A ++ L) = endO (endO lo A) L from by
            clear this
            have : ∀ (a c : List P) (lo : Int), endO lo (a ++ c) = endO (endO lo a) c := by
              intro a; induction a with
              | nil => intro c lo; rfl
              | cons p a ih => intro c lo; exact ih c _
            exact this A L lo]
          exact this
        exact ⟨by omega, hnD.2⟩
    · rw [e]
      have hq : Nm q.f0 [] ∧ 0 < q.f1.length ∧ Nm (q.f0 + q.f1.length) D := by
        have := hnRD
        rw [List.singleton_append] at this
        exact ⟨trivial, this.2.1, this.2.2⟩
      refine ⟨rfl, by simp; omega, ?_, fun y => ?_⟩
      · have : (mid0 l x b).f0 + (((mid0 l x b).f1 ++ q.f1).length : Int) = q.f0 + q.f1.length := by rw [List.length_append]; push_cast; omega
        show Nm ((mid0 l x b).f0 + (((mid0 l x b).f1 ++ q.f1).length : Int)) D
        rw [this]; exact hq.2.2
      · rw [cov1_app, show (mid0 l x b).f0 + ((mid0 l x b).f1.length : Int) = q.f0 from by omega, m4, cov_one]
  obtain ⟨n1, n2, n3, n4⟩ := hm1
  rw [hp]
  refine ⟨?_, fun y => ?_⟩
  · rw [List.append_assoc, nm_app]
    exact ⟨hnA, by rw [n1]; exact m1, n2, n3⟩
  · rw [cov_app, cov_app, cov_one, n4, hl, cov_app, cov_app, cov_app]
    by_cases hy : y = x
    · subst hy
      rw [if_pos rfl, if_pos rfl, hcA, hcL, hcR, hcD]; simp
    · rw [if_neg hy, if_neg hy, Option.or_none]
      simp only [Option.or_assoc]
/-- Two rows in order that hold the same are the same. -/
theorem nm_eq : ∀ (a b : List P) (lo : Int), Nm lo a → Nm lo b → (∀ y, cov a y = cov b y) → a = b
  | [], [], _, _, _, _ => rfl
  | [], q :: b, lo, _, hb, h => by
    have := h q.f0
    have h1 := hb.2.1
    rw [cov, cov, cov1, if_pos (by omega)] at this
    cases this
  | p :: a, [], lo, ha, _, h => by
    have := h p.f0
    have h1 := ha.2.1
    rw [cov, cov, cov1, if_pos (by omega)] at this
    cases this
  | p :: a, q :: b, lo, ha, hb, h => by
    have ha1 := ha.2.1
    have hb1 := hb.2.1
    have hcp : ∀ y, p.f0 ≤ y → y < p.f0 + p.f1.length → cov (p :: a) y = some (p.f1.getD (y - p.f0).toNat 0) := fun y h1 h2 => by rw [cov, cov1, if_pos ⟨h1, h2⟩, Option.some_or]
    have hcq : ∀ y, q.f0 ≤ y → y < q.f0 + q.f1.length → cov (q :: b) y = some (q.f1.getD (y - q.f0).toNat 0) := fun y h1 h2 => by rw [cov, cov1, if_pos ⟨h1, h2⟩, Option.some_or]
    have hnp : ∀ y, y < p.f0 ∨ y = p.f0 + p.f1.length → cov (p :: a) y = none := fun y hy => by
      rw [cov, cov1, if_neg (by omega), Option.none_or]; exact nm_low ha.2.2 (by omega)
    have hnq : ∀ y, y < q.f0 ∨ y = q.f0 + q.f1.length → cov (q :: b) y = none := fun y hy => by
      rw [cov, cov1, if_neg (by omega), Option.none_or]; exact nm_low hb.2.2 (by omega)
    have e0 : p.f0 = q.f0 := by
      rcases Int.lt_trichotomy p.f0 q.f0 with hlt | he | hlt
      · have := h p.f0; rw [hcp _ (by omega) (by omega), hnq _ (.inl hlt)] at this; cases this
      · exact he
      · have := h q.f0; rw [hcq _ (by omega) (by omega), hnp _ (.inl hlt)] at this; cases this
    have e1 : p.f1.length = q.f1.length := by
      rcases Nat.lt_trichotomy p.f1.length q.f1.length with hlt | he | hlt
      · have := h (p.f0 + p.f1.length); rw [hnp _ (.inr rfl), hcq _ (by omega) (by omega)] at this; cases this
      · exact he
      · have := h (q.f0 + q.f1.length); rw [hnq _ (.inr rfl), hcp _ (by omega) (by omega)] at this; cases this
    have e2 : p.f1 = q.f1 := by
      apply List.ext_getElem e1
      intro i h1 h2
      have := h (p.f0 + i)
      rw [hcp _ (by omega) (by omega), hcq _ (by omega) (by omega), e0, show (q.f0 + (i : Int) - q.f0).toNat = i from by omega] at this
      have := Option.some.inj this
      rw [List.getD_eq_getElem?_getD, List.getD_eq_getElem?_getD, List.getElem?_eq_getElem h1, List.getElem?_eq_getElem h2] at this
      exact this
    have epq : p = q := by cases p; cases q; simp only at e0 e2; rw [e0, e2]
    subst epq
    rw [nm_eq a b (p.f0 + p.f1.length) ha.2.2 hb.2.2 (fun y => ?_)]
    by_cases hy : y ≤ p.f0 + p.f1.length
    · rw [nm_low ha.2.2 hy, nm_low hb.2.2 hy]
    · have := h y
      simp only [cov] at this
      rw [show cov1 p y = none from by rw [cov1, if_neg (by omega)], Option.none_or, Option.none_or] at this
      exact this
theorem nm_end : ∀ {l : List P} {lo x : Int}, Nm lo l → endO lo l ≤ x → cov l x = none
  | [], lo, x, _, _ => rfl
  | p :: l, lo, x, hn, hx => by
    have hge : ∀ (l : List P) (lo : Int), Nm lo l → lo ≤ endO lo l := by
      intro l; induction l with
      | nil => intro lo _; exact Int.le_refl _
      | cons q l ih => intro lo hq; have h1 := ih _ hq.2.2; have h2 := hq.1; rw [endO]; omega
    have h1 := hge l _ hn.2.2
    rw [endO] at hx
    rw [cov, cov1, if_neg (by omega), Option.none_or]
    exact nm_end hn.2.2 hx
/-- One more, behind all. -/
theorem pstep_ok (m : List (Int × Int)) {out : List P} {x : Int} (hn : Nm (-1) out) (hx : 0 ≤ x) (he : endO (-1) out ≤ x) : Nm (-1) (pstep m out x) ∧ endO (-1) (pstep m out x) = x + 1 ∧ ∀ y, cov (pstep m out x) y = if y = x then some ((mget m x).getD 0) else cov out y := by
  have hnone := nm_end hn he
  have snoc : endO (-1) out < x → Nm (-1) (out ++ [⟨x, [(mget m x).getD 0]⟩]) ∧ endO (-1) (out ++ [⟨x, [(mget m x).getD 0]⟩]) = x + 1 ∧ ∀ y, cov (out ++ [⟨x, [(mget m x).getD 0]⟩]) y = if y = x then some ((mget m x).getD 0) else cov out y := fun h => by
    refine ⟨(nm_app _ _ _).2 ⟨hn, h, by simp, trivial⟩, by rw [endO_last]; simp, fun y => ?_⟩
    rw [cov_app, cov_one, cov1_b]
    by_cases hy : y = x
    · subst hy; rw [if_pos rfl, if_pos rfl, hnone]; simp
    · rw [if_neg hy, if_neg hy, Option.or_none]
  unfold pstep
  rcases List.eq_nil_or_concat out with rfl | ⟨o, p, rfl⟩
  · exact snoc (by simp only [endO]; omega)
  · rw [List.concat_eq_append] at *
    rw [List.getLast?_concat]
    rw [endO_last] at he snoc
    dsimp only
    split
    · rename_i hpx
      rw [List.dropLast_concat]
      obtain ⟨h1, h2⟩ := (nm_app _ _ _).1 hn
      refine ⟨(nm_app _ _ _).2 ⟨h1, h2.1, by simp, trivial⟩, by rw [endO_last]; simp; omega, fun y => ?_⟩
      rw [cov_app, cov_one, cov1_app, hpx, cov1_b, cov_app, cov_one]
      by_cases hy : y = x
      · subst hy
        rw [cov_app, cov_one] at hnone
        obtain ⟨g1, g2⟩ := or_none' hnone
        rw [if_pos rfl, if_pos rfl, g1, g2]; simp
      · rw [if_neg hy, if_neg hy, Option.or_none]
    · exact snoc (by omega)
theorem fold_ok (m : List (Int × Int)) : ∀ (l : List Int) (out : List P), Nm (-1) out → (∀ x ∈ l, 0 ≤ x ∧ endO (-1) out ≤ x) → l.Pairwise (· < ·) →
    Nm (-1) (l.foldl (pstep m) out) ∧ ∀ y, cov (l.foldl (pstep m) out) y = if y ∈ l then some ((mget m y).getD 0) else cov out y
  | [], out, hn, _, _ => ⟨hn, fun y => by simp⟩
  | x :: l, out, hn, hx, hs => by
    rw [List.pairwise_cons] at hs
    obtain ⟨h1, h2, h3⟩ := pstep_ok m hn (hx x (List.mem_cons_self ..)).1 (hx x (List.mem_cons_self ..)).2
    obtain ⟨k1, k2⟩ := fold_ok m l (pstep m out x) h1 (fun y hy => ⟨(hx y (List.mem_cons_of_mem _ hy)).1, by have := hs.1 y hy; omega⟩) hs.2
    refine ⟨k1, fun y => ?_⟩
    rw [List.foldl_cons, k2, h3]
    by_cases hyl : y ∈ l
    · rw [if_pos hyl, if_pos (List.mem_cons_of_mem _ hyl)]
    · rw [if_neg hyl]
      by_cases hy : y = x
      · subst hy; rw [if_pos rfl, if_pos (List.mem_cons_self ..)]
      · rw [if_neg hy, if_neg (fun h => (List.mem_cons.1 h).elim hy hyl)]
theorem js_strict {l : List Int} (h : l.Nodup) : (js l).Pairwise (· < ·) := by
  have h1 := js_sorted l
  have h2 : (js l).Nodup := (js_perm l).nodup_iff.2 h
  exact (h1.and h2).imp fun ⟨a, b⟩ => by omega
/-- The pieces of a map. -/
theorem pieces_ok {m : List (Int × Int)} (h : Go.Proofs.Ytflmfbcapccdeaa.JudgeBytesW.Good m) : Nm (-1) (pieces m) ∧ ∀ y, cov (pieces m) y = mget m y := by
  obtain ⟨h1, h2⟩ := fold_ok m (js (ks m)) [] trivial (fun x hx => ⟨(h.2 x ((js_perm _).mem_iff.1 hx)).1, by have := (h.2 x ((js_perm _).mem_iff.1 hx)).1; simp only [endO]; omega⟩) (js_strict h.1)
  refine ⟨h1, fun y => ?_⟩
  show cov ((js (ks m)).foldl (pstep m) []) y = _
  rw [h2]
  simp only [(js_perm _).mem_iff, mget_mem]
  cases hm : mget m y with
  | none => simp [cov]
  | some v => simp
theorem mput_get {m : List (Int × Int)} {x v : Int} (hf : fits m x v = true) (y : Int) : mget (mput m x v) y = if y = x then some v else mget m y := by
  unfold mput
  unfold fits at hf
  cases hm : mget m x with
  | none => rw [if_neg (by simp)]; exact mget_snoc hm
  | some u =>
    rw [if_pos (by simp)]
    rw [hm] at hf
    simp at hf
    by_cases hy : y = x
    · subst hy; rw [if_pos rfl, hm, hf]
    · rw [if_neg hy]
def Rel (out : List P) (m : List (Int × Int)) : Prop := Nm (-1) out ∧ ∀ y, cov out y = mget m y
theorem in_same (fr : Int) (h0 : 0 ≤ fr) : ∀ (d : List Int) (i : Nat) (out : List P) (m : List (Int × Int)), (∀ c ∈ d, 0 ≤ c) → (∀ y v, mget m y = some v → 0 ≤ v) → Rel out m →
    match rIn fr d i out, bIn fr d i m with
    | some o, some m' => Rel o m' ∧ ∀ y v, mget m' y = some v → 0 ≤ v
    | none, none => True
    | _, _ => False
  | [], i, out, m, _, hv, hr => by rw [rIn, bIn]; exact ⟨hr, hv⟩
  | c :: d, i, out, m, hc, hv, hr => by
    have hc0 := hc c (List.mem_cons_self ..)
    have hcd : ∀ c ∈ d, 0 ≤ c := fun x hx => hc x (List.mem_cons_of_mem _ hx)
    rw [rIn, bIn, atv_cov, hr.2]
    have hfit : fits m (fr + i) c = true → ∀ y v, mget (mput m (fr + i) c) y = some v → 0 ≤ v := fun hf y v h => by
      rw [mput_get hf] at h
      split at h
      · obtain rfl := Option.some.inj h; exact hc0
      · exact hv y v h
    cases hm : mget m (fr + i) with
    | none =>
      have hf : fits m (fr + i) c = true := by simp [fits, hm]
      rw [if_neg (by simp), if_pos (by simp), if_pos hf]
      obtain ⟨p1, p2⟩ := put_ok (l := out) (x := fr + i) (b := c) hr.1 (by omega) (by rw [hr.2, hm])
      refine in_same fr h0 d (i + 1) _ _ hcd (hfit hf) ⟨p1, fun y => ?_⟩
      rw [p2, mput_get hf, hr.2]
    | some u =>
      have hu := hv _ _ hm
      by_cases huc : u = c
      · subst huc
        have hf : fits m (fr + i) u = true := by simp [fits, hm]
        rw [if_neg (by simp), if_neg (by simp; omega), if_pos hf]
        refine in_same fr h0 d (i + 1) _ _ hcd (hfit hf) ⟨hr.1, fun y => ?_⟩
        rw [mput_get hf, hr.2]
        split
        · rename_i h; rw [h, hm]
        · rfl
      · have hf : ¬ fits m (fr + i) c = true := by simp [fits, hm, huc]
        rw [if_pos (by simp; omega), if_neg hf]
        trivial
theorem all_same (vd : List Int → Bool) : ∀ (l : List Q) (out : List P) (m : List (Int × Int)), (∀ x ∈ l, wgb x.f0) → (∀ y v, mget m y = some v → 0 ≤ v) → Rel out m →
    match rAll vd l out, bAll vd l m with
    | some o, some m' => Rel o m'
    | none, none => True
    | _, _ => False
  | [], out, m, _, _, hr => by rw [rAll, bAll]; exact hr
  | x :: l, out, m, hb, hv, hr => by
    rw [rAll, bAll]
    cases hs : seg vd x with
    | none => trivial
    | some d =>
      have hd : wgb d ∧ 0 ≤ x.f2 := by
        rw [seg] at hs
        split at hs
        · rename_i hc
          obtain rfl := Option.some.inj hs
          exact ⟨f14_byts _ _ (hb x (List.mem_cons_self ..)), hc.2.1⟩
        · cases hs
      rw [Option.bind_some, Option.bind_some]
      have h1 := in_same x.f2 hd.2 d 0 out m (fun c hc => (hd.1 c hc).1) hv hr
      revert h1
      cases hri : rIn x.f2 d 0 out with
      | none => cases hbi : bIn x.f2 d 0 m with
        | none => intro _; trivial
        | some m' => intro h; exact h.elim
      | some o => cases hbi : bIn x.f2 d 0 m with
        | none => intro h; exact h.elim
        | some m' => intro h; exact all_same vd l o m' (fun y hy => hb y (List.mem_cons_of_mem _ hy)) h.2 h.1
/-- The two answer the same. -/
theorem res_same (vd : List Int → Bool) (l : List Q) (hb : ∀ x ∈ l, wgb x.f0) : rres vd l = bres vd l := by
  have h := all_same vd l [] [] hb (fun y v h => by cases h) ⟨trivial, fun y => rfl⟩
  rw [rres, bres]
  cases hr : rAll vd l [] with
  | none => cases hbl : bAll vd l [] with
    | none => rfl
    | some m => rw [hr, hbl] at h; exact h.elim
  | some o => cases hbl : bAll vd l [] with
    | none => rw [hr, hbl] at h; exact h.elim
    | some m =>
      rw [hr, hbl] at h
      have hp := pieces_ok (good_all vd l [] m good_nil hbl)
      rw [nm_eq o (pieces m) (-1) h.1 hp.1 (fun y => by rw [h.2, hp.2])]
end Go.Proofs.Ytflmfbcapccdeaa.JudgeSame
set_option linter.unusedVariables false
set_option linter.unusedSimpArgs false
namespace Go.Proofs.Ytflmfbcapccdeaa.JudgeBytesR
open Go.RowKit Go.Proofs.Ytflmfbcapccdeaa.PA Go.Proofs.YtflmfbcapccdeaaW.PrintWords Go.Proofs.YtflmfbcapccdeaaW.PrintLast Go.Proofs.YtflmfbcapccdeaaW.PrintMore Go.Proofs.Ytflmfbcapccdeaa.JudgePut Go.Proofs.Ytflmfbcapccdeaa.WireG Go.Proofs.Ytflmfbcapccdeaa.JudgeRP
open Go.Proofs.Ytflmfbcapccdeaa.JudgeBytesW (Q psd seg f14_len f14_byts)
set_option maxRecDepth 100000 in
set_option maxHeartbeats 64000000 in
theorem rb_calls (A0 : Option Addr) (c0 : Nat) (l0 : List Q) (vd : List Int → Bool) (w : World) (hr0 : Kd.C k39 w A0 l0.length l0) (hl : l0.length ≤ 60)
    (hb : ∀ x ∈ l0, wgb x.f0) (hln : ∀ x ∈ l0, x.f0.length ≤ 140737488351232) (hv : ∀ x ∈ l0, sum_Valid.f [psd x.f0, x.f0] = some (vd x.f0)) :
    Calls Try.prog 23 #[.slice A0 l0.length c0] w fun e w' => ∃ A n c, e = .returned (.tuple #[.slice A n c, .bool (rres vd l0).2]) ∧ n = (rres vd l0).1.length ∧ n ≤ c ∧ Kd.C k59 w' A n (rres vd l0).1 ∧ Below w.heap.size w w' := by
  have HC := Lib.hid hr0; have HB := Lib.hid hb; have HV := Lib.hid hv; have HL := Lib.hid hl; have HLN := Lib.hid hln
  clear hr0 hb hv hln
  go_enter Try.func23, Try.ntmps23
  go_wp2
  go_loopw [4, 5] (fun v4 v5 wr => ∃ (k : Nat) (out : List P) (A4 : Option Addr) (c4 : Nat), k ≤ l0.length ∧ v5 = .int .i64 (k : Int) ∧ v4 = .slice A4 out.length c4 ∧ Hid (out.length ≤ c4) ∧ Hid (Kd.C k59 wr A4 out.length out) ∧ Hid (rAll vd l0 [] = rAll vd (l0.drop k) out) ∧ Hid (Below w.heap.size w wr) ∧ Hid (RB (k * 65000) out))
    (fun _ v5 _ => l0.length - (intOf v5).toNat)
  case atStart => exact ⟨0, [], none, 0, Nat.zero_le _, rfl, rfl, Lib.hid (Nat.le_refl _), Lib.hid (Kd.C_nil _ _), Lib.hid rfl, Lib.hid (Below.refl _ _), Lib.hid ⟨Nat.le_refl _, Nat.le_refl _, fun p hp => by cases hp⟩⟩
  case round =>
    obtain ⟨k, out, A4, c4, hk, rfl, rfl, HCC, HCO, HA, HBW, HRB⟩ := hrel
    by_cases hlt : k < l0.length
    · obtain ⟨ad, A1, c1, had, hx0, hx1, hx2, hx3, hx4, hx5, hx6, hle, hCd⟩ := at_T39 HC.out (k : Int) (by omega) (by omega)
      obtain rfl := had
      replace hx0 := (HBW.out.cell (World.block_lt_of_cell? w _ hx0)).trans hx0
      have KX2 := Lib.hid (fun (W : World) (hB : Below w.heap.size w W) => (hB.cell (World.block_lt_of_cell? w _ hx2)).trans hx2)
      clear hx1 hx2 hx3 hx4 hx5 hx6
      have hg : l0.getD k z39 = l0[k] := by rw [List.getD_eq_getElem?_getD, List.getElem?_eq_getElem hlt]; rfl
      have hrd : rd_T39 l0 (k : Int) = l0[k] := by rw [← hg]; rfl
      simp only [Int.toNat_natCast, hrd] at hx0 KX2 hle hCd
      have hAt := rAll_at vd l0 k hlt out
      have hbx := HB.out l0[k] (List.getElem_mem hlt)
      have hvx := HV.out l0[k] (List.getElem_mem hlt)
      have hlx := HLN.out l0[k] (List.getElem_mem hlt)
      obtain ⟨x, hx⟩ : ∃ x, l0[k] = x := ⟨_, rfl⟩
      rw [hx] at hx0 KX2 hle hCd hAt hbx hvx hlx
      obtain ⟨r, hr⟩ : ∃ r, wgget (vd x.f0) x.f0 = r := ⟨_, rfl⟩
      have hno := wgget_no (vd x.f0) x.f0
      have HG := Lib.hid (fun (W : World) (hW : Below w.heap.size w W) => show Calls Try.prog 37 #[.slice A1 x.f0.length c1, .int .u32 1, .int .u32 2] W (fun e w' => Below W.heap.size W w' ∧ ∃ v13 v14, e = .returned (.tuple #[.agg (wgcells (wgget (vd x.f0) x.f0).1 v13 v14), .int .i64 (wgno (wgget (vd x.f0) x.f0).2)]) ∧ Kd.R k112 112 w' W.heap.size (fun _ => True) v13 (wgget (vd x.f0) x.f0).1.f13 ∧ Kd.R (Kd.int .u8) 5 w' W.heap.size (fun _ => True) v14 (wgget (vd x.f0) x.f0).1.f14) from wr_Get A1 c1 x.f0 1 2 (vd x.f0) W (Kd.C_below hCd hW) hle hbx hlx hvx)
      have hdl := f14_len (vd x.f0) x.f0
      have hdb := f14_byts (vd x.f0) x.f0 hbx
      rw [hr] at hno HG hdl hdb
      have HDL := Lib.hid hdl; have HDB := Lib.hid hdb; clear hdl hdb
      have hseg : seg vd x = if r.2 = 0 ∧ 0 ≤ x.f2 ∧ x.f2 ≤ 1125899906842624 then some r.1.f14 else none := by rw [seg, hr]
      have HSG := Lib.hid hseg; have HAT := Lib.hid hAt; have HNO := Lib.hid hno
      have hlt' : (k : Int) < l0.length := by omega
      clear hg hrd hx hAt hbx hvx hle hCd hr hseg hno hlx
      by_cases hr0 : r.2 = 0
      case neg =>
        have q0 : (wgno r.2 != 0) = true := by rcases HNO.out with h | h | h | h <;> rw [h] <;> first | exact absurd h hr0 | rfl
        have HR := Lib.hid (show ¬ (r.2 = 0 ∧ 0 ≤ x.f2 ∧ x.f2 ≤ 1125899906842624) from fun h => hr0 h.1)
        clear hr0
        go_wp2_with (first | (go_at_call 37; refine (HG.out _ HBW.out).mono ?_; rintro e w2 ⟨hb2, v13, v14, rfl, h13, h14⟩; obtain ⟨A13, c13, rfl⟩ := Kd.R_slice h13; obtain ⟨A14, c14, rfl⟩ := Kd.R_slice h14; have HB2 := Lib.hid hb2; have H14 := Lib.hid h14; clear hb2 h13 h14) | (refine gate_ (.store 53 (.tmp 6) (.tmp 23)) rfl ?_; refine wg_store_op rfl rfl 53 (.tmp 6) (.tmp 23) rfl _ _ _ 53 _ rfl rfl rfl (by kernel_rfl) rfl (blk_new _ _) rfl ?_; intro w10 h10 hg10; have H10 := Lib.hid h10; have HG10 := Lib.hid hg10; have HB10 := Lib.hid (show Below w.heap.size w w10 from ((HBW.out.trans (HB2.out.mono HBW.out.size)).alloc (HBW.out.trans (HB2.out.mono HBW.out.size)).size _).grown hg10 (by have := (HBW.out.trans (HB2.out.mono HBW.out.size)).size; rw [World.size_alloc]; omega) (fun r e => by cases e; exact (HBW.out.trans (HB2.out.mono HBW.out.size)).size)); have k2 : w10.cell? ⟨(ad.add (k * 7)).block, (ad.add (k * 7)).off + 2, none⟩ = some (.int .i64 x.f2) := KX2.out _ HB10.out; clear h10 hg10))
        go_ret2
        have hres : rres vd l0 = ([], false) := by rw [rres, HA.out, HAT.out, HSG.out, if_neg HR.out]; rfl
        rw [hres]
        exact ⟨none, 0, 0, rfl, rfl, Nat.le_refl _, Kd.C_nil _ _, HB10.out⟩
      have q0 : wgno r.2 = 0 := by rw [hr0]; rfl
      rw [q0] at HG
      by_cases hf1 : x.f2 < 0
      case pos =>
        have HR := Lib.hid (show ¬ (r.2 = 0 ∧ 0 ≤ x.f2 ∧ x.f2 ≤ 1125899906842624) from fun h => by omega)
        go_wp2_with (first | (go_at_call 37; refine (HG.out _ HBW.out).mono ?_; rintro e w2 ⟨hb2, v13, v14, rfl, h13, h14⟩; obtain ⟨A13, c13, rfl⟩ := Kd.R_slice h13; obtain ⟨A14, c14, rfl⟩ := Kd.R_slice h14; have HB2 := Lib.hid hb2; have H14 := Lib.hid h14; clear hb2 h13 h14) | (refine gate_ (.store 53 (.tmp 6) (.tmp 23)) rfl ?_; refine wg_store_op rfl rfl 53 (.tmp 6) (.tmp 23) rfl _ _ _ 53 _ rfl rfl rfl (by kernel_rfl) rfl (blk_new _ _) rfl ?_; intro w10 h10 hg10; have H10 := Lib.hid h10; have HG10 := Lib.hid hg10; have HB10 := Lib.hid (show Below w.heap.size w w10 from ((HBW.out.trans (HB2.out.mono HBW.out.size)).alloc (HBW.out.trans (HB2.out.mono HBW.out.size)).size _).grown hg10 (by have := (HBW.out.trans (HB2.out.mono HBW.out.size)).size; rw [World.size_alloc]; omega) (fun r e => by cases e; exact (HBW.out.trans (HB2.out.mono HBW.out.size)).size)); have k2 : w10.cell? ⟨(ad.add (k * 7)).block, (ad.add (k * 7)).off + 2, none⟩ = some (.int .i64 x.f2) := KX2.out _ HB10.out; clear h10 hg10))
        go_ret2
        have hres : rres vd l0 = ([], false) := by rw [rres, HA.out, HAT.out, HSG.out, if_neg HR.out]; rfl
        rw [hres]
        exact ⟨none, 0, 0, rfl, rfl, Nat.le_refl _, Kd.C_nil _ _, HB10.out⟩
      by_cases hf2 : x.f2 > 1125899906842624
      case pos =>
        have HR := Lib.hid (show ¬ (r.2 = 0 ∧ 0 ≤ x.f2 ∧ x.f2 ≤ 1125899906842624) from fun h => by omega)
        go_wp2_with (first | (go_at_call 37; refine (HG.out _ HBW.out).mono ?_; rintro e w2 ⟨hb2, v13, v14, rfl, h13, h14⟩; obtain ⟨A13, c13, rfl⟩ := Kd.R_slice h13; obtain ⟨A14, c14, rfl⟩ := Kd.R_slice h14; have HB2 := Lib.hid hb2; have H14 := Lib.hid h14; clear hb2 h13 h14) | (refine gate_ (.store 53 (.tmp 6) (.tmp 23)) rfl ?_; refine wg_store_op rfl rfl 53 (.tmp 6) (.tmp 23) rfl _ _ _ 53 _ rfl rfl rfl (by kernel_rfl) rfl (blk_new _ _) rfl ?_; intro w10 h10 hg10; have H10 := Lib.hid h10; have HG10 := Lib.hid hg10; have HB10 := Lib.hid (show Below w.heap.size w w10 from ((HBW.out.trans (HB2.out.mono HBW.out.size)).alloc (HBW.out.trans (HB2.out.mono HBW.out.size)).size _).grown hg10 (by have := (HBW.out.trans (HB2.out.mono HBW.out.size)).size; rw [World.size_alloc]; omega) (fun r e => by cases e; exact (HBW.out.trans (HB2.out.mono HBW.out.size)).size)); have k2 : w10.cell? ⟨(ad.add (k * 7)).block, (ad.add (k * 7)).off + 2, none⟩ = some (.int .i64 x.f2) := KX2.out _ HB10.out; clear h10 hg10))
        go_ret2
        have hres : rres vd l0 = ([], false) := by rw [rres, HA.out, HAT.out, HSG.out, if_neg HR.out]; rfl
        rw [hres]
        exact ⟨none, 0, 0, rfl, rfl, Nat.le_refl _, Kd.C_nil _ _, HB10.out⟩
      have HR := Lib.hid (show r.2 = 0 ∧ 0 ≤ x.f2 ∧ x.f2 ≤ 1125899906842624 from ⟨hr0, by omega, by omega⟩)
      have HF := Lib.hid (show 0 ≤ x.f2 ∧ x.f2 ≤ 1125899906842624 from ⟨by omega, by omega⟩)
      obtain ⟨d, hd⟩ : ∃ d, r.1.f14 = d := ⟨_, rfl⟩
      have HDL2 := Lib.hid (show d.length ≤ 65000 from by rw [← hd]; exact HDL.out hr0)
      have HDB2 := Lib.hid (show wgb d from by rw [← hd]; exact HDB.out)
      have HA2 := Lib.hid (show rAll vd l0 [] = (rIn x.f2 d 0 out).bind (rAll vd (l0.drop (k + 1))) from by rw [HA.out, HAT.out, HSG.out, if_pos HR.out, hd, Option.bind_some])
      rw [hd] at HG
      clear hd
      go_wp2_with (first | (go_at_call 37; refine (HG.out _ HBW.out).mono ?_; rintro e w2 ⟨hb2, v13, v14, rfl, h13, h14⟩; obtain ⟨A13, c13, rfl⟩ := Kd.R_slice h13; obtain ⟨A14, c14, rfl⟩ := Kd.R_slice h14; have HB2 := Lib.hid hb2; have H14 := Lib.hid h14; clear hb2 h13 h14) | (refine gate_ (.store 53 (.tmp 6) (.tmp 23)) rfl ?_; refine wg_store_op rfl rfl 53 (.tmp 6) (.tmp 23) rfl _ _ _ 53 _ rfl rfl rfl (by kernel_rfl) rfl (blk_new _ _) rfl ?_; intro w10 h10 hg10; have H10 := Lib.hid h10; have HG10 := Lib.hid hg10; have HB10 := Lib.hid (show Below w.heap.size w w10 from ((HBW.out.trans (HB2.out.mono HBW.out.size)).alloc (HBW.out.trans (HB2.out.mono HBW.out.size)).size _).grown hg10 (by have := (HBW.out.trans (HB2.out.mono HBW.out.size)).size; rw [World.size_alloc]; omega) (fun r e => by cases e; exact (HBW.out.trans (HB2.out.mono HBW.out.size)).size)); have k2 : w10.cell? ⟨(ad.add (k * 7)).block, (ad.add (k * 7)).off + 2, none⟩ = some (.int .i64 x.f2) := KX2.out _ HB10.out; have k14 : w10.cell? ⟨w2.heap.size, 14, none⟩ = some (.slice A14 d.length c14) := (blk_cell h10 14).trans rfl; clear h10 hg10))
      obtain ⟨bs, hbs⟩ : ∃ bs, w2.heap.size = bs := ⟨_, rfl⟩
      have hb210 : Below w2.heap.size w2 w10 := (below_alloc (Below.refl w2.heap.size w2) _).grown HG10.out (by rw [World.size_alloc]; exact Nat.le_succ _) (fun r e => by cases e; exact Nat.le_refl _)
      have HD10 := Lib.hid (Kd.C_below (Kd.R_reads' H14.out).2.2 hb210)
      have HO10 := Lib.hid (Kd.C_below (Kd.C_below HCO.out HB2.out) hb210)
      rw [hbs] at k14 ⊢
      have K14 := Lib.hid (fun (W : World) (hB : Below w10.heap.size w10 W) => show W.cell? ⟨bs, 14, none⟩ = some (.slice A14 d.length c14) from (hB.cell (World.block_lt_of_cell? w10 _ k14)).trans k14)
      clear hb210 hbs k14 k2
      have hdl := HDL2.out
      go_loopw [4, 8] (fun v4 v8 wi => ∃ (j : Nat) (out2 : List P) (A5 : Option Addr) (c5 : Nat), j ≤ d.length ∧ v8 = .int .i64 (j : Int) ∧ v4 = .slice A5 out2.length c5 ∧ Hid (out2.length ≤ c5) ∧ Hid (Kd.C k59 wi A5 out2.length out2) ∧ Hid (rIn x.f2 d 0 out = rIn x.f2 (d.drop j) j out2) ∧ Hid (Below w10.heap.size w10 wi) ∧ Hid (RB (k * 65000 + j) out2))
        (fun _ v8 _ => d.length - (intOf v8).toNat)
      case atStart => exact ⟨0, out, A4, c4, Nat.zero_le _, rfl, rfl, HCC, HO10, Lib.hid rfl, Lib.hid (Below.refl _ _), Lib.hid (HRB.out.mono (Nat.le_add_right _ _))⟩
      case round =>
        obtain ⟨j, out2, A5, c5, hj, rfl, rfl, HCC2, HCO2, HI, HB5, HRB2⟩ := hrel
        have h14 := K14.out wr HB5.out
        by_cases hjd : j < d.length
        · have hri := rIn_at x.f2 d j hjd out2
          have hcr := HDB2.out d[j] (List.getElem_mem hjd)
          obtain ⟨ad5, hA5, hc5⟩ := Kd.at_int HD10.out (j : Int) (by omega) (by omega)
          obtain rfl := hA5
          have hrd5 : rd d (j : Int) = d[j] := by rw [rd, Int.toNat_natCast, List.getD_eq_getElem?_getD, List.getElem?_eq_getElem hjd]; rfl
          rw [Int.toNat_natCast, hrd5] at hc5
          obtain ⟨c, hc⟩ : ∃ c, d[j] = c := ⟨_, rfl⟩
          rw [hc] at hri hcr hc5
          have K5 := Lib.hid (fun (W : World) (hB : Below w10.heap.size w10 W) => show W.cell? (ad5.add j) = some (.int .u8 c) from (hB.cell (World.block_lt_of_cell? w10 _ hc5)).trans hc5)
          have h5 := K5.out wr HB5.out
          have h2 := KX2.out wr (below_step HB10.out HB5.out)
          have hF := HF.out
          have hll := HL.out
          have hle : k * 65000 + j ≤ 10000000 := by omega
          have hxb : 0 ≤ x.f2 + (j : Int) ∧ x.f2 + (j : Int) ≤ 1125899906942624 := by omega
          have hat := at_f out2 (x.f2 + (j : Int)) (k * 65000 + j) HRB2.out hle hxb
          have HXB := Lib.hid hxb; have HLE := Lib.hid hle
          obtain ⟨a, ha⟩ : ∃ a, atv out2 (x.f2 + (j : Int)) = a := ⟨_, rfl⟩
          rw [ha] at hri hat
          have KAT := Lib.hid (tidewayref25_at.calls (out2.length + 1) A5 c5 out2 (x.f2 + (j : Int)) a wr HCO2.out HCC2.out hat)
          have HRI := Lib.hid hri; have HCR := Lib.hid hcr; have HAT2 := Lib.hid ha
          have hjj : (j : Int) < (d.length : Int) := by omega
          have hwc : wrap64 c = c := wrap64_in _ (by omega)
          clear hri hrd5 hc5 hll hle hxb hat ha hc
          by_cases h1 : 0 ≤ a
          · by_cases h2 : a = c
            · subst h2
              have HN := Lib.hid (show rIn x.f2 d 0 out = rIn x.f2 (d.drop (j + 1)) (j + 1) out2 from by rw [HI.out, HRI.out, if_neg (fun h => h.2 rfl), if_neg (by omega)])
              have h3 : ¬ a < 0 := by omega
              go_wp2_with (go_at_call 38; refine KAT.out.mono ?_; rintro e w3 ⟨rfl, hd⟩; obtain ⟨nd, rfl⟩ := hd.out)
              go_roundw
              case rel => exact ⟨j + 1, out2, A5, c5, hjd, by first | rfl | (simp; done), rfl, HCC2, Lib.hid (Kd.C_drewN HCO2.out nd), HN, Lib.hid (pw_below_drewN HB5.out nd), Lib.hid (HRB2.out.mono (by omega))⟩
              case measure => simp [intOf]; omega
            · have h3 : (a != c) = true := bne_iff_ne.mpr h2
              have HN := Lib.hid (show rIn x.f2 d 0 out = none from by rw [HI.out, HRI.out, if_pos ⟨h1, h2⟩])
              go_wp2_with (go_at_call 38; refine KAT.out.mono ?_; rintro e w3 ⟨rfl, hd⟩; obtain ⟨nd, rfl⟩ := hd.out)
              go_ret2
              have hres : rres vd l0 = ([], false) := by rw [rres, HA2.out, HN.out]; rfl
              rw [hres]
              exact ⟨none, 0, 0, rfl, rfl, Nat.le_refl _, Kd.C_nil _ _, below_step HB10.out (pw_below_drewN HB5.out nd)⟩
          · have h2 : a < 0 := by omega
            have HN := Lib.hid (show rIn x.f2 d 0 out = rIn x.f2 (d.drop (j + 1)) (j + 1) (putf out2 (x.f2 + (j : Int)) c) from by rw [HI.out, HRI.out, if_neg (fun h => h1 h.1), if_pos h2])
            have hrb9 := HRB2.out.put (x := x.f2 + (j : Int)) (b := c) HXB.out HCR.out
            have HRB9 := Lib.hid hrb9
            have KP := Lib.hid (fun (W : World) (hC : Kd.C k59 W A5 out2.length out2) => rp_calls A5 c5 out2 (x.f2 + (j : Int)) c W hC HCC2.out (Nat.le_trans HRB2.out.2.1 HLE.out) (fun p hp => ⟨(HRB2.out.2.2 p hp).1, by have := (HRB2.out.2.2 p hp).2.1; omega, Nat.le_trans (tot_mem hp) (Nat.le_trans HRB2.out.1 HLE.out)⟩) ⟨HXB.out.1, by have := HXB.out.2; omega⟩)
            clear hrb9
            have hw1 : IntKind.i64.wrap (x.f2 + (j : Int)) = x.f2 + (j : Int) := IntWalk.i64_in _ (by omega)
            have hw2 : wrap64 (x.f2 + (j : Int)) = x.f2 + (j : Int) := wrap64_in _ (by omega)
            go_upto_region 15 with (go_at_call 38; refine KAT.out.mono ?_; rintro e w3 ⟨rfl, hd⟩; obtain ⟨nd, rfl⟩ := hd.out)
            have HB6 := Lib.hid (pw_below_drewN HB5.out nd)
            have HCO6 := Lib.hid (Kd.C_drewN HCO2.out nd)
            clear hx0 h14 h5 h2 hF
            generalize wr.drewN nd = wi at HB6 HCO6 ⊢
            have K2 := Lib.hid (fun (W : World) (hB : Below wi.heap.size wi W) => KX2.out W (below_step (below_step HB10.out HB6.out) hB))
            replace K14 := Lib.hid (fun (W : World) (hB : Below wi.heap.size wi W) => K14.out W (below_step HB6.out hB))
            replace K5 := Lib.hid (fun (W : World) (hB : Below wi.heap.size wi W) => K5.out W (below_step HB6.out hB))
            have KPUT := Lib.hid (fun (W : World) (hB : Below wi.heap.size wi W) => KP.out W (Kd.C_below HCO6.out hB))
            -- REG15
            refine start_ (n := 15) (S := fun w' => w'.cell? ⟨(ad.add (k * 7)).block, (ad.add (k * 7)).off + 2, none⟩ = some (.int .i64 x.f2) ∧ w'.cell? ⟨bs, 14, none⟩ = some (.slice (some ad5) d.length c14) ∧ w'.cell? (ad5.add j) = some (.int .u8 c)) (ds := [13]) #[O,O,O,O,O,O,O,O,O,O,O,O,O,O,O] (by kernel_rfl) rfl rfl ⟨(K2.out _ (by repeat (first | exact (Below.refl wi.heap.size wi) | with_reducible apply below_drew1 | with_reducible refine pw_below_drewN ?_ _))), (K14.out _ (by repeat (first | exact (Below.refl wi.heap.size wi) | with_reducible apply below_drew1 | with_reducible refine pw_below_drewN ?_ _))), (K5.out _ (by repeat (first | exact (Below.refl wi.heap.size wi) | with_reducible apply below_drew1 | with_reducible refine pw_below_drewN ?_ _)))⟩ (fun hHeld => ?_)
            refine pure_ (i := 0) (N := some 73) (v := ?_) (a' := ?_) #[I,O,O,O,O,O,O,O,O,O,O,O,O,O,O] rfl rfl (by kernel_rfl) (fun _ _ _ h => h) (Or.inl ⟨by rfl, ?_⟩) ?_ ?_
            rotate_left
            · intro w'
              go_simp
              with_reducible rfl
            rotate_left
            · simp only [Act.put, sA_, sZ_, sS_, i64_w, i32_w]
              rfl
            refine pure_ (i := 1) (N := some 74) (v := ?_) (a' := ?_) #[I,I,O,O,O,O,O,O,O,O,O,O,O,O,O] rfl rfl (by kernel_rfl) (fun _ _ _ h => h) (Or.inl ⟨by rfl, ?_⟩) ?_ ?_
            rotate_left
            · intro w'
              go_simp
              with_reducible rfl
            rotate_left
            · simp only [Act.put, sA_, sZ_, sS_, i64_w, i32_w]
              rfl
            refine pure_ (i := 2) (N := some 75) (v := ?_) (a' := ?_) #[I,I,I,O,O,O,O,O,O,O,O,O,O,O,O] rfl rfl (by kernel_rfl) (fun _ _ _ h => h) (Or.inl ⟨by rfl, ?_⟩) ?_ ?_
            rotate_left
            · intro w'
              go_simp
              with_reducible rfl
            rotate_left
            · simp only [Act.put, sA_, sZ_, sS_, i64_w, i32_w]
              rfl
            refine pure_ (i := 3) (N := some 76) (v := ?_) (a' := ?_) #[I,I,I,I,O,O,O,O,O,O,O,O,O,O,O] rfl rfl (by kernel_rfl) (fun _ _ _ h => h) (Or.inl ⟨by rfl, ?_⟩) ?_ ?_
            rotate_left
            · intro w'
              go_simp
              with_reducible rfl
            rotate_left
            · simp only [Act.put, sA_, sZ_, sS_, i64_w, i32_w]
              rfl
            refine pure_ (i := 4) (N := some 77) (v := ?_) (a' := ?_) #[I,I,I,I,I,O,O,O,O,O,O,O,O,O,O] rfl rfl (by kernel_rfl) (fun _ _ _ h => h) (Or.inl ⟨by rfl, ?_⟩) ?_ ?_
            rotate_left
            · intro w'
              go_simp
              with_reducible rfl
            rotate_left
            · simp only [Act.put, sA_, sZ_, sS_, i64_w, i32_w]
              rfl
            refine pure_ (i := 6) (N := some 79) (v := ?_) (a' := ?_) #[I,I,I,I,I,O,I,O,O,O,O,O,O,O,O] rfl rfl (by kernel_rfl) (fun _ _ _ h => h) (Or.inl ⟨by rfl, ?_⟩) ?_ ?_
            rotate_left
            · intro w'
              go_simp
              with_reducible rfl
            rotate_left
            · simp only [Act.put, sA_, sZ_, sS_, i64_w, i32_w]
              rfl
            refine pure_ (i := 8) (N := some 81) (v := ?_) (a' := ?_) #[I,I,I,I,I,O,I,O,I,O,O,O,O,O,O] rfl rfl (by kernel_rfl) (fun _ _ _ h => h) (Or.inl ⟨by rfl, ?_⟩) ?_ ?_
            rotate_left
            · intro w'
              go_simp
              with_reducible rfl
            rotate_left
            · simp only [Act.put, sA_, sZ_, sS_, i64_w, i32_w]
              rfl
            refine pure_ (i := 10) (N := some 83) (v := ?_) (a' := ?_) #[I,I,I,I,I,O,I,O,I,O,I,O,O,O,O] rfl rfl (by kernel_rfl) (fun _ _ _ h => h) (Or.inl ⟨by rfl, ?_⟩) ?_ ?_
            rotate_left
            · intro w'
              go_simp
              with_reducible rfl
            rotate_left
            · simp only [Act.put, sA_, sZ_, sS_, i64_w, i32_w]
              rfl
            refine take_ (i := 5) (N := some 78) (v := ?_) (a' := ?_) #[I,I,I,I,I,I,I,O,I,O,I,O,O,O,O] rfl rfl (by kernel_rfl) (fun _ _ _ h => h) (Or.inl ⟨by rfl, ?_⟩) hHeld ?_ ?_
            rotate_left
            · rintro w' ⟨s0, s1, s2⟩
              go_simp
              with_reducible rfl
            rotate_left
            · simp only [Act.put, sA_, sZ_, sS_, i64_w, i32_w]
              rfl
            refine pure_ (i := 7) (N := some 80) (v := ?_) (a' := ?_) #[I,I,I,I,I,I,I,I,I,O,I,O,O,O,O] rfl rfl (by kernel_rfl) (fun _ _ _ h => h) (Or.inl ⟨by rfl, ?_⟩) ?_ ?_
            rotate_left
            · intro w'
              go_simp
              with_reducible rfl
            rotate_left
            · simp only [Act.put, sA_, sZ_, sS_, i64_w, i32_w]
              rfl
            refine take_ (i := 9) (N := some 82) (v := ?_) (a' := ?_) #[I,I,I,I,I,I,I,I,I,I,I,O,O,O,O] rfl rfl (by kernel_rfl) (fun _ _ _ h => h) (Or.inl ⟨by rfl, ?_⟩) hHeld ?_ ?_
            rotate_left
            · rintro w' ⟨s0, s1, s2⟩
              go_simp
              with_reducible rfl
            rotate_left
            · simp only [Act.put, sA_, sZ_, sS_, i64_w, i32_w]
              rfl
            refine pure_ (i := 11) (N := some 84) (v := ?_) (a' := ?_) #[I,I,I,I,I,I,I,I,I,I,I,I,O,O,O] rfl rfl (by kernel_rfl) (fun _ _ _ h => h) (Or.inl ⟨by rfl, ?_⟩) ?_ ?_
            rotate_left
            · intro w'
              go_simp
              with_reducible rfl
            rotate_left
            · simp only [Act.put, sA_, sZ_, sS_, i64_w, i32_w]
              rfl
            refine take_ (i := 12) (N := some 85) (v := ?_) (a' := ?_) #[I,I,I,I,I,I,I,I,I,I,I,I,I,O,O] rfl rfl (by kernel_rfl) (fun _ _ _ h => h) (Or.inl ⟨by rfl, ?_⟩) hHeld ?_ ?_
            rotate_left
            · rintro w' ⟨s0, s1, s2⟩
              go_simp
              with_reducible rfl
            rotate_left
            · simp only [Act.put, sA_, sZ_, sS_, i64_w, i32_w]
              rfl
            refine last_ (i := 13) (N := some 86) #[I,I,I,I,I,I,I,I,I,I,I,I,I,I,O] rfl rfl (by kernel_rfl) (by decide) (fun K hK => ?_)
            refine goes_ Try.func39 (by kernel_rfl) rfl #[.slice A5 out2.length c5, .int .i64 (x.f2 + (j : Int)), .int .u8 c] (by rfl) rfl rfl (by simp only [List.map_toArray, List.map_cons, List.map_nil]; rfl) ?_
            with_reducible refine (KPUT.out _ (by repeat (first | exact (Below.refl wi.heap.size wi) | with_reducible apply below_drew1 | with_reducible refine pw_below_drewN ?_ _))).mono ?_
            rintro e w11 ⟨A11, n11, c11, rfl, rfl, hle11, hC11, hb11⟩
            have HB11 := Lib.hid (show Below wi.heap.size wi w11 from below_step (by repeat (first | exact (Below.refl wi.heap.size wi) | with_reducible apply below_drew1 | with_reducible refine pw_below_drewN ?_ _)) hb11)
            have HC11 := Lib.hid hC11; have HLE11 := Lib.hid hle11
            clear hb11 hC11 hle11
            refine ⟨_, rfl, ?_⟩
            refine hK.out _ _ ?_
            clear hK K
            refine norm_ (a' := ?_) ?_ ?_
            rotate_left
            · show Act.put _ (some 86) _ = _
              simp only [Act.put, sA_, sZ_, sS_, i64_w, i32_w]
              rfl
            refine pure_ (i := 14) (N := some 4) (v := ?_) (a' := ?_) #[I,I,I,I,I,I,I,I,I,I,I,I,I,I,I] rfl rfl (by kernel_rfl) (fun _ _ _ h => h) (Or.inl ⟨by rfl, ?_⟩) ?_ ?_
            rotate_left
            · intro w'
              go_simp
              with_reducible rfl
            rotate_left
            · simp only [Act.put, sA_, sZ_, sS_, i64_w, i32_w]
              rfl
            refine done_ (by kernel_rfl) ?_
            -- END15
            go_wp2
            go_roundw
            case rel => exact ⟨j + 1, putf out2 (x.f2 + (j : Int)) c, A11, c11, hjd, by first | rfl | (simp; done), rfl, HLE11, HC11, HN, Lib.hid (below_step HB6.out HB11.out), Lib.hid (HRB9.out.mono (by omega))⟩
            case measure => simp [intOf]; omega
        · obtain rfl : j = d.length := by omega
          have HAA := Lib.hid (show rAll vd l0 [] = rAll vd (l0.drop (k + 1)) out2 from by rw [HA2.out, HI.out, List.drop_length]; rfl)
          go_wp2
          go_roundw
          case rel => exact ⟨k + 1, out2, A5, c5, hlt, by first | rfl | (simp; done), rfl, HCC2, HCO2, HAA, Lib.hid (below_step HB10.out HB5.out), Lib.hid (HRB2.out.mono (by omega))⟩
          case measure => simp [intOf]; omega
    · obtain rfl : k = l0.length := by omega
      have hm := HA.out
      rw [List.drop_length, rAll] at hm
      have HRES := Lib.hid (show rres vd l0 = (out, true) from by rw [rres, hm])
      clear hm
      go_wp2
      go_ret2
      rw [HRES.out]
      exact ⟨_, _, _, rfl, rfl, HCC.out, HCO.out, HBW.out⟩
end Go.Proofs.Ytflmfbcapccdeaa.JudgeBytesR
set_option linter.unusedVariables false
set_option linter.unusedSimpArgs false
set_option autoImplicit false
namespace Go.Proofs.Ytflmfbcapccdeaa.JudgeFacts
open Go.RowKit Go.Proofs.Ytflmfbcapccdeaa.PA Go.Proofs.YtflmfbcapccdeaaW.PrintWords Go.Proofs.YtflmfbcapccdeaaW.PrintMore
abbrev E := S62
theorem heads (k : Nat) (hk : 40 ≤ k) : tidewaylaw25_heads.f k = some true := by
  obtain ⟨d, rfl⟩ : ∃ d, k = 40 + d := ⟨k - 40, by omega⟩
  exact more_rounds tidewaylaw25_heads.mono 40 d _ (by kernel_rfl)
end Go.Proofs.Ytflmfbcapccdeaa.JudgeFacts
set_option linter.unusedVariables false
set_option linter.unusedSimpArgs false
set_option autoImplicit false
namespace Go.Proofs.Ytflmfbcapccdeaa.Pure
open Go.RowKit Go.Proofs.Ytflmfbcapccdeaa.PA Go.Proofs.YtflmfbcapccdeaaW.PrintWords Go.Proofs.YtflmfbcapccdeaaW.PrintLast Go.Proofs.YtflmfbcapccdeaaW.PrintMore Go.Proofs.Ytflmfbcapccdeaa.JudgeRP Go.Proofs.Ytflmfbcapccdeaa.JudgeSame Go.Proofs.Ytflmfbcapccdeaa.WireG
open Go.Proofs.Ytflmfbcapccdeaa.JudgeBytesW (Q psd bres jb_calls)
open Go.Proofs.Ytflmfbcapccdeaa.JudgeBytesR (rb_calls)
open Go.Proofs.Ytflmfbcapccdeaa.SumPlain (byts norm wsum)
theorem same_self (a : List Int) : tidewayref02_Same.f a a = some true := by simp [tidewayref02_Same.f]
theorem pieces_l (l : List S59) (hl : l.length ≤ 9223372036854775807) (d : Nat) : ∀ i : Nat, i + d = l.length → ∀ k, d + 1 ≤ k → tidewayref25_Pieces.l0 k l l (i : Int) = some true := by
  induction d with
  | zero =>
    intro i hi k hk
    obtain ⟨k, rfl⟩ : ∃ m, k = m + 1 := ⟨k - 1, by omega⟩
    rw [tidewayref25_Pieces.l0, if_neg (by omega)]
  | succ d ih =>
    intro i hi k hk
    obtain ⟨k, rfl⟩ : ∃ m, k = m + 1 := ⟨k - 1, by omega⟩
    rw [tidewayref25_Pieces.l0, if_pos (by omega), if_pos (by omega), if_pos (by omega), if_pos rfl, same_self, Option.bind_some, if_pos rfl, show wrap64 ((i : Int) + 1) = ((i + 1 : Nat) : Int) from by unfold wrap64; omega]
    exact ih (i + 1) (by omega) k (by omega)
theorem pieces_self (l : List S59) (hl : l.length ≤ 9223372036854775807) : tidewayref25_Pieces.f (l.length + 1) l l = some true := by
  rw [tidewayref25_Pieces.f, if_pos rfl]
  exact pieces_l l hl l.length 0 (by omega) _ (by omega)
theorem wf8_b {x : Int} (h : (Lit.int .u8 x).wf = true) : 0 ≤ x ∧ x ≤ 255 := by
  simp [Lit.wf, IntKind.min, IntKind.max, IntKind.signed, IntKind.bits] at h
  omega
/-- Whether the sum of one is right. -/
def vdj (b : List Int) : Bool := decide (norm (wsum true [psd b, b].flatten) = 65535)
theorem vdj_ok (b : List Int) (hb : wgb b) : sum_Valid.f [psd b, b] = some (vdj b) :=
  WireSum.validF [psd b, b] (by
    have h1 : byts (psd b) := b_pseu 1 2 (b.length : Int)
    have := b_app h1 hb
    simpa using this)
set_option maxRecDepth 100000 in
set_option maxHeartbeats 16000000 in
/-- The law, walked. -/
theorem JudgeBytes_calls (A0 : Option Addr) (c0 : Nat) (l0 : List S39) (w : World) (hr0 : Kd.C k39 w A0 l0.length l0) (hc0 : l0.length ≤ c0)
    (w0 : (∀ x ∈ l0, ((∀ y ∈ x.f0, (Lit.int .u8 y).wf = true) ∧ x.f0.length * 1 ≤ 140737488351232 ∧ x.f0.length ≤ 9223372036854775807) ∧ ((Lit.int .i64 x.f1).wf = true) ∧ ((Lit.int .i64 x.f2).wf = true) ∧ ((Lit.int .i64 x.f3).wf = true) ∧ ((Lit.int .i64 x.f4).wf = true) ∧ ((Lit.int .i64 x.f5).wf = true) ∧ (Lit.int .i64 x.f6).wf = true) ∧ l0.length * 72 ≤ 140737488351232 ∧ l0.length ≤ 9223372036854775807) :
    Calls Try.prog 5 #[.slice A0 l0.length c0] w fun e w' => e = .returned (.bool true) ∧ Below w.heap.size w w' := by
  have HB := Lib.hid (fun x (hx : x ∈ l0) => show wgb x.f0 from fun y hy => wf8_b ((w0.1 x hx).1.1 y hy))
  have HLN := Lib.hid (fun x (hx : x ∈ l0) => show x.f0.length ≤ 140737488351232 from by have := (w0.1 x hx).1.2.1; omega)
  have HC := Lib.hid hr0
  have hcc := hc0
  have HHD := Lib.hid (fun W : World => tidewaylaw25_heads.calls 40 true W (JudgeFacts.heads 40 (Nat.le_refl _)))
  clear w0 hr0
  go_enter Try.func5, Try.ntmps5
  by_cases hl : l0.length ≤ 50
  case neg =>
    have h50 : (l0.length : Int) > 50 := by omega
    go_wp2_with (go_at_call 8; refine (HHD.out w).mono ?_; rintro e w1 ⟨rfl, hb⟩)
    go_ret
    exact ⟨rfl, hb⟩
  have h50 : ¬ (l0.length : Int) > 50 := by omega
  go_wp2
  go_loopw [3] (fun v3 wr => ∃ k : Nat, k ≤ l0.length ∧ v3 = .int .i64 (k : Int) ∧ w = wr) (fun v3 _ => l0.length - (intOf v3).toNat)
  case atStart => exact ⟨0, Nat.zero_le _, rfl, rfl⟩
  case round =>
    obtain ⟨k, hk, rfl, rfl⟩ := hrel
    by_cases hlt : k < l0.length
    · obtain ⟨ad, A1, c1, had, hx0, hx1, hx2, hx3, hx4, hx5, hx6, hle, hCd⟩ := at_T39 HC.out (k : Int) (by omega) (by omega)
      obtain rfl := had
      have hg : l0.getD k z39 = l0[k] := by rw [List.getD_eq_getElem?_getD, List.getElem?_eq_getElem hlt]; rfl
      have hrd : rd_T39 l0 (k : Int) = l0[k] := by rw [← hg]; rfl
      simp only [Int.toNat_natCast, hrd] at hx0
      have hln := HLN.out l0[k] (List.getElem_mem hlt)
      obtain ⟨x, hx⟩ : ∃ x, l0[k] = x := ⟨_, rfl⟩
      rw [hx] at hx0 hln
      clear hx1 hx2 hx3 hx4 hx5 hx6 hg hrd hle hCd hx
      have hlt' : (k : Int) < l0.length := by omega
      by_cases h3 : (x.f0.length : Int) > 300
      · go_wp2_with (go_at_call 8; refine (HHD.out _).mono ?_; rintro e w1 ⟨rfl, hb⟩)
        go_ret
        exact ⟨rfl, hb⟩
      · go_wp2
        go_roundw
        case rel => exact ⟨k + 1, hlt, by first | rfl | (simp; done), by first | trivial | rfl⟩
        case measure => simp [intOf]; omega
    · obtain rfl : k = l0.length := by omega
      have KJ := Lib.hid (jb_calls A0 c0 l0 vdj w HC.out (by omega) HB.out (fun x hx => vdj_ok x.f0 (HB.out x hx)))
      have KR := Lib.hid (fun (W : World) (hW : Below w.heap.size w W) => rb_calls A0 c0 l0 vdj W (Kd.C_below HC.out hW) (by omega) HB.out HLN.out (fun x hx => vdj_ok x.f0 (HB.out x hx)))
      have hs := res_same vdj l0 HB.out
      rw [hs] at KR
      obtain ⟨r, hr⟩ : ∃ r, bres vdj l0 = r := ⟨_, rfl⟩
      rw [hr] at KR KJ
      clear hs hr
      go_wp2_with (first
        | (go_at_call 22; refine KJ.out.mono ?_; rintro e w1 ⟨v, rfl, hS, hb1⟩; obtain ⟨A2, c2, rfl, hle2, hC2⟩ := Kd.S_reads hS; have HB1 := Lib.hid hb1; have HC2 := Lib.hid hC2; have HLE2 := Lib.hid hle2; clear hS hb1 hC2 hle2)
        | (go_at_call 23; refine (KR.out w1 HB1.out).mono ?_; rintro e w2 ⟨A3, n3, c3, rfl, rfl, hle3, hC3, hb2⟩; have HB2 := Lib.hid (below_step HB1.out hb2); have HC22 := Lib.hid (Kd.C_below HC2.out hb2); have HC3 := Lib.hid hC3; have HLE3 := Lib.hid hle3; clear hb2 hC3 hle3)
        | (go_at_call 24; refine (tidewayref25_Pieces.calls (r.1.length + 1) A2 c2 r.1 A3 c3 r.1 true w2 HC22.out HLE2.out HC3.out HLE3.out (pieces_self r.1 (by have := HC3.out.2.1; omega))).mono ?_; rintro e w3 ⟨rfl, hb3⟩; have HB3 := Lib.hid (below_step HB2.out hb3.below); clear hb3)
        | (go_at_call 8; refine (HHD.out _).mono ?_; rintro e w4 ⟨rfl, hb4⟩))
      all_goals
        go_ret
        exact ⟨rfl, below_step HB3.out hb4⟩
end Go.Proofs.Ytflmfbcapccdeaa.Pure

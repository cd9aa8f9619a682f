/- A window onto a row of records of the call's own: cut in front, appended to behind. -/
import Derived.Deep.Onto
import Derived.Deep.MidRow
import Derived.Test.YtbdomghfgaceaaaPAx6
set_option linter.unusedVariables false
set_option linter.unusedSimpArgs false
set_option autoImplicit false
namespace Go.Proofs.Ytbdomghfgaceaaa.RateWin
open Go.RowKit Go.Proofs.Ytbdomghfgaceaaa.PA Go.Proofs.YtbdomghfgaceaaaW.PrintWords Go.Proofs.YtbdomghfgaceaaaW.PrintMore
abbrev X := S33
def xv (x : X) : List Value := [.int .i64 x.f0, .int .i64 x.f1, .bool x.f2, .int .i64 x.f3, .int .i64 x.f4, .bool x.f5, .bool x.f6, .bool x.f7, .int .i64 x.f8, .int .i64 x.f9, .int .i64 x.f10, .bool x.f11]
def Win (W : World) (bq : Nat) (s : Value) (n : Nat) (olds : List Value) : Prop := ∃ ao b off cap, s = .slice ao n cap ∧ Came W 12 ao b off n cap olds ∧ cap ≤ maxLen ∧ (0 < cap → bq < b)
theorem Win.nil (W : World) (bq : Nat) : Win W bq (.slice none 0 0) 0 [] :=
  ⟨none, 0, 0, 0, rfl, ⟨Nat.le_refl _, fun h => absurd h (by omega), fun h => absurd h (by omega), rfl, fun j u h => by simp at h, fun j h => absurd h (by omega)⟩, by decide, fun h => absurd h (by omega)⟩
theorem Win.keep {W W' : World} {bq n : Nat} {s : Value} {olds : List Value} (h : Win W bq s n olds) (hk : ∀ k, bq < k → k < W.heap.size → W'.heap[k]? = W.heap[k]?) : Win W' bq s n olds := by
  obtain ⟨ao, b, off, cap, rfl, hc, hm, hb⟩ := h
  refine ⟨ao, b, off, cap, rfl, ⟨hc.le, hc.addr, fun h0 => ?_, hc.oldsLen, fun j u hu => ?_, fun j hj => ?_⟩, hm, hb⟩
  · have h1 := hk b (hb h0) (hc.lt h0)
    have h2 := hc.lt h0
    rw [Array.getElem?_eq_getElem h2] at h1
    exact (Array.getElem?_eq_some_iff.1 h1).1
  · have h0 : 0 < cap := by
      have h3 := (List.getElem?_eq_some_iff.1 hu).1
      have h4 := hc.oldsLen; have h5 := hc.le
      rcases Nat.eq_zero_or_pos cap with h6 | h6
      · omega
      · exact h6
    have h1 := hk b (hb h0) (hc.lt h0)
    rw [World.cell?_of_block (a := ⟨b, off + j, none⟩) h1]
    exact hc.olds j u hu
  · have h0 : 0 < cap := by
      rcases Nat.eq_zero_or_pos cap with h6 | h6
      · subst h6; simp at hj
      · exact h6
    have h1 := hk b (hb h0) (hc.lt h0)
    rw [World.cell?_of_block (a := ⟨b, off + n * 12 + j, none⟩) h1, World.frozen?_of_block h1]
    exact hc.spare j hj
theorem Win.tail {W : World} {bq n cap : Nat} {ao : Option Addr} {x : X} {olds : List Value} (h : Win W bq (.slice ao (n + 1) cap) (n + 1) (xv x ++ olds)) : Win W bq (.slice (if cap = 1 then ao else ao.map (·.add 12)) n (cap - 1)) n olds := by
  obtain ⟨ao', b, off, cap', e, hc, hm, hb⟩ := h
  cases e
  have hle := hc.le
  have hx : (xv x).length = 12 := rfl
  have ha := hc.addr (by omega)
  subst ha
  refine ⟨_, b, off + 12, cap - 1, rfl, ⟨by omega, fun h0 => ?_, fun h0 => hc.lt (by omega), ?_, fun j u hu => ?_, fun j hj => ?_⟩, by omega, fun h0 => hb (by omega)⟩
  · rw [if_neg (by omega)]
    show some ((⟨b, off, none⟩ : Addr).add 12) = _
    rw [Addr.add_lit]
  · have := hc.oldsLen
    rw [List.length_append, hx] at this
    omega
  · have := hc.olds (12 + j) u (by rw [List.getElem?_append_right (by omega), hx, Nat.add_sub_cancel_left]; exact hu)
    rwa [show off + 12 + j = off + (12 + j) by omega]
  · have := hc.spare j (by omega)
    rwa [show off + 12 + n * 12 + j = off + (n + 1) * 12 + j by omega]
theorem Win.first {W : World} {bq n cap : Nat} {ao : Option Addr} {x : X} {olds : List Value} (h : Win W bq (.slice ao (n + 1) cap) (n + 1) (xv x ++ olds)) : 1 ≤ cap ∧ Kd.C k33 W ao [x].length [x] := by
  obtain ⟨ao', b, off, cap', e, hc, hm, hb⟩ := h
  cases e
  have hle := hc.le
  have ha := hc.addr (by omega)
  subst ha
  refine ⟨by omega, rfl, by simp, fun _ => ⟨_, rfl, fun j p hj => ⟨_, rfl, k33_mk _ p, fun i u hu => ?_⟩⟩⟩
  match j, hj with
  | 0, hj =>
    obtain rfl : x = p := by simpa using hj
    have h9 : i < 12 := by have := List.getElem?_eq_some_iff.1 hu; obtain ⟨h, _⟩ := this; simpa using h
    rw [Nat.zero_mul, Nat.zero_add, Addr.add_lit]
    exact hc.olds i u (by rw [List.getElem?_append_left (by exact h9)]; simpa [xv] using hu)
theorem Win.own {w : World} {base bq N : Nat} {v : Value} {xs : List Value} (hbq : bq < base) (h : w.ownsRow base 33 12 v N xs) : Win w bq v N xs := by
  obtain ⟨h1, ⟨rfl, rfl⟩ | ⟨g, cap', cur, rfl, hg, hh, hn, hcm, hs, ht⟩⟩ := h
  · obtain rfl : xs = [] := List.eq_nil_of_length_eq_zero (by omega)
    exact Win.nil w bq
  · refine ⟨_, g, 0, cap', rfl, ⟨hn, fun _ => rfl, fun _ => (Array.getElem?_eq_some_iff.1 hh).1, h1, fun j u hu => ?_, fun j hj => ?_⟩, hcm, fun _ => Nat.lt_of_lt_of_le hbq hg⟩
    · rw [← ht, List.getElem?_take] at hu
      split at hu
      · simp [World.cell?, hh]; simpa using hu
      · simp at hu
    · have hlt : 0 + N * 12 + j < cur.size := by rw [hs]; omega
      exact ⟨by simp only [World.cell?, hh]; rw [Array.getElem?_eq_getElem (by simpa using hlt)]; rfl, by simp [World.frozen?, hh]⟩
theorem grown_sets (b : Nat) : ∀ (vs : List Value) (o : Nat) (w : World), w.grownBy (w.setCells b o vs) (some b)
  | [], o, w => ⟨rfl, rfl, rfl, Nat.le_refl _, fun _ _ _ => rfl⟩
  | v :: vs, o, w => by
    have h := grown_sets b vs (o + 1) (w.setCell ⟨b, o, none⟩ v)
    have hz : (w.setCell ⟨b, o, none⟩ v).heap.size = w.heap.size := by simp
    refine ⟨h.os, h.tape, h.output, ?_, fun k hk hne => ?_⟩
    · have := h.size; rw [hz] at this; exact this
    · have h2 := h.block k (by rw [hz]; exact hk) hne
      exact h2.trans (Below.heap_setCell w ⟨b, o, none⟩ v k (fun e => hne (by rw [e])))
section
variable {P : Program}
/-- ONE RECORD MORE, wherever the window lies. -/
theorem run_append_win {W : World} {bq n : Nat} {v : Value} {olds : List Value} (h : Win W bq v n olds) (hbq : bq < W.heap.size)
    (t ty : TypeId) (i : TypeInfo) (z : Value) (bytes : Nat) (ht : P.underlying t = some (.slice 33)) (hi : P.info? 33 = some i) (hz : i.zero = some z) (hsize : i.size = 12) (hby : i.bytes = bytes) (hzs : z.cells.size = 12)
    (ad : Addr) (c : Nat) (news : List Value) (hl : news.length = 1 * 12) (hnews : ∀ j u, news[j]? = some u → W.cell? (ad.add j) = some u) (h1 : ∀ u ∈ news, u.oneCell' = true)
    (h63 : n + 1 ≤ maxLen) (hbytes : (n + 1) * bytes ≤ 140737488355328) :
    ∃ v' w', (Builtin.append_ #[t, t] ty #[v, .slice (some ad) 1 c]).run P W = .ok v' w' ∧ Win w' bq v' (n + 1) (olds ++ news) ∧ ∃ row, W.grownBy w' row ∧ ∀ k, row = some k → bq < k := by
  obtain ⟨ao, b, off, cap, rfl, hc, hm, hb⟩ := h
  have hol := hc.oldsLen
  by_cases hr : n + 1 ≤ cap
  · have h0 : 0 < cap := by omega
    have ha := hc.addr h0
    subst ha
    have hsp : ∀ j, j < news.length → (W.cell? ⟨b, off + n * 12 + j, none⟩).isSome = true ∧ W.frozen? ⟨b, off + n * 12 + j, none⟩ = false := fun j hj => hc.spare j (by omega)
    have hrun := run_append_room_cells (P := P) W t ty 33 i ht hi b off n cap ad 1 c news (by rw [hsize]; exact hl) hnews h1 hr (by rw [hsize]; exact fun j hj => (hsp j hj).1) (by rw [hsize]; exact fun j hj => (hsp j hj).2)
    rw [hsize] at hrun
    have hg := grown_sets b news (off + n * 12) W
    refine ⟨_, _, hrun, ⟨_, b, off, cap, rfl, ⟨hr, fun _ => rfl, fun _ => Nat.lt_of_lt_of_le (hc.lt h0) hg.size, by rw [List.length_append]; omega, fun j u hu => ?_, fun j hj => ?_⟩, hm, hb⟩, some b, hg, fun k e => by cases e; exact hb h0⟩
    · by_cases hjo : j < olds.length
      · rw [List.getElem?_append_left hjo] at hu
        rw [World.cell?_setCells_out b _ _ _ _ (fun _ _ => Or.inl (by show off + j < off + n * 12; omega))]
        exact hc.olds j u hu
      · rw [List.getElem?_append_right (by omega)] at hu
        have hlt := (List.getElem?_eq_some_iff.1 hu).1
        have := World.cell?_setCells_in b news (off + n * 12) W (fun j hj => (hsp j hj).1) (j - olds.length) hlt
        rw [show off + n * 12 + (j - olds.length) = off + j by omega] at this
        rw [this, ← hu, List.getElem?_eq_getElem hlt]
    · have h2 := hc.spare (12 + j) (by omega)
      rw [show off + n * 12 + (12 + j) = off + (n + 1) * 12 + j by omega] at h2
      exact ⟨World.isSome_setCells b _ _ _ _ h2.1, by rw [World.frozen?_setCells]; exact h2.2⟩
  · rcases Nat.eq_zero_or_pos cap with h0 | h0
    · subst h0
      have hle := hc.le
      obtain rfl : n = 0 := by omega
      obtain rfl : olds = [] := List.eq_nil_of_length_eq_zero (by omega)
      cases ao with
      | none =>
        obtain ⟨v', w', hrun, r1, r2, _⟩ := run_append_own (P := P) W W.heap.size t ty 33 i z 12 bytes ht hi hz hsize hby hzs (by decide) (.slice none 0 0) 0 [] (World.ownsRow_nil W _ 33 12) ad 1 c news hl hnews h1 h63 hbytes (Nat.le_refl _)
        exact ⟨v', w', hrun, Win.own hbq r1, _, r2, fun k e => by simp [Value.ownBlock] at e⟩
      | some a' =>
        obtain ⟨v', w', hrun, r1, r2⟩ := run_append_arg_grows (P := P) W t ty 33 i z 12 bytes ht hi hz hsize hby hzs (by decide) a' 0 0 [] (by simp) (by intro _ _ h'; simp at h') ad 1 c news hl hnews (by omega) h63 hbytes
        exact ⟨v', w', hrun, Win.own hbq r1, _, r2, fun k e => by cases e⟩
    · have ha := hc.addr h0
      subst ha
      obtain ⟨v', w', hrun, r1, r2⟩ := run_append_arg_grows (P := P) W t ty 33 i z 12 bytes ht hi hz hsize hby hzs (by decide) ⟨b, off, none⟩ n cap olds hol (by intro j u hu; rw [Addr.add_lit]; exact hc.olds j u hu) ad 1 c news hl hnews (by omega) h63 hbytes
      exact ⟨v', w', hrun, Win.own hbq r1, _, r2, fun k e => by cases e⟩
theorem wpList_append_win (W : World) {ops : Array Oper} {rest : List Oper} {o : Oper} {a : Act} {Q : Exit → Act → World → Prop} (hgd : o.guard = none) (s x : Operand) (t : TypeId)
    (ho : o.op = .call { callee := .builtin .append, args := #[s, x], argTypes := #[t, t] })
    {bq n : Nat} {v : Value} {olds : List Value} (h : Win W bq v n olds) (hbq : bq < W.heap.size)
    (i : TypeInfo) (z : Value) (bytes : Nat) (ht : P.underlying t = some (.slice 33)) (hi : P.info? 33 = some i) (hz : i.zero = some z) (hsize : i.size = 12) (hby : i.bytes = bytes) (hzs : z.cells.size = 12)
    (hs : a.eval s = v) (ad : Addr) (c : Nat) (news : List Value) (hx : a.eval x = .slice (some ad) 1 c) (hl : news.length = 1 * 12) (hnews : ∀ j u, news[j]? = some u → W.cell? (ad.add j) = some u) (h1 : ∀ u ∈ news, u.oneCell' = true)
    (h63 : n + 1 ≤ maxLen) (hbytes : (n + 1) * bytes ≤ 140737488355328)
    (hK : ∀ v' w', Win w' bq v' (n + 1) (olds ++ news) → (∃ row, W.grownBy w' row ∧ ∀ k, row = some k → bq < k) → wpList P ops Q rest (a.put o.dst v') w') : wpList P ops Q (o :: rest) a W := by
  refine wpList_plain hgd fun K hK' => ?_
  obtain ⟨v', w', hrun, r1, r2⟩ := run_append_win (P := P) h hbq t o.type i z bytes ht hi hz hsize hby hzs ad c news hl hnews h1 h63 hbytes
  unfold Oper.wp
  simp [execOp, ho, resolve, invoke, builtin, hs, hx, hrun, Result.andThen]
  exact hK' _ _ (hK v' w' r1 r2)
end
end Go.Proofs.Ytbdomghfgaceaaa.RateWin

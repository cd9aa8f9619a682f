/- wire.parsed, walked: with its deferred closure that recovers. -/
import Derived.Test.YtflmfbcapccdeaaWireRead
import Derived.Test.YtflmfbcapccdeaaPAx22
import Derived.Lib.Hide
import Derived.WalkKit
import Derived.Recover
import Derived.Defers
import Derived.Laws.Rows
import Derived.Deep.RegionHeld3
set_option linter.unusedVariables false
set_option linter.unusedSimpArgs false
set_option autoImplicit false
namespace Go.Proofs.Ytflmfbcapccdeaa.WireG
open Go.RowKit Go.Proofs.Ytflmfbcapccdeaa.PA Go.Proofs.YtflmfbcapccdeaaW.PrintWords Go.Proofs.YtflmfbcapccdeaaW.PrintLast Go.Proofs.YtflmfbcapccdeaaW.PrintMore
attribute [local go_sem] max2_int min2_int max_two min_two
/-! ### a whole variable is written -/
def wgset : Array Value → Nat → List Value → Array Value
  | cs, _, [] => cs
  | cs, o, v :: r => wgset (cs.setIfInBounds o v) (o + 1) r
theorem wgset_size : ∀ (vs : List Value) (cs : Array Value) (o : Nat), (wgset cs o vs).size = cs.size
  | [], _, _ => rfl
  | v :: r, cs, o => by rw [wgset, wgset_size r, Array.size_setIfInBounds]
theorem wgset_list : ∀ (vs : List Value) (cs : Array Value) (o : Nat), o + vs.length ≤ cs.size → (wgset cs o vs).toList = cs.toList.take o ++ vs ++ cs.toList.drop (o + vs.length)
  | [], cs, o, _ => by simp [wgset]
  | v :: r, cs, o, h => by
    have hl : o < cs.toList.length := by simp only [List.length_cons] at h; rw [Array.length_toList]; omega
    rw [wgset, wgset_list r _ _ (by simp only [List.length_cons] at h; rw [Array.size_setIfInBounds]; omega), Array.toList_setIfInBounds, List.length_cons]
    rw [List.take_set, List.take_succ_eq_append_getElem hl, List.set_append_right _ _ (by rw [List.length_take]; omega), List.drop_set_of_lt (by omega)]
    rw [List.length_take, Nat.min_eq_left (by omega), Nat.sub_self, List.set_cons_zero]
    have e : o + 1 + r.length = o + (r.length + 1) := by omega
    simp only [List.append_assoc, List.cons_append, List.nil_append, List.take_take, e]
theorem wgset_all {cs : Array Value} {seg : List Value} (h : cs.size = seg.length) : wgset cs 0 seg = seg.toArray := by
  apply Array.toList_inj.1
  rw [wgset_list seg cs 0 (by omega)]
  simp [List.drop_of_length_le, h]
theorem setCells_blk {g : Nat} {e : TypeId} : ∀ (vs : List Value) (o : Nat) (w : World) (cs : Array Value), w.heap[g]? = some (.cells cs e (0, 0)) → (w.setCells g o vs).heap[g]? = some (.cells (wgset cs o vs) e (0, 0))
  | [], _, _, _, h => h
  | v :: r, o, w, cs, h => setCells_blk r (o + 1) _ _ (blk_set h o v)
theorem setCells_grown {g : Nat} : ∀ (vs : List Value) (o : Nat) (w : World), w.grownBy (w.setCells g o vs) (some g)
  | [], _, w => ⟨rfl, rfl, rfl, Nat.le_refl _, fun _ _ _ => rfl⟩
  | v :: r, o, w => by
    have h := setCells_grown (g := g) r (o + 1) (w.setCell ⟨g, o, none⟩ v)
    exact ⟨h.os, h.tape, h.output, Nat.le_trans (by simp [World.setCell]) h.size, fun k hk hne => (h.block k (by simpa [World.setCell] using hk) hne).trans (Below.heap_setCell w _ v k (fun e => hne (by rw [e])))⟩
theorem wg_store_run (t : TypeId) (u : Value) (seg : List Value) (g : Nat) (e : TypeId) (cs : Array Value) (W : World) (hu : u.cells.toList = seg) (ht : (Try.prog.info? t).map (·.size) = some seg.length) (h1 : seg.all Value.oneCell' = true) (hh : W.heap[g]? = some (.cells cs e (0, 0))) (hs : cs.size = seg.length) :
    ∃ w1, (Instr.storeAt t (.pointer (some ⟨g, 0, none⟩)) u).run Try.prog W = .ok () w1 ∧ w1.heap[g]? = some (.cells seg.toArray e (0, 0)) ∧ W.grownBy w1 (some g) :=
  ⟨_, run_store_run t u seg hh hu ht (by omega) (List.all_eq_true.1 h1), by rw [← wgset_all hs]; exact setCells_blk seg 0 W cs hh, setCells_grown seg 0 W⟩
theorem wg_store_op {ops : Array Oper} {rest : List Oper} {o : Oper} {a : Act} {Q : Exit → Act → World → Prop} {W : World} (hgd : o.guard = none) (hN : o.dst = none) (t : TypeId) (p x : Operand) (ho : o.op = .store t p x) (u : Value) (seg : List Value) (g : Nat) (e : TypeId) (cs : Array Value)
    (haddr : a.eval p = .pointer (some ⟨g, 0, none⟩)) (hx : a.eval x = u) (hu : u.cells.toList = seg) (ht : (Try.prog.info? t).map (·.size) = some seg.length) (h1 : seg.all Value.oneCell' = true) (hh : W.heap[g]? = some (.cells cs e (0, 0))) (hs : cs.size = seg.length)
    (h : ∀ w1, w1.heap[g]? = some (.cells seg.toArray e (0, 0)) → W.grownBy w1 (some g) → wpList Try.prog ops Q rest a w1) : wpList Try.prog ops Q (o :: rest) a W := by
  refine wpList_plain hgd fun K hK => ?_
  obtain ⟨w1, hrun, h2, h3⟩ := wg_store_run t u seg g e cs W hu ht h1 hh hs
  unfold Oper.wp execOp
  simp only [ho, haddr, hx, Sem.run_bind, Sem.run_pure, Result.andThen_ok, hrun]
  show K (a.put o.dst undef) _
  rw [hN]
  exact hK _ _ (h w1 h2 h3)
theorem wg_store_step {ops : Array Oper} {o : Oper} {a : Act} {Q : Exit → Act → World → Prop} {Kc : Act → World → Prop} {W : World} (hw : Region.wanted o (yielded ops a.tmps) = true) (hN : o.dst = none) (t : TypeId) (p x : Operand) (ho : o.op = .store t p x) (u : Value) (seg : List Value) (g : Nat) (e : TypeId) (cs : Array Value)
    (haddr : a.eval p = .pointer (some ⟨g, 0, none⟩)) (hx : a.eval x = u) (hu : u.cells.toList = seg) (ht : (Try.prog.info? t).map (·.size) = some seg.length) (h1 : seg.all Value.oneCell' = true) (hh : W.heap[g]? = some (.cells cs e (0, 0))) (hs : cs.size = seg.length)
    (h : ∀ w1, w1.heap[g]? = some (.cells seg.toArray e (0, 0)) → W.grownBy w1 (some g) → Kc a w1) :
    if Region.wanted o (yielded ops a.tmps) = true then Oper.wp Try.prog o a W Kc Q else Kc (a.put o.dst undef) W := by
  rw [if_pos hw]
  obtain ⟨w1, hrun, h2, h3⟩ := wg_store_run t u seg g e cs W hu ht h1 hh hs
  unfold Oper.wp execOp
  simp only [ho, haddr, hx, Sem.run_bind, Sem.run_pure, Result.andThen_ok, hrun]
  have e : a.put o.dst undef = a := by rw [hN]; rfl
  show Kc (a.put o.dst undef) w1
  rw [e]
  exact h w1 h2 h3

set_option maxRecDepth 100000 in
set_option maxHeartbeats 8000000 in
theorem wg_catch (p q base : Nat) (s : S53) (d x pv : Value) (older : List PanicEntry) (w : World) (hs : Wgs w base p s d) (hbq : base ≤ q) (hbw : base ≤ w.heap.size) (he : w.heap[q]? = some (.cells #[x] 100 (0, 0))) :
    CallsD Try.prog 71 #[.pointer (some ⟨p, 0, none⟩), .pointer (some ⟨q, 0, none⟩)] (.panicking ({ v := .iface 122 pv, recovered := false } :: older)) w fun e u' w' =>
      e = .returned (.tuple #[]) ∧ u' = .panicking ({ v := .iface 122 pv, recovered := true } :: older) ∧ w'.heap[p]? = some (.cells (wgcells z53 (.slice none 0 0) (.slice none 0 0)) 53 (0, 0)) ∧ w'.heap[q]? = some (.cells #[.iface 122 pv] 100 (0, 0)) ∧ Below base w w' ∧ ∀ k, k ≠ p → k ≠ q → k < w.heap.size → w'.heap[k]? = w.heap[k]? := by
  obtain ⟨hbp, v, hh, _⟩ := hs
  have hpq : p ≠ q := fun e => by subst e; rw [hh] at he; cases he
  have HH := Lib.hid hh; have HE := Lib.hid he
  clear hh he
  refine callsD_of_wpS Try.func71 rfl fun c₀ cs hu => ?_
  apply wpS_seq
  apply wpS_region
  simp [wpOpsS, go_sem, recoverD, hu, Try.ntmps71, Exit.thenS]
  have ta : ∀ (v : Value) (W : World), (Instr.typeAssert (.iface 122 v) 20 122 true).run Try.prog W = .ok (.tuple #[v, .bool true]) W := fun _ _ => by kernel_rfl
  simp only [Array.replicate_succ, Array.replicate_zero, List.push_toArray, List.append_toArray, List.nil_append, List.cons_append, List.setIfInBounds_toArray, List.set_cons_zero, List.set_cons_succ]
  refine wpS_of_wp ?_
  go_wp2_with (first
    | (refine gate_ (.store 53 (.tmp 0) (.tmp 11)) rfl ?_; refine wg_store_op rfl rfl 53 (.tmp 0) (.tmp 11) rfl _ _ p 53 _ rfl rfl rfl (by kernel_rfl) rfl HH.out rfl ?_; intro w1 h1 hg1)
    | (refine gate_ (.store 100 (.tmp 1) (.tmp 13)) rfl ?_; refine wg_store_op rfl rfl 100 (.tmp 1) (.tmp 13) rfl _ _ q 100 _ rfl rfl rfl (by kernel_rfl) rfl (blk_grown HE.out hg1 (fun e => hpq (Option.some.inj e).symm)) rfl ?_; intro w2 h2 hg2))
  refine ⟨rfl, _, rfl, _, results_none rfl _ _ _, rfl, rfl, ?_, h2, ((Below.refl _ w).grown hg1 hbw (fun k hk => by cases hk; exact hbp)).grown hg2 (Nat.le_trans hbw hg1.size) (fun k hk => by cases hk; exact hbq), fun k kp kq kl => ?_⟩
  · exact (hg2.block p (Array.getElem?_eq_some_iff.1 h1).1 (fun e => hpq (Option.some.inj e))).trans h1
  · exact (hg2.block k (Nat.lt_of_lt_of_le kl hg1.size) (fun e => kq (Option.some.inj e))).trans (hg1.block k kl (fun e => kp (Option.some.inj e)))
theorem wg_catch_idle (p q : Nat) (w : World) :
    CallsD Try.prog 71 #[.pointer (some ⟨p, 0, none⟩), .pointer (some ⟨q, 0, none⟩)] .returning w fun e u' w' => e = .returned (.tuple #[]) ∧ u' = .returning ∧ w' = w := by
  refine callsD_of_wpS Try.func71 rfl fun c₀ cs hu => ?_
  apply wpS_seq
  apply wpS_region
  simp [wpOpsS, go_sem, recoverD, hu, Try.ntmps71, Exit.thenS]
  simp only [Array.replicate_succ, Array.replicate_zero, List.push_toArray, List.append_toArray, List.nil_append, List.cons_append, List.setIfInBounds_toArray, List.set_cons_zero, List.set_cons_succ]
  refine wpS_of_wp ?_
  go_wp2
  cases c₀
  simp only at hu
  subst hu
  exact ⟨rfl, _, rfl, _, results_none rfl _ _ _, rfl, rfl, rfl⟩

/-! ### parsed -/
def wgseg (b : List Int) : S53 := ⟨wgn (b.take 2), wgn ((b.take 4).drop 2), wgn ((b.take 8).drop 4), wgn ((b.take 12).drop 8), b.getD 13 0, wgn ((b.take 16).drop 14), wgn ((b.take 20).drop 18), -1, -1, false, false, 0, 0, [], []⟩
def wgend (b : List Int) (m : Nat) : Option S53 → S53 × Int
  | none => (z53, 2)
  | some s => if b.length - m ≤ 65000 then ({ s with f14 := b.drop m }, 0) else (z53, 2)
def wgget1 (v : Bool) (b : List Int) (m : Nat) : S53 × Int :=
  if m < 20 then (z53, 2)
  else if b.length < m then (z53, 1)
  else if v = false then (z53, 3)
  else wgend b m (wgrd (((b.take m).drop 20).length + 1) (wgseg b) [] ((b.take m).drop 20))
def wgget (v : Bool) (b : List Int) : S53 × Int := if b.length < 20 then (z53, 1) else wgget1 v b (b.getD 12 0 / 16 * 4).toNat
/-- What parsed hands back. -/
def WPars (w : World) (r : S53 × Int) (e : Ending) (w' : World) : Prop :=
  Below w.heap.size w w' ∧ ∃ v13 v14 er, e = .returned (.tuple #[.agg (wgcells r.1 v13 v14), er]) ∧ Kd.R k112 112 w' w.heap.size (fun _ => True) v13 r.1.f13 ∧ Kd.R (Kd.int .u8) 5 w' w.heap.size (fun _ => True) v14 r.1.f14 ∧
    (r.2 = 0 ∧ er = .nilIface ∨ ∃ pb, er = .iface 122 (.pointer (some ⟨pb, 0, none⟩)) ∧ w'.cell? ⟨pb, 0, none⟩ = some (.int .i64 r.2))
set_option maxRecDepth 100000 in
theorem wg_results (tmps : Array Value) (p q : Nat) (s : S53) (v d er : Value) (W : World) (e6 : tmps[6]?.getD undef = .pointer (some ⟨p, 0, none⟩)) (e7 : tmps[7]?.getD undef = .pointer (some ⟨q, 0, none⟩)) (hh : W.heap[p]? = some (.cells (wgcells s v d) 53 (0, 0))) (he : W.heap[q]? = some (.cells #[er] 100 (0, 0))) :
    (results Try.f55 tmps).run Try.prog W = .ok (.tuple #[.agg (wgcells s v d), er]) W := by
  have h1 := run_loadVar_row (P := Try.prog) W p 53 53 _ (0, 0) _ hh Try.underlying53 rfl (by kernel_rfl)
  have hc : W.cell? ⟨q, 0, none⟩ = some er := (blk_cell he 0).trans rfl
  have h2 : (loadVar 100 ⟨q, 0, none⟩).run Try.prog W = .ok er W := by
    simp [loadVar, isAgg, Sem.run_bind, run_underlying Try.underlying100 W, go_sem, hc]
  simp [results, Try.results55, e6, e7, asAddr, h1, h2]

theorem wg_lit_two {W : World} {A B : Option Addr} {ca cb na nb b : Nat} {la lb : List Int} (hsz : W.heap.size = b) (hna : la.length = na) (hca : la.length ≤ ca) (ha : Kd.C (Kd.int .u8) W A la.length la) (hnb : lb.length = nb) (hcb : lb.length ≤ cb) (hb : Kd.C (Kd.int .u8) W B lb.length lb) :
    Kd.C (Kd.slice 5 (Kd.int .u8)) (W.alloc (.cells #[.slice A na ca, .slice B nb cb] 34)) (some ⟨b, 0, none⟩) ([la, lb] : List (List Int)).length [la, lb] := by
  subst hna; subst hnb; subst hsz
  have hbw : Below W.heap.size W (W.alloc (.cells #[.slice A la.length ca, .slice B lb.length cb] 34)) := (Below.refl _ W).alloc (Nat.le_refl _) _
  have hcell : ∀ (j : Nat) (u : Value), (#[Value.slice A la.length ca, .slice B lb.length cb] : Array Value)[j]? = some u → (W.alloc (.cells #[.slice A la.length ca, .slice B lb.length cb] 34)).cell? ((⟨W.heap.size, 0, none⟩ : Addr).add j) = some u := by
    intro j u hu
    rw [add_plain]
    exact (blk_cell (blk_new W _) j).trans hu
  refine ⟨rfl, by simp, fun _ => ⟨_, rfl, fun j p hj => ?_⟩⟩
  match j, hj with
  | 0, hj =>
    obtain rfl : la = p := by simpa using hj
    exact ⟨[.slice A la.length ca], rfl, ⟨A, ca, rfl, hca, Kd.C_below ha hbw⟩, fun i u hu => by
      match i, hu with
      | 0, hu => exact hcell 0 u hu⟩
  | 1, hj =>
    obtain rfl : lb = p := by simpa using hj
    exact ⟨[.slice B lb.length cb], rfl, ⟨B, cb, rfl, hcb, Kd.C_below hb hbw⟩, fun i u hu => by
      match i, hu with
      | 0, hu => exact hcell 1 u hu⟩
theorem Wgs.below {W W' : World} {base g : Nat} {s : S53} {d : Value} (h : Wgs W base g s d) (hb : Below W.heap.size W W') : Wgs W' base g s d := by
  obtain ⟨hbg, v, hh, hR⟩ := h
  exact ⟨hbg, v, blk_below hh hb, Kd.R_below hR hb⟩
theorem wg_leaf (w W : World) (p q pb : Nat) (why : Int) (s : S53) (d x : Value) (HB : Below w.heap.size w W) (HS : Wgs W w.heap.size p s d) (HE : W.heap[q]? = some (.cells #[x] 100 (0, 0))) (hq : w.heap.size ≤ q) (hF : W.heap[pb]? = some (.cells #[.int .i64 why] 144 (0, 0)))
    (tmps : Array Value) (e6 : tmps[6]?.getD undef = .pointer (some ⟨p, 0, none⟩)) (e7 : tmps[7]?.getD undef = .pointer (some ⟨q, 0, none⟩)) (r : S53 × Int) (hr : r = (z53, why)) :
    Leaves Try.prog Try.f55 tmps (fun e w' => WPars w r e w') [{ target := .fn (.func 71) #[.pointer (some ⟨p, 0, none⟩), .pointer (some ⟨q, 0, none⟩)], args := #[] }] (.panicking [{ v := .iface 122 (.pointer (some ⟨pb, 0, none⟩)), recovered := false }]) W := by
  subst hr
  have hp : pb ≠ p := fun e => by obtain ⟨_, v, hh, _⟩ := HS; subst e; rw [hh] at hF; cases hF
  have hq' : pb ≠ q := fun e => by subst e; rw [HE] at hF; cases hF
  refine leaves_cons (f := 71) (args := #[.pointer (some ⟨p, 0, none⟩), .pointer (some ⟨q, 0, none⟩)]) (by simp) (by simp [go_sem]) ?_
  refine (wg_catch p q w.heap.size s d x _ [] W HS hq (Below.size HB) HE).mono ?_
  rintro e u' w2 ⟨rfl, rfl, h1, h2, hb, h3⟩
  simp only [settle, List.dropWhile]
  refine ⟨_, wg_results tmps p q z53 (.slice none 0 0) (.slice none 0 0) _ w2 e6 e7 h1 h2, HB.trans hb, _, _, _, rfl, Kd.R_nil _ _ _ _ _, Kd.R_nil _ _ _ _ _, .inr ⟨pb, rfl, ?_⟩⟩
  exact (blk_cell ((h3 pb hp hq' (Array.getElem?_eq_some_iff.1 hF).1).trans hF) 0).trans rfl
theorem wg_leaf_ok (w W : World) (p q : Nat) (s : S53) (v d : Value) (HB : Below w.heap.size w W) (HP : W.heap[p]? = some (.cells (wgcells s v d) 53 (0, 0))) (HV : Kd.R k112 112 W w.heap.size (fun _ => True) v s.f13) (HD : Kd.R (Kd.int .u8) 5 W w.heap.size (fun _ => True) d s.f14) (HE : W.heap[q]? = some (.cells #[.nilIface] 100 (0, 0)))
    (tmps : Array Value) (e6 : tmps[6]?.getD undef = .pointer (some ⟨p, 0, none⟩)) (e7 : tmps[7]?.getD undef = .pointer (some ⟨q, 0, none⟩)) (r : S53 × Int) (hr : r = (s, 0)) :
    Leaves Try.prog Try.f55 tmps (fun e w' => WPars w r e w') [{ target := .fn (.func 71) #[.pointer (some ⟨p, 0, none⟩), .pointer (some ⟨q, 0, none⟩)], args := #[] }] .returning W := by
  subst hr
  refine leaves_cons (f := 71) (args := #[.pointer (some ⟨p, 0, none⟩), .pointer (some ⟨q, 0, none⟩)]) (by simp) (by simp [go_sem]) ?_
  refine (wg_catch_idle p q W).mono ?_
  rintro e u' w2 ⟨rfl, rfl, rfl⟩
  simp only [settle]
  exact ⟨_, wg_results tmps p q s v d _ w2 e6 e7 HP HE, HB, v, d, .nilIface, rfl, HV, HD, .inl ⟨rfl, rfl⟩⟩
theorem wg_R_store {α : Type} {d : Kd α} {e base g t : Nat} {W W' : World} {v : Value} {xs : List α} {cells : Array Value} (h : d.R e W base (fun _ => True) v xs) (hb : W.heap[g]? = some (.cells cells t (0, 0))) (ht : ∀ q, q ∈ e :: d.E → q ≠ t) (hg : W.grownBy W' (some g)) : d.R e W' base (fun _ => True) v xs :=
  Kd.R_mono (Kd.R_grown (Kd.R_types h hb ht) hg (fun k hk e => hk.2 (Option.some.inj e))) (fun _ _ => trivial)
theorem wg_own_empty (w : World) (base : Nat) (hb : base ≤ w.heap.size) : Kd.R (Kd.int .u8) 5 (w.alloc (.cells #[] 5)) base (fun _ => True) (.slice (some ⟨w.heap.size, 0, none⟩) 0 0) [] :=
  ⟨fun _ _ => trivial, [], ⟨rfl, .inr ⟨w.heap.size, 0, #[], rfl, hb, blk_new w _, by decide, by decide, rfl, rfl⟩⟩, by simp, fun j p hj => by simp at hj⟩
set_option maxRecDepth 100000 in
set_option maxHeartbeats 16000000 in
theorem wg_parsed (A : Option Addr) (c : Nat) (b : List Int) (src dst : Int) (vd : Bool) (w : World) (hC : Kd.C (Kd.int .u8) w A b.length b) (hc : b.length ≤ c) (hb : wgb b) (hv : sum_Valid.f [four8 src ++ four8 dst ++ [0, 6, ((b.length : Int) / 256) % 256, (b.length : Int) % 256], b] = some vd) :
    Calls Try.prog 55 #[.slice A b.length c, .int .u32 src, .int .u32 dst] w fun e w' => WPars w (wgget vd b) e w' := by
  have hmf : ∀ (fn : Fn) (first cap : Array Value) (W : World), (Instr.makeFunc fn first cap).run Try.prog W = .ok (.func fn first cap) W := fun _ _ _ _ => rfl
  have hm : b.length ≤ 9223372036854775807 := hC.2.1
  have HC := Lib.hid hC; have HC0 := Lib.hid hc; have HBB := Lib.hid hb; have HV0 := Lib.hid hv
  obtain ⟨ps, hps⟩ : ∃ ps, four8 src ++ four8 dst ++ [0, 6, ((b.length : Int) / 256) % 256, (b.length : Int) % 256] = ps := ⟨_, rfl⟩
  have HV := Lib.hid (show sum_Valid.f [ps, b] = some vd from by rw [← hps]; exact hv)
  have HPS := Lib.hid (show sum_Pseudo.f src dst (b.length : Int) = some ps from by rw [← hps]; rfl)
  clear hC hc hb hv hps HV0
  go_enter_defers Try.func55, Try.ntmps55
  go_upto_region 2 with (fail)
  obtain ⟨p, hp⟩ : ∃ p, w.heap.size = p := ⟨_, rfl⟩
  obtain ⟨q, hq⟩ : ∃ q, p + 1 = q := ⟨_, rfl⟩
  have HB := Lib.hid (show Below w.heap.size w ((w.alloc (.cells #[.int .i64 0, .int .i64 0, .int .u32 0, .int .u32 0, .int .i64 0, .int .i64 0, .int .i64 0, .int .i64 0, .int .i64 0, .bool false, .bool false, .int .u32 0, .int .u32 0, .slice none 0 0, .slice none 0 0] 53)).alloc (.cells #[.nilIface] 100)) from ((Below.refl w.heap.size w).alloc (Nat.le_refl _) _).alloc (by simp) _)
  have HS := Lib.hid (show Wgs ((w.alloc (.cells #[.int .i64 0, .int .i64 0, .int .u32 0, .int .u32 0, .int .i64 0, .int .i64 0, .int .i64 0, .int .i64 0, .int .i64 0, .bool false, .bool false, .int .u32 0, .int .u32 0, .slice none 0 0, .slice none 0 0] 53)).alloc (.cells #[.nilIface] 100)) w.heap.size p z53 (.slice none 0 0) from ⟨by omega, .slice none 0 0, by rw [← hp]; exact blk_alloc (blk_new w _) _, Kd.R_nil _ _ _ _ _⟩)
  have HE := Lib.hid (show ((w.alloc (.cells #[.int .i64 0, .int .i64 0, .int .u32 0, .int .u32 0, .int .i64 0, .int .i64 0, .int .i64 0, .int .i64 0, .int .i64 0, .bool false, .bool false, .int .u32 0, .int .u32 0, .slice none 0 0, .slice none 0 0] 53)).alloc (.cells #[.nilIface] 100)).heap[q]? = some (.cells #[.nilIface] 100 (0, 0)) from by rw [← hq, ← hp]; exact (by have h_ := blk_new (w.alloc (.cells #[.int .i64 0, .int .i64 0, .int .u32 0, .int .u32 0, .int .i64 0, .int .i64 0, .int .i64 0, .int .i64 0, .int .i64 0, .bool false, .bool false, .int .u32 0, .int .u32 0, .slice none 0 0, .slice none 0 0] 53)) (.cells #[.nilIface] 100); rwa [World.size_alloc] at h_))
  rw [hp, hq]
  have HQB := Lib.hid (show w.heap.size ≤ q by omega)
  clear hp hq
  generalize ((w.alloc (.cells #[.int .i64 0, .int .i64 0, .int .u32 0, .int .u32 0, .int .i64 0, .int .i64 0, .int .i64 0, .int .i64 0, .int .i64 0, .bool false, .bool false, .int .u32 0, .int .u32 0, .slice none 0 0, .slice none 0 0] 53)).alloc (.cells #[.nilIface] 100)) = W1 at HB HS HE ⊢
  by_cases h20 : b.length < 20
  · have h20' : decide ((20 : Int) ≤ (b.length : Int)) = false := decide_eq_false (by omega)
    have HH := Lib.hid h20; clear h20
    go_wp2_with (go_at_call 72; with_reducible refine (wg_must_false 1 _).mono ?_; rintro e w1 ⟨rfl, rfl⟩)
    exact wg_leaf w _ p q _ 1 _ _ _ (HB.out.alloc (Below.size HB.out) _) (HS.out.alloc _) (blk_alloc HE.out _) HQB.out (blk_new W1 _) _ rfl rfl _ (by rw [wgget, if_pos HH.out])
  have h20' : decide ((20 : Int) ≤ (b.length : Int)) = true := decide_eq_true (by omega)
  obtain ⟨ad, rfl, x0⟩ := wg_at A b w HC.out 12 (by omega)
  have X0 := (HB.out.cell (World.block_lt_of_cell? w _ x0)).trans x0
  obtain ⟨x, hx⟩ : ∃ x, b.getD 12 0 = x := ⟨_, rfl⟩
  have X0' : W1.cell? ⟨ad.block, ad.off + 12, none⟩ = some (.int .u8 x) := by rw [← hx]; exact X0
  have hxb := wgb_at HBB.out 12 (by omega)
  rw [hx] at hxb
  have h12 : 12 < b.length := by omega
  clear x0 X0
  have HNX : x / 16 * 4 = ((x / 16 * 4).toNat : Int) := by omega
  obtain ⟨m, hm4⟩ : ∃ m, (x / 16 * 4).toNat = m := ⟨_, rfl⟩
  rw [hm4] at HNX
  have HX := Lib.hid hx; have HXM := Lib.hid HNX; have H20 := Lib.hid h20; have HXB := Lib.hid hxb
  have HG0 := Lib.hid (show wgget vd b = wgget1 vd b m from by unfold wgget; rw [if_neg h20, hx, hm4])
  have hw1 : wrap64 (x / 16) = x / 16 := wg_w64 (by omega) (by omega)
  have hwm : wrap64 (m : Int) = (m : Int) := wg_w64 (by omega) (by omega)
  have hw2 : wrap64 (x / 16 * 4) = (m : Int) := by rw [wg_w64 (by omega) (by omega)]; exact HNX
  clear hx hm4 hxb h20
  by_cases hm20 : m < 20
  · have g20 : decide ((20 : Int) ≤ (m : Int)) = false := decide_eq_false (by omega)
    have HM20 := Lib.hid hm20; clear hm20
    go_wp2_with (go_at_call 72; first | (with_reducible refine (wg_must_true _ _).mono ?_; rintro e w1 ⟨rfl, rfl⟩) | (with_reducible refine (wg_must_false _ _).mono ?_; rintro e w1 ⟨rfl, rfl⟩))
    exact wg_leaf w _ p q _ 2 _ _ _ (HB.out.alloc (Below.size HB.out) _) (HS.out.alloc _) (blk_alloc HE.out _) HQB.out (blk_new _ _) _ rfl rfl _ (by rw [HG0.out, wgget1, if_pos HM20.out])
  have g20 : decide ((20 : Int) ≤ (m : Int)) = true := decide_eq_true (by omega)
  have HM20 := Lib.hid hm20; clear hm20
  by_cases hml : b.length < m
  · have gml : decide (m ≤ b.length) = false := decide_eq_false (by omega)
    have HML := Lib.hid hml; clear hml
    go_wp2_with (go_at_call 72; first | (with_reducible refine (wg_must_true _ _).mono ?_; rintro e w1 ⟨rfl, rfl⟩) | (with_reducible refine (wg_must_false _ _).mono ?_; rintro e w1 ⟨rfl, rfl⟩))
    exact wg_leaf w _ p q _ 1 _ _ _ (HB.out.alloc (Below.size HB.out) _) (HS.out.alloc _) (blk_alloc HE.out _) HQB.out (blk_new _ _) _ rfl rfl _ (by rw [HG0.out, wgget1, if_neg HM20.out, if_pos HML.out])
  have gml : decide (m ≤ b.length) = true := decide_eq_true (by omega)
  have HML := Lib.hid hml; clear hml
  cases vd with
  | false =>
    go_wp2_with (first | (go_at_call 72; first | (with_reducible refine (wg_must_true _ _).mono ?_; rintro e w1 ⟨rfl, rfl⟩) | (with_reducible refine (wg_must_false _ _).mono ?_; rintro e w1 ⟨rfl, rfl⟩)) | (go_at_call 44; refine (sum_Pseudo.calls src dst (b.length : Int) ps _ HPS.out).mono ?_; rintro e w2 ⟨v0, rfl, hR2, hb2⟩; obtain ⟨A2, c2, rfl, hc2, hC2⟩ := Kd.R_reads hR2; have HC2 := Lib.hid hC2; have HCC2 := Lib.hid hc2; have HB2 := Lib.hid (below_step HB.out hb2); have HS2 := Lib.hid (HS.out.below hb2); have HE2 := Lib.hid (blk_below HE.out hb2); clear hR2 hb2 hC2 hc2) | (go_at_call 73; refine (sum_Valid.calls _ 2 [ps, b] _ _ (wg_lit_two rfl rfl HCC2.out HC2.out rfl HC0.out (Kd.C_below HC.out HB2.out)) (by simp) HV.out).mono ?_; rintro e w3 ⟨rfl, hb3⟩; have HB3 := Lib.hid (below_step (HB2.out.alloc (Below.size HB2.out) _) hb3); have HS3 := Lib.hid ((HS2.out.alloc _).below hb3); have HE3 := Lib.hid (blk_below (blk_alloc HE2.out _) hb3); clear hb3))
    exact wg_leaf w _ p q _ 3 _ _ _ (HB3.out.alloc (Below.size HB3.out) _) (HS3.out.alloc _) (blk_alloc HE3.out _) HQB.out (blk_new _ _) _ rfl rfl _ (by rw [HG0.out, wgget1, if_neg HM20.out, if_neg HML.out, if_pos rfl])
  | true =>
    go_upto_region 7 with (first | (go_at_call 72; first | (with_reducible refine (wg_must_true _ _).mono ?_; rintro e w1 ⟨rfl, rfl⟩) | (with_reducible refine (wg_must_false _ _).mono ?_; rintro e w1 ⟨rfl, rfl⟩)) | (go_at_call 44; refine (sum_Pseudo.calls src dst (b.length : Int) ps _ HPS.out).mono ?_; rintro e w2 ⟨v0, rfl, hR2, hb2⟩; obtain ⟨A2, c2, rfl, hc2, hC2⟩ := Kd.R_reads hR2; have HC2 := Lib.hid hC2; have HCC2 := Lib.hid hc2; have HB2 := Lib.hid (below_step HB.out hb2); have HS2 := Lib.hid (HS.out.below hb2); have HE2 := Lib.hid (blk_below HE.out hb2); clear hR2 hb2 hC2 hc2) | (go_at_call 73; refine (sum_Valid.calls _ 2 [ps, b] _ _ (wg_lit_two rfl rfl HCC2.out HC2.out rfl HC0.out (Kd.C_below HC.out HB2.out)) (by simp) HV.out).mono ?_; rintro e w3 ⟨rfl, hb3⟩; have HB3 := Lib.hid (below_step (HB2.out.alloc (Below.size HB2.out) _) hb3); have HS3 := Lib.hid ((HS2.out.alloc _).below hb3); have HE3 := Lib.hid (blk_below (blk_alloc HE2.out _) hb3); clear hb3))
    obtain ⟨u0, hu0, _, hsz, _⟩ := info_parts info5
    have H20L : 20 ≤ b.length := by have := H20.out; omega
    have cut0 := cut_to (P := Try.prog) 34 5 .i64 Try.underlying34 hu0 (some ad) b.length c (2 : Int) (by omega) (by omega) HC0.out
    simp only [show ((2 : Int)).toNat = 2 from rfl] at cut0
    have R0 := Kd.C_take (m := 2) HC.out (by omega)
    obtain ⟨a0, ha0⟩ : ∃ a, (some ad : Option Addr) = a := ⟨_, rfl⟩
    have l0 : (b.take 2).length = 2 := by simp only [List.length_drop, List.length_take]; omega
    have G0 := wg_get (b.take 2) (by omega)
    have nb0 := wgn_bd (l := b.take 2) (fun x hx => HBB.out x (List.mem_of_mem_take hx))
    obtain ⟨n0, hn0⟩ : ∃ n, wgn (b.take 2) = n := ⟨_, rfl⟩
    rw [hn0] at G0 nb0
    have wn0 : wrap64 n0 = n0 := wg_w64 (by omega) (by omega)
    have wi0 : IntKind.i64.wrap n0 = n0 := (i64_w n0).trans wn0
    have K0 := Lib.hid (fun (W : World) (hB : Below w.heap.size w W) => wire_get.calls _ (some ad) c (b.take 2) n0 W (Kd.C_below R0 hB) (by have := HC0.out; omega) G0)
    rw [l0] at K0
    have cut1 := cut_mid (P := Try.prog) 34 5 .i64 .i64 Try.underlying34 hu0 1 hsz (some ad) b.length c (2 : Int) (4 : Int) (by omega) (by omega) (by omega) HC0.out
    simp only [show ((2 : Int)).toNat = 2 from rfl, show ((4 : Int)).toNat = 4 from rfl, Nat.mul_one, show 4 - 2 = 2 from rfl] at cut1
    obtain ⟨a1, ha1⟩ : ∃ a, (if c = 2 then some ad else (some ad).map (·.add 2)) = a := ⟨_, rfl⟩
    rw [ha1] at cut1
    have R1 := Kd.C_mid (lo := 2) (hi := 4) (c := c) HC.out (by omega) (by omega) HC0.out
    rw [show 2 * (Kd.int .u8).sz = 2 from rfl, ha1] at R1
    have l1 : ((b.take 4).drop 2).length = 2 := by simp only [List.length_drop, List.length_take]; omega
    have G1 := wg_get ((b.take 4).drop 2) (by omega)
    have nb1 := wgn_bd (l := (b.take 4).drop 2) (fun x hx => HBB.out x (List.mem_of_mem_take (List.mem_of_mem_drop hx)))
    obtain ⟨n1, hn1⟩ : ∃ n, wgn ((b.take 4).drop 2) = n := ⟨_, rfl⟩
    rw [hn1] at G1 nb1
    have wn1 : wrap64 n1 = n1 := wg_w64 (by omega) (by omega)
    have wi1 : IntKind.i64.wrap n1 = n1 := (i64_w n1).trans wn1
    have K1 := Lib.hid (fun (W : World) (hB : Below w.heap.size w W) => wire_get.calls _ a1 (c - 2) ((b.take 4).drop 2) n1 W (Kd.C_below R1 hB) (by have := HC0.out; omega) G1)
    rw [l1] at K1
    have cut2 := cut_mid (P := Try.prog) 34 5 .i64 .i64 Try.underlying34 hu0 1 hsz (some ad) b.length c (4 : Int) (8 : Int) (by omega) (by omega) (by omega) HC0.out
    simp only [show ((4 : Int)).toNat = 4 from rfl, show ((8 : Int)).toNat = 8 from rfl, Nat.mul_one, show 8 - 4 = 4 from rfl] at cut2
    obtain ⟨a2, ha2⟩ : ∃ a, (if c = 4 then some ad else (some ad).map (·.add 4)) = a := ⟨_, rfl⟩
    rw [ha2] at cut2
    have R2 := Kd.C_mid (lo := 4) (hi := 8) (c := c) HC.out (by omega) (by omega) HC0.out
    rw [show 4 * (Kd.int .u8).sz = 4 from rfl, ha2] at R2
    have l2 : ((b.take 8).drop 4).length = 4 := by simp only [List.length_drop, List.length_take]; omega
    have G2 := wg_get ((b.take 8).drop 4) (by omega)
    have nb2 := wgn_bd (l := (b.take 8).drop 4) (fun x hx => HBB.out x (List.mem_of_mem_take (List.mem_of_mem_drop hx)))
    obtain ⟨n2, hn2⟩ : ∃ n, wgn ((b.take 8).drop 4) = n := ⟨_, rfl⟩
    rw [hn2] at G2 nb2
    have wn2 : wrap64 n2 = n2 := wg_w64 (by omega) (by omega)
    have wi2 : IntKind.i64.wrap n2 = n2 := (i64_w n2).trans wn2
    have K2 := Lib.hid (fun (W : World) (hB : Below w.heap.size w W) => wire_get.calls _ a2 (c - 4) ((b.take 8).drop 4) n2 W (Kd.C_below R2 hB) (by have := HC0.out; omega) G2)
    rw [l2] at K2
    have cut3 := cut_mid (P := Try.prog) 34 5 .i64 .i64 Try.underlying34 hu0 1 hsz (some ad) b.length c (8 : Int) (12 : Int) (by omega) (by omega) (by omega) HC0.out
    simp only [show ((8 : Int)).toNat = 8 from rfl, show ((12 : Int)).toNat = 12 from rfl, Nat.mul_one, show 12 - 8 = 4 from rfl] at cut3
    obtain ⟨a3, ha3⟩ : ∃ a, (if c = 8 then some ad else (some ad).map (·.add 8)) = a := ⟨_, rfl⟩
    rw [ha3] at cut3
    have R3 := Kd.C_mid (lo := 8) (hi := 12) (c := c) HC.out (by omega) (by omega) HC0.out
    rw [show 8 * (Kd.int .u8).sz = 8 from rfl, ha3] at R3
    have l3 : ((b.take 12).drop 8).length = 4 := by simp only [List.length_drop, List.length_take]; omega
    have G3 := wg_get ((b.take 12).drop 8) (by omega)
    have nb3 := wgn_bd (l := (b.take 12).drop 8) (fun x hx => HBB.out x (List.mem_of_mem_take (List.mem_of_mem_drop hx)))
    obtain ⟨n3, hn3⟩ : ∃ n, wgn ((b.take 12).drop 8) = n := ⟨_, rfl⟩
    rw [hn3] at G3 nb3
    have wn3 : wrap64 n3 = n3 := wg_w64 (by omega) (by omega)
    have wi3 : IntKind.i64.wrap n3 = n3 := (i64_w n3).trans wn3
    have K3 := Lib.hid (fun (W : World) (hB : Below w.heap.size w W) => wire_get.calls _ a3 (c - 8) ((b.take 12).drop 8) n3 W (Kd.C_below R3 hB) (by have := HC0.out; omega) G3)
    rw [l3] at K3
    have cut4 := cut_mid (P := Try.prog) 34 5 .i64 .i64 Try.underlying34 hu0 1 hsz (some ad) b.length c (14 : Int) (16 : Int) (by omega) (by omega) (by omega) HC0.out
    simp only [show ((14 : Int)).toNat = 14 from rfl, show ((16 : Int)).toNat = 16 from rfl, Nat.mul_one, show 16 - 14 = 2 from rfl] at cut4
    obtain ⟨a4, ha4⟩ : ∃ a, (if c = 14 then some ad else (some ad).map (·.add 14)) = a := ⟨_, rfl⟩
    rw [ha4] at cut4
    have R4 := Kd.C_mid (lo := 14) (hi := 16) (c := c) HC.out (by omega) (by omega) HC0.out
    rw [show 14 * (Kd.int .u8).sz = 14 from rfl, ha4] at R4
    have l4 : ((b.take 16).drop 14).length = 2 := by simp only [List.length_drop, List.length_take]; omega
    have G4 := wg_get ((b.take 16).drop 14) (by omega)
    have nb4 := wgn_bd (l := (b.take 16).drop 14) (fun x hx => HBB.out x (List.mem_of_mem_take (List.mem_of_mem_drop hx)))
    obtain ⟨n4, hn4⟩ : ∃ n, wgn ((b.take 16).drop 14) = n := ⟨_, rfl⟩
    rw [hn4] at G4 nb4
    have wn4 : wrap64 n4 = n4 := wg_w64 (by omega) (by omega)
    have wi4 : IntKind.i64.wrap n4 = n4 := (i64_w n4).trans wn4
    have K4 := Lib.hid (fun (W : World) (hB : Below w.heap.size w W) => wire_get.calls _ a4 (c - 14) ((b.take 16).drop 14) n4 W (Kd.C_below R4 hB) (by have := HC0.out; omega) G4)
    rw [l4] at K4
    have cut5 := cut_mid (P := Try.prog) 34 5 .i64 .i64 Try.underlying34 hu0 1 hsz (some ad) b.length c (18 : Int) (20 : Int) (by omega) (by omega) (by omega) HC0.out
    simp only [show ((18 : Int)).toNat = 18 from rfl, show ((20 : Int)).toNat = 20 from rfl, Nat.mul_one, show 20 - 18 = 2 from rfl] at cut5
    obtain ⟨a5, ha5⟩ : ∃ a, (if c = 18 then some ad else (some ad).map (·.add 18)) = a := ⟨_, rfl⟩
    rw [ha5] at cut5
    have R5 := Kd.C_mid (lo := 18) (hi := 20) (c := c) HC.out (by omega) (by omega) HC0.out
    rw [show 18 * (Kd.int .u8).sz = 18 from rfl, ha5] at R5
    have l5 : ((b.take 20).drop 18).length = 2 := by simp only [List.length_drop, List.length_take]; omega
    have G5 := wg_get ((b.take 20).drop 18) (by omega)
    have nb5 := wgn_bd (l := (b.take 20).drop 18) (fun x hx => HBB.out x (List.mem_of_mem_take (List.mem_of_mem_drop hx)))
    obtain ⟨n5, hn5⟩ : ∃ n, wgn ((b.take 20).drop 18) = n := ⟨_, rfl⟩
    rw [hn5] at G5 nb5
    have wn5 : wrap64 n5 = n5 := wg_w64 (by omega) (by omega)
    have wi5 : IntKind.i64.wrap n5 = n5 := (i64_w n5).trans wn5
    have K5 := Lib.hid (fun (W : World) (hB : Below w.heap.size w W) => wire_get.calls _ a5 (c - 18) ((b.take 20).drop 18) n5 W (Kd.C_below R5 hB) (by have := HC0.out; omega) G5)
    rw [l5] at K5
    obtain ⟨y, hy⟩ : ∃ y, b.getD 13 0 = y := ⟨_, rfl⟩
    have hyb := wgb_at HBB.out 13 (by omega)
    obtain ⟨ad', ead, y0⟩ := wg_at (some ad) b w HC.out 13 (by omega)
    obtain rfl := Option.some.inj ead
    have Y0 := (HB3.out.cell (World.block_lt_of_cell? w _ y0)).trans y0
    rw [hy] at hyb
    have Y0' : w3.cell? ⟨ad.block, ad.off + 13, none⟩ = some (.int .u8 y) := by rw [← hy]; exact Y0
    have wy : IntKind.i64.wrap y = y := (i64_w y).trans (wg_w64 (by omega) (by omega))
    have wy' : wrap64 y = y := wg_w64 (by omega) (by omega)
    have h13 : 13 < b.length := by omega
    have h13i : (13 : Int) < (b.length : Int) := by omega
    have HSEG := Lib.hid (show wgseg b = ⟨n0, n1, n2, n3, y, n4, n5, -1, -1, false, false, 0, 0, [], []⟩ from by unfold wgseg; rw [hn0, hn1, hn2, hn3, hn4, hn5, hy])
    obtain ⟨hbp, v3, hh3, hR3⟩ := HS3.out
    have HH3 := Lib.hid hh3; have HBP := Lib.hid hbp
    clear R0 l0 G0 nb0 hn0 ha0 R1 l1 G1 nb1 hn1 ha1 R2 l2 G2 nb2 hn2 ha2 R3 l3 G3 nb3 hn3 ha3 R4 l4 G4 nb4 hn4 ha4 R5 l5 G5 nb5 hn5 ha5 hy hyb ead y0 Y0 H20L hh3 hR3 hbp
    refine wp_region_noPanic ?_
    refine start_ (n := 28) (S := fun w' => w'.cell? ⟨ad.block, ad.off + 13, none⟩ = some (.int .u8 y)) (ds := [27]) #[false, false, false, false, false, false, false, false, false, false, false, false, false, false, false, false, false, false, false, false, false, false, false, false, false, false, false, false] (by kernel_rfl) rfl rfl (Y0') (fun hHeld => ?_)
    refine pure_ (i := 0) (N := some 37) (v := ?_) (a' := ?_) #[true, false, false, false, false, false, false, false, false, false, false, false, false, false, false, false, false, false, false, false, false, false, false, false, false, false, false, false] rfl rfl (by kernel_rfl) (fun _ _ _ h => h) (Or.inl ⟨by rfl, ?_⟩) ?_ ?_
    rotate_left
    · intro w'
      go_simp
      with_reducible rfl
    rotate_left
    · simp only [Act.put, List.setIfInBounds_toArray, List.set_cons_zero, List.set_cons_succ, i64_w, i32_w]
      rfl
    refine pure_ (i := 1) (N := some 38) (v := ?_) (a' := ?_) #[true, true, false, false, false, false, false, false, false, false, false, false, false, false, false, false, false, false, false, false, false, false, false, false, false, false, false, false] rfl rfl (by kernel_rfl) (fun _ _ _ h => h) (Or.inl ⟨by rfl, ?_⟩) ?_ ?_
    rotate_left
    · intro w'
      go_simp
      with_reducible rfl
    rotate_left
    · simp only [Act.put, List.setIfInBounds_toArray, List.set_cons_zero, List.set_cons_succ, i64_w, i32_w]
      rfl
    refine pure_ (i := 4) (N := some 41) (v := ?_) (a' := ?_) #[true, true, false, false, true, false, false, false, false, false, false, false, false, false, false, false, false, false, false, false, false, false, false, false, false, false, false, false] rfl rfl (by kernel_rfl) (fun _ _ _ h => h) (Or.inl ⟨by rfl, ?_⟩) ?_ ?_
    rotate_left
    · intro w'
      go_simp
      with_reducible rfl
    rotate_left
    · simp only [Act.put, List.setIfInBounds_toArray, List.set_cons_zero, List.set_cons_succ, i64_w, i32_w]
      rfl
    refine pure_ (i := 5) (N := some 42) (v := ?_) (a' := ?_) #[true, true, false, false, true, true, false, false, false, false, false, false, false, false, false, false, false, false, false, false, false, false, false, false, false, false, false, false] rfl rfl (by kernel_rfl) (fun _ _ _ h => h) (Or.inl ⟨by rfl, ?_⟩) ?_ ?_
    rotate_left
    · intro w'
      go_simp
      with_reducible rfl
    rotate_left
    · simp only [Act.put, List.setIfInBounds_toArray, List.set_cons_zero, List.set_cons_succ, i64_w, i32_w]
      rfl
    refine pure_ (i := 8) (N := some 45) (v := ?_) (a' := ?_) #[true, true, false, false, true, true, false, false, true, false, false, false, false, false, false, false, false, false, false, false, false, false, false, false, false, false, false, false] rfl rfl (by kernel_rfl) (fun _ _ _ h => h) (Or.inl ⟨by rfl, ?_⟩) ?_ ?_
    rotate_left
    · intro w'
      go_simp
      with_reducible rfl
    rotate_left
    · simp only [Act.put, List.setIfInBounds_toArray, List.set_cons_zero, List.set_cons_succ, i64_w, i32_w]
      rfl
    refine pure_ (i := 9) (N := some 46) (v := ?_) (a' := ?_) #[true, true, false, false, true, true, false, false, true, true, false, false, false, false, false, false, false, false, false, false, false, false, false, false, false, false, false, false] rfl rfl (by kernel_rfl) (fun _ _ _ h => h) (Or.inl ⟨by rfl, ?_⟩) ?_ ?_
    rotate_left
    · intro w'
      go_simp
      with_reducible rfl
    rotate_left
    · simp only [Act.put, List.setIfInBounds_toArray, List.set_cons_zero, List.set_cons_succ, i64_w, i32_w]
      rfl
    refine pure_ (i := 11) (N := some 48) (v := ?_) (a' := ?_) #[true, true, false, false, true, true, false, false, true, true, false, true, false, false, false, false, false, false, false, false, false, false, false, false, false, false, false, false] rfl rfl (by kernel_rfl) (fun _ _ _ h => h) (Or.inl ⟨by rfl, ?_⟩) ?_ ?_
    rotate_left
    · intro w'
      go_simp
      with_reducible rfl
    rotate_left
    · simp only [Act.put, List.setIfInBounds_toArray, List.set_cons_zero, List.set_cons_succ, i64_w, i32_w]
      rfl
    refine pure_ (i := 12) (N := some 49) (v := ?_) (a' := ?_) #[true, true, false, false, true, true, false, false, true, true, false, true, true, false, false, false, false, false, false, false, false, false, false, false, false, false, false, false] rfl rfl (by kernel_rfl) (fun _ _ _ h => h) (Or.inl ⟨by rfl, ?_⟩) ?_ ?_
    rotate_left
    · intro w'
      go_simp
      with_reducible rfl
    rotate_left
    · simp only [Act.put, List.setIfInBounds_toArray, List.set_cons_zero, List.set_cons_succ, i64_w, i32_w]
      rfl
    refine pure_ (i := 14) (N := some 51) (v := ?_) (a' := ?_) #[true, true, false, false, true, true, false, false, true, true, false, true, true, false, true, false, false, false, false, false, false, false, false, false, false, false, false, false] rfl rfl (by kernel_rfl) (fun _ _ _ h => h) (Or.inl ⟨by rfl, ?_⟩) ?_ ?_
    rotate_left
    · intro w'
      go_simp
      with_reducible rfl
    rotate_left
    · simp only [Act.put, List.setIfInBounds_toArray, List.set_cons_zero, List.set_cons_succ, i64_w, i32_w]
      rfl
    refine pure_ (i := 15) (N := some 52) (v := ?_) (a' := ?_) #[true, true, false, false, true, true, false, false, true, true, false, true, true, false, true, true, false, false, false, false, false, false, false, false, false, false, false, false] rfl rfl (by kernel_rfl) (fun _ _ _ h => h) (Or.inl ⟨by rfl, ?_⟩) ?_ ?_
    rotate_left
    · intro w'
      go_simp
      with_reducible rfl
    rotate_left
    · simp only [Act.put, List.setIfInBounds_toArray, List.set_cons_zero, List.set_cons_succ, i64_w, i32_w]
      rfl
    refine pure_ (i := 18) (N := some 55) (v := ?_) (a' := ?_) #[true, true, false, false, true, true, false, false, true, true, false, true, true, false, true, true, false, false, true, false, false, false, false, false, false, false, false, false] rfl rfl (by kernel_rfl) (fun _ _ _ h => h) (Or.inl ⟨by rfl, ?_⟩) ?_ ?_
    rotate_left
    · intro w'
      go_simp
      with_reducible rfl
    rotate_left
    · simp only [Act.put, List.setIfInBounds_toArray, List.set_cons_zero, List.set_cons_succ, i64_w, i32_w]
      rfl
    refine pure_ (i := 19) (N := some 56) (v := ?_) (a' := ?_) #[true, true, false, false, true, true, false, false, true, true, false, true, true, false, true, true, false, false, true, true, false, false, false, false, false, false, false, false] rfl rfl (by kernel_rfl) (fun _ _ _ h => h) (Or.inl ⟨by rfl, ?_⟩) ?_ ?_
    rotate_left
    · intro w'
      go_simp
      with_reducible rfl
    rotate_left
    · simp only [Act.put, List.setIfInBounds_toArray, List.set_cons_zero, List.set_cons_succ, i64_w, i32_w]
      rfl
    refine pure_ (i := 22) (N := some 59) (v := ?_) (a' := ?_) #[true, true, false, false, true, true, false, false, true, true, false, true, true, false, true, true, false, false, true, true, false, false, true, false, false, false, false, false] rfl rfl (by kernel_rfl) (fun _ _ _ h => h) (Or.inl ⟨by rfl, ?_⟩) ?_ ?_
    rotate_left
    · intro w'
      go_simp
      with_reducible rfl
    rotate_left
    · simp only [Act.put, List.setIfInBounds_toArray, List.set_cons_zero, List.set_cons_succ, i64_w, i32_w]
      rfl
    refine pure_ (i := 23) (N := some 60) (v := ?_) (a' := ?_) #[true, true, false, false, true, true, false, false, true, true, false, true, true, false, true, true, false, false, true, true, false, false, true, true, false, false, false, false] rfl rfl (by kernel_rfl) (fun _ _ _ h => h) (Or.inl ⟨by rfl, ?_⟩) ?_ ?_
    rotate_left
    · intro w'
      go_simp
      with_reducible rfl
    rotate_left
    · simp only [Act.put, List.setIfInBounds_toArray, List.set_cons_zero, List.set_cons_succ, i64_w, i32_w]
      rfl
    refine take_ (i := 16) (N := some 53) (v := ?_) (a' := ?_) #[true, true, false, false, true, true, false, false, true, true, false, true, true, false, true, true, true, false, true, true, false, false, true, true, false, false, false, false] rfl rfl (by kernel_rfl) (fun _ _ _ h => h) (Or.inl ⟨by rfl, ?_⟩) hHeld ?_ ?_
    rotate_left
    · intro w' s0
      go_simp
      with_reducible rfl
    rotate_left
    · simp only [Act.put, List.setIfInBounds_toArray, List.set_cons_zero, List.set_cons_succ, i64_w, i32_w]
      rfl
    refine pure_ (i := 17) (N := some 54) (v := ?_) (a' := ?_) #[true, true, false, false, true, true, false, false, true, true, false, true, true, false, true, true, true, true, true, true, false, false, true, true, false, false, false, false] rfl rfl (by kernel_rfl) (fun _ _ _ h => h) (Or.inl ⟨by rfl, ?_⟩) ?_ ?_
    rotate_left
    · intro w'
      go_simp
      with_reducible rfl
    rotate_left
    · simp only [Act.put, List.setIfInBounds_toArray, List.set_cons_zero, List.set_cons_succ, i64_w, i32_w]
      rfl
    refine one_ (i := 2) (N := some 39) #[true, true, true, false, true, true, false, false, true, true, false, true, true, false, true, true, true, true, true, true, false, false, true, true, false, false, false, false] rfl rfl (by kernel_rfl) (by decide) (fun K hK => ?_)
    refine goes_ Try.func74 (by kernel_rfl) rfl #[.slice (some ad) 2 c] (by rfl) rfl rfl (by simp only [List.map_toArray, List.map_cons, List.map_nil]; rfl) ?_
    with_reducible refine (K0.out _ (by repeat (first | exact HB3.out | with_reducible apply below_drew1 | with_reducible refine pw_below_drewN ?_ _))).mono ?_
    rintro e w7 ⟨rfl, nd0, rfl⟩
    refine ⟨_, rfl, ?_⟩
    refine hK.out _ _ (hHeld) (fun hHeld => ?_)
    clear hK K
    refine norm_ (a' := ?_) ?_ ?_
    rotate_left
    · show Act.put _ (some 39) _ = _
      simp only [Act.put, List.setIfInBounds_toArray, List.set_cons_zero, List.set_cons_succ, i64_w, i32_w]
      rfl
    refine pure_ (i := 3) (N := some 40) (v := ?_) (a' := ?_) #[true, true, true, true, true, true, false, false, true, true, false, true, true, false, true, true, true, true, true, true, false, false, true, true, false, false, false, false] rfl rfl (by kernel_rfl) (fun _ _ _ h => h) (Or.inl ⟨by rfl, ?_⟩) ?_ ?_
    rotate_left
    · intro w'
      go_simp
      with_reducible rfl
    rotate_left
    · simp only [Act.put, List.setIfInBounds_toArray, List.set_cons_zero, List.set_cons_succ, i64_w, i32_w]
      rfl
    refine one_ (i := 6) (N := some 43) #[true, true, true, true, true, true, true, false, true, true, false, true, true, false, true, true, true, true, true, true, false, false, true, true, false, false, false, false] rfl rfl (by kernel_rfl) (by decide) (fun K hK => ?_)
    refine goes_ Try.func74 (by kernel_rfl) rfl #[.slice a1 2 (c - 2)] (by rfl) rfl rfl (by simp only [List.map_toArray, List.map_cons, List.map_nil]; rfl) ?_
    with_reducible refine (K1.out _ (by repeat (first | exact HB3.out | with_reducible apply below_drew1 | with_reducible refine pw_below_drewN ?_ _))).mono ?_
    rintro e w7 ⟨rfl, nd1, rfl⟩
    refine ⟨_, rfl, ?_⟩
    refine hK.out _ _ (hHeld) (fun hHeld => ?_)
    clear hK K
    refine norm_ (a' := ?_) ?_ ?_
    rotate_left
    · show Act.put _ (some 43) _ = _
      simp only [Act.put, List.setIfInBounds_toArray, List.set_cons_zero, List.set_cons_succ, i64_w, i32_w]
      rfl
    refine pure_ (i := 7) (N := some 44) (v := ?_) (a' := ?_) #[true, true, true, true, true, true, true, true, true, true, false, true, true, false, true, true, true, true, true, true, false, false, true, true, false, false, false, false] rfl rfl (by kernel_rfl) (fun _ _ _ h => h) (Or.inl ⟨by rfl, ?_⟩) ?_ ?_
    rotate_left
    · intro w'
      go_simp
      with_reducible rfl
    rotate_left
    · simp only [Act.put, List.setIfInBounds_toArray, List.set_cons_zero, List.set_cons_succ, i64_w, i32_w]
      rfl
    refine one_ (i := 10) (N := some 47) #[true, true, true, true, true, true, true, true, true, true, true, true, true, false, true, true, true, true, true, true, false, false, true, true, false, false, false, false] rfl rfl (by kernel_rfl) (by decide) (fun K hK => ?_)
    refine goes_ Try.func74 (by kernel_rfl) rfl #[.slice a2 4 (c - 4)] (by rfl) rfl rfl (by simp only [List.map_toArray, List.map_cons, List.map_nil]; rfl) ?_
    with_reducible refine (K2.out _ (by repeat (first | exact HB3.out | with_reducible apply below_drew1 | with_reducible refine pw_below_drewN ?_ _))).mono ?_
    rintro e w7 ⟨rfl, nd2, rfl⟩
    refine ⟨_, rfl, ?_⟩
    refine hK.out _ _ (hHeld) (fun hHeld => ?_)
    clear hK K
    refine norm_ (a' := ?_) ?_ ?_
    rotate_left
    · show Act.put _ (some 47) _ = _
      simp only [Act.put, List.setIfInBounds_toArray, List.set_cons_zero, List.set_cons_succ, i64_w, i32_w]
      rfl
    refine one_ (i := 13) (N := some 50) #[true, true, true, true, true, true, true, true, true, true, true, true, true, true, true, true, true, true, true, true, false, false, true, true, false, false, false, false] rfl rfl (by kernel_rfl) (by decide) (fun K hK => ?_)
    refine goes_ Try.func74 (by kernel_rfl) rfl #[.slice a3 4 (c - 8)] (by rfl) rfl rfl (by simp only [List.map_toArray, List.map_cons, List.map_nil]; rfl) ?_
    with_reducible refine (K3.out _ (by repeat (first | exact HB3.out | with_reducible apply below_drew1 | with_reducible refine pw_below_drewN ?_ _))).mono ?_
    rintro e w7 ⟨rfl, nd3, rfl⟩
    refine ⟨_, rfl, ?_⟩
    refine hK.out _ _ (hHeld) (fun hHeld => ?_)
    clear hK K
    refine norm_ (a' := ?_) ?_ ?_
    rotate_left
    · show Act.put _ (some 50) _ = _
      simp only [Act.put, List.setIfInBounds_toArray, List.set_cons_zero, List.set_cons_succ, i64_w, i32_w]
      rfl
    refine one_ (i := 20) (N := some 57) #[true, true, true, true, true, true, true, true, true, true, true, true, true, true, true, true, true, true, true, true, true, false, true, true, false, false, false, false] rfl rfl (by kernel_rfl) (by decide) (fun K hK => ?_)
    refine goes_ Try.func74 (by kernel_rfl) rfl #[.slice a4 2 (c - 14)] (by rfl) rfl rfl (by simp only [List.map_toArray, List.map_cons, List.map_nil]; rfl) ?_
    with_reducible refine (K4.out _ (by repeat (first | exact HB3.out | with_reducible apply below_drew1 | with_reducible refine pw_below_drewN ?_ _))).mono ?_
    rintro e w7 ⟨rfl, nd4, rfl⟩
    refine ⟨_, rfl, ?_⟩
    refine hK.out _ _ (hHeld) (fun hHeld => ?_)
    clear hK K
    refine norm_ (a' := ?_) ?_ ?_
    rotate_left
    · show Act.put _ (some 57) _ = _
      simp only [Act.put, List.setIfInBounds_toArray, List.set_cons_zero, List.set_cons_succ, i64_w, i32_w]
      rfl
    refine pure_ (i := 21) (N := some 58) (v := ?_) (a' := ?_) #[true, true, true, true, true, true, true, true, true, true, true, true, true, true, true, true, true, true, true, true, true, true, true, true, false, false, false, false] rfl rfl (by kernel_rfl) (fun _ _ _ h => h) (Or.inl ⟨by rfl, ?_⟩) ?_ ?_
    rotate_left
    · intro w'
      go_simp
      with_reducible rfl
    rotate_left
    · simp only [Act.put, List.setIfInBounds_toArray, List.set_cons_zero, List.set_cons_succ, i64_w, i32_w]
      rfl
    refine one_ (i := 24) (N := some 61) #[true, true, true, true, true, true, true, true, true, true, true, true, true, true, true, true, true, true, true, true, true, true, true, true, true, false, false, false] rfl rfl (by kernel_rfl) (by decide) (fun K hK => ?_)
    refine goes_ Try.func74 (by kernel_rfl) rfl #[.slice a5 2 (c - 18)] (by rfl) rfl rfl (by simp only [List.map_toArray, List.map_cons, List.map_nil]; rfl) ?_
    with_reducible refine (K5.out _ (by repeat (first | exact HB3.out | with_reducible apply below_drew1 | with_reducible refine pw_below_drewN ?_ _))).mono ?_
    rintro e w7 ⟨rfl, nd5, rfl⟩
    refine ⟨_, rfl, ?_⟩
    refine hK.out _ _ (hHeld) (fun hHeld => ?_)
    clear hK K
    refine norm_ (a' := ?_) ?_ ?_
    rotate_left
    · show Act.put _ (some 61) _ = _
      simp only [Act.put, List.setIfInBounds_toArray, List.set_cons_zero, List.set_cons_succ, i64_w, i32_w]
      rfl
    refine pure_ (i := 25) (N := some 62) (v := ?_) (a' := ?_) #[true, true, true, true, true, true, true, true, true, true, true, true, true, true, true, true, true, true, true, true, true, true, true, true, true, true, false, false] rfl rfl (by kernel_rfl) (fun _ _ _ h => h) (Or.inl ⟨by rfl, ?_⟩) ?_ ?_
    rotate_left
    · intro w'
      go_simp
      with_reducible rfl
    rotate_left
    · simp only [Act.put, List.setIfInBounds_toArray, List.set_cons_zero, List.set_cons_succ, i64_w, i32_w]
      rfl
    refine pure_ (i := 26) (N := some 63) (v := ?_) (a' := ?_) #[true, true, true, true, true, true, true, true, true, true, true, true, true, true, true, true, true, true, true, true, true, true, true, true, true, true, true, false] rfl rfl (by kernel_rfl) (fun _ _ _ h => h) (Or.inl ⟨by rfl, ?_⟩) ?_ ?_
    rotate_left
    · intro w'
      go_simp
      with_reducible rfl
    rotate_left
    · simp only [Act.put, List.setIfInBounds_toArray, List.set_cons_zero, List.set_cons_succ, i64_w, i32_w]
      rfl
    refine last_ (i := 27) (N := none) #[true, true, true, true, true, true, true, true, true, true, true, true, true, true, true, true, true, true, true, true, true, true, true, true, true, true, true, true] rfl rfl (by kernel_rfl) (by decide) (fun K hK => ?_)
    refine wg_store_step (by rfl) (by rfl) 53 (.tmp 6) (.tmp 63) rfl (.agg #[.int .i64 n0, .int .i64 n1, .int .u32 n2, .int .u32 n3, .int .i64 y, .int .i64 n4, .int .i64 n5, .int .i64 (-1), .int .i64 (-1), .bool false, .bool false, .int .u32 0, .int .u32 0, .slice none 0 0, .slice none 0 0]) _ p 53 _ (by rfl) (by rfl) (by rfl) (by kernel_rfl) (by rfl) (by repeat (first | exact HH3.out | with_reducible refine blk_drew ?_ | with_reducible refine blk_drewN ?_ _)) (by rfl) ?_
    intro w5 h5 hg5
    refine hK.out _ _ ?_
    clear hK K
    refine done_ (by kernel_rfl) ?_
    refine NoPanic.normal ?_
    have hpq : p ≠ q := fun e => by have h1 := HH3.out; have h2 := HE3.out; rw [e, h2] at h1; cases h1
    have HS5 := Lib.hid (show Wgs w5 w.heap.size p (wgseg b) (.slice none 0 0) from ⟨HBP.out, .slice none 0 0, by rw [HSEG.out]; exact h5, by rw [HSEG.out]; exact Kd.R_nil _ _ _ _ _⟩)
    have HB5 := Lib.hid (show Below w.heap.size w w5 from Below.grown (w := _) (by repeat (first | exact HB3.out | with_reducible apply below_drew1 | with_reducible refine pw_below_drewN ?_ _)) hg5 (by have h_ := Below.size HB3.out; exact h_) (fun k hk => by cases hk; exact HBP.out))
    have HE5 := Lib.hid (show w5.heap[q]? = some (.cells #[.nilIface] 100 (0, 0)) from blk_grown (w := _) (by repeat (first | exact HE3.out | with_reducible refine blk_drew ?_ | with_reducible refine blk_drewN ?_ _)) hg5 (fun e => hpq (Option.some.inj e).symm))
    clear h5 hg5 hHeld Y0' wn0 wn1 wn2 wn3 wn4 wn5 wi0 wi1 wi2 wi3 wi4 wi5 wy wy' K0 K1 K2 K3 K4 K5 cut0 cut1 cut2 cut3 cut4 cut5 h13 h13i HSEG
    have hm20' : 20 ≤ m := by have := HM20.out; omega
    have hmb : m ≤ b.length := by have := HML.out; omega
    have cut8 := cut_mid (P := Try.prog) 34 5 .i64 .i64 Try.underlying34 hu0 1 hsz (some ad) b.length c (20 : Int) (m : Int) (by omega) (by omega) (by omega) HC0.out
    have cut9 := cut_from (P := Try.prog) 34 5 .i64 Try.underlying34 hu0 1 hsz (some ad) b.length c (m : Int) (by omega) (by omega)
    simp only [show ((20 : Int)).toNat = 20 from rfl, Int.toNat_natCast, Nat.mul_one] at cut8 cut9
    obtain ⟨A8, hA8⟩ : ∃ a, (if c = 20 then some ad else (some ad).map (·.add 20)) = a := ⟨_, rfl⟩
    obtain ⟨A9, hA9⟩ : ∃ a, (if c = m then some ad else (some ad).map (·.add m)) = a := ⟨_, rfl⟩
    rw [hA8] at cut8; rw [hA9] at cut9
    have R8 := Kd.C_mid (lo := 20) (hi := m) (c := c) HC.out (by omega) hmb HC0.out
    have R9 := Kd.C_drop (m := m) (c := c) HC.out hmb HC0.out
    rw [show 20 * (Kd.int .u8).sz = 20 from rfl, hA8] at R8
    rw [show m * (Kd.int .u8).sz = m from Nat.mul_one m, hA9] at R9
    obtain ⟨bo, hbo⟩ : ∃ bo, (b.take m).drop 20 = bo := ⟨_, rfl⟩
    obtain ⟨bd, hbd⟩ : ∃ bd, b.drop m = bd := ⟨_, rfl⟩
    have l8 : bo.length = m - 20 := by rw [← hbo, List.length_drop, List.length_take]; omega
    have l9 : bd.length = b.length - m := by rw [← hbd]; exact List.length_drop
    rw [hbo] at R8; rw [hbd] at R9
    obtain ⟨res, hres⟩ : ∃ r, wgrd (bo.length + 1) (wgseg b) [] bo = r := ⟨_, rfl⟩
    have hm60 : m ≤ 60 := by have := HXM.out; have := HXB.out; omega
    have KR := Lib.hid (by
      have h := wg_read p (wgseg b) (.slice none 0 0) A8 (c - 20) bo w w5 HB5.out HS5.out R8 (by have := HC0.out; omega) (fun x hx => by rw [← hbo] at hx; exact HBB.out x (List.mem_of_mem_take (List.mem_of_mem_drop hx))) (by omega) (by show 0 ≤ 500; omega)
      rw [hres, l8] at h
      exact h)
    have HG1 := Lib.hid (show wgget true b = wgend b m res from by
        rw [HG0.out, wgget1, if_neg HM20.out, if_neg HML.out, if_neg (by decide), hbo, hres])
    have HBD := Lib.hid hbd
    have HR9 := Lib.hid R9; have HL9 := Lib.hid l9; have HMB := Lib.hid hmb
    have hw9 : wrap64 ((b.length : Int) - (m : Int)) = (b.length : Int) - (m : Int) := wg_w64 (by omega) (by omega)
    clear R8 R9 hA8 hA9 hbo hbd l8 l9 hres hm60 HG0
    cases res with
    | none =>
      go_wp2_with (go_at_call 75; refine KR.out.mono ?_; rintro e w6 ⟨hb6, he6, ⟨s6, hs6⟩, pb, rfl, hf6⟩)
      exact wg_leaf w w6 p q pb 2 s6 _ .nilIface hb6 hs6 (he6 q _ HE5.out) HQB.out hf6 _ rfl rfl _ (by rw [HG1.out]; rfl)
    | some sr =>
      by_cases h65 : b.length - m ≤ 65000
      case neg =>
        have g65 : decide ((b.length : Int) - (m : Int) ≤ 65000) = false := decide_eq_false (by omega)
        have H65 := Lib.hid h65; clear h65
        go_wp2_with (first | (go_at_call 72; first | (with_reducible refine (wg_must_true _ _).mono ?_; rintro e w1 ⟨rfl, rfl⟩) | (with_reducible refine (wg_must_false _ _).mono ?_; rintro e w1 ⟨rfl, rfl⟩)) | (go_at_call 75; refine KR.out.mono ?_; rintro e w6 ⟨hb6, he6, rfl, hs6⟩; have HB6 := Lib.hid hb6; have HS6 := Lib.hid hs6; have HE6 := Lib.hid (he6 q _ HE5.out); clear hb6 he6 hs6))
        exact wg_leaf w _ p q _ 2 _ _ _ (HB6.out.alloc (Below.size HB6.out) _) (HS6.out.alloc _) (blk_alloc HE6.out _) HQB.out (blk_new _ _) _ rfl rfl _ (by rw [HG1.out, wgend, if_neg H65.out])
      have g65 : decide ((b.length : Int) - (m : Int) ≤ 65000) = true := decide_eq_true (by omega)
      have H65 := Lib.hid h65; clear h65
      go_wp2_with (first | (go_at_call 72; first | (with_reducible refine (wg_must_true _ _).mono ?_; rintro e w1 ⟨rfl, rfl⟩) | (with_reducible refine (wg_must_false _ _).mono ?_; rintro e w1 ⟨rfl, rfl⟩)) | (go_at_call 75; refine KR.out.mono ?_; rintro e w6 ⟨hb6, he6, rfl, hs6⟩; have HB6 := Lib.hid hb6; have HS6 := Lib.hid hs6; have HE6 := Lib.hid (he6 q _ HE5.out); clear hb6 he6 hs6) | (at_builtin; refine whold_of ?_))
      refine whold_mk ?_
      have hm6 : m ≤ b.length := HMB.out
      have HC9 := Lib.hid (Kd.C_alloc (Kd.C_below HR9.out HB6.out) (.cells #[] 5))
      rw [HL9.out] at HC9
      refine Kd.R_append_rows (Kd.int .u8) (Rr := fun x cs => cs = [.int .u8 x]) (w0 := w) w.heap.size rfl (.tmp 74) (.tmp 77) 34 5 (.int .u8 0) 1 rfl Try.underlying34 info5 rfl (by decide) (by decide) _ [] bd A9 (b.length - m) (c - m) (fun _ => True) (fun _ => False) rfl rfl (wg_own_empty w6 _ (Below.size HB6.out)) HC9.out (fun _ _ e => e) (fun _ e => e.elim) (fun _ _ => trivial) (HB6.out.alloc (Below.size HB6.out) _) (by have h_ := Below.size HB6.out; rw [World.size_alloc]; omega) (by have h_ := H65.out; simp; omega) ?_
      intro v8 w8 hR8 hB8 hg8 hat8
      rw [List.nil_append] at hR8
      obtain ⟨A10, c10, ev8⟩ := Kd.R_slice hR8
      subst ev8
      obtain ⟨hbp6, v6, hh6, hR6⟩ := HS6.out
      obtain ⟨A6, c6, ev6⟩ := Kd.R_slice hR6
      subst ev6
      have hn6 : ∀ g o, w6.heap[g]? = some o → some g ≠ (Value.slice (some ⟨w6.heap.size, 0, none⟩) 0 0).ownBlock := fun g o hg e => by have := (Array.getElem?_eq_some_iff.1 hg).1; simp [Value.ownBlock] at e; omega
      have hh8 := blk_grown (blk_alloc hh6 _) hg8 (hn6 _ _ hh6)
      have he8 := blk_grown (blk_alloc HE6.out _) hg8 (hn6 _ _ HE6.out)
      have hr8 : Kd.R k112 112 w8 w.heap.size (fun _ => True) (.slice A6 sr.f13.length c6) sr.f13 := Kd.R_mono (Kd.R_grown (Kd.R_bound (Kd.R_alloc (Kd.R_mono (ok' := fun k => k < w6.heap.size) (Kd.R_bound hR6) (fun k hk => hk.2.2.1)) _)) hg8 (fun k hk e => by have h1 := hk; have h2 := Option.some.inj (show some k = some w6.heap.size from e); omega)) (fun _ _ => trivial)
      have q14 : w8.cell? ⟨p, 14, none⟩ = some (.slice none 0 0) := (blk_cell hh8 14).trans rfl
      have z14 : w8.frozen? ⟨p, 14, none⟩ = false := blk_frozen hh8 14
      have HHP := Lib.hid hh8; have HHE := Lib.hid he8; have HRV := Lib.hid hr8; have HRD := Lib.hid hR8; have HB8 := Lib.hid hB8
      clear hh8 he8 hr8 hR8 hB8 hg8 hat8 hh6 hR6 hn6 HC9
      have h9 := wgcells_ext (cs' := wgcells { sr with f14 := bd } (.slice A6 sr.f13.length c6) (.slice A10 bd.length c10)) (blk_set HHP.out 14 (.slice A10 bd.length c10)) rfl
      have e9 := blk_far HHE.out (p := ⟨p, 14, none⟩) (fun e => hpq e.symm) (.slice A10 bd.length c10)
      have r9 := Kd.R_set HRV.out HHP.out (by decide) 14 (.slice A10 bd.length c10)
      have d9 := Kd.R_set HRD.out HHP.out (by decide) 14 (.slice A10 bd.length c10)
      have H9 := Lib.hid h9; have E9 := Lib.hid e9; have R9 := Lib.hid r9; have D9 := Lib.hid d9
      have B9 := Lib.hid (HB8.out.setCell (p := ⟨p, 14, none⟩) HBP.out (.slice A10 bd.length c10))
      clear h9 e9 r9 d9 HHP HHE HRV HRD HB8
      go_wp2_with (first
        | (refine gate_ (.load 53 (.tmp 6)) rfl ?_; refine wpList_load_row rfl 53 (.tmp 6) rfl p rfl 53 _ (0, 0) _ H9.out Try.underlying53 rfl (by kernel_rfl) ?_)
        | (refine gate_ (.store 53 (.tmp 6) (.tmp 80)) rfl ?_; refine wg_store_op rfl rfl 53 (.tmp 6) (.tmp 80) rfl _ _ p 53 _ rfl rfl rfl (by kernel_rfl) rfl H9.out rfl ?_; intro w10 h10 hg10)
        | (refine gate_ (.store 100 (.tmp 7) (.const .nilIface)) rfl ?_; refine wg_store_op rfl rfl 100 (.tmp 7) (.const .nilIface) rfl _ _ q 100 _ rfl rfl rfl (by kernel_rfl) rfl (blk_grown E9.out hg10 (fun e => hpq (Option.some.inj e).symm)) rfl ?_; intro w11 h11 hg11))
      have e10 := blk_grown E9.out hg10 (fun e => hpq (Option.some.inj e).symm)
      have b10 : Below w.heap.size w w10 := B9.out.grown hg10 (Below.size B9.out) (fun k hk => by cases hk; exact HBP.out)
      exact wg_leaf_ok w w11 p q { sr with f14 := bd } (.slice A6 sr.f13.length c6) (.slice A10 bd.length c10) (b10.grown hg11 (Below.size b10) (fun k hk => by cases hk; exact HQB.out)) (blk_grown h10 hg11 (fun e => hpq (Option.some.inj e))) (wg_R_store (wg_R_store R9.out H9.out (by decide) hg10) e10 (by decide) hg11) (wg_R_store (wg_R_store D9.out H9.out (by decide) hg10) e10 (by decide) hg11) h11 _ rfl rfl _ (by rw [HG1.out, wgend, if_pos H65.out, HBD.out])
end Go.Proofs.Ytflmfbcapccdeaa.WireG

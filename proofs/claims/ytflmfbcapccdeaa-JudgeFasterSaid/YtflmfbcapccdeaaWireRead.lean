/- wire.read, walked: the options of a segment, one behind the other. -/
import Derived.Test.YtflmfbcapccdeaaWireOpt
import Derived.Lib.Hide
import Derived.WalkKit
set_option linter.unusedVariables false
set_option linter.unusedSimpArgs false
set_option autoImplicit false
namespace Go.Proofs.Ytflmfbcapccdeaa.WireG
open Go.RowKit Go.Proofs.Ytflmfbcapccdeaa.PA Go.Proofs.YtflmfbcapccdeaaW.PrintWords Go.Proofs.YtflmfbcapccdeaaW.PrintLast Go.Proofs.YtflmfbcapccdeaaW.PrintMore
attribute [local go_sem] max2_int min2_int max_two min_two
theorem wg_at (A : Option Addr) (b : List Int) (w : World) (hC : Kd.C (Kd.int .u8) w A b.length b) (i : Nat) (hi : i < b.length) : ∃ ad, A = some ad ∧ w.cell? (ad.add i) = some (.int .u8 (b.getD i 0)) := by
  obtain ⟨ad, h, hc⟩ := Kd.at_int hC (i : Int) (by omega) (by omega)
  exact ⟨ad, h, by simpa [rd] using hc⟩
theorem wgb_at {b : List Int} (h : wgb b) (i : Nat) (hi : i < b.length) : 0 ≤ b.getD i 0 ∧ b.getD i 0 ≤ 255 := h _ (by rw [List.getD_eq_getElem?_getD, List.getElem?_eq_getElem hi]; exact List.getElem_mem _)
theorem wgrd_one (s : S53) (seen b : List Int) (h0 : ¬ b.length = 0) (h1 : b.getD 0 0 = 1) : wgrd (b.length + 1) s seen b = wgrd ((b.drop 1).length + 1) s seen (b.drop 1) := by
  conv => lhs; rw [wgrd, if_neg h0, if_neg (by rw [h1]; decide), if_pos h1]
  exact wgrd_up _ _ _ _ (by rw [List.length_drop]; omega)
theorem wgrd_opt (s : S53) (seen b : List Int) (kd n : Int) (hk : b.getD 0 0 = kd) (hn : b.getD 1 0 = n) (h0 : ¬ b.length = 0) (k0 : ¬ kd = 0) (k1 : ¬ kd = 1) (h2 : 2 ≤ b.length) (n2 : 2 ≤ n) (nb : n ≤ b.length) (hl : wglen kd n = true) (hs : (wgknown kd && seen.contains kd) = false) :
    wgrd (b.length + 1) s seen b = wgrd ((b.drop n.toNat).length + 1) (wgopt s kd ((b.take n.toNat).drop 2)) (kd :: seen) (b.drop n.toNat) := by
  subst hk; subst hn
  conv => lhs; rw [wgrd, if_neg h0, if_neg k0, if_neg k1, if_pos ⟨h2, n2, nb, hl, hs⟩]
  exact wgrd_up _ _ _ _ (by rw [List.length_drop]; omega)
theorem wgrd_bad (s : S53) (seen b : List Int) (kd n : Int) (hk : b.getD 0 0 = kd) (hn : b.getD 1 0 = n) (h0 : ¬ b.length = 0) (k0 : ¬ kd = 0) (k1 : ¬ kd = 1) (h : ¬ (2 ≤ b.length ∧ 2 ≤ n ∧ n ≤ b.length ∧ wglen kd n = true ∧ (wgknown kd && seen.contains kd) = false)) :
    wgrd (b.length + 1) s seen b = none := by
  subst hk; subst hn
  rw [wgrd, if_neg h0, if_neg k0, if_neg k1, if_neg h]
def WHold (p : Prop) : Prop := p
theorem whold_of {p : Prop} (h : WHold p) : p := h
theorem whold_mk {p : Prop} (h : p) : WHold p := h
/-- How read ends. -/
def WRead (w0 w : World) (g : Nat) (d : Value) (res : Option S53) (e : Ending) (w' : World) : Prop :=
  Below w0.heap.size w0 w' ∧ WKE w w' ∧ match res with
    | some s' => e = .returned (.tuple #[]) ∧ Wgs w' w0.heap.size g s' d
    | none => (∃ s', Wgs w' w0.heap.size g s' d) ∧ ∃ pb, e = .panicked [{ v := .iface 122 (.pointer (some ⟨pb, 0, none⟩)), recovered := false }] ∧ w'.heap[pb]? = some (.cells #[.int .i64 2] 144 (0, 0))
theorem WRead.ok {w0 w w' : World} {g : Nat} {d : Value} {res : Option S53} {s' : S53} (hr : some s' = res) (hB : Below w0.heap.size w0 w') (hE : WKE w w') (hW : Wgs w' w0.heap.size g s' d) : WRead w0 w g d res (.returned (.tuple #[])) w' := by subst hr; exact ⟨hB, hE, rfl, hW⟩
theorem Wgs.alloc {W : World} {base g : Nat} {s : S53} {d : Value} (h : Wgs W base g s d) (o : Obj) : Wgs (W.alloc o) base g s d := by
  obtain ⟨hbg, v, hh, hR⟩ := h
  exact ⟨hbg, v, blk_alloc hh _, Kd.R_alloc hR _⟩
theorem WRead.bad {w0 wi w : World} {g : Nat} {d : Value} {res : Option S53} {s' : S53} (hr : none = res) (hB : Below w0.heap.size w0 w) (hE : WKE wi w) (hW : Wgs w w0.heap.size g s' d) :
    WRead w0 wi g d res (.panicked [{ v := .iface 122 (.pointer (some ⟨w.heap.size, 0, none⟩)), recovered := false }]) (w.alloc (.cells #[.int .i64 2] 144)) := by
  subst hr
  exact ⟨hB.alloc (Below.size hB) _, hE.alloc _, ⟨s', hW.alloc _⟩, w.heap.size, rfl, blk_new w _⟩
theorem Wgs.map {W W2 : World} {base g mb : Nat} {s : S53} {d : Value} {es : Array MapEntry} {cl : Nat} (h : Wgs W base g s d) (hm : W.heap[mb]? = some (.map es cl)) (hg : W.grownBy W2 (some mb)) : Wgs W2 base g s d := by
  obtain ⟨hbg, v, hh, hR⟩ := h
  refine ⟨hbg, v, blk_grown hh hg (fun e => by have := Option.some.inj e; subst this; rw [hh] at hm; cases hm), ?_⟩
  exact Kd.R_mono (Kd.R_grown (Kd.R_bound hR) hg (fun k hk e => by
    obtain ⟨_, _, _, q, _, cells, hc⟩ := hk
    have := Option.some.inj e; subst this; rw [hc] at hm; cases hm)) (fun _ _ => trivial)
set_option maxRecDepth 100000 in
set_option maxHeartbeats 16000000 in
theorem wg_read (g : Nat) (s : S53) (d : Value) (A : Option Addr) (c : Nat) (b : List Int) (w0 w : World) (hB : Below w0.heap.size w0 w) (hs : Wgs w w0.heap.size g s d) (hC : Kd.C (Kd.int .u8) w0 A b.length b) (hc : b.length ≤ c) (hb : wgb b) (hl : b.length ≤ 300) (hn : s.f13.length ≤ 500) :
    Calls Try.prog 75 #[.pointer (some ⟨g, 0, none⟩), .slice A b.length c] w fun e w' => WRead w0 w g d (wgrd (b.length + 1) s [] b) e w' := by
  obtain ⟨res, hres⟩ : ∃ r, wgrd (b.length + 1) s [] b = r := ⟨_, rfl⟩
  have HRES := Lib.hid hres
  have HB0 := Lib.hid hB; have HS0 := Lib.hid hs; have HC0 := Lib.hid hC; have HBB := Lib.hid hb; have HLL := Lib.hid hl; have HN := Lib.hid hn
  have hmk : ∀ W : World, (Instr.makeMap 145 none).run Try.prog W = .ok (.map (some W.heap.size)) (W.alloc (.map #[] 0)) := fun _ => rfl
  rw [hres]
  clear hB hs hC hb hl hn hres
  go_enter Try.func75, Try.ntmps75
  go_step3
  go_wp2
  refine wp_label ?_
  go_wp2
  obtain ⟨mb, hmb⟩ : ∃ mb, w.heap.size = mb := ⟨_, rfl⟩
  have HMB := Lib.hid hmb
  have HSN0 := Lib.hid (Seen.new w)
  have HBN := Lib.hid (HB0.out.alloc (Below.size HB0.out) (.map #[] 0))
  have HKE0 := Lib.hid ((WKE.refl w).alloc (.map #[] 0))
  have HSW := Lib.hid (HS0.out.alloc (.map #[] 0))
  rw [hmb] at HSN0 ⊢
  clear hmk hmb
  generalize w.alloc (.map #[] 0) = wm at HSN0 HBN HKE0 HSW ⊢
  go_loopg [1] b.length (fun m v1 wr => ∃ (A1 : Option Addr) (c1 : Nat) (bk : List Int) (cur : S53) (seen : List Int), bk.length ≤ m ∧ v1 = .slice A1 bk.length c1 ∧ bk.length ≤ c1 ∧ Hid (wgb bk) ∧ Hid (Kd.C (Kd.int .u8) w0 A1 bk.length bk) ∧ Hid (Wgs wr w0.heap.size g cur d) ∧ Hid (Seen wr mb seen.length seen) ∧ Hid (Below w0.heap.size w0 wr) ∧ Hid (WKE w wr) ∧ Hid (wgrd (bk.length + 1) cur seen bk = res) ∧ Hid (cur.f13.length + bk.length ≤ 800) ∧ Hid (seen.length + bk.length ≤ 300))
  case atStart => exact ⟨A, c, b, s, [], Nat.le_refl _, rfl, hc, HBB, HC0, HSW, HSN0, HBN, HKE0, HRES, Lib.hid (by have := HN.out; have := HLL.out; omega), Lib.hid (by have := HLL.out; simp; omega)⟩
  case round =>
    obtain ⟨A1, c1, bk, cur, seen, hm, rfl, hc1, HBK, HC1, HS, HSN, HB, HKE, HE, HL1, HL2⟩ := hrel
    have HM := Lib.hid hm; clear hm
    by_cases hz : bk.length = 0
    · have h0 : ¬ 0 < bk.length := by omega
      have HZ := Lib.hid hz; clear hz
      go_wp2
      rw [Exit.noGoto_normal]
      go_end0
      exact WRead.ok (by rw [← HE.out, wgrd, if_pos HZ.out]) HB.out HKE.out HS.out
    have h0 : 0 < bk.length := by omega
    obtain ⟨ad, rfl, x0⟩ := wg_at A1 bk w0 HC1.out 0 h0
    have X0 := (HB.out.cell (World.block_lt_of_cell? w0 _ x0)).trans x0
    have X0' : wr.cell? ad = some (.int .u8 (bk.getD 0 0)) := by simpa [Addr.add] using X0
    obtain ⟨kd, hkd⟩ : ∃ kd, bk.getD 0 0 = kd := ⟨_, rfl⟩
    have hkb := wgb_at HBK.out 0 h0
    rw [hkd] at X0' hkb
    have HKB := Lib.hid hkb; have HKD := Lib.hid hkd; have HZ := Lib.hid hz
    clear x0 X0 hkb hkd hz
    by_cases k0 : kd = 0
    · subst k0
      go_wp2
      rw [Exit.noGoto_normal]
      go_end0
      exact WRead.ok (by rw [← HE.out, wgrd, if_neg HZ.out, if_pos HKD.out]) HB.out HKE.out HS.out
    have e0 : (kd == 0) = false := beq_false_of_ne k0
    obtain ⟨u0, hu0, _, hsz, _⟩ := info_parts info5
    by_cases k1 : kd = 1
    · subst k1
      have cut1 := cut_from (P := Try.prog) 34 5 .i64 Try.underlying34 hu0 1 hsz (some ad) bk.length c1 (1 : Int) (by omega) (by omega)
      simp only [show ((1 : Int)).toNat = 1 from rfl, Nat.mul_one] at cut1
      obtain ⟨A3, hA3⟩ : ∃ a, (if c1 = 1 then some ad else (some ad).map (·.add 1)) = a := ⟨_, rfl⟩
      rw [hA3] at cut1
      have R3 := Kd.C_drop (m := 1) (c := c1) HC1.out h0 hc1
      rw [show 1 * (Kd.int .u8).sz = 1 from rfl, hA3] at R3
      have l3 : (bk.drop 1).length = bk.length - 1 := List.length_drop
      have HR3 := Lib.hid R3; have HL3 := Lib.hid l3; have HGE := Lib.hid h0
      have hc3 : bk.length - 1 ≤ c1 - 1 := by omega
      clear hA3 R3 l3 e0 k0
      go_wp2
      go_roundg (gk - 1)
      case measure => have := HGE.out; have := HM.out; omega
      case rel =>
        have e1 := HL3.out
        refine ⟨A3, c1 - 1, bk.drop 1, cur, seen, by rw [e1]; have := HM.out; omega, by rw [e1], by rw [e1]; exact hc3, Lib.hid (fun x hx => HBK.out x (List.mem_of_mem_drop hx)), HR3, HS, HSN, HB, HKE, Lib.hid ?_, Lib.hid (by have := HL1.out; omega), Lib.hid (by have := HL2.out; omega)⟩
        exact (wgrd_one cur seen bk HZ.out HKD.out).symm.trans HE.out
    have e1 : (kd == 1) = false := beq_false_of_ne k1
    have HK0 := Lib.hid k0; have HK1 := Lib.hid k1
    clear k0 k1
    obtain ⟨n, hn⟩ : ∃ n, bk.getD 1 0 = n := ⟨_, rfl⟩
    have HUN := Lib.hid (fun h => ((wgrd_bad cur seen bk kd n HKD.out hn HZ.out HK0.out HK1.out h).symm.trans HE.out))
    by_cases h2 : 2 ≤ bk.length
    case neg =>
      have H2 := Lib.hid h2
      have h2' : ¬ 1 < bk.length := by omega
      clear hn
      go_wp2_with (go_at_call 72; refine (wg_must_false 2 _).mono ?_; rintro e w1 ⟨rfl, rfl⟩)
      rw [Exit.noGoto_panic]
      exact ⟨rfl, WRead.bad (HUN.out (fun h => H2.out h.1)) HB.out HKE.out HS.out⟩
    obtain ⟨ad', ead, x1⟩ := wg_at (some ad) bk w0 HC1.out 1 (by omega)
    obtain rfl := Option.some.inj ead
    have X1 := (HB.out.cell (World.block_lt_of_cell? w0 _ x1)).trans x1
    have X1' : wr.cell? ⟨ad.block, ad.off + 1, none⟩ = some (.int .u8 n) := by rw [← hn]; exact X1
    have hnb := wgb_at HBK.out 1 (by omega)
    rw [hn] at hnb
    have hnw : wrap64 n = n := wg_w64 (by omega) (by omega)
    have HNB := Lib.hid hnb; have HNN := Lib.hid hn; have H2 := Lib.hid h2
    have h2' : 1 < bk.length := by omega
    clear x1 X1 hnb hn ead
    by_cases n2 : 2 ≤ n
    case neg =>
      have g2 : decide (2 ≤ n) = false := decide_eq_false n2
      have HN2 := Lib.hid n2
      go_wp2_with (go_at_call 72; refine (wg_must_false 2 _).mono ?_; rintro e w1 ⟨rfl, rfl⟩)
      rw [Exit.noGoto_panic]
      exact ⟨rfl, WRead.bad (HUN.out (fun h => absurd h.2.1 (by have := HN2.out; omega))) HB.out HKE.out HS.out⟩
    by_cases nb : n ≤ bk.length
    case neg =>
      have HNB2 := Lib.hid nb
      go_wp2_with (go_at_call 72; refine (wg_must_false 2 _).mono ?_; rintro e w1 ⟨rfl, rfl⟩)
      rw [Exit.noGoto_panic]
      exact ⟨rfl, WRead.bad (HUN.out (fun h => absurd h.2.2.1 (by have := HNB2.out; omega))) HB.out HKE.out HS.out⟩
    have HLN := Lib.hid (wg_length kd n HNB.out.1 HNB.out.2)
    obtain ⟨ok, hok⟩ : ∃ b, wglen kd n = b := ⟨_, rfl⟩
    obtain ⟨kn, hkn⟩ : ∃ b, wgknown kd = b := ⟨_, rfl⟩
    obtain ⟨sn, hsn⟩ : ∃ b, seen.contains kd = b := ⟨_, rfl⟩
    rw [hok, hkn] at HLN
    rw [hok, hkn, hsn] at HUN
    obtain ⟨cn, hcn, cn0, cn1, cns⟩ := HSN.out.look kd HKB.out.1 HKB.out.2
    have look1 : ∀ nd, (Instr.lookup 145 (.map (some mb)) (.int .u8 kd) false).run Try.prog (wr.drewN nd) = .ok (.int .i64 cn) (wr.drewN nd) := fun nd => hcn _ ((WKM.refl _).drewN nd)
    rw [hsn] at cns
    have HCN := Lib.hid (And.intro cn0 cn1)
    have HOK := Lib.hid hok; have HKN := Lib.hid hkn; have HSNN := Lib.hid hsn; have HNBL := Lib.hid nb; have HN2 := Lib.hid n2
    clear hcn cn0 cn1 hok hkn hsn
    obtain ⟨m, rfl⟩ : ∃ m : Nat, n = m := ⟨n.toNat, by have := HNB.out; omega⟩
    have cut1 := cut_mid (P := Try.prog) 34 5 .i64 .i64 Try.underlying34 hu0 1 hsz (some ad) bk.length c1 (2 : Int) (m : Int) (by omega) (by omega) (by omega) hc1
    have cut2 := cut_from (P := Try.prog) 34 5 .i64 Try.underlying34 hu0 1 hsz (some ad) bk.length c1 (m : Int) (by omega) (by omega)
    simp only [show ((2 : Int)).toNat = 2 from rfl, Int.toNat_natCast, Nat.mul_one] at cut1 cut2
    obtain ⟨A2, hA2⟩ : ∃ a, (if c1 = 2 then some ad else (some ad).map (·.add 2)) = a := ⟨_, rfl⟩
    obtain ⟨A3, hA3⟩ : ∃ a, (if c1 = m then some ad else (some ad).map (·.add m)) = a := ⟨_, rfl⟩
    rw [hA2] at cut1; rw [hA3] at cut2
    have R2 := Kd.C_mid (lo := 2) (hi := m) (c := c1) HC1.out (by omega) (by omega) hc1
    have R3 := Kd.C_drop (m := m) (c := c1) HC1.out (by omega) hc1
    rw [show 2 * (Kd.int .u8).sz = 2 from rfl, hA2] at R2
    rw [show m * (Kd.int .u8).sz = m from Nat.mul_one m, hA3] at R3
    obtain ⟨bb, hbb⟩ : ∃ bb, (bk.take m).drop 2 = bb := ⟨_, rfl⟩
    have lbb : bb.length = m - 2 := by rw [← hbb, List.length_drop, List.length_take]; omega
    have l3 : (bk.drop m).length = bk.length - m := List.length_drop
    rw [hbb] at R2
    have K := Lib.hid (fun (W : World) (hok : wglen kd (m : Int) = true) (hB : Below w0.heap.size w0 W) (hW : Wgs W w0.heap.size g cur d) => wg_opt g cur d A2 (c1 - 2) bb kd w0 W hB hW R2 (by rw [lbb]; omega) (fun x hx => by rw [← hbb] at hx; exact HBK.out x (List.mem_of_mem_take (List.mem_of_mem_drop hx))) (by rw [lbb]; have := HL2.out; omega) (by rw [lbb, show ((m - 2 : Nat) : Int) + 2 = (m : Int) by omega]; exact hok) (by have := HL1.out; omega))
    rw [lbb] at K
    have HR3 := Lib.hid R3; have HL3 := Lib.hid l3; have HBB2 := Lib.hid hbb; have HLBB := Lib.hid lbb
    have hc3 : bk.length - m ≤ c1 - m := by omega
    have hcw : wrap64 (cn + 1) = cn + 1 := wg_w64 (by have := HCN.out; omega) (by have := HCN.out; have := HL2.out; omega)
    have hkey : keyOf Try.prog 5 (.int .u8 kd) = some (.int .u8 kd) := Maps.keyOf_int_mk Try.underlying5 (by have := HKB.out; simp [Lit.wf, IntKind.min, IntKind.max, IntKind.signed, IntKind.bits]; omega)
    have hval : plainElem (H := Unit) Try.prog 3 (.int .i64 (cn + 1)) = some (.lit (.int .i64 (cn + 1)), []) := plainElem_int Try.underlying3 (by have := HCN.out; have := HL2.out; simp [Lit.wf, IntKind.min, IntKind.max, IntKind.signed, IntKind.bits]; omega)
    have HKEY := Lib.hid hkey; have HVAL := Lib.hid hval
    obtain ⟨D, hD, hDk⟩ := HSN.out
    have HD := Lib.hid hD; have HDK := Lib.hid hDk
    have HGM := Lib.hid (show w0.heap.size ≤ mb from by rw [← HMB.out]; exact Below.size HB0.out)
    clear hA2 hA3 R2 R3 hbb lbb l3 hkey hval hD hDk
    cases ok with
    | false =>
      go_wp2_with (first | (go_at_call 72; first | (with_reducible refine (wg_must_true 2 _).mono ?_; rintro e w1 ⟨rfl, rfl⟩) | (with_reducible refine (wg_must_false 2 _).mono ?_; rintro e w1 ⟨rfl, rfl⟩)) | (go_at_call 93; refine (wire_length.calls _ _ _ _ _ HLN.out).mono ?_; rintro e w1 ⟨rfl, nd, rfl⟩))
      rw [Exit.noGoto_panic]
      exact ⟨rfl, WRead.bad (HUN.out (fun h => absurd h.2.2.2.1 (by decide))) (pw_below_drewN HB.out _) HKE.out (HS.out.draw _)⟩
    | true =>
      cases kn with
      | true =>
        cases sn with
        | true =>
          have cpos : decide (0 < cn) = true := cns
          go_wp2_with (first | (go_at_call 72; first | (with_reducible refine (wg_must_true 2 _).mono ?_; rintro e w1 ⟨rfl, rfl⟩) | (with_reducible refine (wg_must_false 2 _).mono ?_; rintro e w1 ⟨rfl, rfl⟩)) | (go_at_call 93; refine (wire_length.calls _ _ _ _ _ HLN.out).mono ?_; rintro e w1 ⟨rfl, nd, rfl⟩))
          rw [Exit.noGoto_panic]
          exact ⟨rfl, WRead.bad (HUN.out (fun h => absurd h.2.2.2.2 (by decide))) (pw_below_drewN HB.out _) HKE.out (HS.out.draw _)⟩
        | false =>
          have cpos : decide (0 < cn) = false := cns
          go_wp2_with (first | (go_at_call 72; first | (with_reducible refine (wg_must_true 2 _).mono ?_; rintro e w1 ⟨rfl, rfl⟩) | (with_reducible refine (wg_must_false 2 _).mono ?_; rintro e w1 ⟨rfl, rfl⟩)) | (go_at_call 93; refine (wire_length.calls _ _ _ _ _ HLN.out).mono ?_; rintro e w1 ⟨rfl, nd, rfl⟩) | (at_mapUpdate; refine whold_of ?_))
          refine whold_mk ?_
          refine wpList_mapUpdate_own _ rfl _ _ _ 145 rfl 5 3 (Maps.int_keyed Try.underlying5) Try.underlying145 _ mb seen.length D rfl HD.out (by have := HL2.out; unfold maxLen; omega) _ _ (.int .u8 kd) rfl rfl HKEY.out (.lit (.int .i64 (cn + 1))) [] (by first | exact HVAL.out | (show plainElem _ _ (.int .i64 (wrap64 (cn + 1))) = _; rw [hcw]; exact HVAL.out)) ?_
          intro w2 hown2 hg2
          have HS2 := Lib.hid (show Wgs w2 w0.heap.size g cur d from by obtain ⟨es, cl, hmb, _⟩ := HD.out; exact (HS.out.draw nd).map hmb hg2)
          have HSN2 := Lib.hid (Seen.put HKB.out.1 HKB.out.2 HCN.out.1 HCN.out.2 HD.out HDK.out hown2)
          have HB2 := Lib.hid ((pw_below_drewN HB.out nd).grown hg2 (by have h_ := Below.size HB.out; exact h_) (fun k hk => by cases hk; exact HGM.out))
          have HKE2 := Lib.hid (show WKE w w2 from WKE.grown (b := wr.drewN nd) HKE.out hg2 (fun k hk cs hc => by obtain ⟨es, cl, hmb, _⟩ := HD.out; cases hk; rw [show (wr.drewN nd).heap[mb]? = wr.heap[mb]? from rfl, hmb] at hc; cases hc))
          clear hown2 hg2
          go_wp2_with (go_at_call 94; refine (K.out _ HOK.out HB2.out HS2.out).mono ?_; rintro e w3 ⟨rfl, hw3, hk3, hb3⟩)
          go_roundg (gk - 1)
          case measure => have := H2.out; have := HM.out; omega
          case rel =>
            have e1 := HL3.out
            refine ⟨A3, c1 - m, bk.drop m, wgopt cur kd bb, kd :: seen, by rw [e1]; have := HM.out; omega, by rw [e1], by rw [e1]; exact hc3, Lib.hid (fun x hx => HBK.out x (List.mem_of_mem_drop hx)), HR3, Lib.hid hw3, Lib.hid (by rw [List.length_cons]; exact HSN2.out.km hk3.1), Lib.hid hb3, Lib.hid (HKE2.out.trans hk3.2), Lib.hid ?_, Lib.hid ?_, Lib.hid ?_⟩
            · have h := wgrd_opt cur seen bk kd m HKD.out HNN.out HZ.out HK0.out HK1.out H2.out HN2.out HNBL.out HOK.out (by rw [HKN.out, HSNN.out]; rfl)
              rw [Int.toNat_natCast, HBB2.out] at h
              exact h.symm.trans HE.out
            · have h1 := wgopt_len cur kd bb; have h2 := HLBB.out; have h3 := HL1.out; rw [e1]; omega
            · have h1 := HL2.out; rw [e1, List.length_cons]; omega
      | false =>
        go_wp2_with (first | (go_at_call 72; first | (with_reducible refine (wg_must_true 2 _).mono ?_; rintro e w1 ⟨rfl, rfl⟩) | (with_reducible refine (wg_must_false 2 _).mono ?_; rintro e w1 ⟨rfl, rfl⟩)) | (go_at_call 93; refine (wire_length.calls _ _ _ _ _ HLN.out).mono ?_; rintro e w1 ⟨rfl, nd, rfl⟩) | (at_mapUpdate; refine whold_of ?_))
        refine whold_mk ?_
        refine wpList_mapUpdate_own _ rfl _ _ _ 145 rfl 5 3 (Maps.int_keyed Try.underlying5) Try.underlying145 _ mb seen.length D rfl HD.out (by have := HL2.out; unfold maxLen; omega) _ _ (.int .u8 kd) rfl rfl HKEY.out (.lit (.int .i64 (cn + 1))) [] (by first | exact HVAL.out | (show plainElem _ _ (.int .i64 (wrap64 (cn + 1))) = _; rw [hcw]; exact HVAL.out)) ?_
        intro w2 hown2 hg2
        have HS2 := Lib.hid (show Wgs w2 w0.heap.size g cur d from by obtain ⟨es, cl, hmb, _⟩ := HD.out; exact (HS.out.draw nd).map hmb hg2)
        have HSN2 := Lib.hid (Seen.put HKB.out.1 HKB.out.2 HCN.out.1 HCN.out.2 HD.out HDK.out hown2)
        have HB2 := Lib.hid ((pw_below_drewN HB.out nd).grown hg2 (by have h_ := Below.size HB.out; exact h_) (fun k hk => by cases hk; exact HGM.out))
        have HKE2 := Lib.hid (show WKE w w2 from WKE.grown (b := wr.drewN nd) HKE.out hg2 (fun k hk cs hc => by obtain ⟨es, cl, hmb, _⟩ := HD.out; cases hk; rw [show (wr.drewN nd).heap[mb]? = wr.heap[mb]? from rfl, hmb] at hc; cases hc))
        clear hown2 hg2
        go_wp2_with (go_at_call 94; refine (K.out _ HOK.out HB2.out HS2.out).mono ?_; rintro e w3 ⟨rfl, hw3, hk3, hb3⟩)
        go_roundg (gk - 1)
        case measure => have := H2.out; have := HM.out; omega
        case rel =>
          have e1 := HL3.out
          refine ⟨A3, c1 - m, bk.drop m, wgopt cur kd bb, kd :: seen, by rw [e1]; have := HM.out; omega, by rw [e1], by rw [e1]; exact hc3, Lib.hid (fun x hx => HBK.out x (List.mem_of_mem_drop hx)), HR3, Lib.hid hw3, Lib.hid (by rw [List.length_cons]; exact HSN2.out.km hk3.1), Lib.hid hb3, Lib.hid (HKE2.out.trans hk3.2), Lib.hid ?_, Lib.hid ?_, Lib.hid ?_⟩
          · have h := wgrd_opt cur seen bk kd m HKD.out HNN.out HZ.out HK0.out HK1.out H2.out HN2.out HNBL.out HOK.out (by rw [HKN.out]; rfl)
            rw [Int.toNat_natCast, HBB2.out] at h
            exact h.symm.trans HE.out
          · have h1 := wgopt_len cur kd bb; have h2 := HLBB.out; have h3 := HL1.out; rw [e1]; omega
          · have h1 := HL2.out; rw [e1, List.length_cons]; omega
end Go.Proofs.Ytflmfbcapccdeaa.WireG

/- What Put writes of a right segment: its checksum, that it is valid, that Get reads it back. -/
import Derived.Test.YtflmfbcapccdeaaWirePlain
import Derived.Test.YtflmfbcapccdeaaWireSum
set_option linter.unusedVariables false
set_option linter.unusedSimpArgs false
set_option autoImplicit false
namespace Go.Proofs.Ytflmfbcapccdeaa.WireG
open Go.RowKit Go.Proofs.Ytflmfbcapccdeaa.PA Go.Proofs.YtflmfbcapccdeaaW.PrintWords Go.Proofs.Ytflmfbcapccdeaa.SumPlain
theorem b_app {a b : List Int} (ha : byts a) (hb : byts b) : byts (a ++ b) := fun x hx => (List.mem_append.1 hx).elim (ha x) (hb x)
theorem b_be2 (a : Int) : byts (be2 a) := fun x hx => by
  simp only [be2, List.mem_cons, List.not_mem_nil, or_false] at hx; rcases hx with rfl | rfl <;> omega
theorem b_be4 (a : Int) : byts (be4 a) := fun x hx => by
  simp only [be4, List.mem_cons, List.not_mem_nil, or_false] at hx; rcases hx with rfl | rfl | rfl | rfl <;> omega
theorem b_four8 (a : Int) : byts (four8 a) := b_be4 a
theorem b_two (a b : Int) (h : 0 ≤ a ∧ a ≤ 255) (k : 0 ≤ b ∧ b ≤ 255) : byts [a, b] := fun x hx => by
  simp only [List.mem_cons, List.not_mem_nil, or_false] at hx; rcases hx with rfl | rfl <;> assumption
theorem b_nil : byts [] := fun x hx => by cases hx
theorem b_cons {a : Int} {l : List Int} (h : 0 ≤ a ∧ a ≤ 255) (hl : byts l) : byts (a :: l) := fun x hx => by
  rcases List.mem_cons.1 hx with rfl | hx
  · exact h
  · exact hl x hx
theorem b_sack (l : List SB) : byts (sackB l) := fun x hx => by
  obtain ⟨y, _, hy⟩ := List.mem_flatMap.1 hx
  exact b_app (b_be4 _) (b_be4 _) x hy
theorem b_rep (n : Nat) : byts (List.replicate n 0) := fun x hx => by rw [List.eq_of_mem_replicate hx]; omega
theorem b_opts (s : SG) : byts (opts s) := by
  unfold opts optsB optMss optScale optOk optStamp optSacks
  refine b_app (b_app (b_app (b_app (b_app ?_ ?_) ?_) ?_) ?_) (b_rep _) <;> split <;> first | exact b_nil | skip
  · exact b_app (b_two _ _ (by omega) (by omega)) (b_be2 _)
  · exact b_cons (by omega) (b_cons (by omega) (b_cons (by omega) b_nil))
  · exact b_two _ _ (by omega) (by omega)
  · exact b_app (b_app (b_two _ _ (by omega) (by omega)) (b_be4 _)) (b_be4 _)
  · exact b_app (b_two _ _ (by omega) (by omega)) (b_sack _)
theorem b_pseu (a b n : Int) : byts (pseu a b n) := by
  unfold pseu
  exact b_app (b_app (b_four8 _) (b_four8 _)) (b_cons (by omega) (b_cons (by omega) (b_two _ _ (by omega) (by omega))))
theorem b_putB (s : SG) (hw : WfS s) : byts (putB s) := by
  unfold putB
  exact b_app (b_app (b_app (b_app (b_app (b_app (b_app (b_app (b_app (b_be2 _) (b_be2 _)) (b_be4 _)) (b_be4 _)) (b_two _ _ (by omega) (by omega))) (b_be2 _)) (b_be2 _)) (b_be2 _)) (b_opts s)) hw.h14
theorem pseu_len (a b n : Int) : (pseu a b n).length = 12 := rfl
theorem putF_len (c : Int) (s : SG) : (putF c s).length = (putB s).length := by unfold putF; rw [List.length_set, List.length_set]
theorem putB_z (s : SG) : (putB s).getD 16 0 = 0 ∧ (putB s).getD 17 0 = 0 := by
  constructor <;> (unfold putB be2 be4; simp only [List.append_assoc, List.cons_append, List.nil_append]; rfl)
/-- All that Put's bytes are. -/
theorem put_all (s : SG) (hw : WfS s) (hc : chk s = true) (src dst : Int) : ∃ c, sum_Sum.f [pseu src dst ((putB s).length : Int), putB s] = some c ∧
    sum_Valid.f [four8 src ++ four8 dst ++ [0, 6, (((putF c s).length : Int) / 256) % 256, ((putF c s).length : Int) % 256], putF c s] = some true ∧ byts (putF c s) ∧ (putF c s).length = 20 + (opts s).length + s.f14.length ∧ wgget true (putF c s) = (s, 0) := by
  have hb : byts (pseu src dst ((putB s).length : Int) ++ putB s) := b_app (b_pseu _ _ _) (b_putB s hw)
  have hs := WireSum.sumF [pseu src dst ((putB s).length : Int), putB s] (by simpa using hb)
  have hz := putB_z s
  have hl := putB_len s
  refine ⟨_, hs, ?_⟩
  have h := WireSum.fits_two (pseu src dst ((putB s).length : Int)) (putB s) 16 (by rw [pseu_len]) (by decide) (by omega) hb hz.1 hz.2 _ hs
  obtain ⟨hv, hc0, hc1⟩ := h
  generalize (65535 - norm (wsum true [pseu src dst ((putB s).length : Int), putB s].flatten)) = c at *
  refine ⟨?_, WireSum.byts_set (WireSum.byts_set (b_putB s hw) (by omega) (by omega)) (by omega) (by omega), by rw [putF_len, hl], get_put c s hw hc⟩
  rw [putF_len]
  exact hv
theorem wf8 {c : Int} (h : (Lit.int .u8 c).wf = true) : 0 ≤ c ∧ c ≤ 255 := by simpa [Lit.wf, IntKind.min, IntKind.max, IntKind.signed, IntKind.bits] using h
end Go.Proofs.Ytflmfbcapccdeaa.WireG

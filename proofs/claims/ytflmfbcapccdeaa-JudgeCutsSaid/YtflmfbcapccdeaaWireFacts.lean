/- The plain laws of what wire's printed functions make: numbers as bytes, options, checks. -/
import Derived.Test.YtflmfbcapccdeaaWireGet
import Derived.Test.YtflmfbcapccdeaaPAx23
import Derived.Test.YtflmfbcapccdeaaPAx0
import Derived.Test.YtflmfbcapccdeaaPAx25
set_option linter.unusedVariables false
set_option linter.unusedSimpArgs false
set_option autoImplicit false
namespace Go.Proofs.Ytflmfbcapccdeaa.WireG
open Go.RowKit Go.Proofs.Ytflmfbcapccdeaa.PA Go.Proofs.YtflmfbcapccdeaaW.PrintWords Go.Proofs.YtflmfbcapccdeaaW.PrintMore
abbrev SG := S53
abbrev SB := S112
def be2 (a : Int) : List Int := [(a / 256) % 256, a % 256]
def be4 (a : Int) : List Int := [(a / 16777216) % 256, (a / 65536) % 256, (a / 256) % 256, a % 256]
theorem be2_len (a : Int) : (be2 a).length = 2 := rfl
theorem be4_len (a : Int) : (be4 a).length = 4 := rfl
theorem wf_shr (a : Int) (n : Nat) (hn : n ≤ 3) : shr .u32 a (wrap64 (8 * (n : Int))) = a / 2 ^ (8 * n) := by
  rcases (show n = 0 ∨ n = 1 ∨ n = 2 ∨ n = 3 by omega) with rfl | rfl | rfl | rfl
  · rw [show wrap64 (8 * ((0 : Nat) : Int)) = 0 from wg_w64 (n := 0) (by decide) (by decide)]; rfl
  · rw [show wrap64 (8 * ((1 : Nat) : Int)) = 8 from wg_w64 (n := 8) (by decide) (by decide)]; rfl
  · rw [show wrap64 (8 * ((2 : Nat) : Int)) = 16 from wg_w64 (n := 16) (by decide) (by decide)]; rfl
  · rw [show wrap64 (8 * ((3 : Nat) : Int)) = 24 from wg_w64 (n := 24) (by decide) (by decide)]; rfl
theorem wf_put_step (k : Nat) (l : List Int) (a : Int) (n : Nat) (hn : n ≤ 3) (hl : l.length ≤ 1000000) : wire_put.l0 (k + 1) l a (n : Int) = wire_put.l0 k (l ++ [a / 2 ^ (8 * n) % 256]) a ((n : Int) - 1) := by
  rw [wire_put.l0, if_pos (by omega), if_pos (by rw [wg_w64 (by omega) (by omega)]; omega), if_pos (by omega), wf_shr a n hn, wg_w64 (by omega) (by omega)]
theorem wf_put_end (k : Nat) (l : List Int) (a : Int) : wire_put.l0 (k + 1) l a (-1) = some l := by rw [wire_put.l0, if_neg (by omega)]
theorem wf_put2 (k : Nat) (l : List Int) (a : Int) (hl : l.length ≤ 100000) : wire_put.f (k + 3) l a 2 = some (l ++ be2 a) := by
  have h1 := wf_put_step (k + 2) l a 1 (by omega) (by omega)
  have h0 := wf_put_step (k + 1) (l ++ [a / 2 ^ (8 * 1) % 256]) a 0 (by omega) (by simp; omega)
  rw [wire_put.f, show wrap64 (2 - 1) = ((1 : Nat) : Int) from wg_w64 (n := 1) (by decide) (by decide)]
  rw [h1]
  show wire_put.l0 (k + 1 + 1) _ a ((0 : Nat) : Int) = _
  rw [h0]
  show wire_put.l0 (k + 1) _ a (-1) = _
  rw [wf_put_end, List.append_assoc]
  congr 2
  show [a / 256 % 256, a / 1 % 256] = be2 a
  rw [Int.ediv_one]; rfl
theorem wf_put4 (k : Nat) (l : List Int) (a : Int) (hl : l.length ≤ 100000) : wire_put.f (k + 5) l a 4 = some (l ++ be4 a) := by
  have h3 := wf_put_step (k + 4) l a 3 (by omega) (by omega)
  have h2 := wf_put_step (k + 3) (l ++ [a / 2 ^ (8 * 3) % 256]) a 2 (by omega) (by simp; omega)
  have h1 := wf_put_step (k + 2) (l ++ [a / 2 ^ (8 * 3) % 256] ++ [a / 2 ^ (8 * 2) % 256]) a 1 (by omega) (by simp; omega)
  have h0 := wf_put_step (k + 1) (l ++ [a / 2 ^ (8 * 3) % 256] ++ [a / 2 ^ (8 * 2) % 256] ++ [a / 2 ^ (8 * 1) % 256]) a 0 (by omega) (by simp; omega)
  rw [wire_put.f, show wrap64 (4 - 1) = ((3 : Nat) : Int) from wg_w64 (n := 3) (by decide) (by decide)]
  rw [h3]
  show wire_put.l0 (k + 3 + 1) _ a ((2 : Nat) : Int) = _
  rw [h2]
  show wire_put.l0 (k + 2 + 1) _ a ((1 : Nat) : Int) = _
  rw [h1]
  show wire_put.l0 (k + 1 + 1) _ a ((0 : Nat) : Int) = _
  rw [h0]
  show wire_put.l0 (k + 1) _ a (-1) = _
  rw [wf_put_end]
  congr 1
  simp only [List.append_assoc]
  congr 1
  show [a / 16777216 % 256, a / 65536 % 256, a / 256 % 256, a / 1 % 256] = be4 a
  rw [Int.ediv_one]; rfl
/-! ### options -/
def optMss (s : SG) : List Int := if 0 ≤ s.f7 then [2, 4] ++ be2 s.f7 else []
def optScale (s : SG) : List Int := if 0 ≤ s.f8 then [3, 3, s.f8 % 256] else []
def optOk (s : SG) : List Int := if s.f9 = true then [4, 2] else []
def optStamp (s : SG) : List Int := if s.f10 = true then [8, 10] ++ be4 s.f11 ++ be4 s.f12 else []
def sackB (l : List SB) : List Int := l.flatMap fun x => be4 x.f0 ++ be4 x.f1
def optSacks (s : SG) : List Int := if 0 < s.f13.length then [5, (2 + 8 * (s.f13.length : Int)) % 256] ++ sackB s.f13 else []
def optsB (s : SG) : List Int := optMss s ++ optScale s ++ optOk s ++ optStamp s ++ optSacks s
def opad (n : Nat) : Nat := (4 - n % 4) % 4
def opts (s : SG) : List Int := optsB s ++ List.replicate (opad (optsB s).length) 0
theorem sackB_len (l : List SB) : (sackB l).length = 8 * l.length := by
  induction l with
  | nil => rfl
  | cons x l ih => rw [sackB, List.flatMap_cons, List.length_append, List.length_append, be4_len, be4_len]; unfold sackB at ih; rw [ih, List.length_cons]; omega
/-! ### checks -/
def w16 (n : Int) : Bool := decide (0 ≤ n) && decide (n ≤ 65535)
def chkPlain (s : SG) : Bool := (w16 s.f0 && (w16 s.f1 && (w16 s.f5 && (w16 s.f6 && w16 (mx s.f7 0))))) && (decide (-1 ≤ s.f7) && (decide (0 ≤ s.f4) && (decide (s.f4 ≤ 255) && (decide (-1 ≤ s.f8) && decide (s.f8 ≤ 14)))))
def chkRest (s : SG) : Bool := decide (s.f13.length ≤ 4) && (decide (s.f14.length ≤ 65000) && ((s.f10 || decide (Go.bits .or .u32 s.f11 s.f12 = 0)) && decide ((opts s).length ≤ 40)))
def chk (s : SG) : Bool := chkPlain s && chkRest s
end Go.Proofs.Ytflmfbcapccdeaa.WireG

/- What every text of this seat uses: bytes as trees, and the seat's table. -/
import Derived.Test.YteijmldnfjcipaaGreatDoorAv17
import Derived.Test.YteijmldnfjcipaaGreatDoorTab
open Go.RowKit Go.Pl Go.Av
namespace Go.Proofs.YteijmldnfjcipaaGreatDoor
set_option linter.unusedVariables false
set_option linter.unusedSimpArgs false
theorem hmix : Tryz.prog.follows .mixedOrders = true := by kernel_rfl
abbrev byE (l : List UInt8) : D := .sl .ext (l.map E.byte)
theorem uniB1 (l : List UInt8) : Uni 1 (l.map E.byte) := Uni.map (f := E.byte) (fun _ => rfl) l
/-- slices of bytes -/
abbrev E.bys (l : List UInt8) : E := .sl (l.map E.byte)
abbrev bysE (l : List (List UInt8)) : D := .sl .ext (l.map E.bys)
theorem uniS1 (l : List (List UInt8)) : Uni 1 (l.map E.bys) := Uni.map (f := E.bys) (fun _ => rfl) l
theorem arg1 {W : World} {d0 : D} {v0 : Value} (h0 : V W (g0 W) [] d0 v0) : ∀ (j : Nat) (d : D) (v : Value), [d0][j]? = some d → [v0][j]? = some v → V W (g0 W) [] d v := fun j d v hd hv => by
  cases j with
  | zero => simp at hd hv; subst hd hv; exact h0
  | succ j => simp at hd
theorem arg2 {W : World} {d0 d1 : D} {v0 v1 : Value} (h0 : V W (g0 W) [] d0 v0) (h1 : V W (g0 W) [] d1 v1) : ∀ (j : Nat) (d : D) (v : Value), [d0, d1][j]? = some d → [v0, v1][j]? = some v → V W (g0 W) [] d v := fun j d v hd hv => by
  cases j with
  | zero => simp at hd hv; subst hd hv; exact h0
  | succ j => exact arg1 h1 j d v (by simpa using hd) (by simpa using hv)
theorem arg3 {W : World} {d0 d1 d2 : D} {v0 v1 v2 : Value} (h0 : V W (g0 W) [] d0 v0) (h1 : V W (g0 W) [] d1 v1) (h2 : V W (g0 W) [] d2 v2) : ∀ (j : Nat) (d : D) (v : Value), [d0, d1, d2][j]? = some d → [v0, v1, v2][j]? = some v → V W (g0 W) [] d v := fun j d v hd hv => by
  cases j with
  | zero => simp at hd hv; subst hd hv; exact h0
  | succ j => exact arg2 h1 h2 j d v (by simpa using hd) (by simpa using hv)
theorem by_V {W : World} {v : Value} {l : List UInt8} (hs : SlB W (· < W.heap.size) v l) : V W (g0 W) [] (byE l) v :=
  V.ofE (e := .sl (l.map E.byte)) (ToE.byte.sl (C := (g0 W).C) (fun k hk o => hk) hs)
theorem bys_V {W : World} {v : Value} {l : List (List UInt8)} (hs : Sl (Rep.slice Rep.byte (by decide)) W (· < W.heap.size) v l) : V W (g0 W) [] (bysE l) v :=
  V.ofE (e := .sl (l.map E.bys)) ((ToE.byte.slice (by decide)).sl (C := (g0 W).C) (fun k hk o => hk) hs)
theorem sl_max {α : Type} {R : Rep α} {W : World} {S : Nat → Prop} {v : Value} {l : List α} (h : Sl R W S v l) : l.length ≤ maxLen := by
  obtain ⟨A, c, _, h1, h2, _⟩ := h
  omega
end Go.Proofs.YteijmldnfjcipaaGreatDoor

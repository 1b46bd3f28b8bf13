/- Loops of fixed calls, unrolled. -/
import Derived.Test.YteijmldnfjcipaaGreatDoorAv20
import Derived.LoopN
open Go.RowKit Go.Pl
namespace Go.Av
set_option linter.unusedSimpArgs false
set_option linter.unusedVariables false
/-- at most so many rounds -/
def AN (P : Program) (c : Code) (Q : X → St → Prop) : Nat → St → Prop
  | 0, _ => False
  | n + 1, S => AW P c S (X.then (AN P c Q n) Q)
structure ANs (P : Program) (c : Code) (Q : X → St → Prop) (n : Nat) (S : St) : Prop where
  run : AN P c Q n S
theorem AN_succ {P : Program} {c : Code} {Q : X → St → Prop} {n : Nat} {S : St} (h : AW P c S (X.then (ANs P c Q n) Q)) : ANs P c Q (n + 1) S :=
  ⟨AW_mono h fun x S hx => by
    cases x with
    | norm => exact hx.run
    | _ => exact hx⟩
theorem AN_rounds {P : Program} {c : Code} {Q : X → St → Prop} {b0 : Bs} : ∀ (n : Nat) (S : St) (g : G) (a : Act) (w : World), AN P c Q n S → Inv b0 S g a w → Code.rounds P c (conc b0 Q) n a w
  | 0, _, _, _, _, h, _ => h.elim
  | n + 1, S, g, a, w, h, hi => by
    rw [rounds_succ]
    refine wp_mono (AW.run (show AW P c S (X.then (AN P c Q n) Q) from h) b0 g a w hi) fun e a w hc => ?_
    cases e <;> simp only [conc, X.then, Exit.then] at hc ⊢
    · obtain ⟨S', g', hi', h'⟩ := hc
      exact AN_rounds n S' g' a w h' hi'
    all_goals exact hc
theorem AW_loopN {P : Program} {c : Code} {Q : X → St → Prop} {S : St} (n : Nat) (h : ANs P c Q n S) : AW P (.loop c) S Q :=
  ⟨fun b0 g a w hi => wp_loop_rounds n (AN_rounds n S g a w h.run hi)⟩
end Go.Av

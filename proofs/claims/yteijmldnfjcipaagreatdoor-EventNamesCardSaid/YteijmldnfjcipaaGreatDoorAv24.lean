/- Interface values that are nil. -/
import Derived.Test.YteijmldnfjcipaaGreatDoorAv23
import Derived.WideLaws
open Go.RowKit Go.Pl
namespace Go.Av
set_option linter.unusedSimpArgs false
set_option linter.unusedVariables false
section
variable {P : Program} {Q : X → St → Prop} {n : Nat} {ee : Nat × Nat} {tm : List (Nat × D)} {bx : List (List D)} {fr : List Fr}
variable {ops : Array Oper} {rest : List Oper} {t ty : Nat} {pos : String} {after : Array Edge}
theorem AL_ifnil {op : BinOp} {x : Operand} {xt yt : Nat} {d : D} (hx : ev tm x = .nili) (hu : P.underlying xt = some (.interface (P.methodsAt xt))) (hd : (match op with | .eql => some (D.bool true) | .neq => some (D.bool false) | _ => none) = some d) (htd : Nat.blt t n = true)
    (k : AL P ops rest ⟨n, (t, d) :: tm, bx, fr, ee⟩ Q) : AL P ops (⟨some t, .binOp op xt x (.const .nilIface) yt, ty, pos, after, none⟩ :: rest) ⟨n, tm, bx, fr, ee⟩ Q :=
  AL_val _ htd (fun g a w hi => by
    have h1 : V w g fr (ev tm x) (a.eval x) := hi.ev x
    rw [hx] at h1
    have h1 : a.eval x = .nilIface := by
      generalize a.eval x = v at h1
      cases h1 with | nili => rfl
    have h2 : a.eval (.const .nilIface) = .nilIface := rfl
    have hrun : (Op.equal xt .nilIface .nilIface).run P w = .ok true w := run_equal_nil_nil w xt hu
    cases op <;> simp at hd <;> subst hd <;> first | exact ⟨.bool true, by simp [execOp, h1, h2, eqGuard, binOp, Sem.run_bind, hrun], .bool _⟩ | exact ⟨.bool false, by simp [execOp, h1, h2, eqGuard, binOp, Sem.run_bind, hrun], .bool _⟩) k
end
end Go.Av

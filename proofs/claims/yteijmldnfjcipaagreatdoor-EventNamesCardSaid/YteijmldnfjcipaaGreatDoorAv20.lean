/- Texts cut; contracts said of worlds. -/
import Derived.Test.YteijmldnfjcipaaGreatDoorAv19
open Go.RowKit Go.Pl
namespace Go.Av
set_option linter.unusedSimpArgs false
set_option linter.unusedVariables false
theorem endBelow {g : G} {w w' : World} {e : Ending} {d : D} {v : Value} (hm : Mem g [] [] w) (hb : Below w.heap.size w w') (he : e = .returned v) (hv : V w g [] d v) :
    ∃ g' bx' fr' r, Evo ⟨g, [], w⟩ ⟨g', fr', w'⟩ ∧ Mem g' bx' fr' w' ∧ R.is w' g' fr' e r ∧ (r = .ret d ∧ bx' = [] ∧ fr' = []) := by
  have hρ : g.ρ = [] := List.length_eq_zero_iff.1 hm.bl
  have hτ : g.τ = [] := List.length_eq_zero_iff.1 hm.tl
  have hevo : Evo ⟨g, [], w⟩ ⟨g, [], w'⟩ := ⟨hb.os, hb.tape, hb.output, hb.size, fun k hk _ => hb.block k hk, fun _ _ h => h, fun k o hk => World.cell?_of_block (hb.block k (hm.Clt k o hk)), fun _ _ h => .inl h, fun _ _ h => h, fun _ h => .inl h, fun _ c h => .inl ⟨c, h⟩, fun i f h => by simp at h⟩
  exact ⟨g, [], [], .ret d, hevo, ⟨hm.bl, fun i k cs h => by simp [hρ] at h, hm.bC, hm.bN, hm.tl, fun i k c f h => by simp [hτ] at h, hm.tN, hm.tρ, fun k o hk => Nat.lt_of_lt_of_le (hm.Clt k o hk) hb.size⟩, ⟨v, he, hv.evo hevo⟩, rfl, rfl, rfl⟩
section
variable {P : Program} {Q : X → St → Prop} {n : Nat} {ee : Nat × Nat} {tm : List (Nat × D)} {bx bx' : List (List D)} {fr fr' : List Fr} {b0 : Bs} {g : G} {w : World} {a : Act} {T : Tab}
variable {ops : Array Oper} {rest : List Oper} {t ty : Nat} {pos : String} {after : Array Edge}
/-- a text cut -/
theorem AL_sliceS (hT : chk P T = true) {x : Operand} {st : Nat} {s s2 : List UInt8} {lo hi' : Option Operand} {p q : Nat} {ti : Ti} (hx : ev tm x = .str s) (ht : tl T st = some ti) (hk : ti.kd = .str) (htd : Nat.blt t n = true)
    (hlo : Bnd tm lo 0 p) (hhi : Bnd tm hi' s.length q) (hpq : p ≤ q) (hq : q ≤ s.length) (hs2 : (s.take q).drop p = s2)
    (kk : AL P ops rest ⟨n, (t, .str s2) :: tm, bx, fr, ee⟩ Q) : AL P ops (⟨some t, .slice st x lo hi' none, ty, pos, after, none⟩ :: rest) ⟨n, tm, bx, fr, ee⟩ Q :=
  AL_val _ htd (fun g a w hi => by
    have h1 : V w g fr (ev tm x) (a.eval x) := hi.ev x
    rw [hx] at h1
    obtain ⟨h1, hl⟩ := h1.str_inv
    have hu := (tl_ok hT ht).str hk
    have hsz : (⟨s.toArray⟩ : ByteArray).size = s.length := by show s.toArray.size = _; simp
    have hb := Bnd.runs (S := ⟨n, tm, bx, fr, _⟩) (P := P) (cap := s.length) hlo hhi hi hpq hq false
    refine ⟨.string ⟨s2.toArray⟩, ?_, .str _ (by subst hs2; simp; omega)⟩
    have hex : (⟨s.toArray⟩ : ByteArray).extract p q = ⟨s2.toArray⟩ := by
      apply ByteArray.ext
      subst hs2
      apply Array.ext'
      simp [ByteArray.data_extract, List.extract_eq_take_drop, List.drop_take]
    have hrun : (Instr.sliceAt st (.string ⟨s.toArray⟩) (lo.map a.eval) (hi'.map a.eval) none).run P w = .ok (.string ⟨s2.toArray⟩) w := by
      simp [Instr.sliceAt, Instr.slice, Sem.run_bind, run_underlying hu, hsz, hb, hex]
    simp only [execOp, h1, Sem.run_bind, Option.map_none, hrun, Result.andThen_ok]
    rfl) kk
end
end Go.Av

/- Words for the walk over abstract states. -/
import Derived.Test.YteijmldnfjcipaaGreatDoorAv5
open Go.RowKit Go.Pl
namespace Go.Av
set_option linter.unusedSimpArgs false
set_option linter.unusedVariables false
section
variable {P : Program} {Q : X → St → Prop} {S : St}
theorem AW_seq' {x y : Code} (h : AW P x S (X.then (fun S => AW P y S Q) Q)) : AW P (.seq x y) S Q := AW_seq fun K hK => AW_mono h fun x S h => by
  cases x <;> simp only [X.then] at h ⊢
  · exact hK _ h
  all_goals exact h
theorem then_norm {K : St → Prop} (h : K S) : X.then K Q .norm S := h
theorem then_exit {K : St → Prop} {i : Nat} (h : Q (.exit i) S) : X.then K Q (.exit i) S := h
theorem then_goto {K : St → Prop} {i : Nat} (h : Q (.goto i) S) : X.then K Q (.goto i) S := h
theorem then_ret {K : St → Prop} (h : Q .ret S) : X.then K Q .ret S := h
theorem then_pan {K : St → Prop} {d : D} (h : Q (.pan d) S) : X.then K Q (.pan d) S := h
theorem blk_norm {id : Nat} (h : Q .norm S) : X.inBlock id Q .norm S := h
theorem blk_exit {id : Nat} (h : Q .norm S) : X.inBlock id Q (.exit id) S := by simpa [X.inBlock] using h
theorem blk_far {id i : Nat} (hne : Nat.beq i id = false) (h : Q (.exit i) S) : X.inBlock id Q (.exit i) S := by
  have : i ≠ id := fun e => by subst e; simp at hne
  simpa [X.inBlock, this] using h
theorem blk_goto {id i : Nat} (h : Q (.goto i) S) : X.inBlock id Q (.goto i) S := h
theorem blk_ret {id : Nat} (h : Q .ret S) : X.inBlock id Q .ret S := h
theorem blk_pan {id : Nat} {d : D} (h : Q (.pan d) S) : X.inBlock id Q (.pan d) S := h
theorem AW_cond' {n : Nat} {ee : Nat × Nat} {tm : List (Nat × D)} {bx : List (List D)} {fr : List Fr} {x y : Code} {b : Bool} {t : Nat} (hd : look tm t = .bool b) (h1 : b = true → AW P x ⟨n, tm, bx, fr, ee⟩ Q) (h2 : b = false → AW P y ⟨n, tm, bx, fr, ee⟩ Q) : AW P (.cond (.tmp t) x y) ⟨n, tm, bx, fr, ee⟩ Q := AW_cond rfl hd h1 h2
theorem AW_condT {n : Nat} {ee : Nat × Nat} {tm : List (Nat × D)} {bx : List (List D)} {fr : List Fr} {x y : Code} {t : Nat} (hd : look tm t = .bool true) (h1 : AW P x ⟨n, tm, bx, fr, ee⟩ Q) : AW P (.cond (.tmp t) x y) ⟨n, tm, bx, fr, ee⟩ Q := AW_cond rfl hd (fun _ => h1) (fun h => by cases h)
theorem AW_condF {n : Nat} {ee : Nat × Nat} {tm : List (Nat × D)} {bx : List (List D)} {fr : List Fr} {x y : Code} {t : Nat} (hd : look tm t = .bool false) (h1 : AW P y ⟨n, tm, bx, fr, ee⟩ Q) : AW P (.cond (.tmp t) x y) ⟨n, tm, bx, fr, ee⟩ Q := AW_cond rfl hd (fun h => by cases h) (fun _ => h1)
end
/-- a function that only computes -/
def AP (P : Program) (f : FuncId) (args : List D) (d : D) (frs : List Fr) : Prop := AC P f args [] [] fun r bx fr => r = .ret d ∧ bx = [] ∧ fr = frs
theorem end0 {P : Program} {rs : List ResultVar} {S : St} {d d' : D} {frs : List Fr} {ts : List Nat} {ds : List D} (h : ResL P S rs ds) (ht : okSel ts S.fr.length) (hn : nf ((ret1 ds).ren (idx []) (idx ts)) = some d') (hd : d' = d) (hf : selF ts S.fr = frs) :
    fnPost P rs 0 0 (fun r bx fr => r = .ret d ∧ bx = [] ∧ fr = frs) .ret S :=
  ⟨ds, [], ts, h, okSel_nil _, ht, fun i h => by omega, fun i h => by omega, by rw [nf_eq hn, hd], rfl, hf⟩
theorem AL_callP {P : Program} {Q : X → St → Prop} {n : Nat} {ee : Nat × Nat} {tm : List (Nat × D)} {bx : List (List D)} {fr : List Fr} {ops : Array Oper} {rest : List Oper} {t : Nat} {ty : Nat} {pos : String} {after : Array Edge} {f : FuncId} {as : Array Operand} {ats : Array TypeId}
    {cds : List D} {d d' : D} {frs fr' : List Fr} (hAC : AP P f cds d frs) (hf : isFn P f = true)
    (hc : (as.toList.map (ev tm)).map (D.ren (idx []) (idx [])) = cds) (htd : Nat.blt t n = true) (hd : nf (d.ren (upN [] bx.length) (upN [] fr.length)) = some d') (hfr : nfl (fr ++ frs) = some fr')
    (k : AL P ops rest ⟨n, (t, d') :: tm, bx, fr', ee⟩ Q) : AL P ops (⟨some t, .call { callee := .value (.func f), args := as, argTypes := ats }, ty, pos, after, none⟩ :: rest) ⟨n, tm, bx, fr, ee⟩ Q := by
  refine AL_call [] [] hf hAC hc (okSel_nil _) (okSel_nil _) rfl rfl htd (fun _ _ _ h => by cases h.1) fun d0 bx' fr' h => ?_
  obtain ⟨h1, rfl, rfl⟩ := h
  injection h1 with h1
  subst h1
  refine ⟨Nat.le_refl _, ?_⟩
  have e1 := nf_eq hd
  have e2 := nfl_eq hfr
  subst e1 e2
  simpa [St.aft, aftB, aftF, putAt] using k
end Go.Av

/- Contracts of functions that are handed variables and tokens. -/
import Derived.Test.YteijmldnfjcipaaGreatDoorAv21
open Go.RowKit Go.Pl
namespace Go.Av
set_option linter.unusedSimpArgs false
set_option linter.unusedVariables false
/-- bx, fr: variables and tokens ahead; bx', fr': behind -/
def AT (P : Program) (f : FuncId) (args : List D) (bx : List (List D)) (fr : List Fr) (d : D) (bx' : List (List D)) (fr' : List Fr) : Prop := AC P f args bx fr fun r b t => r = .ret d ∧ b = bx' ∧ t = fr'
theorem AQ.toT {P : Program} {f : FuncId} {args : List D} {bx bx' : List (List D)} {d : D} (h : AQ P f args bx d bx') : AT P f args bx [] d bx' [] := h
theorem endT {P : Program} {rs : List ResultVar} {S : St} {d d' : D} {ds : List D} {bx' B : List (List D)} {fr' F : List Fr} {k m : Nat} (bs ts : List Nat) (h : ResL P S rs ds) (hb : selOk bs S.bx.length = true) (ht : selOk ts S.fr.length = true) (hk : preOk k bs = true) (hm : preOk m ts = true)
    (hn : nf ((ret1 ds).ren (idx bs) (idx ts)) = some d') (hB : nfb (selB bs ts S.bx) = some B) (hF : nfl (selF ts S.fr) = some F) (hd : d' = d) (hB' : B = bx') (hF' : F = fr') :
    fnPost P rs k m (fun r b t => r = .ret d ∧ b = bx' ∧ t = fr') .ret S :=
  ⟨ds, bs, ts, h, selOk_ok hb, selOk_ok ht, preOk_ok hk, preOk_ok hm, by rw [nf_eq hn, hd], by rw [nfb_eq hB, hB'], by rw [nfl_eq hF, hF']⟩
theorem endTn {P : Program} {rs : List ResultVar} {S : St} {d d' : D} {ds : List D} {bx' B : List (List D)} {fr' F : List Fr} {k m : Nat} (bs ts : List Nat) (h : ResL P S rs ds) (hb : selOk bs S.bx.length = true) (ht : selOk ts S.fr.length = true) (hk : preOk k bs = true) (hm : preOk m ts = true)
    (hn : nf ((ret1 ds).ren (idx bs) (idx ts)) = some d') (hB : nfb (selB bs ts S.bx) = some B) (hF : nfl (selF ts S.fr) = some F) (hd : d' = d) (hB' : B = bx') (hF' : F = fr') :
    fnPost P rs k m (fun r b t => r = .ret d ∧ b = bx' ∧ t = fr') .norm S :=
  ⟨ds, bs, ts, h, selOk_ok hb, selOk_ok ht, preOk_ok hk, preOk_ok hm, by rw [nf_eq hn, hd], by rw [nfb_eq hB, hB'], by rw [nfl_eq hF, hF']⟩
section
variable {P : Program} {Q : X → St → Prop} {n : Nat} {ee : Nat × Nat} {tm : List (Nat × D)} {bx : List (List D)} {fr : List Fr} {ops : Array Oper} {rest : List Oper} {ty : Nat} {pos : String} {after : Array Edge} {f : FuncId} {as : Array Operand} {ats : Array TypeId}
theorem AL_callT {t : Nat} {cds : List D} {d d' : D} {bxs bxs' bx2 : List (List D)} {frs frs' fr2 : List Fr} (bs ts : List Nat) (hQ : AT P f cds bxs frs d bxs' frs') (hf : isFn P f = true)
    (hc : (as.toList.map (ev tm)).map (D.ren (idx bs) (idx ts)) = cds) (hb : selOk bs bx.length = true) (ht : selOk ts fr.length = true) (hbx : selB bs ts bx = bxs) (hfr : selF ts fr = frs) (hle : Nat.ble bs.length bxs'.length = true) (htd : Nat.blt t n = true)
    (hd : nf (d.ren (upN bs bx.length) (upN ts fr.length)) = some d') (hB : nfb (aftB bs ts bx fr.length bxs') = some bx2) (hF : nfl (aftF ts fr frs') = some fr2)
    (k : AL P ops rest ⟨n, (t, d') :: tm, bx2, fr2, ee⟩ Q) : AL P ops (⟨some t, .call { callee := .value (.func f), args := as, argTypes := ats }, ty, pos, after, none⟩ :: rest) ⟨n, tm, bx, fr, ee⟩ Q := by
  refine AL_call bs ts hf hQ hc (selOk_ok hb) (selOk_ok ht) hbx hfr htd (fun _ _ _ h => by cases h.1) fun d0 bx' fr' h => ?_
  obtain ⟨h1, rfl, rfl⟩ := h
  injection h1 with h1
  subst h1
  refine ⟨Nat.le_of_ble_eq_true hle, ?_⟩
  have e1 := nf_eq hd
  have e2 := nfb_eq hB
  have e3 := nfl_eq hF
  subst e1 e2 e3
  exact k
theorem AL_callTn {cds : List D} {d : D} {bxs bxs' bx2 : List (List D)} {frs frs' fr2 : List Fr} (bs ts : List Nat) (hQ : AT P f cds bxs frs d bxs' frs') (hf : isFn P f = true)
    (hc : (as.toList.map (ev tm)).map (D.ren (idx bs) (idx ts)) = cds) (hb : selOk bs bx.length = true) (ht : selOk ts fr.length = true) (hbx : selB bs ts bx = bxs) (hfr : selF ts fr = frs) (hle : Nat.ble bs.length bxs'.length = true)
    (hB : nfb (aftB bs ts bx fr.length bxs') = some bx2) (hF : nfl (aftF ts fr frs') = some fr2)
    (k : AL P ops rest ⟨n, tm, bx2, fr2, ee⟩ Q) : AL P ops (⟨none, .call { callee := .value (.func f), args := as, argTypes := ats }, ty, pos, after, none⟩ :: rest) ⟨n, tm, bx, fr, ee⟩ Q := by
  refine AL_call bs ts hf hQ hc (selOk_ok hb) (selOk_ok ht) hbx hfr rfl (fun _ _ _ h => by cases h.1) fun d0 bx' fr' h => ?_
  obtain ⟨h1, rfl, rfl⟩ := h
  refine ⟨Nat.le_of_ble_eq_true hle, ?_⟩
  have e2 := nfb_eq hB
  have e3 := nfl_eq hF
  subst e2 e3
  exact k
end
end Go.Av

/- Contracts of functions that are handed variables: what the variables hold ahead and behind. -/
import Derived.Test.YteijmldnfjcipaaGreatDoorAv17
open Go.RowKit Go.Pl
namespace Go.Av
set_option linter.unusedSimpArgs false
set_option linter.unusedVariables false
theorem Mem.wk {g : G} {bx : List (List D)} {fr : List Fr} {w : World} (h : Mem g bx fr w) : Mem g (bx.map D.wks) fr w where
  bl := by rw [h.bl]; simp
  bat i blk cs h1 h2 := by
    rw [List.getElem?_map] at h2
    cases hi : bx[i]? with
    | none => simp [hi] at h2
    | some cs0 =>
      simp [hi] at h2; subst h2
      obtain ⟨vs, ty, q1, q2, q3⟩ := h.bat i blk cs0 h1 hi
      refine ⟨vs, ty, q1, by rw [q2, wks_map]; simp, fun j d v hd hv => ?_⟩
      rw [wks_map, List.getElem?_map] at hd
      cases hj : cs0[j]? with
      | none => simp [hj] at hd
      | some d0 => simp [hj] at hd; subst hd; exact (q3 j d0 v hj hv).wk
  bC := h.bC
  bN := h.bN
  tl := h.tl
  tat := h.tat
  tN := h.tN
  tρ := h.tρ
  Clt := h.Clt
/-- a function that is handed variables: bx: what they hold; behind it: bx', its new ones behind them; no tokens are handed on -/
def AQ (P : Program) (f : FuncId) (args : List D) (bx : List (List D)) (d : D) (bx' : List (List D)) : Prop := AC P f args bx [] fun r b fr => r = .ret d ∧ b = bx' ∧ fr = []
theorem AQ.weak {P : Program} {f : FuncId} {args : List D} {bx bx' : List (List D)} {d : D} (h : AC P f args bx [] fun r b fr => ∃ d0, r = .ret d0 ∧ d0.wk = d ∧ b.map D.wks = bx' ∧ fr = []) : AQ P f args bx d bx' := by
  refine ⟨fun g w vs hm hl hv => (h.run g w vs hm hl hv).mono fun e w' ⟨g', b', fr', r, h1, h2, h3, d0, h4, h5, h6, h7⟩ => ?_⟩
  subst h4 h5 h6 h7
  obtain ⟨v, rfl, hv⟩ := h3
  exact ⟨g', _, [], .ret d0.wk, h1, h2.wk, ⟨v, rfl, hv.wk⟩, rfl, rfl, rfl⟩
theorem AP.toQ {P : Program} {f : FuncId} {args : List D} {d : D} (h : AP P f args d []) : AQ P f args [] d [] := h
/-- a function that hands on nothing: variables and tokens let go -/
theorem AP.ofA {P : Program} {f : FuncId} {args : List D} {d : D} (h : AC P f args [] [] fun r b fr => ∃ d0, r = .ret d0 ∧ d0.wk = d ∧ b.map D.wks = [] ∧ fr = []) : AP P f args d [] := AQ.weak h
def selOk : List Nat → Nat → Bool
  | [], _ => true
  | b :: bs, n => Nat.blt b n && (!(bs.any (Nat.beq b)) && selOk bs n)
theorem selOk_ok : ∀ {bs : List Nat} {n : Nat}, selOk bs n = true → okSel bs n
  | [], n, _ => okSel_nil n
  | b :: bs, n, h => by
    simp only [selOk, Bool.and_eq_true, Nat.blt_eq, Bool.not_eq_true', List.any_eq_false] at h
    obtain ⟨h1, h2, h3⟩ := h
    have ih := selOk_ok h3
    have hne : ∀ j c : Nat, bs[j]? = some c → c ≠ b := fun j c hj e => by
      subst e
      exact h2 c (List.mem_of_getElem? hj) (Nat.beq_refl c)
    refine ⟨fun i j c hi hj => ?_, fun c hc => ?_⟩
    · cases i with
      | zero =>
        cases j with
        | zero => rfl
        | succ j => simp at hi hj; subst hi; exact (hne j _ hj rfl).elim
      | succ i =>
        cases j with
        | zero => simp at hi hj; subst hj; exact (hne i _ hi rfl).elim
        | succ j => simp at hi hj; rw [ih.1 i j c hi hj]
    · rcases List.mem_cons.1 hc with rfl | hc
      · exact h1
      · exact ih.2 c hc
def preOk (k : Nat) (bs : List Nat) : Bool := (List.range k).all fun i => match bs[i]? with
  | some j => Nat.beq i j
  | none => false
theorem preOk_ok {k : Nat} {bs : List Nat} (h : preOk k bs = true) : ∀ i, i < k → bs[i]? = some i := fun i hi => by
  have := List.all_eq_true.1 h i (List.mem_range.2 hi)
  split at this
  · rename_i j hj
    rw [hj, Nat.eq_of_beq_eq_true this]
  · cases this
theorem endQ {P : Program} {rs : List ResultVar} {S : St} {d d' : D} {ds : List D} {bx' B : List (List D)} {k : Nat} (bs : List Nat) (h : ResL P S rs ds) (hb : selOk bs S.bx.length = true) (hk : preOk k bs = true) (hn : nf (((ret1 ds).ren (idx bs) (idx [])).wk) = some d') (hB : nfb ((selB bs [] S.bx).map D.wks) = some B) (hd : d' = d) (hB' : B = bx') :
    fnPost P rs k 0 (fun r b fr => ∃ d0, r = .ret d0 ∧ d0.wk = d ∧ b.map D.wks = bx' ∧ fr = []) .ret S :=
  ⟨ds, bs, [], h, selOk_ok hb, okSel_nil _, preOk_ok hk, fun i h => by omega, _, rfl, by rw [nf_eq hn, hd], by rw [nfb_eq hB, hB'], rfl⟩
theorem endQn {P : Program} {rs : List ResultVar} {S : St} {d d' : D} {ds : List D} {bx' B : List (List D)} {k : Nat} (bs : List Nat) (h : ResL P S rs ds) (hb : selOk bs S.bx.length = true) (hk : preOk k bs = true) (hn : nf (((ret1 ds).ren (idx bs) (idx [])).wk) = some d') (hB : nfb ((selB bs [] S.bx).map D.wks) = some B) (hd : d' = d) (hB' : B = bx') :
    fnPost P rs k 0 (fun r b fr => ∃ d0, r = .ret d0 ∧ d0.wk = d ∧ b.map D.wks = bx' ∧ fr = []) .norm S :=
  ⟨ds, bs, [], h, selOk_ok hb, okSel_nil _, preOk_ok hk, fun i h => by omega, _, rfl, by rw [nf_eq hn, hd], by rw [nfb_eq hB, hB'], rfl⟩
section
variable {P : Program} {Q : X → St → Prop} {n : Nat} {ee : Nat × Nat} {tm : List (Nat × D)} {bx : List (List D)} {fr : List Fr} {ops : Array Oper} {rest : List Oper} {ty : Nat} {pos : String} {after : Array Edge} {f : FuncId} {as : Array Operand} {ats : Array TypeId}
theorem AL_callQ {t : Nat} {cds : List D} {d d' : D} {bxs bxs' bx2 : List (List D)} (bs : List Nat) (hQ : AQ P f cds bxs d bxs') (hf : isFn P f = true)
    (hc : (as.toList.map (ev tm)).map (D.ren (idx bs) (idx [])) = cds) (hb : selOk bs bx.length = true) (hbx : selB bs [] bx = bxs) (hle : Nat.ble bs.length bxs'.length = true) (htd : Nat.blt t n = true) (hd : nf (d.ren (upN bs bx.length) (upN [] fr.length)) = some d') (hB : nfb (aftB bs [] bx fr.length bxs') = some bx2)
    (k : AL P ops rest ⟨n, (t, d') :: tm, bx2, fr, ee⟩ Q) : AL P ops (⟨some t, .call { callee := .value (.func f), args := as, argTypes := ats }, ty, pos, after, none⟩ :: rest) ⟨n, tm, bx, fr, ee⟩ Q := by
  refine AL_call bs [] hf hQ hc (selOk_ok hb) (okSel_nil _) hbx rfl htd (fun _ _ _ h => by cases h.1) fun d0 bx' fr' h => ?_
  obtain ⟨h1, rfl, rfl⟩ := h
  injection h1 with h1
  subst h1
  refine ⟨Nat.le_of_ble_eq_true hle, ?_⟩
  have e1 := nf_eq hd
  have e2 := nfb_eq hB
  subst e1 e2
  simpa [St.aft, aftF, putAt] using k
theorem AL_callQn {cds : List D} {d : D} {bxs bxs' bx2 : List (List D)} (bs : List Nat) (hQ : AQ P f cds bxs d bxs') (hf : isFn P f = true)
    (hc : (as.toList.map (ev tm)).map (D.ren (idx bs) (idx [])) = cds) (hb : selOk bs bx.length = true) (hbx : selB bs [] bx = bxs) (hle : Nat.ble bs.length bxs'.length = true) (hB : nfb (aftB bs [] bx fr.length bxs') = some bx2)
    (k : AL P ops rest ⟨n, tm, bx2, fr, ee⟩ Q) : AL P ops (⟨none, .call { callee := .value (.func f), args := as, argTypes := ats }, ty, pos, after, none⟩ :: rest) ⟨n, tm, bx, fr, ee⟩ Q := by
  refine AL_call bs [] hf hQ hc (selOk_ok hb) (okSel_nil _) hbx rfl rfl (fun _ _ _ h => by cases h.1) fun d0 bx' fr' h => ?_
  obtain ⟨h1, rfl, rfl⟩ := h
  refine ⟨Nat.le_of_ble_eq_true hle, ?_⟩
  have e2 := nfb_eq hB
  subst e2
  simpa [St.aft, aftF, putAt] using k
end
/-! ### calls: what is handed in, said without tokens -/
theorem AC.unwk {P : Program} {f : FuncId} {args : List D} {bx : List (List D)} {fr : List Fr} {post : R → List (List D) → List Fr → Prop} (h : AC P f (D.wks args) bx fr post) : AC P f args bx fr post :=
  ⟨fun g w vs hm hl hv => h.run g w vs hm (by rw [wks_map]; simpa using hl) fun j d v hd hvv => by
    rw [wks_map, List.getElem?_map] at hd
    cases hj : args[j]? with
    | none => simp [hj] at hd
    | some d0 => simp [hj] at hd; subst hd; exact (hv j d0 v hj hvv).wk⟩
section
variable {P : Program} {Q : X → St → Prop} {n : Nat} {ee : Nat × Nat} {tm : List (Nat × D)} {bx : List (List D)} {fr : List Fr} {ops : Array Oper} {rest : List Oper} {ty : Nat} {pos : String} {after : Array Edge} {f : FuncId} {as : Array Operand} {ats : Array TypeId}
theorem AL_callPw {t : Nat} {cds : List D} {d d' : D} {frs fr' : List Fr} (hAC : AP P f cds d frs) (hf : isFn P f = true)
    (hc : D.wks ((as.toList.map (ev tm)).map (D.ren (idx []) (idx []))) = cds) (htd : Nat.blt t n = true) (hd : nf (d.ren (upN [] bx.length) (upN [] fr.length)) = some d') (hfr : nfl (fr ++ frs) = some fr')
    (k : AL P ops rest ⟨n, (t, d') :: tm, bx, fr', ee⟩ Q) : AL P ops (⟨some t, .call { callee := .value (.func f), args := as, argTypes := ats }, ty, pos, after, none⟩ :: rest) ⟨n, tm, bx, fr, ee⟩ Q := by
  subst hc
  exact AL_callP (AC.unwk hAC) hf rfl htd hd hfr k
theorem AL_callQw {t : Nat} {cds : List D} {d d' : D} {bxs bxs' bx2 : List (List D)} (bs : List Nat) (hQ : AQ P f cds bxs d bxs') (hf : isFn P f = true)
    (hc : D.wks ((as.toList.map (ev tm)).map (D.ren (idx bs) (idx []))) = cds) (hb : selOk bs bx.length = true) (hbx : selB bs [] bx = bxs) (hle : Nat.ble bs.length bxs'.length = true) (htd : Nat.blt t n = true) (hd : nf (d.ren (upN bs bx.length) (upN [] fr.length)) = some d') (hB : nfb (aftB bs [] bx fr.length bxs') = some bx2)
    (k : AL P ops rest ⟨n, (t, d') :: tm, bx2, fr, ee⟩ Q) : AL P ops (⟨some t, .call { callee := .value (.func f), args := as, argTypes := ats }, ty, pos, after, none⟩ :: rest) ⟨n, tm, bx, fr, ee⟩ Q := by
  subst hc
  exact AL_callQ bs (AC.unwk hQ) hf rfl hb hbx hle htd hd hB k
theorem AL_callQnw {cds : List D} {d : D} {bxs bxs' bx2 : List (List D)} (bs : List Nat) (hQ : AQ P f cds bxs d bxs') (hf : isFn P f = true)
    (hc : D.wks ((as.toList.map (ev tm)).map (D.ren (idx bs) (idx []))) = cds) (hb : selOk bs bx.length = true) (hbx : selB bs [] bx = bxs) (hle : Nat.ble bs.length bxs'.length = true) (hB : nfb (aftB bs [] bx fr.length bxs') = some bx2)
    (k : AL P ops rest ⟨n, tm, bx2, fr, ee⟩ Q) : AL P ops (⟨none, .call { callee := .value (.func f), args := as, argTypes := ats }, ty, pos, after, none⟩ :: rest) ⟨n, tm, bx, fr, ee⟩ Q := by
  subst hc
  exact AL_callQn bs (AC.unwk hQ) hf rfl hb hbx hle hB k
end
/-! ### where branches come together -/
theorem AW_ofLands {P : Program} {Q : X → St → Prop} {S : St} {c : Code} {n k : Nat} {ee : Nat × Nat} {J : Nat → List (Nat × D) → List (List D) → List Fr → Prop}
    (h : Lands J n ee k S) (hy : ∀ m tm bx fr, J m tm bx fr → AW P c ⟨n, tm, bx, fr, ee⟩ Q) : AW P c S Q := by
  refine ⟨fun b0 g a w hi => ?_⟩
  obtain ⟨m, hm, tm, bx, fr, g', hJ, hi'⟩ := h.inv hi
  exact (hy m tm bx fr hJ).run b0 g' a w hi'
/-- behind a choice on slot t -/
theorem AW_join {P : Program} {Q : X → St → Prop} {n : Nat} {ee : Nat × Nat} {tm0 : List (Nat × D)} {bx0 : List (List D)} {fr0 : List Fr} {r x z y : Code} (t : Nat) (J : List (Nat × D) → List (List D) → List Fr → Prop)
    (hy : ∀ tm bx fr, J tm bx fr → AW P y ⟨n, tm, bx, fr, ee⟩ Q) (hx : AW P (.seq r (.cond (.tmp t) x z)) ⟨n, tm0, bx0, fr0, ee⟩ (X.then (Lands (fun _ => J) n ee 1) Q)) : AW P (.seq (.seq r (.cond (.tmp t) x z)) y) ⟨n, tm0, bx0, fr0, ee⟩ Q :=
  AW_seq' (AW_mono hx fun x S h => by
    cases x with
    | norm => exact AW_ofLands h fun _ => hy
    | _ => exact h)
end Go.Av

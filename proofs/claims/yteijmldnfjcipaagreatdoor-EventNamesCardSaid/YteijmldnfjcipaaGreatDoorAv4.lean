/- A function's contract out of its body; a call of a function that has a contract. -/
import Derived.Test.YteijmldnfjcipaaGreatDoorAv3
open Go.RowKit Go.Pl
namespace Go.Av
set_option linter.unusedSimpArgs false
set_option linter.unusedVariables false

/-! ### loads -/
def tAgg (P : Program) (t : TypeId) : Option Bool :=
  match P.underlying t with
  | some (.struct _) => some true
  | some (.array _ _) => some true
  | some _ => some false
  | none => none
def tSize (P : Program) (t : TypeId) : Option Nat := (P.info? t).map (·.size)
theorem run_isAgg {P : Program} {t : TypeId} {b : Bool} (h : tAgg P t = some b) (w : World) : (isAgg t).run P w = .ok b w := by
  unfold tAgg at h
  cases hu : P.underlying t with
  | none => simp [hu] at h
  | some d =>
    unfold isAgg
    rw [Sem.run_bind, run_underlying hu w]
    cases d <;> simp_all
theorem run_sizeOf {P : Program} {t : TypeId} {n : Nat} (h : tSize P t = some n) (w : World) : (sizeOf t).run P w = .ok n w := by
  unfold tSize at h
  cases hi : P.info? t with
  | none => simp [hi] at h
  | some i =>
    simp [hi] at h
    simp [sizeOf, typeInfo, Sem.run_bind, hi, h]
theorem run_load1 {P : Program} {t : TypeId} (h : tAgg P t = some false) {w : World} {b o : Nat} {v : Value} (hc : w.cell? ⟨b, o, none⟩ = some v) :
    (loadVar t ⟨b, o, none⟩).run P w = .ok v w := by
  simp [loadVar, Sem.run_bind, run_isAgg h, hc]
theorem run_loadn {P : Program} {t : TypeId} (h : tAgg P t = some true) {w : World} {b o : Nat} (vs : List Value) (hs : tSize P t = some vs.length) (hc : ∀ j v, vs[j]? = some v → w.cell? ⟨b, o + j, none⟩ = some v) :
    (loadVar t ⟨b, o, none⟩).run P w = .ok (.agg vs.toArray) w := by
  have hl : (loadCells ⟨b, o, none⟩ vs.length).run P w = .ok vs.toArray w :=
    run_loadCells_list (P := P) w ⟨b, o, none⟩ vs (fun j v hv => by rw [Addr.add_mid]; exact hc j v hv)
  simp [loadVar, Sem.run_bind, run_isAgg h, run_sizeOf hs, hl]
section
variable {P : Program} {w : World} {g : G} {bx : List (List D)} {fr : List Fr}
/-- a variable's cell -/
theorem Mem.cell (hm : Mem g bx fr w) {b blk : Nat} {cs : List D} (hb : g.ρ[b]? = some blk) (hx : bx[b]? = some cs) {o : Nat} {d : D} (hd : cs[o]? = some d) : ∃ v, w.cell? ⟨blk, o, none⟩ = some v ∧ V w g fr d v := by
  obtain ⟨vs, ty, h1, h2, h3⟩ := hm.bat b blk cs hb hx
  have ho : o < cs.length := (List.getElem?_eq_some_iff.1 hd).1
  have hv : vs[o]? = some (vs[o]'(by omega)) := by simp [h2, ho]
  exact ⟨_, (cell_of_row w blk o vs ty (0, 0) h1).trans hv, h3 o d _ hd hv⟩
theorem ptr_inv {v : Value} {b o : Nat} (h : V w g fr (.ptr b o) v) : ∃ blk, g.ρ[b]? = some blk ∧ v = .pointer (some ⟨blk, o, none⟩) := by cases h; exact ⟨_, ‹_›, rfl⟩
theorem load_ptr1 (hm : Mem g bx fr w) {t : TypeId} (h : tAgg P t = some false) {b o : Nat} {cs : List D} {d : D} {v : Value} (hv : V w g fr (.ptr b o) v) (hx : bx[b]? = some cs) (hd : cs[o]? = some d) :
    ∃ u, (Instr.loadAt t v).run P w = .ok u w ∧ V w g fr d u := by
  cases hv with
  | ptr _ _ blk hb =>
    obtain ⟨u, h1, h2⟩ := hm.cell hb hx hd
    exact ⟨u, by simp [Instr.loadAt, Instr.sureAddr, Sem.run_bind, run_load1 h h1], h2⟩
theorem load_ptrn (hm : Mem g bx fr w) {t : TypeId} (h : tAgg P t = some true) {b o n : Nat} {cs : List D} {v : Value} (hs : tSize P t = some n) (hv : V w g fr (.ptr b o) v) (hx : bx[b]? = some cs) (ho : o + n ≤ cs.length) :
    ∃ u, (Instr.loadAt t v).run P w = .ok u w ∧ V w g fr (.agg ((cs.drop o).take n)) u := by
  cases hv with
  | ptr _ _ blk hb =>
    obtain ⟨vs, ty, h1, h2, h3⟩ := hm.bat b blk cs hb hx
    refine ⟨.agg ((vs.toList.drop o).take n).toArray, ?_, ?_⟩
    · have := run_loadn (P := P) (w := w) (b := blk) (o := o) h ((vs.toList.drop o).take n) (by rw [hs]; simp [h2]; omega) fun j u hu => by
        rw [cell_of_row w blk (o + j) vs ty (0, 0) h1]
        have hu' : j < n ∧ vs[o + j]? = some u := by simpa [List.getElem?_take] using hu
        exact hu'.2
      simp [Instr.loadAt, Instr.sureAddr, Sem.run_bind, this]
    · refine .agg _ _ (by simp [h2]) fun j d u hd hu => ?_
      have hu' : j < n ∧ vs[o + j]? = some u := by simpa [List.getElem?_take] using hu
      have hd' : j < n ∧ cs[o + j]? = some d := by simpa [List.getElem?_take] using hd
      exact h3 _ d u hd'.2 hu'.2
theorem load_eptr1 {t : TypeId} (h : tAgg P t = some false) {cs : List E} {o : Nat} {e : E} {v : Value} (hv : V w g fr (.eptr cs o) v) (hd : cs[o]? = some e) :
    ∃ u, (Instr.loadAt t v).run P w = .ok u w ∧ V w g fr (.ofE e) u := by
  cases hv with
  | eptr _ _ blk off us hc hw he =>
    have ho := (List.getElem?_eq_some_iff.1 hd).1
    exact ⟨us o, by simp [Instr.loadAt, Instr.sureAddr, Sem.run_bind, run_load1 h (hw o ho)], V.ofE (he o e hd)⟩
theorem load_eptrn {t : TypeId} (h : tAgg P t = some true) {cs : List E} {o n : Nat} {v : Value} (hs : tSize P t = some n) (hv : V w g fr (.eptr cs o) v) (ho : o + n ≤ cs.length) :
    ∃ u, (Instr.loadAt t v).run P w = .ok u w ∧ V w g fr (.agg (((cs.drop o).take n).map .ofE)) u := by
  cases hv with
  | eptr _ _ blk off us hc hw he =>
    refine ⟨.agg ((List.range n).map fun j => us (o + j)).toArray, ?_, ?_⟩
    · have := run_loadn (P := P) (w := w) (b := blk) (o := off + o) h ((List.range n).map fun j => us (o + j)) (by simp [hs]) fun j u hu => by
        rw [List.getElem?_map] at hu
        cases hj : (List.range n)[j]? with
        | none => simp [hj] at hu
        | some j' =>
          obtain ⟨hlt, hj'⟩ := List.getElem?_eq_some_iff.1 hj
          simp at hlt hj'
          subst hj'
          simp [hj] at hu
          subst hu
          rw [Nat.add_assoc]
          exact hw (o + j) (by omega)
      simp [Instr.loadAt, Instr.sureAddr, Sem.run_bind, this]
    · refine .agg _ _ (by simp; omega) fun j d u hd hu => ?_
      rw [List.getElem?_map] at hd hu
      cases hj : (List.range n)[j]? with
      | none => simp [hj] at hu
      | some j' =>
        obtain ⟨hlt, hj'⟩ := List.getElem?_eq_some_iff.1 hj
        simp at hlt hj'
        subst hj'
        simp only [hj, Option.map_some, Option.some.injEq] at hu
        subst hu
        rw [List.getElem?_take, if_pos hlt, List.getElem?_drop] at hd
        cases hj2 : cs[o + j]? with
        | none => simp [hj2] at hd
        | some e => simp [hj2] at hd; subst hd; exact V.ofE (he _ e hj2)
end

/-! ### a function's body -/
def number : Nat → List D → List (Nat × D)
  | _, [] => []
  | k, d :: l => (k, d) :: number (k + 1) l
theorem look_number (l : List D) : ∀ (k t : Nat), look (number k l) t = if k ≤ t then (l[t - k]?).getD .junk else .junk := by
  induction l with
  | nil => intro k t; simp [number, look]
  | cons d l ih =>
    intro k t
    simp only [number, look]
    cases hb : Nat.beq k t with
    | true =>
      have := Nat.eq_of_beq_eq_true hb
      subst this; simp
    | false =>
      have hne : k ≠ t := fun e => by subst e; simp at hb
      dsimp only
      rw [ih]
      by_cases h : k ≤ t
      · rw [if_pos h, if_pos (by omega), show t - k = (t - (k + 1)) + 1 from by omega, List.getElem?_cons_succ]
      · rw [if_neg h, if_neg (by omega)]
/-- what a function hands back -/
inductive ResOk (P : Program) (S : St) : ResultVar → D → Prop
  | tmp (t : Nat) (d : D) (h : look S.tm t = d) : ResOk P S (.tmp t) d
  | cell1 (a t b o : Nat) (cs : List D) (d : D) (h : look S.tm a = .ptr b o) (ht : tAgg P t = some false) (hx : S.bx[b]? = some cs) (hd : cs[o]? = some d) : ResOk P S (.cell a t) d
  | celln (a t b o n : Nat) (cs : List D) (d : D) (h : look S.tm a = .ptr b o) (ht : tAgg P t = some true) (hs : tSize P t = some n) (hx : S.bx[b]? = some cs) (ho : Nat.ble (o + n) cs.length = true) (hd : .agg ((cs.drop o).take n) = d) : ResOk P S (.cell a t) d
inductive ResL (P : Program) (S : St) : List ResultVar → List D → Prop
  | nil : ResL P S [] []
  | cons (r : ResultVar) (d : D) (rs : List ResultVar) (ds : List D) (h : ResOk P S r d) (t : ResL P S rs ds) : ResL P S (r :: rs) (d :: ds)
def ret1 : List D → D
  | [d] => d
  | l => .tup l
def resV (tmps : Array Value) : ResultVar → Sem Value
  | .tmp t => pure (tmps.getD t undef)
  | .cell a t => do loadVar t (← asAddr (tmps.getD a undef))
theorem results_eq (fn : Func) (tmps : Array Value) : results fn tmps = (fn.results.mapM (resV tmps) >>= fun vs => pure (if h : vs.size = 1 then vs[0] else .tuple vs)) := rfl
theorem run_mapM_list {P : Program} {α : Type} {w : World} (f : α → Sem Value) : ∀ (l : List α) (vs : List Value), l.length = vs.length → (∀ (j : Nat) (x : α) (v : Value), l[j]? = some x → vs[j]? = some v → (f x).run P w = .ok v w) → (l.mapM f).run P w = .ok vs w
  | [], [], _, _ => rfl
  | x :: l, v :: vs, hl, h => by
    have ih := run_mapM_list f l vs (by simpa using hl) fun j x v hx hv => h (j + 1) x v (by simpa using hx) (by simpa using hv)
    have h0 := h 0 x v rfl rfl
    simp only [List.mapM_cons, Sem.run_bind, h0, Result.andThen_ok, ih]
    rfl
  | [], _ :: _, hl, _ => by simp at hl
  | _ :: _, [], hl, _ => by simp at hl
theorem ResL.runs {P : Program} {S : St} {b0 : Bs} {g : G} {a : Act} {w : World} (hi : Inv b0 S g a w) {rs : List ResultVar} {ds : List D} (h : ResL P S rs ds) :
    ∃ vs : List Value, rs.length = vs.length ∧ vs.length = ds.length ∧ (∀ (j : Nat) (r : ResultVar) (v : Value), rs[j]? = some r → vs[j]? = some v → (resV a.tmps r).run P w = .ok v w) ∧ ∀ (j : Nat) (d : D) (v : Value), ds[j]? = some d → vs[j]? = some v → V w g S.fr d v := by
  induction h with
  | nil => exact ⟨[], rfl, rfl, by simp, by simp⟩
  | cons r d rs ds h t ih =>
    obtain ⟨vs, h0, h1, h2, h3⟩ := ih
    have : ∃ v, (resV a.tmps r).run P w = .ok v w ∧ V w g S.fr d v := by
      cases h with
      | tmp t d h => exact ⟨_, rfl, h ▸ hi.tm t⟩
      | cell1 a' t b o cs d h ht hx hd =>
        have hv := hi.tm a'
        rw [h] at hv
        obtain ⟨p, hp⟩ : ∃ p, p = a.tmps.getD a' undef := ⟨_, rfl⟩
        rw [← hp] at hv
        obtain ⟨u, h1, h2⟩ := load_ptr1 (P := P) hi.mem ht hv hx hd
        refine ⟨u, ?_, h2⟩
        show (do let x ← asAddr (a.tmps.getD a' undef); loadVar t x : Sem Value).run P w = _
        rw [← hp]
        cases hv with
        | ptr _ _ blk hb => simpa [asAddr, Instr.loadAt, Instr.sureAddr, Sem.run_bind] using h1
      | celln a' t b o n cs d h ht hs hx ho hd =>
        have hv := hi.tm a'
        rw [h] at hv
        obtain ⟨p, hp⟩ : ∃ p, p = a.tmps.getD a' undef := ⟨_, rfl⟩
        rw [← hp] at hv
        obtain ⟨u, h1, h2⟩ := load_ptrn (P := P) hi.mem ht hs hv hx (Nat.le_of_ble_eq_true ho)
        refine ⟨u, ?_, hd ▸ h2⟩
        show (do let x ← asAddr (a.tmps.getD a' undef); loadVar t x : Sem Value).run P w = _
        rw [← hp]
        cases hv with
        | ptr _ _ blk hb => simpa [asAddr, Instr.loadAt, Instr.sureAddr, Sem.run_bind] using h1
    obtain ⟨v, k1, k2⟩ := this
    refine ⟨v :: vs, by simp [h0], by simp [h1], fun j r' v' hr hv => ?_, fun j d v hd hv => ?_⟩
    · cases j with
      | zero => simp at hr hv; subst hr hv; exact k1
      | succ j => simp at hr hv; exact h2 j r' v' hr hv
    · cases j with
      | zero => simp at hd hv; subst hd hv; exact k2
      | succ j => simp at hd hv; exact h3 j d v hd hv
theorem results_run {P : Program} {S : St} {b0 : Bs} {g : G} {a : Act} {w : World} (hi : Inv b0 S g a w) {fn : Func} {rs : List ResultVar} (hr : fn.results = rs.toArray) {ds : List D} (h : ResL P S rs ds) :
    ∃ v, (results fn a.tmps).run P w = .ok v w ∧ V w g S.fr (ret1 ds) v := by
  obtain ⟨vs, h0, h1, h2, h3⟩ := h.runs hi
  have hm := run_mapM_list (resV a.tmps) rs vs h0 h2
  rw [results_eq, hr]
  have hm2 : (rs.toArray.mapM (resV a.tmps)).run P w = .ok vs.toArray w := by
    rw [List.mapM_toArray]
    rw [show (List.toArray <$> rs.mapM (resV a.tmps)) = (rs.mapM (resV a.tmps) >>= fun l => pure l.toArray) from rfl]
    rw [Sem.run_bind, hm]
    rfl
  refine ⟨_, by rw [Sem.run_bind, hm2]; rfl, ?_⟩
  match vs, ds, h1 with
  | [], [], _ => exact .tup [] [] rfl (by simp)
  | [v], [d], _ => exact h3 0 d v rfl rfl
  | v :: v' :: vs, d :: d' :: ds, h1 =>
    have := V.tup (d :: d' :: ds) (v :: v' :: vs) h1 h3
    simpa [ret1] using this
end Go.Av

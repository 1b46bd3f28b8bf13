/- Tokens and variables let go. -/
import Derived.Test.YtnihobjehelagaaDoorG02
import Derived.Test.YtnihobjehelagaaDoorG01
import Derived.ScopeJumps
import Derived.Lib.SlBytesConst
import Derived.Laws.IdiomStrings
import Derived.Test.YtnihobjehelagaaDoorProg
import Derived.Laws.RangeAny
import Derived.LoopTactic
section
open Go.RowKit Go.Pl
namespace Go.Av
set_option linter.unusedSimpArgs false
set_option linter.unusedVariables false
/-! ### tokens let go -/
mutual
def D.wk : D → D
  | .bool b => .bool b
  | .int k n => .int k n
  | .str s => .str s
  | .sl _ l => .sl .ext l
  | .nilp => .nilp
  | .ptr b o => .ptr b o
  | .eptr cs o => .eptr cs o
  | .gptr k o => .gptr k o
  | .bsl b o n => .bsl b o n
  | .agg l => .agg (D.wks l)
  | .tup l => .tup (D.wks l)
  | .fn i l => .fn i (D.wks l)
  | .nilf => .nilf
  | .iface t d => .iface t (D.wk d)
  | .nili => .nili
  | .junk => .junk
def D.wks : List D → List D
  | [] => []
  | d :: l => D.wk d :: D.wks l
end
theorem wks_map (l : List D) : D.wks l = l.map D.wk := by
  induction l with
  | nil => rfl
  | cons d l ih => simp [D.wks, ih]
theorem V.wk {w : World} {g : G} {fr : List Fr} {d : D} {v : Value} (hV : V w g fr d v) : V w g fr d.wk v := by
  have key : ∀ {l : List D} {vs : List Value}, (∀ (j : Nat) (d : D) (v : Value), l[j]? = some d → vs[j]? = some v → V w g fr d.wk v) → ∀ (j : Nat) (d : D) (v : Value), (D.wks l)[j]? = some d → vs[j]? = some v → V w g fr d v := by
    intro l vs h j d v hd hv
    rw [wks_map, List.getElem?_map] at hd
    cases hj : l[j]? with
    | none => simp [hj] at hd
    | some d0 => simp [hj] at hd; subst hd; exact h j d0 v hj hv
  induction hV with
  | bool b => exact .bool b
  | int k n => exact .int k n
  | str s h => exact .str s h
  | sl t l v h hk => exact .sl .ext l v h trivial
  | nilp => exact .nilp
  | ptr b o blk h => exact .ptr b o blk h
  | eptr cs o blk off us hc hw' hv => exact .eptr cs o blk off us hc hw' hv
  | gptr k o => exact .gptr k o
  | bsl b o n blk cap hb h1 h2 => exact .bsl b o n blk cap hb h1 h2
  | agg l vs hl _ ih => exact .agg _ vs (by rw [wks_map]; simpa using hl) (key ih)
  | tup l vs hl _ ih => exact .tup _ vs (by rw [wks_map]; simpa using hl) (key ih)
  | fn f l vs hl _ ih => exact .fn f _ vs (by rw [wks_map]; simpa using hl) (key ih)
  | nilf => exact .nilf
  | iface t d v _ ih => exact .iface t _ v ih
  | nili => exact .nili
  | junk v => exact .junk v
/-! ### loops -/
inductive Sub (tm : List (Nat × D)) : List (Nat × D) → Prop
  | nil : Sub tm []
  | cons {t : Nat} {d : D} {l : List (Nat × D)} (h : look tm t = d) (k : Sub tm l) : Sub tm ((t, d) :: l)
  | wk {t : Nat} {d : D} {l : List (Nat × D)} (h : (look tm t).wk = d) (k : Sub tm l) : Sub tm ((t, d) :: l)
theorem Sub.look {tm : List (Nat × D)} {l : List (Nat × D)} (hs : Sub tm l) (t : Nat) : look l t = .junk ∨ look l t = look tm t ∨ look l t = (look tm t).wk := by
  induction hs with
  | nil => exact .inl rfl
  | @cons k d l h s ih =>
    simp only [Go.Av.look]
    cases hb : Nat.beq k t with
    | true =>
      have := Nat.eq_of_beq_eq_true hb
      subst this
      exact .inr (.inl h.symm)
    | false => exact ih
  | @wk k d l h s ih =>
    simp only [Go.Av.look]
    cases hb : Nat.beq k t with
    | true =>
      have := Nat.eq_of_beq_eq_true hb
      subst this
      exact .inr (.inr h.symm)
    | false => exact ih
theorem Inv.sub [Known] [Dfr] {b0 : Bs} {n : Nat} {ee : Nat × Nat} {tm tm2 : List (Nat × D)} {bx : List (List D)} {fr : List Fr} {g : G} {a : Act} {w : World} (h : Inv b0 ⟨n, tm, bx, fr, ee⟩ g a w) (hs : Sub tm tm2) : Inv b0 ⟨n, tm2, bx, fr, ee⟩ g a w := by
  refine ⟨h.size, h.defers, h.mem, fun t => ?_, h.evo, h.bd⟩
  rcases hs.look t with e | e | e
  · dsimp only; rw [e]; exact .junk _
  · dsimp only; rw [e]; exact h.tm t
  · dsimp only; rw [e]; exact (h.tm t).wk
/-! which pointers and tokens a datum names -/
mutual
def D.lt (k m : Nat) : D → Bool
  | .sl (.own i) _ => Nat.blt i m
  | .ptr b _ => Nat.blt b k
  | .bsl b _ _ => Nat.blt b k
  | .agg l => D.lts k m l
  | .tup l => D.lts k m l
  | .fn _ l => D.lts k m l
  | .iface _ d => D.lt k m d
  | _ => true
def D.lts (k m : Nat) : List D → Bool
  | [] => true
  | d :: l => match D.lt k m d with
    | true => D.lts k m l
    | false => false
end
theorem lts_get {k m : Nat} : ∀ {l : List D} {j : Nat} {d : D}, D.lts k m l = true → l[j]? = some d → D.lt k m d = true
  | [], j, d, _, h => by simp at h
  | x :: l, j, d, hl, h => by
    simp only [D.lts] at hl
    cases hx : D.lt k m x with
    | false => simp [hx] at hl
    | true =>
      simp only [hx] at hl
      cases j with
      | zero => simp at h; subst h; exact hx
      | succ j => simp at h; exact lts_get hl h
theorem V.cutB {w : World} {g : G} {fr : List Fr} {d : D} {v : Value} {k m : Nat} (h : V w g fr d v) (hd : D.lt k m d = true) : V w ⟨g.C, g.ρ.take k, g.τ.take m⟩ (fr.take m) d v := by
  induction h with
  | bool b => exact .bool b
  | int k n => exact .int k n
  | str s h => exact .str s h
  | sl t l v h hk =>
    refine .sl t l v h ?_
    cases t with
    | ext => trivial
    | nil => exact hk
    | own i =>
      simp only [D.lt, Nat.blt_eq] at hd
      obtain ⟨f, h1, h2, h3⟩ := hk
      refine ⟨f, by rw [List.getElem?_take, if_pos hd]; exact h1, h2, fun e => ?_⟩
      obtain ⟨blk, cap, q1, q2⟩ := h3 e
      exact ⟨blk, cap, q1, by show (g.τ.take m)[i]? = _; rw [List.getElem?_take, if_pos hd]; exact q2⟩
  | nilp => exact .nilp
  | ptr b o blk h =>
    simp only [D.lt, Nat.blt_eq] at hd
    exact .ptr b o blk (by show (g.ρ.take k)[b]? = _; rw [List.getElem?_take, if_pos hd]; exact h)
  | eptr cs o blk off us hc hw' hv => exact .eptr cs o blk off us hc hw' hv
  | gptr k o => exact .gptr k o
  | bsl b o n blk cap h h1 h2 =>
    simp only [D.lt, Nat.blt_eq] at hd
    exact .bsl b o n blk cap (by show (g.ρ.take k)[b]? = _; rw [List.getElem?_take, if_pos hd]; exact h) h1 h2
  | agg l vs hl _ ih => exact .agg l vs hl fun j d v hj hv => ih j d v hj hv (lts_get hd hj)
  | tup l vs hl _ ih => exact .tup l vs hl fun j d v hj hv => ih j d v hj hv (lts_get hd hj)
  | fn f l vs hl _ ih => exact .fn f l vs hl fun j d v hj hv => ih j d v hj hv (lts_get hd hj)
  | nilf => exact .nilf
  | iface t d v _ ih => exact .iface t d v (ih hd)
  | nili => exact .nili
  | junk v => exact .junk v
def allLt (k m : Nat) : List (List D) → Bool
  | [] => true
  | l :: ls => match D.lts k m l with
    | true => allLt k m ls
    | false => false
theorem allLt_get {k m : Nat} : ∀ {ls : List (List D)} {i : Nat} {l : List D}, allLt k m ls = true → ls[i]? = some l → D.lts k m l = true
  | [], i, l, _, h => by simp at h
  | x :: ls, i, l, hl, h => by
    simp only [allLt] at hl
    cases hx : D.lts k m x with
    | false => simp [hx] at hl
    | true =>
      simp only [hx] at hl
      cases i with
      | zero => simp at h; subst h; exact hx
      | succ i => simp at h; exact allLt_get hl h
def tmLt (k m : Nat) : List (Nat × D) → Bool
  | [] => true
  | p :: l => match D.lt k m p.2 with
    | true => tmLt k m l
    | false => false
theorem tmLt_look {k m : Nat} : ∀ {l : List (Nat × D)} (t : Nat), tmLt k m l = true → D.lt k m (look l t) = true
  | [], t, _ => rfl
  | (x, d) :: l, t, h => by
    simp only [tmLt] at h
    cases hd : D.lt k m d with
    | false => simp [hd] at h
    | true =>
      simp only [hd] at h
      simp only [Go.Av.look]
      cases hb : Nat.beq x t with
      | true => exact hd
      | false => exact tmLt_look t h
/-- variables and tokens let go: the last ones -/
theorem Inv.cut [Known] [Dfr] {b0 : Bs} {n k m : Nat} {ee : Nat × Nat} {tm : List (Nat × D)} {bx : List (List D)} {fr : List Fr} {g : G} {a : Act} {w : World} (h : Inv b0 ⟨n, tm, bx, fr, ee⟩ g a w) (hk : ee.1 ≤ k) (hm : ee.2 ≤ m) (htm : tmLt k m tm = true) (hbx : allLt k m (bx.take k) = true) :
    Inv b0 ⟨n, tm, bx.take k, fr.take m, ee⟩ ⟨g.C, g.ρ.take k, g.τ.take m⟩ a w := by
  have hM := h.mem
  have hbd := h.bd
  dsimp only at hbd
  have hρ : ∀ (i b : Nat), (g.ρ.take k)[i]? = some b → i < k ∧ g.ρ[i]? = some b := fun i b h => by simpa [List.getElem?_take] using h
  have hτ : ∀ (i : Nat) (p : Nat × Nat), (g.τ.take m)[i]? = some p → i < m ∧ g.τ[i]? = some p := fun i p h => by simpa [List.getElem?_take] using h
  refine ⟨h.size, h.defers, ?_, fun t => (h.tm t).cutB (tmLt_look t htm), ?_, h.bd⟩
  · constructor
    · have := hM.bl; simp at this ⊢; omega
    · intro i blk cs h1 h2
      obtain ⟨hi, h1⟩ := hρ i blk h1
      have h2' : bx[i]? = some cs := by have : i < k ∧ bx[i]? = some cs := by simpa [List.getElem?_take] using h2
                                        exact this.2
      obtain ⟨vs, ty, q1, q2, q3⟩ := hM.bat i blk cs h1 h2'
      exact ⟨vs, ty, q1, q2, fun j d v hd hv => (q3 j d v hd hv).cutB (lts_get (allLt_get hbx h2) hd)⟩
    · intro blk o hb
      obtain ⟨i, hi⟩ := List.getElem?_of_mem hb
      exact hM.bC blk o (List.mem_of_getElem? (hρ i blk hi).2)
    · intro i j b h1 h2
      exact hM.bN i j b (hρ i b h1).2 (hρ j b h2).2
    · have := hM.tl; simp at this ⊢; omega
    · intro i blk cap f h1 h2
      obtain ⟨hi, h1⟩ := hτ i _ h1
      have h2 : i < m ∧ fr[i]? = some f := by simpa [List.getElem?_take] using h2
      exact (hM.tat i blk cap f h1 h2.2).same fun _ h => h
    · intro i j b c c' h1 h2
      exact hM.tN i j b c c' (hτ i _ h1).2 (hτ j _ h2).2
    · intro b c h1 h2
      obtain ⟨i, hi⟩ := List.getElem?_of_mem h1
      obtain ⟨j, hj⟩ := List.getElem?_of_mem h2
      exact hM.tρ b c (List.mem_of_getElem? (hτ i _ hi).2) (List.mem_of_getElem? (hρ j b hj).2)
    · exact hM.Clt
    · exact hM.gl
  · have he := h.evo
    refine ⟨he.os, he.tape, he.output, he.size, he.block, he.C, he.cell, he.newC, fun i b hb => ?_, fun b hb => ?_, fun b c hb => ?_, fun i f hf => ?_⟩
    · have := (List.getElem?_eq_some_iff.1 hb).1
      show (g.ρ.take k)[i]? = _
      rw [List.getElem?_take, if_pos (by omega)]; exact he.ρp i b hb
    · exact he.ρn b (List.mem_of_mem_take hb)
    · exact he.τn b c (List.mem_of_mem_take hb)
    · have := (List.getElem?_eq_some_iff.1 hf).1
      obtain ⟨f', h1, h2, h3⟩ := he.tok i f hf
      refine ⟨f', by show (fr.take m)[i]? = _; rw [List.getElem?_take, if_pos (by omega)]; exact h1, h2, fun e => ?_⟩
      show (g.τ.take m)[i]? = _
      rw [List.getElem?_take, if_pos (by omega)]; exact h3 e
/-- what holds names only what there is -/
theorem lts_all {k m : Nat} : ∀ {l : List D}, (∀ (j : Nat) (d : D), l[j]? = some d → D.lt k m d = true) → D.lts k m l = true
  | [], _ => rfl
  | d :: l, h => by
    simp only [D.lts, h 0 d rfl]
    exact lts_all fun j d hd => h (j + 1) d (by simpa using hd)
theorem V.lt {w : World} {g : G} {fr : List Fr} {d : D} {v : Value} {k : Nat} (h : V w g fr d v) (hk : g.ρ.length = k) : D.lt k fr.length d = true := by
  induction h with
  | sl t l v h hk =>
    cases t with
    | own i =>
      obtain ⟨f, h1, _⟩ := hk
      simp only [D.lt, Nat.blt_eq]
      exact (List.getElem?_eq_some_iff.1 h1).1
    | _ => rfl
  | ptr b o blk h =>
    simp only [D.lt, Nat.blt_eq]
    have := (List.getElem?_eq_some_iff.1 h).1
    omega
  | bsl b o n blk cap h h1 h2 =>
    simp only [D.lt, Nat.blt_eq]
    have := (List.getElem?_eq_some_iff.1 h).1
    omega
  | agg l vs hl _ ih =>
    simp only [D.lt]
    exact lts_all fun j d hd => ih j d _ hd (List.getElem?_eq_getElem (by have := (List.getElem?_eq_some_iff.1 hd).1; omega))
  | tup l vs hl _ ih =>
    simp only [D.lt]
    exact lts_all fun j d hd => ih j d _ hd (List.getElem?_eq_getElem (by have := (List.getElem?_eq_some_iff.1 hd).1; omega))
  | fn f l vs hl _ ih =>
    simp only [D.lt]
    exact lts_all fun j d hd => ih j d _ hd (List.getElem?_eq_getElem (by have := (List.getElem?_eq_some_iff.1 hd).1; omega))
  | iface t d v _ ih => exact ih
  | _ => rfl
theorem allLt_all {k m : Nat} : ∀ {ls : List (List D)}, (∀ (i : Nat) (l : List D), ls[i]? = some l → D.lts k m l = true) → allLt k m ls = true
  | [], _ => rfl
  | l :: ls, h => by
    simp only [allLt, h 0 l rfl]
    exact allLt_all fun i l hl => h (i + 1) l (by simpa using hl)
theorem Mem.allLt [Known] {g : G} {bx : List (List D)} {fr : List Fr} {w : World} (hm : Mem g bx fr w) : Go.Av.allLt bx.length fr.length bx = true :=
  allLt_all fun i l hl => lts_all fun j d hd => by
    have hi := (List.getElem?_eq_some_iff.1 hl).1
    have hρ : i < g.ρ.length := by rw [hm.bl]; exact hi
    obtain ⟨vs, ty, _, q2, q3⟩ := hm.bat i _ l (List.getElem?_eq_getElem hρ) hl
    have hj := (List.getElem?_eq_some_iff.1 hd).1
    exact (q3 j d vs[j] hd (Array.getElem?_eq_getElem (by omega))).lt hm.bl
end Go.Av
end
/- Regions that draw their order: operations that leave variables as they are may come in any order. -/
section
open Go.RowKit Go.Pl
namespace Go.Av
set_option linter.unusedSimpArgs false
set_option linter.unusedVariables false
/-- on which operations an operation waits, through others too: as the bits of a number -/
def mbits (ms : List Nat) : List Edge → Nat
  | [] => 0
  | e :: es => match Region.binds .any e with
    | true => ((1 <<< e.on) ||| ms.getD e.on 0) ||| mbits ms es
    | false => mbits ms es
def masks : List Nat → List Oper → List Nat
  | ms, [] => ms
  | ms, o :: l => masks (ms ++ [mbits ms o.after.toList]) l
def up (ms : List Nat) (j i : Nat) : Bool := (ms.getD j 0).testBit i
def looks (l : List Oper) (o : Oper) : List Nat := o.looksAt l.toArray
/-- who writes a slot that another one reads or writes is ahead of it, or behind it, whatever the order -/
def chkPair (ms : List Nat) (l : List Oper) (i j : Nat) : Bool :=
  match l[i]?, l[j]? with
  | some oi, some oj => match oi.dst with
    | some t => oj.dst != some t && (!(looks l oj).contains t || (if i < j then up ms j i else up ms i j))
    | none => true
  | _, _ => true
def chkDraw (l : List Oper) : Bool :=
  (List.range l.length).all fun i => (List.range l.length).all fun j => decide (i = j) || chkPair (masks [] l) l i j
/-- of a state what an operation looks at -/
def restr (l : List Oper) (o : Oper) : List (Nat × D) → List (Nat × D)
  | [] => []
  | p :: tm => match (looks l o).contains p.1 with
    | true => p :: restr l o tm
    | false => restr l o tm
/-- what an operation that may come in any order leaves: variables and tokens of its own are let go -/
def qp (t : Nat) (d : D) (bx : List (List D)) (fr : List Fr) : X → St → Prop
  | .norm, S => (S.bx = bx ∧ S.fr = fr ∧ look S.tm t = d) ∨ (S.bx.take bx.length = bx ∧ S.fr.take fr.length = fr ∧ (look S.tm t = d ∨ (look S.tm t).wk = d) ∧ D.lt bx.length fr.length d = true)
  | _, _ => False
theorem qp_ok {t n : Nat} {ee : Nat × Nat} {d : D} {tm : List (Nat × D)} {bx : List (List D)} {fr : List Fr} (h : nf (look tm t) = some d) : qp t d bx fr .norm ⟨n, tm, bx, fr, ee⟩ := .inl ⟨rfl, rfl, nf_eq h⟩
theorem qp_cut {t n : Nat} {ee : Nat × Nat} {d : D} {tm : List (Nat × D)} {bx bx' : List (List D)} {fr fr' : List Fr} (hb : nfb (bx'.take bx.length) = some bx) (hf : nfl (fr'.take fr.length) = some fr) (h : nf (look tm t) = some d) (hd : D.lt bx.length fr.length d = true) : qp t d bx fr .norm ⟨n, tm, bx', fr', ee⟩ := .inr ⟨nfb_eq hb, nfl_eq hf, .inl (nf_eq h), hd⟩
theorem qp_wk {t n : Nat} {ee : Nat × Nat} {d : D} {tm : List (Nat × D)} {bx bx' : List (List D)} {fr fr' : List Fr} (hb : nfb (bx'.take bx.length) = some bx) (hf : nfl (fr'.take fr.length) = some fr) (h : nf (look tm t).wk = some d) (hd : D.lt bx.length fr.length d = true) : qp t d bx fr .norm ⟨n, tm, bx', fr', ee⟩ := .inr ⟨nfb_eq hb, nfl_eq hf, .inr (nf_eq h), hd⟩
inductive AD [Known] [Dfr] (P : Program) (l : List Oper) (n : Nat) (bx : List (List D)) (fr : List Fr) : List Oper → List (Nat × D) → List (Nat × D) → Prop
  | nil (tm : List (Nat × D)) : AD P l n bx fr [] tm tm
  | cons (o : Oper) (rest : List Oper) (t : Nat) (d : D) (tm tm' : List (Nat × D)) (hd : o.dst = some t) (ht : Nat.blt t n = true) (h : AL P l.toArray [o] ⟨n, restr l o tm, bx, fr, (bx.length, fr.length)⟩ (qp t d bx fr)) (k : AD P l n bx fr rest ((t, d) :: tm) tm') : AD P l n bx fr (o :: rest) tm tm'
theorem look_restr {l : List Oper} {o : Oper} {t : Nat} : ∀ (tm : List (Nat × D)), t ∈ looks l o → look (restr l o tm) t = look tm t
  | [], _ => rfl
  | p :: tm, h => by
    obtain ⟨k, d⟩ := p
    simp only [restr]
    cases hc : (looks l o).contains k with
    | true =>
      simp only [look]
      rw [look_restr tm h]
    | false =>
      simp only [look]
      have hne : Nat.beq k t = false := by
        cases hb : Nat.beq k t with
        | false => rfl
        | true =>
          have := Nat.eq_of_beq_eq_true hb
          subst this
          simp [h] at hc
      rw [hne]
      exact look_restr tm h
theorem look_restr_far {l : List Oper} {o : Oper} {t : Nat} : ∀ (tm : List (Nat × D)), t ∉ looks l o → look (restr l o tm) t = .junk
  | [], _ => rfl
  | p :: tm, h => by
    obtain ⟨k, d⟩ := p
    simp only [restr]
    cases hc : (looks l o).contains k with
    | true =>
      simp only [look]
      have hne : Nat.beq k t = false := by
        cases hb : Nat.beq k t with
        | false => rfl
        | true =>
          have := Nat.eq_of_beq_eq_true hb
          subst this
          simp [h] at hc
      rw [hne]
      exact look_restr_far tm h
    | false => exact look_restr_far tm h
section
variable {P : Program} {Q : X → St → Prop} {n : Nat} {ee : Nat × Nat} {tm tm' : List (Nat × D)} {bx bx' : List (List D)} {fr fr' : List Fr} {b0 : Bs} {g : G} {w : World} {a : Act}
/-- what the operations leave in the slots, one by one -/
theorem AD.steps [Known] [Dfr] {l : List Oper} {rest : List Oper} (h : AD P l n bx fr rest tm tm') : ∃ ds : List (Nat × D), ds.length = rest.length ∧ tm' = ds.reverse ++ tm ∧ ∀ (i : Nat) (o : Oper), rest[i]? = some o → ∃ t d, ds[i]? = some (t, d) ∧ o.dst = some t ∧ Nat.blt t n = true ∧ AL P l.toArray [o] ⟨n, restr l o ((ds.take i).reverse ++ tm), bx, fr, (bx.length, fr.length)⟩ (qp t d bx fr) := by
  induction h with
  | nil tm => exact ⟨[], rfl, rfl, fun i o h => by simp at h⟩
  | cons o rest t d tm tm' hd ht h k ih =>
    obtain ⟨ds, h1, h2, h3⟩ := ih
    refine ⟨(t, d) :: ds, by simp [h1], by simp [h2], fun i o' ho => ?_⟩
    cases i with
    | zero => simp at ho; subst ho; exact ⟨t, d, rfl, hd, ht, by simpa using h⟩
    | succ i =>
      simp at ho
      obtain ⟨t', d', q1, q2, q3, q4⟩ := h3 i o' ho
      exact ⟨t', d', by simpa using q1, q2, q3, by simpa using q4⟩
/-- an operation hands on its frame with its own slot put -/
theorem upon_put {L : List Deferred} {o : Oper} {K : Act → World → Prop} {Q' Q2 : Exit → Act → World → Prop} {r : Result Next} (h : o.upon P a K Q' r) (ha : a.defers = L) (hd : ∀ a w, K a w → a.defers = L) (hQ : ∀ c a w, Q' (.panic c) a w → False) (hL : LetsOut Q' → False) :
    o.upon P a (fun a' w' => (∃ v, a' = a.put o.dst v) ∧ K a' w') Q2 r := by
  cases r with
  | ok nx w' =>
    cases nx <;> simp only [Oper.upon] at h ⊢
    case value v => exact ⟨⟨v, rfl⟩, h⟩
    case skip => exact ⟨⟨undef, rfl⟩, h⟩
    case defer d =>
      have := hd _ _ h
      have := congrArg List.length this
      cases hdst : o.dst <;> simp [Act.put, hdst, ha] at this
    case enter f args =>
      refine Calls.mono h (fun e w'' he => ?_)
      cases e with
      | returned u => exact ⟨⟨u, rfl⟩, he⟩
      | panicked c => exact (hQ _ _ _ he).elim
      | outgrown => exact (hL he).elim
    case row row args => exact Rows.mono h fun u w'' he => ⟨⟨u, rfl⟩, he⟩
  | halt x w' =>
    cases x <;> simp only [Oper.upon] at h ⊢
    case panic u => exact (hQ _ _ _ h).elim
theorem mem_mbits {ms : List Nat} {i : Nat} : ∀ {es : List Edge}, (mbits ms es).testBit i = true → ∃ e ∈ es, Region.binds .any e = true ∧ (i = e.on ∨ (ms.getD e.on 0).testBit i = true)
  | [], h => by simp [mbits] at h
  | e :: es, h => by
    simp only [mbits] at h
    cases hb : Region.binds .any e with
    | false =>
      simp only [hb] at h
      obtain ⟨e', h1, h2⟩ := mem_mbits h
      exact ⟨e', by simp [h1], h2⟩
    | true =>
      simp only [hb, Nat.testBit_or, Bool.or_eq_true] at h
      rcases h with (h | h) | h
      · refine ⟨e, by simp, hb, .inl ?_⟩
        rw [Nat.shiftLeft_eq, Nat.one_mul, Nat.testBit_two_pow] at h
        simpa [eq_comm] using h
      · exact ⟨e, by simp, hb, .inr h⟩
      · obtain ⟨e', h1, h2⟩ := mem_mbits h
        exact ⟨e', by simp [h1], h2⟩
theorem masks_pre : ∀ (l : List Oper) (ms : List Nat), ∃ r, masks ms l = ms ++ r ∧ r.length = l.length
  | [], ms => ⟨[], by simp [masks], rfl⟩
  | o :: l, ms => by
    obtain ⟨r, h1, h2⟩ := masks_pre l (ms ++ [mbits ms o.after.toList])
    exact ⟨mbits ms o.after.toList :: r, by simp [masks, h1], by simp [h2]⟩
theorem masks_get : ∀ (l : List Oper) (ms : List Nat) (j : Nat) (o : Oper), l[j]? = some o → ∃ r, masks ms l = r ++ (masks ms l).drop (ms.length + j) ∧ r.length = ms.length + j ∧ (masks ms l)[ms.length + j]? = some (mbits r o.after.toList)
  | o0 :: l, ms, 0, o, h => by
    simp at h; subst h
    obtain ⟨r, h1, h2⟩ := masks_pre l (ms ++ [mbits ms o0.after.toList])
    refine ⟨ms, ?_, by simp, ?_⟩
    · simp [masks, h1]
    · simp [masks, h1]
  | o0 :: l, ms, j + 1, o, h => by
    simp at h
    obtain ⟨r, h1, h2, h3⟩ := masks_get l (ms ++ [mbits ms o0.after.toList]) j o h
    have e : (ms ++ [mbits ms o0.after.toList]).length + j = ms.length + (j + 1) := by simp; omega
    rw [e] at h1 h2 h3
    exact ⟨r, h1, h2, h3⟩
  | [], ms, j, o, h => by simp at h
theorem mem_up {l : List Oper} {listed : Array Bool} (hc : ∀ (m : Nat) (o : Oper), l[m]? = some o → listed.getD m false = true → ∀ e ∈ o.after, Region.binds .any e = true → listed.getD e.on false = true) :
    ∀ (i : Nat) (o : Oper), l[i]? = some o → (∀ e ∈ o.after, Region.binds .any e = true → listed.getD e.on false = true) → ∀ k, up (masks [] l) i k = true → listed.getD k false = true := by
  intro i
  induction i using Nat.strongRecOn with
  | _ i ih =>
    intro o ho hr k hk
    obtain ⟨r, h1, h2, h3⟩ := masks_get l [] i o ho
    simp only [List.length_nil, Nat.zero_add] at h1 h2 h3
    unfold up at hk
    rw [List.getD_eq_getElem?_getD, h3, Option.getD_some] at hk
    obtain ⟨e, he, hb, hor⟩ := mem_mbits hk
    have hle := hr e (by simpa using he) hb
    rcases hor with rfl | hor
    · exact hle
    · have hlt : e.on < i := by
        rcases Nat.lt_or_ge e.on i with h | h
        · exact h
        · exfalso
          rw [List.getD_eq_getElem?_getD, List.getElem?_eq_none (by omega)] at hor
          simp at hor
      have hil : i < l.length := (List.getElem?_eq_some_iff.1 ho).1
      have hoe : l[e.on]? = some l[e.on] := List.getElem?_eq_getElem (by omega)
      refine ih e.on hlt l[e.on] hoe (hc e.on _ hoe hle) k ?_
      unfold up
      rw [h1, List.getD_eq_getElem?_getD, List.getElem?_append_left (by omega), ← List.getD_eq_getElem?_getD]
      exact hor
/-- what the slots hold when so many operations are done -/
def cur (l : List Oper) (ds : List (Nat × D)) (tm : List (Nat × D)) (listed : Array Bool) (t : Nat) : D :=
  match (List.range l.length).find? (fun i => listed.getD i false && ((ds[i]?).map (·.1) == some t)) with
  | some i => ((ds[i]?).map (·.2)).getD .junk
  | none => look tm t
/-- the state in the midst of such a region -/
structure Mid [Known] [Dfr] (b0 : Bs) (ee : Nat × Nat) (n : Nat) (tm : List (Nat × D)) (bx : List (List D)) (fr : List Fr) (l : List Oper) (ds : List (Nat × D)) (listed : Array Bool) (g : G) (a : Act) (w : World) : Prop where
  bd : b0.g.ρ.length ≤ ee.1 ∧ b0.fr.length ≤ ee.2
  size : a.tmps.size = n
  defers : a.defers = Dfr.l
  mem : Mem g bx fr w
  evo : Evo b0 ⟨g, fr, w⟩
  tm : ∀ t, V w g fr (cur l ds tm listed t) (a.tmps.getD t undef)
  closed : ∀ (m : Nat) (o : Oper), l[m]? = some o → listed.getD m false = true → ∀ e ∈ o.after, Region.binds .any e = true → listed.getD e.on false = true
  len : listed.size = l.length
theorem chk_get {l : List Oper} (h : chkDraw l = true) {i j : Nat} (hi : i < l.length) (hj : j < l.length) (hne : i ≠ j) : chkPair (masks [] l) l i j = true := by
  have h1 := List.all_eq_true.1 h i (List.mem_range.2 hi)
  have h2 := List.all_eq_true.1 h1 j (List.mem_range.2 hj)
  simpa [hne] using h2
theorem look_append (a : List (Nat × D)) (b : List (Nat × D)) (t : Nat) : look (a ++ b) t = if t ∈ a.map (·.1) then look a t else look b t := by
  induction a with
  | nil => simp
  | cons p a ih =>
    obtain ⟨k, d⟩ := p
    simp only [List.cons_append, look, List.map_cons, List.mem_cons]
    cases hb : Nat.beq k t with
    | true =>
      have := Nat.eq_of_beq_eq_true hb
      subst this
      rw [if_pos (by simp)]
    | false =>
      have hne : t ≠ k := fun e => by subst e; simp at hb
      dsimp only
      rw [ih]
      by_cases hm : t ∈ a.map (·.1)
      · rw [if_pos hm, if_pos (.inr hm)]
      · rw [if_neg hm, if_neg (fun h => h.elim hne hm)]
/-- in a list without a slot twice the first that matches is the one -/
theorem look_at {ds : List (Nat × D)} (hN : ∀ (i j : Nat) (p q : Nat × D), ds[i]? = some p → ds[j]? = some q → p.1 = q.1 → i = j) : ∀ {i : Nat} {t : Nat} {d : D}, ds[i]? = some (t, d) → look ds t = d := by
  induction ds with
  | nil => intro i t d h; simp at h
  | cons p ds ih =>
    intro i t d h
    obtain ⟨k, d0⟩ := p
    simp only [look]
    cases i with
    | zero => simp at h; obtain ⟨rfl, rfl⟩ := h; rw [Nat.beq_refl]
    | succ i =>
      simp at h
      cases hb : Nat.beq k t with
      | true =>
        have := Nat.eq_of_beq_eq_true hb
        subst this
        have := hN 0 (i + 1) (k, d0) (k, d) rfl (by simpa using h) rfl
        omega
      | false =>
        exact ih (fun i j p q h1 h2 e => by have := hN (i + 1) (j + 1) p q (by simpa using h1) (by simpa using h2) e; omega) h
theorem cur_at {l : List Oper} {ds : List (Nat × D)} {tm : List (Nat × D)} {listed : Array Bool} (hN : ∀ (i j : Nat) (p q : Nat × D), ds[i]? = some p → ds[j]? = some q → p.1 = q.1 → i = j) (hl : ds.length ≤ l.length) {j t : Nat} {d : D} (hj : ds[j]? = some (t, d)) :
    cur l ds tm listed t = if listed.getD j false = true then d else look tm t := by
  unfold cur
  have hjl : j < l.length := Nat.lt_of_lt_of_le (List.getElem?_eq_some_iff.1 hj).1 hl
  cases hf : (List.range l.length).find? (fun i => listed.getD i false && ((ds[i]?).map (·.1) == some t)) with
  | some i =>
    have := List.find?_some hf
    simp only [Bool.and_eq_true, beq_iff_eq] at this
    obtain ⟨h1, h2⟩ := this
    cases hi : ds[i]? with
    | none => simp [hi] at h2
    | some p =>
      simp [hi] at h2
      have := hN i j p (t, d) hi hj h2
      subst this
      rw [if_pos h1]
      show ((ds[i]?).map (·.2)).getD .junk = d
      rw [hj]
      rfl
  | none =>
    have := List.find?_eq_none.1 hf j (List.mem_range.2 hjl)
    simp only [hj, Option.map_some, beq_self_eq_true, Bool.and_true, Bool.not_eq_true] at this
    rw [if_neg (by rw [this]; simp)]
theorem cur_far {l : List Oper} {ds : List (Nat × D)} {tm : List (Nat × D)} {listed : Array Bool} {t : Nat} (h : ∀ (j : Nat) (p : Nat × D), ds[j]? = some p → p.1 ≠ t) : cur l ds tm listed t = look tm t := by
  unfold cur
  cases hf : (List.range l.length).find? (fun i => listed.getD i false && ((ds[i]?).map (·.1) == some t)) with
  | some i =>
    have := List.find?_some hf
    simp only [Bool.and_eq_true, beq_iff_eq] at this
    cases hi : ds[i]? with
    | none => simp [hi] at this
    | some p => simp [hi] at this; exact (h i p hi this.2).elim
  | none => rfl
/-- what an operation looks at stands as in the order of the text -/
theorem cur_ready {l : List Oper} {ds : List (Nat × D)} {tm : List (Nat × D)} {listed : Array Bool} (hchk : chkDraw l = true) (hl : ds.length ≤ l.length) (hdst : ∀ (i : Nat) (o : Oper), l[i]? = some o → i < ds.length → ∃ t d, ds[i]? = some (t, d) ∧ o.dst = some t)
    (hcl : ∀ (m : Nat) (o : Oper), l[m]? = some o → listed.getD m false = true → ∀ e ∈ o.after, Region.binds .any e = true → listed.getD e.on false = true)
    {i : Nat} {o : Oper} (hi : l[i]? = some o) (hni : listed.getD i false = false) (hr : ∀ e ∈ o.after, Region.binds .any e = true → listed.getD e.on false = true) (hid : i ≤ ds.length) {t : Nat} (ht : t ∈ looks l o) :
    cur l ds tm listed t = look ((ds.take i).reverse ++ tm) t := by
  have hil : i < l.length := (List.getElem?_eq_some_iff.1 hi).1
  have hN : ∀ (i j : Nat) (p q : Nat × D), ds[i]? = some p → ds[j]? = some q → p.1 = q.1 → i = j := fun x y p q hx hy e => by
    by_cases hxy : x = y
    · exact hxy
    · exfalso
      have hxd := (List.getElem?_eq_some_iff.1 hx).1
      have hxl : x < l.length := Nat.lt_of_lt_of_le hxd hl
      have hyd := (List.getElem?_eq_some_iff.1 hy).1
      have hyl : y < l.length := Nat.lt_of_lt_of_le hyd hl
      have hc := chk_get hchk hxl hyl hxy
      obtain ⟨t1, d1, a1, a2⟩ := hdst x _ (List.getElem?_eq_getElem hxl) hxd
      obtain ⟨t2, d2, c1, c2⟩ := hdst y _ (List.getElem?_eq_getElem hyl) hyd
      rw [hx] at a1; injection a1 with a1
      rw [hy] at c1; injection c1 with c1
      simp only [chkPair, List.getElem?_eq_getElem hxl, List.getElem?_eq_getElem hyl, a2, c2, Bool.and_eq_true, bne_iff_ne, ne_eq, Option.some.injEq] at hc
      rw [a1, c1] at e
      exact hc.1 e.symm
  by_cases hex : ∃ (j : Nat) (d : D), ds[j]? = some (t, d)
  · obtain ⟨j, d, hj⟩ := hex
    have hjd := (List.getElem?_eq_some_iff.1 hj).1
    have hjl : j < l.length := Nat.lt_of_lt_of_le hjd hl
    rw [cur_at hN hl hj]
    have hoj := List.getElem?_eq_getElem hjl
    obtain ⟨t', d', a1, a2⟩ := hdst j _ hoj hjd
    rw [hj] at a1; injection a1 with a1; injection a1 with a1 _
    subst a1
    have hord : j ≠ i → (if j < i then up (masks [] l) i j else up (masks [] l) j i) = true := fun hne => by
      have hc := chk_get hchk hjl hil hne
      simp only [chkPair, hoj, hi, a2, Bool.and_eq_true] at hc
      have h2 := hc.2
      rw [Bool.or_eq_true] at h2
      rcases h2 with h2 | h2
      · simp [ht] at h2
      · exact h2
    have htake : ∀ (x : Nat) (p : Nat × D), (ds.take i)[x]? = some p → x < i ∧ ds[x]? = some p := fun x p h => by simpa [List.getElem?_take] using h
    rw [look_append]
    by_cases hlist : listed.getD j false = true
    · rw [if_pos hlist]
      have hne : j ≠ i := fun e => by subst e; rw [hni] at hlist; cases hlist
      have hlt : j < i := by
        rcases Nat.lt_or_ge j i with h | h
        · exact h
        · exfalso
          have := hord hne
          rw [if_neg (by omega)] at this
          have := mem_up hcl j _ hoj (hcl j _ hoj hlist) i this
          rw [hni] at this; cases this
      have hin : (ds.take i)[j]? = some (t, d) := by simp [List.getElem?_take, hlt, hj]
      rw [if_pos (by simp only [List.map_reverse, List.mem_reverse]; exact List.mem_map.2 ⟨(t, d), List.mem_of_getElem? hin, rfl⟩)]
      have hN' : ∀ (x y : Nat) (p q : Nat × D), (ds.take i).reverse[x]? = some p → (ds.take i).reverse[y]? = some q → p.1 = q.1 → x = y := fun x y p q hx hy e => by
        have lx := (List.getElem?_eq_some_iff.1 hx).1
        have ly := (List.getElem?_eq_some_iff.1 hy).1
        rw [List.getElem?_reverse (by simpa using lx)] at hx
        rw [List.getElem?_reverse (by simpa using ly)] at hy
        have := hN _ _ p q (htake _ _ hx).2 (htake _ _ hy).2 e
        simp at lx ly this
        omega
      have hlen : (ds.take i).length = i := by rw [List.length_take]; omega
      refine (look_at hN' (i := i - 1 - j) (t := t) (d := d) ?_).symm
      rw [List.getElem?_reverse (by rw [hlen]; omega), hlen, show i - 1 - (i - 1 - j) = j from by omega]
      exact hin
    · rw [if_neg hlist]
      have hge : ¬ j < i := fun hlt => by
        have := hord (by omega)
        rw [if_pos hlt] at this
        exact hlist (mem_up hcl i o hi hr j this)
      rw [if_neg (fun hm => by
        simp only [List.map_reverse, List.mem_reverse] at hm
        obtain ⟨p, hp, he⟩ := List.mem_map.1 hm
        obtain ⟨x, hx⟩ := List.getElem?_of_mem hp
        obtain ⟨h1, h2⟩ := htake x p hx
        have := hN x j p (t, d) h2 hj he
        omega)]
  · have hno : ∀ (j : Nat) (p : Nat × D), ds[j]? = some p → p.1 ≠ t := fun j p hj e => hex ⟨j, p.2, by rw [hj, ← e]⟩
    rw [cur_far hno, look_append, if_neg (fun hm => by
      simp only [List.map_reverse, List.mem_reverse] at hm
      obtain ⟨p, hp, he⟩ := List.mem_map.1 hm
      obtain ⟨x, hx⟩ := List.getElem?_of_mem (List.mem_of_mem_take hp)
      exact hno x p hx he)]
def chkE (l : List Oper) : Bool := (l.zipIdx 0).all fun p => p.1.after.all fun e => !Region.binds .any e || Nat.blt e.on p.2
theorem chkE_get {l : List Oper} (h : chkE l = true) {i : Nat} {o : Oper} (hi : l[i]? = some o) : ∀ e ∈ o.after, Region.binds .any e = true → e.on < i := fun e he hb => by
  have h1 := List.all_eq_true.1 h (o, i) (by
    rw [List.mem_iff_getElem?]
    exact ⟨i, by rw [List.getElem?_zipIdx, hi]; simp⟩)
  have h2 := Array.all_eq_true_iff_forall_mem.1 h1 e he
  simpa [hb, Nat.blt_eq] using h2
/-- how many are not done -/
def left (l : List Oper) (listed : Array Bool) : Nat := (List.range l.length).countP fun i => !listed.getD i false
theorem left_set {l : List Oper} {listed : Array Bool} {i : Nat} (hi : i < l.length) (hs : listed.size = l.length) (hn : listed.getD i false = false) : left l listed = left l (listed.setIfInBounds i true) + 1 := by
  unfold left
  have key : ∀ (m : List Nat), m.Nodup → i ∈ m → m.countP (fun j => !listed.getD j false) = m.countP (fun j => !(listed.setIfInBounds i true).getD j false) + 1 := by
    intro m
    induction m with
    | nil => intro _ h; cases h
    | cons j m ih =>
      intro hnd hin
      have hnd' := List.nodup_cons.1 hnd
      by_cases e : j = i
      · subst e
        have h1 : (listed.setIfInBounds j true).getD j false = true := by simp [hs, hi]
        have h2 : m.countP (fun x => !listed.getD x false) = m.countP (fun x => !(listed.setIfInBounds j true).getD x false) := by
          apply List.countP_congr
          intro x hx
          have : j ≠ x := fun e => hnd'.1 (e ▸ hx)
          rw [getD_set_ne false this]
        rw [List.countP_cons, List.countP_cons, hn, h1, h2]
        simp
      · have hin' : i ∈ m := by
          rcases List.mem_cons.1 hin with h | h
          · exact (e h.symm).elim
          · exact h
        rw [List.countP_cons, List.countP_cons, ih hnd'.2 hin', getD_set_ne false (Ne.symm e)]
        omega
  exact key _ List.nodup_range (List.mem_range.2 hi)
theorem left_zero {l : List Oper} {listed : Array Bool} (h : left l listed = 0) {i : Nat} (hi : i < l.length) : listed.getD i false = true := by
  have := List.countP_eq_zero.1 h i (List.mem_range.2 hi)
  simpa using this
/-- something is ready as long as something is left -/
theorem ready_ne {l : List Oper} {listed : Array Bool} (hE : chkE l = true) (hs : listed.size = l.length) (h : left l listed ≠ 0) : Region.ready .any l.toArray listed ≠ [] := by
  obtain ⟨i, hi, hn⟩ : ∃ i, i < l.length ∧ listed.getD i false = false := by
    rcases Nat.eq_zero_or_pos (left l listed) with h0 | h0
    · exact (h h0).elim
    · obtain ⟨i, h1, h2⟩ := List.countP_pos_iff.1 h0
      exact ⟨i, List.mem_range.1 h1, by simpa using h2⟩
  have : ∀ i, i < l.length → listed.getD i false = false → Region.ready .any l.toArray listed ≠ [] := by
    intro i
    induction i using Nat.strongRecOn with
    | _ i ih =>
      intro hi hn
      by_cases hr : ∀ e ∈ l[i].after, Region.binds .any e = true → listed.getD e.on false = true
      · have : i ∈ Region.ready .any l.toArray listed := by
          rw [mem_ready]
          have h1 : i < listed.size := by omega
          refine ⟨by simp [h1] at hn ⊢; exact hn, l[i], by simp [hi], hr⟩
        intro e; rw [e] at this; cases this
      · obtain ⟨e, hr⟩ := Classical.not_forall.1 hr
        obtain ⟨he, hr⟩ := Classical.not_imp.1 hr
        obtain ⟨hb, hr⟩ := Classical.not_imp.1 hr
        have hlt := chkE_get hE (List.getElem?_eq_getElem hi) e he hb
        exact ih e.on hlt (by omega) (by simpa using hr)
  exact this i hi hn
theorem mid_step [Known] [Dfr] {l : List Oper} {ds : List (Nat × D)} {listed : Array Bool} (hchk : chkDraw l = true) (hE : chkE l = true) (hl : ds.length ≤ l.length)
    (hst : ∀ (i : Nat) (o : Oper), l[i]? = some o → i < ds.length → ∃ t d, ds[i]? = some (t, d) ∧ o.dst = some t ∧ Nat.blt t n = true ∧ AL P l.toArray [o] ⟨n, restr l o ((ds.take i).reverse ++ tm), bx, fr, (bx.length, fr.length)⟩ (qp t d bx fr))
    (hM : Mid b0 ee n tm bx fr l ds listed g a w) {i : Nat} (hi : i ∈ Region.ready .any l.toArray listed) (hids : i < ds.length) {K : Act → World → Prop} {Q2 : Exit → Act → World → Prop} (hK : ∀ g' a' w', Mid b0 ee n tm bx fr l ds (listed.setIfInBounds i true) g' a' w' → K a' w') :
    wpOp P l.toArray Q2 i K a w := by
  obtain ⟨hn0, o, ho, hr⟩ := mem_ready.1 hi
  have ho' : l[i]? = some o := by simpa using ho
  have hil : i < l.length := (List.getElem?_eq_some_iff.1 ho').1
  have hn : listed.getD i false = false := by
    have : i < listed.size := by rw [hM.len]; exact hil
    simp [this] at hn0 ⊢; exact hn0
  obtain ⟨t, d, e1, e2, e3, hAL⟩ := hst i o ho' hids
  have hdst : ∀ (i : Nat) (o : Oper), l[i]? = some o → i < ds.length → ∃ t d, ds[i]? = some (t, d) ∧ o.dst = some t := fun i o h hd => by
    obtain ⟨t, d, h1, h2, _⟩ := hst i o h hd; exact ⟨t, d, h1, h2⟩
  have hN : ∀ (i j : Nat) (p q : Nat × D), ds[i]? = some p → ds[j]? = some q → p.1 = q.1 → i = j := fun x y p q hx hy e => by
    by_cases hxy : x = y
    · exact hxy
    · exfalso
      have hxd := (List.getElem?_eq_some_iff.1 hx).1
      have hxl : x < l.length := Nat.lt_of_lt_of_le hxd hl
      have hyd := (List.getElem?_eq_some_iff.1 hy).1
      have hyl : y < l.length := Nat.lt_of_lt_of_le hyd hl
      have hc := chk_get hchk hxl hyl hxy
      obtain ⟨t1, d1, a1, a2⟩ := hdst x _ (List.getElem?_eq_getElem hxl) hxd
      obtain ⟨t2, d2, c1, c2⟩ := hdst y _ (List.getElem?_eq_getElem hyl) hyd
      rw [hx] at a1; injection a1 with a1
      rw [hy] at c1; injection c1 with c1
      simp only [chkPair, List.getElem?_eq_getElem hxl, List.getElem?_eq_getElem hyl, a2, c2, Bool.and_eq_true, bne_iff_ne, ne_eq, Option.some.injEq] at hc
      rw [a1, c1] at e
      exact hc.1 e.symm
  have hinv : Inv ⟨g, fr, w⟩ ⟨n, restr l o ((ds.take i).reverse ++ tm), bx, fr, (bx.length, fr.length)⟩ g a w := by
    refine ⟨hM.size, hM.defers, hM.mem, fun x => ?_, Evo.refl _, by rw [hM.mem.bl]; exact Nat.le_refl _, Nat.le_refl _⟩
    by_cases hx : x ∈ looks l o
    · dsimp only
      rw [look_restr _ hx, ← cur_ready hchk hl hdst hM.closed ho' hn hr (Nat.le_of_lt hids) hx]
      exact hM.tm x
    · dsimp only
      rw [look_restr_far _ hx]
      exact .junk _
  have hrun := hAL.run ⟨g, fr, w⟩ g a w hinv
  -- what such an end gives
  have fin : ∀ a' w', (∃ v, a' = a.put o.dst v) → wpList P l.toArray (conc ⟨g, fr, w⟩ (qp t d bx fr)) [] a' w' → K a' w' := by
    rintro a' w' ⟨v, rfl⟩ h
    obtain ⟨S', g', hi', hq⟩ := h
    obtain ⟨n', tm2, bx2, fr2, ee'⟩ := S'
    have hn' : n' = n := by
      have h1 := hi'.size
      dsimp only at h1
      rw [← h1, ← hM.size]
      cases hd' : o.dst <;> simp [Act.put, hd']
    subst hn'
    obtain ⟨tm3, g', hi', q3⟩ : ∃ tm3 g', Inv ⟨g, fr, w⟩ ⟨n', tm3, bx, fr, (g.ρ.length, fr.length)⟩ g' (a.put o.dst v) w' ∧ look tm3 t = d := by
      rcases hq with ⟨q1, q2, q3⟩ | ⟨q1, q2, q3, q4⟩
      · dsimp only at q1 q2 q3
        subst q1 q2
        exact ⟨tm2, g', ⟨hi'.size, hi'.defers, hi'.mem, hi'.tm, hi'.evo, Nat.le_refl _, Nat.le_refl _⟩, q3⟩
      · dsimp only at q1 q2 q3
        have h1 : Inv ⟨g, fr, w⟩ ⟨n', [(t, d)], bx2, fr2, (g.ρ.length, fr.length)⟩ g' (a.put o.dst v) w' := by
          refine ⟨hi'.size, hi'.defers, hi'.mem, fun x => ?_, hi'.evo, Nat.le_refl _, Nat.le_refl _⟩
          by_cases hx : x = t
          · subst hx
            have := hi'.tm x
            dsimp only at this ⊢
            simp only [look, Nat.beq_refl]
            rcases q3 with q3 | q3
            · rw [← q3]; exact this
            · rw [← q3]; exact this.wk
          · have hb : Nat.beq t x = false := by
              cases hb : Nat.beq t x with
              | false => rfl
              | true => exact (hx (Nat.eq_of_beq_eq_true hb).symm).elim
            simp only [look, hb]
            exact .junk _
        have h2 := h1.cut (k := bx.length) (m := fr.length) (by show g.ρ.length ≤ _; rw [hM.mem.bl]; exact Nat.le_refl _) (Nat.le_refl _) (by simp only [tmLt, q4]) (by rw [q1]; exact hM.mem.allLt)
        rw [q1, q2] at h2
        exact ⟨_, _, h2, by simp [look]⟩
    refine hK g' _ _ ⟨hM.bd, hi'.size, hi'.defers, hi'.mem, hM.evo.trans hi'.evo, fun x => ?_, fun m om hm hlm e he hb => ?_, by simp [hM.len]⟩
    · by_cases hx : x = t
      · subst hx
        rw [cur_at hN hl e1, if_pos (by simp [hM.len, hil])]
        have := hi'.tm x
        dsimp only at this
        rw [q3] at this
        exact this
      · have hcur : cur l ds tm (listed.setIfInBounds i true) x = cur l ds tm listed x := by
          by_cases hex : ∃ (j : Nat) (d : D), ds[j]? = some (x, d)
          · obtain ⟨j, dj, hj⟩ := hex
            have hne : i ≠ j := fun e => by
              subst e
              rw [e1] at hj; injection hj with hj; injection hj with hj
              exact hx hj.symm
            rw [cur_at hN hl hj, cur_at hN hl hj, getD_set_ne false hne]
          · have hno : ∀ (j : Nat) (p : Nat × D), ds[j]? = some p → p.1 ≠ x := fun j p hj e => hex ⟨j, p.2, by rw [hj, ← e]⟩
            rw [cur_far hno, cur_far hno]
        rw [hcur]
        have htm : (a.put o.dst v).tmps.getD x undef = a.tmps.getD x undef := by
          rw [e2]
          simp [Act.put, Array.getD_getElem?, Array.getElem?_setIfInBounds_ne (Ne.symm hx)]
        rw [htm]
        exact (hM.tm x).evo hi'.evo
    · by_cases hmi : m = i
      · subst hmi
        rw [ho'] at hm; injection hm with hm; subst hm
        exact getD_set_true (hr e he hb)
      · rw [getD_set_ne false (Ne.symm hmi)] at hlm
        exact getD_set_true (hM.closed m om hm hlm e he hb)
  unfold wpOp
  simp only [ho]
  unfold wpList at hrun
  by_cases hw : Region.wanted o (yielded l.toArray a.tmps) = true
  · rw [if_pos hw] at hrun
    rw [if_pos hw]
    have hL : LetsOut (conc ⟨g, fr, w⟩ (qp t d bx fr)) → False := fun ⟨_, _, h⟩ => h
    rcases hrun with hrun | ⟨_, hlo⟩
    · refine .inl ?_
      have := upon_put (Q2 := Q2) hrun hM.defers (fun a w h => by obtain ⟨S', g', hi', _⟩ := h; exact hi'.defers) (fun c a w h => by obtain ⟨_, _, _, _, _, _, _, hq⟩ := h; exact hq) hL
      exact Oper.wp_mono (P := P) (fun a' w' h => fin a' w' h.1 h.2) this
    · exact (hL hlo).elim
  · rw [if_neg hw] at hrun
    rw [if_neg hw]
    exact fin _ _ ⟨undef, rfl⟩ hrun
/-- the slots when all that the list says is done -/
theorem mid_all [Known] [Dfr] {l : List Oper} {ds : List (Nat × D)} {listed : Array Bool} (hchk : chkDraw l = true) (hl : ds.length ≤ l.length) (hdst : ∀ (i : Nat) (o : Oper), l[i]? = some o → i < ds.length → ∃ t d, ds[i]? = some (t, d) ∧ o.dst = some t)
    (hM : Mid b0 ee n tm bx fr l ds listed g a w) (hall : ∀ i, i < ds.length → listed.getD i false = true) : Inv b0 ⟨n, ds.reverse ++ tm, bx, fr, ee⟩ g a w := by
  have hN : ∀ (i j : Nat) (p q : Nat × D), ds[i]? = some p → ds[j]? = some q → p.1 = q.1 → i = j := fun x y p q hx hy e => by
    by_cases hxy : x = y
    · exact hxy
    · exfalso
      have hxd := (List.getElem?_eq_some_iff.1 hx).1
      have hxl : x < l.length := Nat.lt_of_lt_of_le hxd hl
      have hyd := (List.getElem?_eq_some_iff.1 hy).1
      have hyl : y < l.length := Nat.lt_of_lt_of_le hyd hl
      have hc := chk_get hchk hxl hyl hxy
      obtain ⟨t1, d1, a1, a2⟩ := hdst x _ (List.getElem?_eq_getElem hxl) hxd
      obtain ⟨t2, d2, c1, c2⟩ := hdst y _ (List.getElem?_eq_getElem hyl) hyd
      rw [hx] at a1; injection a1 with a1
      rw [hy] at c1; injection c1 with c1
      simp only [chkPair, List.getElem?_eq_getElem hxl, List.getElem?_eq_getElem hyl, a2, c2, Bool.and_eq_true, bne_iff_ne, ne_eq, Option.some.injEq] at hc
      rw [a1, c1] at e
      exact hc.1 e.symm
  refine ⟨hM.size, hM.defers, hM.mem, fun x => ?_, hM.evo, hM.bd⟩
  have hx := hM.tm x
  have hc : cur l ds tm listed x = look (ds.reverse ++ tm) x := by
    rw [look_append]
    by_cases hex : ∃ (j : Nat) (d : D), ds[j]? = some (x, d)
    · obtain ⟨j, dj, hj⟩ := hex
      have hjl := (List.getElem?_eq_some_iff.1 hj).1
      rw [cur_at hN hl hj, if_pos (hall j hjl), if_pos (by simp only [List.map_reverse, List.mem_reverse]; exact List.mem_map.2 ⟨(x, dj), List.mem_of_getElem? hj, rfl⟩)]
      have hN' : ∀ (x y : Nat) (p q : Nat × D), ds.reverse[x]? = some p → ds.reverse[y]? = some q → p.1 = q.1 → x = y := fun x y p q hx hy e => by
        have lx := (List.getElem?_eq_some_iff.1 hx).1
        have ly := (List.getElem?_eq_some_iff.1 hy).1
        rw [List.getElem?_reverse (by simpa using lx)] at hx
        rw [List.getElem?_reverse (by simpa using ly)] at hy
        have := hN _ _ p q hx hy e
        simp at lx ly
        omega
      refine (look_at hN' (i := ds.length - 1 - j) ?_).symm
      rw [List.getElem?_reverse (by omega), show ds.length - 1 - (ds.length - 1 - j) = j from by omega]
      exact hj
    · have hno : ∀ (j : Nat) (p : Nat × D), ds[j]? = some p → p.1 ≠ x := fun j p hj e => hex ⟨j, p.2, by rw [hj, ← e]⟩
      rw [cur_far hno, if_neg (fun hm => by
        simp only [List.map_reverse, List.mem_reverse] at hm
        obtain ⟨p, hp, he⟩ := List.mem_map.1 hm
        obtain ⟨y, hy⟩ := List.getElem?_of_mem hp
        exact hno y p hy he)]
  rw [← hc]; exact hx
theorem ready_none {l : List Oper} {listed : Array Bool} (hs : listed.size = l.length) (h0 : left l listed = 0) : Region.ready .any l.toArray listed = [] := by
  apply List.eq_nil_iff_forall_not_mem.2
  intro i hi
  obtain ⟨hn0, o, ho, _⟩ := mem_ready.1 hi
  have ho' : l[i]? = some o := by simpa using ho
  have hil : i < l.length := (List.getElem?_eq_some_iff.1 ho').1
  have := left_zero h0 hil
  have hlt : i < listed.size := by rw [hs]; exact hil
  simp [hlt] at hn0 this
  rw [hn0] at this; cases this
/-- from the m-th operation on each comes behind all that stand ahead of it -/
def chkChain (l : List Oper) (m : Nat) : Bool := (List.range l.length).all fun j => decide (j < m) || (List.range j).all fun i => up (masks [] l) j i
theorem chkChain_get {l : List Oper} {m : Nat} (h : chkChain l m = true) {i j : Nat} (hm : m ≤ j) (hj : j < l.length) (hi : i < j) : up (masks [] l) j i = true := by
  have h1 := List.all_eq_true.1 h j (List.mem_range.2 hj)
  rw [Bool.or_eq_true] at h1
  rcases h1 with h1 | h1
  · have := of_decide_eq_true h1; omega
  · exact List.all_eq_true.1 h1 i (List.mem_range.2 hi)
theorem left_eq {l : List Oper} {listed : Array Bool} {j : Nat} (h : ∀ i, i < l.length → (listed.getD i false = true ↔ i < j)) : left l listed = l.length - j := by
  unfold left
  have h2 : (List.range l.length).countP (fun i => !listed.getD i false) = (List.range l.length).countP (fun i => decide (j ≤ i)) := by
    apply List.countP_congr
    intro i hi
    have := h i (List.mem_range.1 hi)
    cases hb : listed.getD i false with
    | true => rw [hb] at this; have := this.1 rfl; simp; omega
    | false => rw [hb] at this; simp at this ⊢; omega
  rw [h2]
  generalize l.length = n
  induction n with
  | zero => simp
  | succ n ih =>
    rw [List.range_succ, List.countP_append, ih]
    simp only [List.countP_cons, List.countP_nil, decide_eq_true_eq, Nat.zero_add]
    split <;> omega
theorem chain_run {l : List Oper} {m : Nat} {R : Exit → Act → World → Prop} (hE : chkE l = true) (hch : chkChain l m = true) : ∀ (fuel j : Nat) (listed : Array Bool) (a : Act) (w : World), j + fuel = l.length → m ≤ j → listed.size = l.length → (∀ i, i < l.length → (listed.getD i false = true ↔ i < j)) → wpList P l.toArray R (l.drop j) a w → wpAny P .any l.toArray R fuel listed a w := by
  intro fuel
  induction fuel with
  | zero =>
    intro j listed a w hj hm hs hl h
    refine ⟨ready_none hs (by rw [left_eq hl]; omega), ?_⟩
    rw [List.drop_of_length_le (by omega)] at h
    exact h
  | succ fuel ih =>
    intro j listed a w hj hm hs hl h
    refine ⟨fun he => (ready_ne hE hs (by rw [left_eq hl]; omega) he).elim, fun i hi => ?_⟩
    obtain ⟨hn0, o, ho, hr⟩ := mem_ready.1 hi
    have ho' : l[i]? = some o := by simpa using ho
    have hil : i < l.length := (List.getElem?_eq_some_iff.1 ho').1
    have hlt : i < listed.size := by rw [hs]; exact hil
    have hn : ¬ listed.getD i false = true := by simp [hlt] at hn0 ⊢; exact hn0
    have hge : j ≤ i := Nat.le_of_not_lt fun h => hn ((hl i hil).2 h)
    have hcl : ∀ (m : Nat) (o : Oper), l[m]? = some o → listed.getD m false = true → ∀ e ∈ o.after, Region.binds .any e = true → listed.getD e.on false = true := fun x ox hx hlx e he hb => by
      have hxl := (List.getElem?_eq_some_iff.1 hx).1
      have h1 := chkE_get hE hx e he hb
      have h2 := (hl x hxl).1 hlx
      exact (hl e.on (by omega)).2 (by omega)
    have hij : i = j := by
      rcases Nat.lt_or_ge j i with h | h
      · exfalso
        have := mem_up hcl i o ho' hr j (chkChain_get hch (by omega) hil h)
        have := (hl j (by omega)).1 this
        omega
      · omega
    subst hij
    rw [List.drop_eq_getElem_cons hil, show l[i] = o from (List.getElem?_eq_some_iff.1 ho').2] at h
    have hK : ∀ a' w', wpList P l.toArray R (l.drop (i + 1)) a' w' → wpAny P .any l.toArray R fuel (listed.setIfInBounds i true) a' w' := fun a' w' h => ih (i + 1) _ a' w' (by omega) (by omega) (by simp [hs]) (fun x hx => by
      by_cases e : x = i
      · subst e; simp [hlt]
      · rw [getD_set_ne false (Ne.symm e), hl x hx]; omega) h
    unfold wpOp
    simp only [ho]
    unfold wpList at h
    by_cases hw : Region.wanted o (yielded l.toArray a.tmps) = true
    · rw [if_pos hw] at h
      rw [if_pos hw]
      rcases h with h | h
      · exact .inl (Oper.wp_mono hK h)
      · exact .inr h
    · rw [if_neg hw] at h
      rw [if_neg hw]
      exact hK _ _ h
theorem AW_drawA [Known] [Dfr] {id m : Nat} {l acts : List Oper} (hm : P.follows .mixedOrders = true) (hchk : chkDraw l = true) (hE : chkE l = true) (hch : chkChain l m = true) (hlen : (l.take m).length = m) (hacts : l.drop m = acts) (h : AD P l n bx fr (l.take m) tm tm') (k : AL P l.toArray acts ⟨n, tm', bx, fr, ee⟩ Q) :
    AW P (.region id l.toArray true) ⟨n, tm, bx, fr, ee⟩ Q := by
  obtain ⟨ds, h1, h2, h3⟩ := h.steps
  have hml : m ≤ l.length := by rw [List.length_take] at hlen; omega
  rw [hlen] at h1
  have hl : ds.length ≤ l.length := by omega
  have hst : ∀ (i : Nat) (o : Oper), l[i]? = some o → i < ds.length → ∃ t d, ds[i]? = some (t, d) ∧ o.dst = some t ∧ Nat.blt t n = true ∧ AL P l.toArray [o] ⟨n, restr l o ((ds.take i).reverse ++ tm), bx, fr, (bx.length, fr.length)⟩ (qp t d bx fr) := fun i o ho hi => h3 i o (by rw [List.getElem?_take, if_pos (by omega)]; exact ho)
  have hdst : ∀ (i : Nat) (o : Oper), l[i]? = some o → i < ds.length → ∃ t d, ds[i]? = some (t, d) ∧ o.dst = some t := fun i o h hd => by
    obtain ⟨t, d, h1, h2, _⟩ := hst i o h hd; exact ⟨t, d, h1, h2⟩
  refine ⟨fun b0 g a w hi => wp_region_any hm ?_⟩
  have main : ∀ (fuel : Nat) (listed : Array Bool) (g : G) (a : Act) (w : World), Mid b0 ee n tm bx fr l ds listed g a w → (∀ i, m ≤ i → i < l.length → listed.getD i false = false) → left l listed = fuel → wpAny P .any l.toArray (conc b0 Q) fuel listed a w := by
    intro fuel
    induction fuel with
    | zero =>
      intro listed g a w hM hu h0
      have hall : ∀ i, i < ds.length → listed.getD i false = true := fun i hi => left_zero h0 (by omega)
      have hinv := mid_all hchk hl hdst hM hall
      rw [← h2] at hinv
      have hml' : l.length = m := by
        rcases Nat.lt_or_ge m l.length with h | h
        · have h5 := hu m (Nat.le_refl _) h
          have h6 := left_zero h0 h
          rw [h5] at h6; cases h6
        · omega
      exact chain_run hE hch 0 m listed a w (by omega) (Nat.le_refl _) hM.len (fun i hi => by rw [left_zero h0 hi]; simp; omega) (by rw [hacts]; exact k.run b0 g a w hinv)
    | succ fuel ih =>
      intro listed g a w hM hu hf
      by_cases hall : ∀ i, i < m → listed.getD i false = true
      · have hinv := mid_all hchk hl hdst hM (fun i hi => hall i (by omega))
        rw [← h2] at hinv
        have hls : ∀ i, i < l.length → (listed.getD i false = true ↔ i < m) := fun i hi => by
          rcases Nat.lt_or_ge i m with h | h
          · simp [hall i h, h]
          · rw [hu i h hi]; simp; omega
        refine chain_run hE hch (fuel + 1) m listed a w (by rw [← hf, left_eq hls]; omega) (Nat.le_refl _) hM.len hls (by rw [hacts]; exact k.run b0 g a w hinv)
      refine ⟨fun he => (ready_ne hE hM.len (by omega) he).elim, fun i hi => ?_⟩
      obtain ⟨hn0, o, ho, hr⟩ := mem_ready.1 hi
      have ho' : l[i]? = some o := by simpa using ho
      have hil : i < l.length := (List.getElem?_eq_some_iff.1 ho').1
      have hlt : i < listed.size := by rw [hM.len]; exact hil
      have hn : listed.getD i false = false := by simp [hlt] at hn0 ⊢; exact hn0
      have hleft := left_set hil hM.len hn
      by_cases him : i < m
      · refine mid_step hchk hE hl hst hM hi (by omega) fun g' a' w' hM' => ih _ g' a' w' hM' (fun x hx hxl => ?_) (by omega)
        rw [getD_set_ne false (by omega)]
        exact hu x hx hxl
      · exact (hall fun x hx => mem_up hM.closed i o ho' hr x (chkChain_get hch (by omega) hil (by omega))).elim
  have hsz : l.toArray.size = l.length := by simp
  rw [hsz]
  have hfresh : ∀ i, (Array.replicate l.length false).getD i false = false := fun i => by
    rcases Nat.lt_or_ge i l.length with h | h <;> simp [h]
  refine main l.length _ g a _ ⟨hi.bd, hi.size, hi.defers, hi.mem.drew, hi.evo.trans Evo.drew, fun t => ?_, fun m o hm hl => ?_, by simp⟩ (fun i _ _ => hfresh i) ?_
  · have : cur l ds tm (Array.replicate l.length false) t = look tm t := by
      unfold cur
      have hf : (List.range l.length).find? (fun i => (Array.replicate l.length false).getD i false && ((ds[i]?).map (·.1) == some t)) = none := by
        apply List.find?_eq_none.2
        intro i _
        rw [hfresh]; simp
      rw [hf]
    rw [this]
    exact (hi.tm t).drew
  · rw [hfresh] at hl; cases hl
  · unfold left
    rw [List.countP_eq_length.2 (fun i _ => by rw [hfresh]; rfl), List.length_range]
/-- a drawn region: the first m operations in any order, the others behind them in turn -/
theorem AW_drawM [Known] [Dfr] {id : Nat} (m : Nat) {l acts : List Oper} (hm : P.follows .mixedOrders = true) (hch : chkChain l m = true) (hchk : chkDraw l = true) (hE : chkE l = true) (hlen : Nat.beq (l.take m).length m = true) (hacts : nfl (l.drop m) = some acts) (h : AD P l n bx fr (l.take m) tm tm') (k : AL P l.toArray acts ⟨n, tm', bx, fr, ee⟩ Q) :
    AW P (.region id l.toArray true) ⟨n, tm, bx, fr, ee⟩ Q := AW_drawA hm hchk hE hch (Nat.eq_of_beq_eq_true hlen) (nfl_eq hacts) h k
end
end Go.Av
end
/- From the form's own reading of arguments to trees; from a contract over abstract states to the row's walk. -/
section
open Go.RowKit Go.Pl
namespace Go.Av
set_option linter.unusedSimpArgs false
set_option linter.unusedVariables false
section
variable {P : Program} {Q : X → St → Prop} {n : Nat} {ee : Nat × Nat} {tm : List (Nat × D)} {bx bx' : List (List D)} {fr fr' : List Fr} {b0 : Bs} {g : G} {w : World} {a : Act} {T : Tab}
variable {ops : Array Oper} {rest : List Oper} {t ty : Nat} {pos : String} {after : Array Edge}
theorem parts_of {parts : Array (Nat × Operand)} {len : Nat} (h : parts.toList.map (·.1) = List.range len) : parts = (((parts.toList.map (·.2)).zipIdx 0).map fun q => (q.2, q.1)).toArray ∧ (parts.toList.map (·.2)).length = len := by
  have hl : parts.toList.length = len := by have := congrArg List.length h; simpa using this
  refine ⟨?_, by simpa using hl⟩
  apply Array.ext'
  apply List.ext_getElem?
  intro i
  simp only [List.getElem?_map, List.getElem?_zipIdx, Nat.zero_add]
  cases hi : parts.toList[i]? with
  | none => simp
  | some p =>
    have h1 : (parts.toList.map (·.1))[i]? = some p.1 := by simp [hi]
    rw [h] at h1
    obtain ⟨q1, q2⟩ := List.getElem?_eq_some_iff.1 h1
    simp at q2
    simp [q2]
/-- a slice built of parts -/
theorem AL_bs [Known] [Dfr] (hT : chk P T = true) {st len e : Nat} {ds : List D} {es : List E} {ti te : Ti} {m : Nat} {parts : Array (Nat × Operand)} (ht : tl T st = some ti) (hk : ti.kd = .slice e) (hte : tl T e = some te) (hp : parts.toList.map (·.1) = List.range len)
    (hds : nfs (parts.toList.map fun p => ev tm p.2) = some ds) (hes : D.toEl ds = some es) (hU : uniB te.size es = true) (hpos : Nat.blt 0 te.size = true) (hsm : Nat.ble (len * te.size) 16777216 = true) (hm : fr.length = m) (hf : nfl (fr ++ [⟨len, te.size, e⟩]) = some fr') (htd : Nat.blt t n = true)
    (k : AL P ops rest ⟨n, (t, .sl (.own m) es) :: tm, bx, fr', ee⟩ Q) : AL P ops (⟨some t, .buildSlice st len parts, ty, pos, after, none⟩ :: rest) ⟨n, tm, bx, fr, ee⟩ Q := by
  obtain ⟨h1, h2⟩ := parts_of hp
  exact AL_buildSlice hT ht hk hte h1 (by rw [h2]; exact Nat.beq_refl len) (by rw [List.map_map]; exact hds) hes hU hpos hsm hm hf htd k
end
theorem res_n {P : Program} {S : St} {T : Tab} (hT : chk P T = true) {a t b o : Nat} {cs cs' : List D} {ti : Ti} (h : look S.tm a = .ptr b o) (ht : tl T t = some ti) (ha : ti.kd.agg = true) (hx : S.bx[b]? = some cs) (ho : Nat.ble (o + ti.size) cs.length = true) (hd : nfs ((cs.drop o).take ti.size) = some cs') : ResOk P S (.cell a t) (.agg cs') :=
  .celln a t b o ti.size cs _ h (by rw [(tl_ok hT ht).tAgg, ha]) (tl_ok hT ht).tSize hx ho (by rw [nfs_eq hd])
theorem res_1 {P : Program} {S : St} {T : Tab} (hT : chk P T = true) {a t b o : Nat} {cs : List D} {d : D} {ti : Ti} (h : look S.tm a = .ptr b o) (ht : tl T t = some ti) (ha : ti.kd.agg = false) (hx : S.bx[b]? = some cs) (hd : cs[o]? = some d) : ResOk P S (.cell a t) d :=
  .cell1 a t b o cs d h (by rw [(tl_ok hT ht).tAgg, ha]) hx hd
theorem AD_cons [Known] [Dfr] {P : Program} {l : List Oper} {n : Nat} {bx : List (List D)} {fr : List Fr} {o : Oper} {rest : List Oper} {t : Nat} {d : D} {tm tm' tm2 : List (Nat × D)} (hd : o.dst = some t) (ht : Nat.blt t n = true) (h2 : nfl (restr l o tm) = some tm2)
    (h : AL P l.toArray [o] ⟨n, tm2, bx, fr, (bx.length, fr.length)⟩ (qp t d bx fr)) (k : AD P l n bx fr rest ((t, d) :: tm) tm') : AD P l n bx fr (o :: rest) tm tm' :=
  .cons o rest t d tm tm' hd ht (by rw [nfl_eq h2]; exact h) k
theorem AP.ext [Known] {P : Program} {f : FuncId} {args : List D} {d d' : D} {frs : List Fr} (h : AP P f args d frs) (hd : nf (d.ren (idx []) (idx [])) = some d') : AP P f args d' [] := by
  refine ⟨fun g w vs hm hl hv => (h.run g w vs hm hl hv).mono fun e w' ⟨g', bx', fr', r, h1, h2, h3, h4, h5, h6⟩ => ?_⟩
  subst h4 h5 h6
  obtain ⟨v, rfl, hv⟩ := h3
  refine ⟨g'.sel [] [], [], [], .ret d', ?_, by simpa [selB, selF] using h2.sel (okSel_nil _) (okSel_nil _), ⟨v, rfl, ?_⟩, rfl, rfl, rfl⟩
  · have := h1.sel h2 (okSel_nil _) (okSel_nil _) (fun i hi => by rw [hm.bl] at hi; simp at hi) (fun i hi => by simp at hi)
    simpa [selF] using this
  · have := hv.sel h2 (okSel_nil _) (okSel_nil _)
    rw [nf_eq hd] at this
    simpa [selF] using this
/-- a contract said of worlds: nothing old is touched -/
theorem AP.of0 [Known] {P : Program} {f : FuncId} {b : Bool} (h : ∀ w, Calls P f #[] w fun e w' => e = .returned (.bool b) ∧ Below w.heap.size w w') : AP P f [] (.bool b) [] := by
  refine ⟨fun g w vs hm hl hv => ?_⟩
  obtain rfl : vs = [] := List.length_eq_zero_iff.1 hl
  have hρ : g.ρ = [] := List.length_eq_zero_iff.1 hm.bl
  have hτ : g.τ = [] := List.length_eq_zero_iff.1 hm.tl
  refine (h w).mono fun e w' ⟨he, hb⟩ => ⟨g, [], [], .ret (.bool b), ?_, ?_, ⟨.bool b, he, .bool b⟩, rfl, rfl, rfl⟩
  · exact ⟨hb.os, hb.tape, hb.output, hb.size, fun k hk _ => hb.block k hk, fun _ _ h => h, fun k o hk => World.cell?_of_block (hb.block k (hm.Clt k o hk)), fun _ _ h => .inl h, fun _ _ h => h, fun _ h => .inl h, fun _ c h => .inl ⟨c, h⟩, fun i f h => by simp at h⟩
  · exact ⟨hm.bl, fun i k cs h => by simp [hρ] at h, hm.bC, hm.bN, hm.tl, fun i k c f h => by simp [hτ] at h, hm.tN, hm.tρ, fun k o hk => Nat.lt_of_lt_of_le (hm.Clt k o hk) hb.size, ⟨fun k cs hk j v hv => ⟨(hm.gl.1 k cs hk j v hv).1, (World.cell?_of_block (hb.block k (hm.Clt k j (hm.gl.1 k cs hk j v hv).1))).trans (hm.gl.1 k cs hk j v hv).2⟩, fun k t hk => ⟨(hm.gl.2 k t hk).1, (hm.gl.2 k t hk).2.imp fun v hv => (World.cell?_of_block (hb.block k (hm.Clt k 0 (hm.gl.2 k t hk).1))).trans hv⟩⟩⟩
/-! ### tokens let go -/
/-- a contract whose result is said without tokens -/
theorem AP.weak [Known] {P : Program} {f : FuncId} {args : List D} {d : D} (h : AC P f args [] [] fun r bx fr => ∃ d0, r = .ret d0 ∧ d0.wk = d ∧ bx = [] ∧ fr = []) : AP P f args d [] := by
  refine ⟨fun g w vs hm hl hv => (h.run g w vs hm hl hv).mono fun e w' ⟨g', bx', fr', r, h1, h2, h3, d0, h4, h5, h6, h7⟩ => ?_⟩
  subst h4 h5 h6 h7
  obtain ⟨v, rfl, hv⟩ := h3
  exact ⟨g', [], [], .ret d0.wk, h1, h2, ⟨v, rfl, hv.wk⟩, rfl, rfl, rfl⟩
theorem endW {P : Program} {rs : List ResultVar} {S : St} {d d' : D} {ds : List D} (h : ResL P S rs ds) (hn : nf (((ret1 ds).ren (idx []) (idx [])).wk) = some d') (hd : d' = d) :
    fnPost P rs 0 0 (fun r bx fr => ∃ d0, r = .ret d0 ∧ d0.wk = d ∧ bx = [] ∧ fr = []) .ret S :=
  ⟨ds, [], [], h, okSel_nil _, okSel_nil _, fun i h => by omega, fun i h => by omega, _, rfl, by rw [nf_eq hn, hd], rfl, rfl⟩
/-! ### loops -/
/-- what a round hands on: slots as said, later variables let go -/
structure Lands (J : Nat → List (Nat × D) → List (List D) → List Fr → Prop) (n : Nat) (ee : Nat × Nat) (k : Nat) (S : St) : Prop where
  out : ∃ m tm bx fr, m < k ∧ J m tm bx fr ∧ S.n = n ∧ S.e = ee ∧ Sub S.tm tm ∧ nfb (S.bx.take bx.length) = some bx ∧ nfl (S.fr.take fr.length) = some fr ∧ Nat.ble ee.1 bx.length = true ∧ Nat.ble ee.2 fr.length = true ∧ tmLt bx.length fr.length tm = true ∧ allLt bx.length fr.length bx = true
theorem Lands.mk' {J : Nat → List (Nat × D) → List (List D) → List Fr → Prop} {n k m : Nat} {ee : Nat × Nat} {tm0 tm : List (Nat × D)} {bx0 bx : List (List D)} {fr0 fr : List Fr} (hm : m < k) (hJ : J m tm bx fr) (hs : Sub tm0 tm) (hbx : nfb (bx0.take bx.length) = some bx) (hfr : nfl (fr0.take fr.length) = some fr)
    (h1 : Nat.ble ee.1 bx.length = true) (h2 : Nat.ble ee.2 fr.length = true) (h3 : tmLt bx.length fr.length tm = true) (h4 : allLt bx.length fr.length bx = true) : Lands J n ee k ⟨n, tm0, bx0, fr0, ee⟩ := ⟨m, tm, bx, fr, hm, hJ, rfl, rfl, hs, hbx, hfr, h1, h2, h3, h4⟩
theorem Lands.inv [Known] [Dfr] {J : Nat → List (Nat × D) → List (List D) → List Fr → Prop} {n k : Nat} {ee : Nat × Nat} {S : St} (h : Lands J n ee k S) {b0 : Bs} {g : G} {a : Act} {w : World} (hi : Inv b0 S g a w) : ∃ m, m < k ∧ ∃ tm bx fr g', J m tm bx fr ∧ Inv b0 ⟨n, tm, bx, fr, ee⟩ g' a w := by
  obtain ⟨m, tm, bx, fr, h1, h2, h3, h4, h5, h6, h7, h8, h9, h10, h11⟩ := h.out
  obtain ⟨n', tm', bx', fr', ee'⟩ := S
  dsimp only at h3 h4 h5 h6 h7
  subst h3 h4
  have e1 := nfb_eq h6
  have e2 := nfl_eq h7
  have := (hi.sub h5).cut (k := bx.length) (m := fr.length) (Nat.le_of_ble_eq_true h8) (Nat.le_of_ble_eq_true h9) h10 (by rw [e1]; exact h11)
  rw [e1, e2] at this
  exact ⟨m, h1, tm, bx, fr, _, h2, this⟩
/-- a loop: J tells, for so many rounds at most that are left, the slots and variables -/
theorem AW_loopJ [Known] [Dfr] {P : Program} {Q : X → St → Prop} {c : Code} {n : Nat} {ee : Nat × Nat} {tm0 : List (Nat × D)} {bx0 : List (List D)} {fr0 : List Fr} (J : Nat → List (Nat × D) → List (List D) → List Fr → Prop)
    (k0 : Nat) (h0 : Lands J n ee k0 ⟨n, tm0, bx0, fr0, ee⟩) (hr : ∀ k tm bx fr, J k tm bx fr → AW P c ⟨n, tm, bx, fr, ee⟩ (X.then (Lands J n ee k) Q)) : AW P (.loop c) ⟨n, tm0, bx0, fr0, ee⟩ Q := by
  refine ⟨fun b0 g a w hi => ?_⟩
  obtain ⟨m, _, tm, bx, fr, g', hJ, hi'⟩ := h0.inv hi
  refine wp_loop_ghost (fun k a w => ∃ tm bx fr g, J k tm bx fr ∧ Inv b0 ⟨n, tm, bx, fr, ee⟩ g a w) m ⟨tm, bx, fr, g', hJ, hi'⟩ fun k a w hI => ?_
  obtain ⟨tm, bx, fr, g, hJ, hi⟩ := hI
  refine wp_mono ((hr k tm bx fr hJ).run b0 g a w hi) fun e a w hc => ?_
  cases e <;> simp only [conc, X.then, Exit.then] at hc ⊢
  · obtain ⟨S', g', hi', hL⟩ := hc
    obtain ⟨m, hm, tm, bx, fr, g', hJ, hi'⟩ := hL.inv hi'
    exact ⟨m, hm, tm, bx, fr, g', hJ, hi'⟩
  all_goals exact hc
/-! ### the outside -/
def g0 (W : World) : G := ⟨fun b _ => b < W.heap.size, [], []⟩
theorem mem0 [Known] {W : World} (hg : Gls (g0 W).C W) : Mem (g0 W) [] [] W where
  bl := rfl
  bat i blk cs h := by simp [g0] at h
  bC blk o h := by simp [g0] at h
  bN i j b h := by simp [g0] at h
  tl := rfl
  tat i blk cap f h := by simp [g0] at h
  tN i j b c c' h := by simp [g0] at h
  tρ b c h := by simp [g0] at h
  Clt b o h := h
  gl := hg
/-- a law that holds: the row's walk -/
theorem topG [Known] {P : Program} {f : FuncId} {args : List D} (h : AC P f args [] [] fun r _ _ => r = .ret (.bool true)) {W : World} {vs : List Value} (hg : Gls (g0 W).C W) (hl : vs.length = args.length) (hv : ∀ (j : Nat) (d : D) (v : Value), args[j]? = some d → vs[j]? = some v → V W (g0 W) [] d v) :
    Calls P f vs.toArray W fun e w' => e = .returned (.bool true) ∧ Below W.heap.size W w' :=
  (h.run (g0 W) W vs (mem0 hg) hl hv).mono fun e w' ⟨g', bx', fr', r, he, _, hr, hp⟩ => by
    subst hp
    obtain ⟨v, rfl, hv⟩ := hr
    refine ⟨by rw [hv.bool_inv], he.os, he.tape, he.output, he.size, fun k hk => he.block k hk fun hM => ?_⟩
    rcases hM with h | ⟨c, h⟩ <;> simp [g0] at h
/-- where no package-level variable is asked for -/
theorem gls0 [Known] {C : Nat → Nat → Prop} {w : World} (h1 : Known.ks = []) : Gls C w := ⟨fun k cs h => (by rw [h1] at h; cases h.1), fun k t h => (by rw [h1] at h; cases h.1)⟩
/-- what cells read as is a tree's -/
structure ToE {α : Type} (R : Rep α) (f : α → E) : Prop where
  cells : ∀ (w : World) (S : Nat → Prop) (C : Nat → Nat → Prop) (cs : List Value) (x : α), (∀ k, S k → ∀ o, C k o) → R.ok w S cs x → cs.length = (f x).cells.length ∧ ∀ (j : Nat) (e : E) (v : Value), (f x).cells[j]? = some e → cs[j]? = some v → VE w C e v
theorem one_cell {w : World} {C : Nat → Nat → Prop} {u : Value} {e0 : E} (he : e0.cells = [e0]) (hv : VE w C e0 u) : [u].length = e0.cells.length ∧ ∀ (j : Nat) (e : E) (v : Value), e0.cells[j]? = some e → [u][j]? = some v → VE w C e v := by
  rw [he]
  refine ⟨rfl, fun j e v h1 h2 => ?_⟩
  cases j with
  | zero => simp at h1 h2; subst h1 h2; exact hv
  | succ j => simp at h1
theorem ToE.i64 : ToE Rep.i64 (.int .i64) := ⟨fun w S C cs x _ h => by obtain ⟨rfl, _⟩ := h; exact one_cell rfl (.int _ _)⟩
theorem ToE.u64 : ToE Rep.u64 (fun n => .int .u64 (n : Int)) := ⟨fun w S C cs x _ h => by obtain ⟨rfl, _⟩ := h; exact one_cell rfl (.int _ _)⟩
theorem ToE.byte : ToE Rep.byte E.byte := ⟨fun w S C cs x _ h => by cases h; exact one_cell rfl (.int _ _)⟩
theorem ToE.bool : ToE Rep.bool .bool := ⟨fun w S C cs x _ h => by cases h; exact one_cell rfl (.bool _)⟩
theorem ToE.str : ToE Rep.str .str := ⟨fun w S C cs x _ h => by obtain ⟨rfl, hl⟩ := h; exact one_cell rfl (.str _ hl)⟩
theorem ToE.prod {α β : Type} {R : Rep α} {R' : Rep β} {f : α → E} {f' : β → E} (h : ToE R f) (h' : ToE R' f') : ToE (R.prod R') (fun x => .agg ((f x.1).cells ++ (f' x.2).cells)) := ⟨fun w S C cs x hC hx => by
  obtain ⟨c1, c2, rfl, h1, h2⟩ := hx
  obtain ⟨l1, v1⟩ := h.cells w S C c1 x.1 hC h1
  obtain ⟨l2, v2⟩ := h'.cells w S C c2 x.2 hC h2
  refine ⟨by simp [E.cells, l1, l2], fun j e v he hv => ?_⟩
  have he : ((f x.1).cells ++ (f' x.2).cells)[j]? = some e := he
  rcases Nat.lt_or_ge j c1.length with hj | hj
  · rw [List.getElem?_append_left (by omega)] at he
    rw [List.getElem?_append_left hj] at hv
    exact v1 j e v he hv
  · rw [List.getElem?_append_right (by omega)] at he
    rw [List.getElem?_append_right hj] at hv
    rw [← l1] at he
    exact v2 _ e v he hv⟩
theorem ToE.run {α : Type} {R : Rep α} {f : α → E} (h : ToE R f) {w : World} {S : Nat → Prop} {C : Nat → Nat → Prop} (hC : ∀ k, S k → ∀ o, C k o) : ∀ {l : List α} {cs : List Value}, Run R w S cs l → cs.length = (flat (l.map f)).length ∧ ∀ (j : Nat) (e : E) (v : Value), (flat (l.map f))[j]? = some e → cs[j]? = some v → VE w C e v
  | [], cs, hr => by simp [Run] at hr; subst hr; simp
  | x :: l, cs, hr => by
    obtain ⟨c1, c2, rfl, h1, h2⟩ := hr
    obtain ⟨l1, v1⟩ := h.cells w S C c1 x hC h1
    obtain ⟨l2, v2⟩ := ToE.run h hC h2
    refine ⟨by simp [l1, l2], fun j e v he hv => ?_⟩
    simp only [List.map_cons, flat_cons] at he
    rcases Nat.lt_or_ge j c1.length with hj | hj
    · rw [List.getElem?_append_left (by omega)] at he
      rw [List.getElem?_append_left hj] at hv
      exact v1 j e v he hv
    · rw [List.getElem?_append_right (by omega)] at he
      rw [List.getElem?_append_right hj] at hv
      rw [← l1] at he
      exact v2 _ e v he hv
theorem ToE.sl {α : Type} {R : Rep α} {f : α → E} (h : ToE R f) {w : World} {S : Nat → Prop} {C : Nat → Nat → Prop} (hC : ∀ k, S k → ∀ o, C k o) {v : Value} {l : List α} (hs : Sl R w S v l) : VE w C (.sl (l.map f)) v := by
  obtain ⟨A, cap, rfl, h1, h2, cs, hr, hh⟩ := hs
  by_cases hl : l = []
  · subst hl
    exact .slE A cap h2
  · obtain ⟨g, off, rfl, hS, hc⟩ := hh hl
    obtain ⟨q1, q2⟩ := h.run hC hr
    have := VE.slC (w := w) (C := C) (l.map f) g off cap (fun j => cs.getD j undef) (by simpa using h1) h2 (fun j hj => hC g hS _) (fun j hj => by
      have hj' : j < cs.length := by omega
      rw [hc j hj']; exact getD_some hj') (fun j e he => q2 j e _ he (getD_some (by
        have := (List.getElem?_eq_some_iff.1 he).1; omega)))
    simpa using this
theorem ToE.slice {α : Type} {R : Rep α} {f : α → E} (h : ToE R f) (hR : 0 < R.n) : ToE (Rep.slice R hR) (fun l => .sl (l.map f)) := ⟨fun w S C cs x hC hx => by
  obtain ⟨v, rfl, hs⟩ := hx
  exact one_cell rfl (h.sl hC hs)⟩
/-- an argument of many cells -/
theorem ToE.agg {α : Type} {R : Rep α} {f : α → E} (h : ToE R f) {W : World} {cs : List Value} {x : α} {l : List E} (hf : (f x).cells = l) (hx : R.ok W (· < W.heap.size) cs x) : V W (g0 W) [] (.agg (l.map .ofE)) (.agg cs.toArray) := by
  obtain ⟨h1, h2⟩ := h.cells W _ (g0 W).C cs x (fun k hk o => hk) hx
  rw [hf] at h1 h2
  refine .agg _ cs (by simpa using h1) fun j d v hd hv => ?_
  rw [List.getElem?_map] at hd
  cases hj : l[j]? with
  | none => simp [hj] at hd
  | some e => simp [hj] at hd; subst hd; exact V.ofE (h2 j e v hj hv)
end Go.Av
end
/- Jumps back to a label; slices cut with a bound on their room; slices held against nil. -/
section
open Go.RowKit Go.Pl
namespace Go.Av
set_option linter.unusedSimpArgs false
set_option linter.unusedVariables false
/-- a scope with one label: what holds at the label, and a bound that falls -/
theorem wp_scope_ghost {P : Program} {Q : Exit → Act → World → Prop} {a : Act} {w : World} {c rest : Code} (l : Nat) (J : Nat → Act → World → Prop) (n0 : Nat) (hf : findLabel c l = some rest)
    (first : c.wp P (Exit.jump l (fun a w => ∃ m, m < n0 ∧ J m a w) Q) a w)
    (pass : ∀ n a w, J n a w → rest.wp P (Exit.jump l (fun a' w' => ∃ m, m < n ∧ J m a' w') Q) a w) : (Code.scope c).wp P Q a w := by
  intro b k cs
  have hg : gotoIn l (.inScope c :: k) = some (.code rest :: .inScope c :: k) := by simp [gotoIn, hf]
  have key : ∀ n a w, J n a w → ∃ e a' w', Q e a' w' ∧ Arrives P (lone (b.at a (.code rest :: .inScope c :: k)) cs w) b k cs e a' w' := by
    intro n
    induction n using Nat.strongRecOn with
    | _ n ih =>
      intro a w hJ
      obtain ⟨e, a₁, w₁, hq, harr⟩ := pass n a w hJ b (.inScope c :: k) cs
      cases e with
      | goto l' =>
        obtain ⟨rfl, m, hm, hJ'⟩ := hq
        obtain ⟨e₂, a₂, w₂, hq₂, harr₂⟩ := ih m hm a₁ w₁ hJ'
        exact ⟨e₂, a₂, w₂, hq₂, .of_steps (harr _ hg) harr₂⟩
      | normal => exact ⟨.normal, a₁, w₁, hq, Steps.trans harr (.one step_inScope)⟩
      | exit id => exact ⟨.exit id, a₁, w₁, hq, fun k' hk => harr k' (by simp [exitTo, hk])⟩
      | ret => exact ⟨_, a₁, w₁, hq, harr⟩
      | panic ch => exact ⟨_, a₁, w₁, hq, harr⟩
      | outgrown => exact ⟨_, a₁, w₁, hq, harr⟩
  obtain ⟨e, a₁, w₁, hq, harr⟩ := first b (.inScope c :: k) cs
  cases e with
  | goto l' =>
    obtain ⟨rfl, m, _, hJ'⟩ := hq
    obtain ⟨e₂, a₂, w₂, hq₂, harr₂⟩ := key m a₁ w₁ hJ'
    exact ⟨e₂, a₂, w₂, hq₂, .of_steps (.head step_scope (harr _ hg)) harr₂⟩
  | normal => exact ⟨.normal, a₁, w₁, hq, .head step_scope (Steps.trans harr (.one step_inScope))⟩
  | exit id => exact ⟨.exit id, a₁, w₁, hq, fun k' hk => .head step_scope (harr k' (by simp [exitTo, hk]))⟩
  | ret => exact ⟨_, a₁, w₁, hq, .of_steps (.one step_scope) harr⟩
  | panic ch => exact ⟨_, a₁, w₁, hq, .of_steps (.one step_scope) harr⟩
  | outgrown => exact ⟨_, a₁, w₁, hq, .of_steps (.one step_scope) harr⟩
def X.jump (l : Nat) (K : St → Prop) (Q : X → St → Prop) : X → St → Prop
  | .goto i, S => i = l ∧ K S
  | x, S => Q x S
section
variable {P : Program} {Q : X → St → Prop} {S : St}
theorem jump_goto {l : Nat} {K : St → Prop} (h : K S) : X.jump l K Q (.goto l) S := ⟨rfl, h⟩
theorem jump_norm {l : Nat} {K : St → Prop} (h : Q .norm S) : X.jump l K Q .norm S := h
theorem jump_exit {l i : Nat} {K : St → Prop} (h : Q (.exit i) S) : X.jump l K Q (.exit i) S := h
theorem jump_ret {l : Nat} {K : St → Prop} (h : Q .ret S) : X.jump l K Q .ret S := h
theorem jump_pan {l : Nat} {K : St → Prop} {d : D} (h : Q (.pan d) S) : X.jump l K Q (.pan d) S := h
theorem conc_jump [Known] [Dfr] {b0 : Bs} {l : Nat} {K : St → Prop} {e : Exit} {a : Act} {w : World} (h : conc b0 (X.jump l K Q) e a w) : Exit.jump l (fun a w => ∃ S g, Inv b0 S g a w ∧ K S) (conc b0 Q) e a w := by
  cases e with
  | goto i =>
    obtain ⟨S, g, h1, h2, h3⟩ := h
    exact ⟨h2, S, g, h1, h3⟩
  | _ => exact h
theorem Lands.up {J : Nat → List (Nat × D) → List (List D) → List Fr → Prop} {n k k' : Nat} {ee : Nat × Nat} (h : Lands J n ee k S) (hk : k ≤ k') : Lands J n ee k' S := by
  obtain ⟨m, tm, bx, fr, h1, h2⟩ := h.out
  exact ⟨m, tm, bx, fr, Nat.lt_of_lt_of_le h1 hk, h2⟩
theorem jump_mono {l : Nat} {K K' : St → Prop} (h : ∀ S, K S → K' S) : ∀ x S, X.jump l K Q x S → X.jump l K' Q x S := fun x S hx => by
  cases x with
  | goto i => exact ⟨hx.1, h _ hx.2⟩
  | _ => exact hx
/-- the first pass -/
theorem AW_first [Known] [Dfr] {rest : Code} {n : Nat} {ee : Nat × Nat} {l : Nat} {J : Nat → List (Nat × D) → List (List D) → List Fr → Prop} {k0 : Nat}
    (pass : ∀ k tm bx fr, J k tm bx fr → AW P rest ⟨n, tm, bx, fr, ee⟩ (X.jump l (Lands J n ee k) Q)) (h : Lands J n ee k0 S) : AW P rest S (X.jump l (Lands J n ee k0) Q) := by
  refine ⟨fun b0 g a w hi => ?_⟩
  obtain ⟨m, hm, tm, bx, fr, g', hJ, hi'⟩ := h.inv hi
  exact (AW_mono (pass m tm bx fr hJ) (jump_mono fun S hS => Lands.up hS (Nat.le_of_lt hm))).run b0 g' a w hi'
/-- a scope whose label is come back to: J tells, for so many passes at most that are left, the slots and variables -/
theorem AW_scopeJ [Known] [Dfr] {c rest : Code} {n : Nat} {ee : Nat × Nat} {tm0 : List (Nat × D)} {bx0 : List (List D)} {fr0 : List Fr} (l : Nat) (J : Nat → List (Nat × D) → List (List D) → List Fr → Prop) (k0 : Nat) (hf : findLabel c l = some (.seq .skip rest))
    (pass : ∀ k tm bx fr, J k tm bx fr → AW P rest ⟨n, tm, bx, fr, ee⟩ (X.jump l (Lands J n ee k) Q))
    (first : (∀ S', Lands J n ee k0 S' → AW P rest S' (X.jump l (Lands J n ee k0) Q)) → AW P c ⟨n, tm0, bx0, fr0, ee⟩ (X.jump l (Lands J n ee k0) Q)) : AW P (.scope c) ⟨n, tm0, bx0, fr0, ee⟩ Q := by
  refine ⟨fun b0 g a w hi => ?_⟩
  have key : ∀ (k : Nat) (a : Act) (w : World), (∃ S g, Inv b0 S g a w ∧ Lands J n ee k S) → ∃ m, m < k ∧ ∃ tm bx fr g, J m tm bx fr ∧ Inv b0 ⟨n, tm, bx, fr, ee⟩ g a w := fun k a w ⟨S, g, hi, hL⟩ => by
    obtain ⟨m, hm, tm, bx, fr, g', hJ, hi'⟩ := hL.inv hi
    exact ⟨m, hm, tm, bx, fr, g', hJ, hi'⟩
  refine wp_scope_ghost l (fun k a w => ∃ tm bx fr g, J k tm bx fr ∧ Inv b0 ⟨n, tm, bx, fr, ee⟩ g a w) k0 hf ?_ ?_
  · refine wp_mono ((first fun S' h => AW_first pass h).run b0 g a w hi) fun e a w hc => ?_
    have := conc_jump hc
    cases e with
    | goto i => exact ⟨this.1, key _ a w this.2⟩
    | _ => exact this
  · rintro k a w ⟨tm, bx, fr, g, hJ, hi⟩
    refine wp_mono ((AW_seq' (AW_skip (then_norm (pass k tm bx fr hJ)))).run b0 g a w hi) fun e a w hc => ?_
    have := conc_jump hc
    cases e with
    | goto i => exact ⟨this.1, key _ a w this.2⟩
    | _ => exact this
end
section
variable {P : Program} {Q : X → St → Prop} {n : Nat} {ee : Nat × Nat} {tm : List (Nat × D)} {bx bx' : List (List D)} {fr fr' : List Fr} {b0 : Bs} {g : G} {w : World} {a : Act} {T : Tab}
variable {ops : Array Oper} {rest : List Oper} {t ty : Nat} {pos : String} {after : Array Edge}
/-- is a slice nil? -/
theorem AL_snil [Known] [Dfr] (hT : chk P T = true) {op : BinOp} {x : Operand} {xt yt e : Nat} {tk : Tok} {l : List E} {d : Bool → D} {ti : Ti} (hx : ev tm x = .sl tk l) (ht : tl T xt = some ti) (hk : ti.kd = .slice e) (hd : (match op with | .eql => some (fun b => D.bool b) | .neq => some (fun b => D.bool (!b)) | _ => none) = some d) (htd : Nat.blt t n = true)
    (k : ∀ b : Bool, (l ≠ [] → b = false) → AL P ops rest ⟨n, (t, d b) :: tm, bx, fr, ee⟩ Q) : AL P ops (⟨some t, .binOp op xt x (.const (.slice none 0 0)) yt, ty, pos, after, none⟩ :: rest) ⟨n, tm, bx, fr, ee⟩ Q := by
  refine ⟨fun b0 g a w hi => ?_⟩
  have h1 : V w g fr (ev tm x) (a.eval x) := hi.ev x
  rw [hx] at h1
  obtain ⟨a1, _⟩ := sl_inv h1
  obtain ⟨A, cap, hv, hA⟩ : ∃ A cap, a.eval x = .slice A l.length cap ∧ (l ≠ [] → A.isNone = false) := by
    generalize hq : E.sl l = q at a1
    generalize a.eval x = v at a1
    cases a1 with
    | slC l' b off cap us h1 _ _ _ _ => injection hq with hq; subst hq; exact ⟨_, cap, rfl, fun _ => rfl⟩
    | slE A cap h => injection hq with hq; subst hq; exact ⟨A, cap, rfl, fun h => (h rfl).elim⟩
    | _ => cases hq
  have hu := (tl_ok hT ht).slice hk
  have hrun : (Op.equal xt (.slice A l.length cap) (.slice none 0 0)).run P w = .ok A.isNone w := Go.run_equal_slice_nil w xt e A l.length cap hu
  have hc0 : a.eval (.const (.slice none 0 0)) = .slice none 0 0 := rfl
  refine wpList_plain rfl fun K hK => ?_
  have hex : ∃ v, (execOp a.eval ⟨some t, .binOp op xt x (.const (.slice none 0 0)) yt, ty, pos, after, none⟩).run P w = .ok (.value v) w ∧ V w g fr (d A.isNone) v := by
    cases op <;> simp at hd <;> subst hd <;> first | exact ⟨.bool A.isNone, by simp [execOp, hv, hc0, eqGuard, binOp, Sem.run_bind, hrun], .bool _⟩ | exact ⟨.bool (!A.isNone), by simp [execOp, hv, hc0, eqGuard, binOp, Sem.run_bind, hrun], .bool _⟩
  obtain ⟨v, hr, hvv⟩ := hex
  unfold Oper.wp
  rw [hr]
  exact hK _ _ ((k A.isNone hA).run b0 g _ w (hi.put htd hvv))
/-- a slice cut with a bound on its room -/
theorem AL_slice3 [Known] [Dfr] (hT : chk P T = true) {x lo hh mx : Operand} {st e : Nat} {tk : Tok} {l l2 : List E} {k1 k2 k3 : IntKind} {i j m : Int} {p q r : Nat} {ti te : Ti} (hx : ev tm x = .sl tk l) (ht : tl T st = some ti) (hk : ti.kd = .slice e) (hte : tl T e = some te) (htd : Nat.blt t n = true)
    (hlo : ev tm lo = .int k1 i) (hhi : ev tm hh = .int k2 j) (hmx : ev tm mx = .int k3 m) (hi0 : i = (p : Int)) (hj0 : j = (q : Int)) (hm0 : m = (r : Int)) (hpq : p ≤ q) (hqr : q ≤ r) (hr : r ≤ l.length) (hU : Uni te.size l) (hl2 : (l.take q).drop p = l2)
    (kk : AL P ops rest ⟨n, (t, .sl .ext l2) :: tm, bx, fr, ee⟩ Q) : AL P ops (⟨some t, .slice st x (some lo) (some hh) (some mx), ty, pos, after, none⟩ :: rest) ⟨n, tm, bx, fr, ee⟩ Q :=
  AL_val _ htd (fun g a w hi => by
    subst hi0 hj0 hm0
    have h1 : V w g fr (ev tm x) (a.eval x) := hi.ev x
    rw [hx] at h1
    obtain ⟨a1, _⟩ := sl_inv h1
    have hu := (tl_ok hT ht).slice hk
    have hsz := run_sizeOf (P := P) (t := e) (tl_ok hT hte).tSize w
    obtain ⟨A, cap, hv, hcap, hmax⟩ : ∃ A cap, a.eval x = .slice A l.length cap ∧ l.length ≤ cap ∧ cap ≤ maxLen := by
      generalize hq : E.sl l = q at a1
      generalize a.eval x = v at a1
      cases a1 with
      | slC l' b off cap us h1 h2 _ _ _ => injection hq with hq; subst hq; exact ⟨_, cap, rfl, h1, h2⟩
      | slE A cap h => injection hq with hq; subst hq; exact ⟨A, cap, rfl, Nat.zero_le _, h⟩
      | _ => cases hq
    have v1 := Bnd.val (S := ⟨n, tm, bx, fr, _⟩) hi hlo
    have v2 := Bnd.val (S := ⟨n, tm, bx, fr, _⟩) hi hhi
    have v3 := Bnd.val (S := ⟨n, tm, bx, fr, _⟩) hi hmx
    have b1 : (0 : Int) ≤ (r : Int) ∧ (r : Int) ≤ (cap : Int) := by omega
    have b2 : (0 : Int) ≤ (q : Int) ∧ (q : Int) ≤ (r : Int) := by omega
    have b3 : (0 : Int) ≤ (p : Int) ∧ (p : Int) ≤ (q : Int) := by omega
    have hb : (Instr.sliceBounds true l.length cap (some (.int k1 (p : Int))) (some (.int k2 (q : Int))) (some (.int k3 (r : Int)))).run P w = .ok (p, q, r) w := by
      simp only [Instr.sliceBounds, Instr.sliceBound, asIntOf, Sem.run_bind, Sem.run_pure, Result.andThen_ok, if_pos b1, Int.toNat_natCast, if_pos b2, if_pos b3]
    refine ⟨.slice (if r = p then A else A.map (·.add (p * te.size))) (q - p) (r - p), ?_, ?_⟩
    · have hrun : (Instr.sliceAt st (.slice A l.length cap) (some (.int k1 (p : Int))) (some (.int k2 (q : Int))) (some (.int k3 (r : Int)))).run P w = .ok (.slice (if r = p then A else A.map (·.add (p * te.size))) (q - p) (r - p)) w := by
        simp [Instr.sliceAt, Instr.slice, Sem.run_bind, run_underlying hu, hb, hsz]
      simp only [execOp, hv, v1, v2, v3, Sem.run_bind, Option.map_some, hrun, Result.andThen_ok]
      rfl
    · subst hl2
      have hlen : ((l.take q).drop p).length = q - p := by simp; omega
      refine .sl _ _ _ ?_ trivial
      by_cases he : q - p = 0
      · have hnil : (l.take q).drop p = [] := List.eq_nil_of_length_eq_zero (by rw [hlen]; exact he)
        rw [hnil, he]
        exact .slE _ _ (by omega)
      · have hpc : ¬ r = p := by omega
        rw [if_neg hpc, ← hlen]
        generalize hq' : E.sl l = qq at a1
        rw [hv] at a1
        generalize hs : Value.slice A l.length cap = s at a1
        cases a1 with
        | slC l' b off cap' us h1 h2 hc hw hvv =>
          injection hq' with hq'; subst hq'
          injection hs with e1 _ e3
          subst e1 e3
          have hadd : (⟨b, off, none⟩ : Addr).add (p * te.size) = ⟨b, off + p * te.size, none⟩ := by unfold Addr.add; split <;> simp_all
          simp only [Option.map_some, hadd]
          have hU2 : Uni te.size (l.take q) := hU.sub fun e h => List.mem_of_mem_take h
          have hf : flat ((l.take q).drop p) = ((flat l).take (q * te.size)).drop (p * te.size) := by rw [hU2.drop_flat, hU.take_flat]
          have hfl := hU.flat
          have hql : q * te.size ≤ l.length * te.size := Nat.mul_le_mul_right _ (by omega)
          have hfl2 : (flat ((l.take q).drop p)).length = q * te.size - p * te.size := by rw [hf]; simp; omega
          refine .slC _ b (off + p * te.size) (r - p) (fun j => us (p * te.size + j)) (by omega) (by omega) (fun j hj => by rw [Nat.add_assoc]; exact hc _ (by omega)) (fun j hj => by rw [Nat.add_assoc]; exact hw _ (by omega)) (fun j x hx => hvv _ x ?_)
          have hj := (List.getElem?_eq_some_iff.1 hx).1
          rw [hf, List.getElem?_drop, List.getElem?_take, if_pos (by omega)] at hx
          exact hx
        | slE A cap' h => injection hs with _ e; omega
        | _ => cases hq') kk
/-! ### bytes of a constant text -/
def G.lit (g : G) (w : World) (m : Nat) : G := ⟨fun b o => g.C b o ∨ (b = w.heap.size ∧ o < m), g.ρ, g.τ⟩
/-- a new row, settled whole -/
theorem Mem.lit [Known] (hm : Mem g bx fr w) (cur : List Value) (l : List E) (sz : Nat) (e : TypeId) (mk : Nat × Nat) (hcur : cur.length = l.length * sz) (hcap : l.length ≤ maxLen) (hU : Uni sz l)
    (hv : ∀ (j : Nat) (x : E) (u : Value), (flat l)[j]? = some x → cur[j]? = some u → VE w g.C x u) :
    Evo ⟨g, fr, w⟩ ⟨g.lit w (l.length * sz), fr, w.alloc (.cells cur.toArray e mk)⟩ ∧ Mem (g.lit w (l.length * sz)) bx fr (w.alloc (.cells cur.toArray e mk)) ∧
      V (w.alloc (.cells cur.toArray e mk)) (g.lit w (l.length * sz)) fr (.sl .ext l) (.slice (some ⟨w.heap.size, 0, none⟩) l.length l.length) := by
  have hevo : Evo ⟨g, fr, w⟩ ⟨g.lit w (l.length * sz), fr, w.alloc (.cells cur.toArray e mk)⟩ := by
    refine ⟨rfl, rfl, rfl, by simp, fun k hk _ => Below.heap_alloc w _ k hk, fun _ _ h => .inl h, fun k o h => cell_alloc w _ (hm.Clt k o h) o, fun k o h => ?_, fun _ _ h => h, fun _ h => .inl h, fun k c h => .inl ⟨c, h⟩, TokOn.refl _ _⟩
    rcases h with h | ⟨h, _⟩
    · exact .inl h
    · exact .inr (.inl (by simp [h]))
  have hflat := hU.flat
  refine ⟨hevo, ?_, ?_⟩
  · constructor
    · exact hm.bl
    · intro i k cs h1 h2
      obtain ⟨us, ut, k1, k2, k3⟩ := hm.bat i k cs h1 h2
      exact ⟨us, ut, (Below.heap_alloc w _ k (Array.getElem?_eq_some_iff.1 k1).1).trans k1, k2, fun j d v hd hv => (k3 j d v hd hv).evo hevo⟩
    · intro k o hk hC
      rcases hC with hC | ⟨hC, _⟩
      · exact hm.bC k o hk hC
      · have := hm.lt (.inl hk); omega
    · exact hm.bN
    · exact hm.tl
    · intro i k c f h1 h2
      have hTk := hm.tat i k c f h1 h2
      obtain ⟨cur', s1, s2⟩ := hTk.row
      have hklt := (Array.getElem?_eq_some_iff.1 s1).1
      refine ⟨⟨cur', (Below.heap_alloc w _ k hklt).trans s1, s2⟩, hTk.le, hTk.max, hTk.pos, fun o ho hC => ?_⟩
      rcases hC with hC | ⟨hC, _⟩
      · exact hTk.far o ho hC
      · omega
    · exact hm.tN
    · exact hm.tρ
    · intro k o hC
      rcases hC with hC | ⟨hC, _⟩
      · have := hm.Clt k o hC; simp; omega
      · simp [hC]
    · exact hm.gl.evo hevo
  · refine .sl _ _ _ (.slC l w.heap.size 0 l.length (fun j => cur.getD j undef) (Nat.le_refl _) hcap (fun j hj => .inr ⟨rfl, by rw [hflat] at hj; omega⟩) (fun j hj => ?_) (fun j x hx => ?_)) trivial
    · rw [Nat.zero_add, World.cell?_alloc_mark]
      have : j < cur.length := by omega
      simp [List.getD, this]
    · have hj := (List.getElem?_eq_some_iff.1 hx).1
      have hlt : j < cur.length := by omega
      refine (hv j x _ hx (by rw [List.getElem?_eq_getElem hlt]; simp [List.getD, hlt])).mono (fun _ _ h => .inl h) fun k o h => cell_alloc w _ (hm.Clt k o h) o
/-- []byte("..") of a constant: the row is built, and marked -/
theorem AL_cb [Known] [Dfr] (hT : chk P T = true) {st len e t2 ty2 : Nat} {pos2 : String} {after2 : Array Edge} {ds : List D} {es : List E} {ti te : Ti} {parts : Array (Nat × Operand)} (ht : tl T st = some ti) (hk : ti.kd = .slice e) (hte : tl T e = some te) (hke : te.kd = .int .u8) (hp : parts.toList.map (·.1) = List.range len)
    (hds : nfs (parts.toList.map fun p => ev tm p.2) = some ds) (hes : D.toEl ds = some es) (hU : uniB te.size es = true) (hpos : Nat.blt 0 te.size = true) (hsm : Nat.ble (len * te.size) 16777216 = true) (htd : Nat.blt t n = true) (htd2 : Nat.blt t2 n = true)
    (k : AL P ops rest ⟨n, (t2, .sl .ext es) :: (t, .sl .ext es) :: tm, bx, fr, ee⟩ Q) : AL P ops (⟨some t, .buildSlice st len parts, ty, pos, after, none⟩ :: ⟨some t2, .convert st st (.tmp t), ty2, pos2, after2, none⟩ :: rest) ⟨n, tm, bx, fr, ee⟩ Q := by
  refine ⟨fun b0 g a w hi => ?_⟩
  obtain ⟨h1, h2⟩ := parts_of hp
  obtain ⟨cs, c1, c2, c3, c4, c5⟩ := bs_run (t := t) (ty := ty) (pos := pos) (after := after) hT ht hk hte h1 (by rw [h2]; exact Nat.beq_refl len) (by rw [List.map_map]; exact hds) hes hU hpos hsm hi
  obtain ⟨k1, k2, k3⟩ := hi.mem.lit cs es te.size e (cs.toArray.size, cs.toArray.size + 1) (by rw [c1, c2]) (by rw [c2]; exact c3) (uniB_ok hU) c4
  have hu := (tl_ok hT ht).slice hk
  have hue : P.underlying e = some (.int .u8) := (tl_ok hT hte).int hke
  refine wpList_plain rfl fun K hK => ?_
  unfold Oper.wp
  rw [c5]
  refine hK _ _ ?_
  refine wpList_plain rfl fun K hK => ?_
  have hlt : t < n := by simpa [Nat.blt_eq] using htd
  have hget : (a.put (some t) (.slice (some ⟨w.heap.size, 0, none⟩) len len)).eval (.tmp t) = .slice (some ⟨w.heap.size, 0, none⟩) len len := by
    have hs : a.tmps.size = n := hi.size
    simp [Act.put, Act.eval, hs, hlt]
  have hrun := Lib.run_convert_bytes_const (P := P) w st e cs.toArray len len hu hue
  unfold Oper.wp
  simp only [execOp, hget, hrun, Sem.run_bind, Result.andThen_ok]
  have hi2 : Inv b0 ⟨n, tm, bx, fr, ee⟩ _ a _ := ⟨hi.size, hi.defers, k2, fun t => (hi.tm t).evo k1, hi.evo.trans k1, hi.bd⟩
  subst c2
  exact hK _ _ (k.run b0 _ _ _ ((hi2.put htd k3).put htd2 k3))
end
end Go.Av
end
/- The types of this seat's program, laid open: which kind each is of, its size, its zero. -/
section
open Go.RowKit Go.Pl Go.Av
namespace Go.Proofs.YtnihobjehelagaaDoor
def tt : Tab := [(1, Ti.mk Kd.func 1 8 [ZK.f]) ,
  (2, Ti.mk (Kd.int IntKind.i64) 1 8 [ZK.i IntKind.i64]) ,
  (3, Ti.mk (Kd.int IntKind.i64) 1 8 [ZK.i IntKind.i64]) ,
  (4, Ti.mk Kd.bool 1 1 [ZK.b]) ,
  (5, Ti.mk (Kd.int IntKind.u8) 1 1 [ZK.i IntKind.u8]) ,
  (6, Ti.mk (Kd.int IntKind.u8) 1 1 [ZK.i IntKind.u8]) ,
  (7, Ti.mk (Kd.struct [Av.Fd.mk 0 1 Bool.false 2, Av.Fd.mk 1 1 Bool.false 3, Av.Fd.mk 2 1 Bool.false 4, Av.Fd.mk 3 1 Bool.false 6]) 4 24 [ZK.i IntKind.i64, ZK.i IntKind.i64, ZK.b, ZK.i IntKind.u8]) ,
  (8, Ti.mk (Kd.struct [Av.Fd.mk 0 1 Bool.false 2, Av.Fd.mk 1 1 Bool.false 3, Av.Fd.mk 2 1 Bool.false 4, Av.Fd.mk 3 1 Bool.false 6]) 4 24 [ZK.i IntKind.i64, ZK.i IntKind.i64, ZK.b, ZK.i IntKind.u8]) ,
  (9, Ti.mk Kd.str 1 16 [ZK.s]) ,
  (10, Ti.mk Kd.str 1 16 [ZK.s]) ,
  (11, Ti.mk Kd.str 1 16 [ZK.s]) ,
  (12, Ti.mk (Kd.int IntKind.u64) 1 8 [ZK.i IntKind.u64]) ,
  (13, Ti.mk (Kd.struct [Av.Fd.mk 0 1 Bool.false 9, Av.Fd.mk 1 1 Bool.false 12]) 2 24 [ZK.s, ZK.i IntKind.u64]) ,
  (14, Ti.mk (Kd.struct [Av.Fd.mk 0 1 Bool.false 9, Av.Fd.mk 1 1 Bool.false 12]) 2 24 [ZK.s, ZK.i IntKind.u64]) ,
  (15, Ti.mk (Kd.ptr 219) 1 8 [ZK.p]) ,
  (16, Ti.mk (Kd.ptr 222) 1 8 [ZK.p]) ,
  (17, Ti.mk (Kd.ptr 229) 1 8 [ZK.p]) ,
  (18, Ti.mk (Kd.struct [Av.Fd.mk 0 1 Bool.false 17]) 1 8 [ZK.p]) ,
  (19, Ti.mk (Kd.struct [Av.Fd.mk 0 1 Bool.false 17]) 1 8 [ZK.p]) ,
  (20, Ti.mk Kd.iface 1 16 [ZK.n]) ,
  (21, Ti.mk (Kd.int IntKind.i32) 1 4 [ZK.i IntKind.i32]) ,
  (22, Ti.mk (Kd.int IntKind.u64) 1 8 [ZK.i IntKind.u64]) ,
  (23, Ti.mk (Kd.slice 5) 1 24 [ZK.l]) ,
  (24, Ti.mk (Kd.slice 26) 1 24 [ZK.l]) ,
  (25, Ti.mk (Kd.struct [Av.Fd.mk 0 1 Bool.false 3, Av.Fd.mk 1 1 Bool.false 22, Av.Fd.mk 2 1 Bool.false 23, Av.Fd.mk 3 1 Bool.false 24]) 4 64 [ZK.i IntKind.i64, ZK.i IntKind.u64, ZK.l, ZK.l]) ,
  (26, Ti.mk (Kd.struct [Av.Fd.mk 0 1 Bool.false 3, Av.Fd.mk 1 1 Bool.false 22, Av.Fd.mk 2 1 Bool.false 23, Av.Fd.mk 3 1 Bool.false 24]) 4 64 [ZK.i IntKind.i64, ZK.i IntKind.u64, ZK.l, ZK.l]) ,
  (27, Ti.mk Kd.func 1 8 [ZK.f]) ,
  (28, Ti.mk Kd.func 1 8 [ZK.f]) ,
  (29, Ti.mk (Kd.int IntKind.i64) 1 8 [ZK.i IntKind.i64]) ,
  (31, Ti.mk Kd.func 1 8 [ZK.f]) ,
  (33, Ti.mk Kd.func 1 8 [ZK.f]) ,
  (34, Ti.mk Kd.func 1 8 [ZK.f]) ,
  (35, Ti.mk (Kd.slice 37) 1 24 [ZK.l]) ,
  (36, Ti.mk (Kd.struct [Av.Fd.mk 0 1 Bool.false 3, Av.Fd.mk 1 1 Bool.false 22, Av.Fd.mk 2 1 Bool.false 23, Av.Fd.mk 3 1 Bool.false 35]) 4 64 [ZK.i IntKind.i64, ZK.i IntKind.u64, ZK.l, ZK.l]) ,
  (37, Ti.mk (Kd.struct [Av.Fd.mk 0 1 Bool.false 3, Av.Fd.mk 1 1 Bool.false 22, Av.Fd.mk 2 1 Bool.false 23, Av.Fd.mk 3 1 Bool.false 35]) 4 64 [ZK.i IntKind.i64, ZK.i IntKind.u64, ZK.l, ZK.l]) ,
  (38, Ti.mk Kd.func 1 8 [ZK.f]) ,
  (39, Ti.mk Kd.func 1 8 [ZK.f]) ,
  (40, Ti.mk Kd.func 1 8 [ZK.f]) ,
  (41, Ti.mk Kd.func 1 8 [ZK.f]) ,
  (42, Ti.mk Kd.func 1 8 [ZK.f]) ,
  (43, Ti.mk Kd.func 1 8 [ZK.f]) ,
  (44, Ti.mk Kd.func 1 8 [ZK.f]) ,
  (45, Ti.mk Kd.func 1 8 [ZK.f]) ,
  (46, Ti.mk Kd.func 1 8 [ZK.f]) ,
  (47, Ti.mk Kd.func 1 8 [ZK.f]) ,
  (48, Ti.mk Kd.func 1 8 [ZK.f]) ,
  (49, Ti.mk Kd.func 1 8 [ZK.f]) ,
  (50, Ti.mk (Kd.struct [Av.Fd.mk 0 1 Bool.false 4, Av.Fd.mk 1 1 Bool.false 22, Av.Fd.mk 2 1 Bool.false 22, Av.Fd.mk 3 1 Bool.false 9, Av.Fd.mk 4 1 Bool.false 9]) 5 56 [ZK.b, ZK.i IntKind.u64, ZK.i IntKind.u64, ZK.s, ZK.s]) ,
  (51, Ti.mk (Kd.struct [Av.Fd.mk 0 1 Bool.false 4, Av.Fd.mk 1 1 Bool.false 22, Av.Fd.mk 2 1 Bool.false 22, Av.Fd.mk 3 1 Bool.false 9, Av.Fd.mk 4 1 Bool.false 9]) 5 56 [ZK.b, ZK.i IntKind.u64, ZK.i IntKind.u64, ZK.s, ZK.s]) ,
  (52, Ti.mk (Kd.struct [Av.Fd.mk 0 5 Bool.true 51, Av.Fd.mk 5 1 Bool.false 22, Av.Fd.mk 6 1 Bool.false 22]) 7 72 [ZK.b, ZK.i IntKind.u64, ZK.i IntKind.u64, ZK.s, ZK.s, ZK.i IntKind.u64, ZK.i IntKind.u64]) ,
  (53, Ti.mk (Kd.struct [Av.Fd.mk 0 5 Bool.true 51, Av.Fd.mk 5 1 Bool.false 22, Av.Fd.mk 6 1 Bool.false 22]) 7 72 [ZK.b, ZK.i IntKind.u64, ZK.i IntKind.u64, ZK.s, ZK.s, ZK.i IntKind.u64, ZK.i IntKind.u64]) ,
  (54, Ti.mk Kd.func 1 8 [ZK.f]) ,
  (56, Ti.mk Kd.func 1 8 [ZK.f]) ,
  (58, Ti.mk Kd.func 1 8 [ZK.f]) ,
  (59, Ti.mk Kd.func 1 8 [ZK.f]) ,
  (60, Ti.mk Kd.func 1 8 [ZK.f]) ,
  (61, Ti.mk Kd.func 1 8 [ZK.f]) ,
  (62, Ti.mk Kd.func 1 8 [ZK.f]) ,
  (64, Ti.mk Kd.func 1 8 [ZK.f]) ,
  (66, Ti.mk Kd.func 1 8 [ZK.f]) ,
  (67, Ti.mk Kd.func 1 8 [ZK.f]) ,
  (68, Ti.mk Kd.func 1 8 [ZK.f]) ,
  (69, Ti.mk (Kd.struct [Av.Fd.mk 0 1 Bool.false 4, Av.Fd.mk 1 1 Bool.false 22, Av.Fd.mk 2 1 Bool.false 22, Av.Fd.mk 3 1 Bool.false 9, Av.Fd.mk 4 1 Bool.false 9]) 5 56 [ZK.b, ZK.i IntKind.u64, ZK.i IntKind.u64, ZK.s, ZK.s]) ,
  (71, Ti.mk Kd.func 1 8 [ZK.f]) ,
  (72, Ti.mk Kd.func 1 8 [ZK.f]) ,
  (73, Ti.mk Kd.func 1 8 [ZK.f]) ,
  (74, Ti.mk Kd.func 1 8 [ZK.f]) ,
  (75, Ti.mk Kd.func 1 8 [ZK.f]) ,
  (76, Ti.mk Kd.func 1 8 [ZK.f]) ,
  (77, Ti.mk Kd.func 1 8 [ZK.f]) ,
  (78, Ti.mk (Kd.struct [Av.Fd.mk 0 1 Bool.false 22, Av.Fd.mk 1 1 Bool.false 3, Av.Fd.mk 2 5 Bool.true 51, Av.Fd.mk 7 5 Bool.true 51, Av.Fd.mk 12 1 Bool.false 3, Av.Fd.mk 13 1 Bool.false 3, Av.Fd.mk 14 1 Bool.false 3, Av.Fd.mk 15 1 Bool.false 23, Av.Fd.mk 16 1 Bool.false 22, Av.Fd.mk 17 1 Bool.false 22, Av.Fd.mk 18 1 Bool.false 4]) 19 200 [ZK.i IntKind.u64, ZK.i IntKind.i64, ZK.b, ZK.i IntKind.u64, ZK.i IntKind.u64, ZK.s, ZK.s, ZK.b, ZK.i IntKind.u64, ZK.i IntKind.u64, ZK.s, ZK.s, ZK.i IntKind.i64, ZK.i IntKind.i64, ZK.i IntKind.i64, ZK.l, ZK.i IntKind.u64, ZK.i IntKind.u64, ZK.b]) ,
  (79, Ti.mk (Kd.struct [Av.Fd.mk 0 1 Bool.false 22, Av.Fd.mk 1 1 Bool.false 3, Av.Fd.mk 2 5 Bool.true 51, Av.Fd.mk 7 5 Bool.true 51, Av.Fd.mk 12 1 Bool.false 3, Av.Fd.mk 13 1 Bool.false 3, Av.Fd.mk 14 1 Bool.false 3, Av.Fd.mk 15 1 Bool.false 23, Av.Fd.mk 16 1 Bool.false 22, Av.Fd.mk 17 1 Bool.false 22, Av.Fd.mk 18 1 Bool.false 4]) 19 200 [ZK.i IntKind.u64, ZK.i IntKind.i64, ZK.b, ZK.i IntKind.u64, ZK.i IntKind.u64, ZK.s, ZK.s, ZK.b, ZK.i IntKind.u64, ZK.i IntKind.u64, ZK.s, ZK.s, ZK.i IntKind.i64, ZK.i IntKind.i64, ZK.i IntKind.i64, ZK.l, ZK.i IntKind.u64, ZK.i IntKind.u64, ZK.b]) ,
  (80, Ti.mk Kd.func 1 8 [ZK.f]) ,
  (81, Ti.mk Kd.func 1 8 [ZK.f]) ,
  (83, Ti.mk Kd.func 1 8 [ZK.f]) ,
  (84, Ti.mk Kd.func 1 8 [ZK.f]) ,
  (85, Ti.mk Kd.func 1 8 [ZK.f]) ,
  (86, Ti.mk Kd.func 1 8 [ZK.f]) ,
  (87, Ti.mk Kd.func 1 8 [ZK.f]) ,
  (88, Ti.mk (Kd.struct [Av.Fd.mk 0 1 Bool.false 29]) 1 8 [ZK.i IntKind.i64]) ,
  (89, Ti.mk (Kd.struct [Av.Fd.mk 0 1 Bool.false 29]) 1 8 [ZK.i IntKind.i64]) ,
  (91, Ti.mk (Kd.ptr 93) 1 8 [ZK.p]) ,
  (92, Ti.mk (Kd.struct [Av.Fd.mk 0 1 Bool.false 23, Av.Fd.mk 1 1 Bool.false 3, Av.Fd.mk 2 1 Bool.false 3]) 3 40 [ZK.l, ZK.i IntKind.i64, ZK.i IntKind.i64]) ,
  (93, Ti.mk (Kd.struct [Av.Fd.mk 0 1 Bool.false 23, Av.Fd.mk 1 1 Bool.false 3, Av.Fd.mk 2 1 Bool.false 3]) 3 40 [ZK.l, ZK.i IntKind.i64, ZK.i IntKind.i64]) ,
  (94, Ti.mk Kd.func 1 8 [ZK.f]) ,
  (95, Ti.mk Kd.func 1 8 [ZK.f]) ,
  (96, Ti.mk Kd.func 1 8 [ZK.f]) ,
  (97, Ti.mk Kd.func 1 8 [ZK.f]) ,
  (98, Ti.mk Kd.func 1 8 [ZK.f]) ,
  (99, Ti.mk Kd.func 1 8 [ZK.f]) ,
  (100, Ti.mk (Kd.struct [Av.Fd.mk 0 1 Bool.false 3, Av.Fd.mk 1 1 Bool.false 22, Av.Fd.mk 2 1 Bool.false 4]) 3 24 [ZK.i IntKind.i64, ZK.i IntKind.u64, ZK.b]) ,
  (101, Ti.mk (Kd.struct [Av.Fd.mk 0 1 Bool.false 3, Av.Fd.mk 1 1 Bool.false 22, Av.Fd.mk 2 1 Bool.false 4]) 3 24 [ZK.i IntKind.i64, ZK.i IntKind.u64, ZK.b]) ,
  (102, Ti.mk Kd.func 1 8 [ZK.f]) ,
  (103, Ti.mk (Kd.ptr 149) 1 8 [ZK.p]) ,
  (105, Ti.mk Kd.func 1 8 [ZK.f]) ,
  (106, Ti.mk Kd.func 1 8 [ZK.f]) ,
  (107, Ti.mk Kd.func 1 8 [ZK.f]) ,
  (108, Ti.mk Kd.func 1 8 [ZK.f]) ,
  (109, Ti.mk Kd.func 1 8 [ZK.f]) ,
  (110, Ti.mk Kd.func 1 8 [ZK.f]) ,
  (111, Ti.mk Kd.func 1 8 [ZK.f]) ,
  (112, Ti.mk Kd.func 1 8 [ZK.f]) ,
  (114, Ti.mk Kd.func 1 8 [ZK.f]) ,
  (116, Ti.mk Kd.func 1 8 [ZK.f]) ,
  (118, Ti.mk Kd.func 1 8 [ZK.f]) ,
  (119, Ti.mk Kd.func 1 8 [ZK.f]) ,
  (120, Ti.mk Kd.func 1 8 [ZK.f]) ,
  (121, Ti.mk (Kd.slice 22) 1 24 [ZK.l]) ,
  (123, Ti.mk Kd.func 1 8 [ZK.f]) ,
  (124, Ti.mk Kd.func 1 8 [ZK.f]) ,
  (125, Ti.mk (Kd.ptr 160) 1 8 [ZK.p]) ,
  (126, Ti.mk Kd.func 1 8 [ZK.f]) ,
  (127, Ti.mk Kd.func 1 8 [ZK.f]) ,
  (128, Ti.mk Kd.func 1 8 [ZK.f]) ,
  (129, Ti.mk Kd.func 1 8 [ZK.f]) ,
  (130, Ti.mk Kd.func 1 8 [ZK.f]) ,
  (131, Ti.mk Kd.func 1 8 [ZK.f]) ,
  (132, Ti.mk Kd.func 1 8 [ZK.f]) ,
  (133, Ti.mk (Kd.ptr 165) 1 8 [ZK.p]) ,
  (134, Ti.mk Kd.func 1 8 [ZK.f]) ,
  (135, Ti.mk Kd.func 1 8 [ZK.f]) ,
  (136, Ti.mk Kd.func 1 8 [ZK.f]) ,
  (137, Ti.mk Kd.func 1 8 [ZK.f]) ,
  (138, Ti.mk Kd.func 1 8 [ZK.f]) ,
  (139, Ti.mk Kd.func 1 8 [ZK.f]) ,
  (140, Ti.mk Kd.func 1 8 [ZK.f]) ,
  (141, Ti.mk (Kd.struct [Av.Fd.mk 0 1 Bool.false 3, Av.Fd.mk 1 1 Bool.false 22, Av.Fd.mk 2 1 Bool.false 4]) 3 24 [ZK.i IntKind.i64, ZK.i IntKind.u64, ZK.b]) ,
  (142, Ti.mk Kd.func 1 8 [ZK.f]) ,
  (143, Ti.mk Kd.func 1 8 [ZK.f]) ,
  (144, Ti.mk Kd.func 1 8 [ZK.f]) ,
  (145, Ti.mk Kd.func 1 8 [ZK.f]) ,
  (146, Ti.mk Kd.func 1 8 [ZK.f]) ,
  (147, Ti.mk Kd.func 1 8 [ZK.f]) ,
  (148, Ti.mk (Kd.struct [Av.Fd.mk 0 7 Bool.true 53, Av.Fd.mk 7 1 Bool.false 4]) 8 80 [ZK.b, ZK.i IntKind.u64, ZK.i IntKind.u64, ZK.s, ZK.s, ZK.i IntKind.u64, ZK.i IntKind.u64, ZK.b]) ,
  (149, Ti.mk (Kd.struct [Av.Fd.mk 0 7 Bool.true 53, Av.Fd.mk 7 1 Bool.false 4]) 8 80 [ZK.b, ZK.i IntKind.u64, ZK.i IntKind.u64, ZK.s, ZK.s, ZK.i IntKind.u64, ZK.i IntKind.u64, ZK.b]) ,
  (151, Ti.mk Kd.func 1 8 [ZK.f]) ,
  (152, Ti.mk Kd.iface 1 16 [ZK.n]) ,
  (153, Ti.mk Kd.iface 1 16 [ZK.n]) ,
  (155, Ti.mk Kd.func 1 8 [ZK.f]) ,
  (156, Ti.mk Kd.func 1 8 [ZK.f]) ,
  (157, Ti.mk Kd.func 1 8 [ZK.f]) ,
  (158, Ti.mk Kd.func 1 8 [ZK.f]) ,
  (159, Ti.mk (Kd.struct [Av.Fd.mk 0 1 Bool.false 4, Av.Fd.mk 1 1 Bool.false 23]) 2 32 [ZK.b, ZK.l]) ,
  (160, Ti.mk (Kd.struct [Av.Fd.mk 0 1 Bool.false 4, Av.Fd.mk 1 1 Bool.false 23]) 2 32 [ZK.b, ZK.l]) ,
  (161, Ti.mk (Kd.int IntKind.u64) 1 8 [ZK.i IntKind.u64]) ,
  (162, Ti.mk (Kd.struct [Av.Fd.mk 0 1 Bool.false 29]) 1 8 [ZK.i IntKind.i64]) ,
  (163, Ti.mk (Kd.struct [Av.Fd.mk 0 1 Bool.false 29]) 1 8 [ZK.i IntKind.i64]) ,
  (164, Ti.mk (Kd.struct [Av.Fd.mk 0 1 Bool.true 163, Av.Fd.mk 1 1 Bool.false 4, Av.Fd.mk 2 1 Bool.false 23]) 3 40 [ZK.i IntKind.i64, ZK.b, ZK.l]) ,
  (165, Ti.mk (Kd.struct [Av.Fd.mk 0 1 Bool.true 163, Av.Fd.mk 1 1 Bool.false 4, Av.Fd.mk 2 1 Bool.false 23]) 3 40 [ZK.i IntKind.i64, ZK.b, ZK.l]) ,
  (166, Ti.mk Kd.func 1 8 [ZK.f]) ,
  (167, Ti.mk Kd.func 1 8 [ZK.f]) ,
  (168, Ti.mk Kd.func 1 8 [ZK.f]) ,
  (169, Ti.mk Kd.func 1 8 [ZK.f]) ,
  (170, Ti.mk Kd.func 1 8 [ZK.f]) ,
  (172, Ti.mk Kd.func 1 8 [ZK.f]) ,
  (173, Ti.mk Kd.func 1 8 [ZK.f]) ,
  (174, Ti.mk Kd.func 1 8 [ZK.f]) ,
  (175, Ti.mk (Kd.array 24 5) 24 24 [ZK.i IntKind.u8, ZK.i IntKind.u8, ZK.i IntKind.u8, ZK.i IntKind.u8, ZK.i IntKind.u8, ZK.i IntKind.u8, ZK.i IntKind.u8, ZK.i IntKind.u8, ZK.i IntKind.u8, ZK.i IntKind.u8, ZK.i IntKind.u8, ZK.i IntKind.u8, ZK.i IntKind.u8, ZK.i IntKind.u8, ZK.i IntKind.u8, ZK.i IntKind.u8, ZK.i IntKind.u8, ZK.i IntKind.u8, ZK.i IntKind.u8, ZK.i IntKind.u8, ZK.i IntKind.u8, ZK.i IntKind.u8, ZK.i IntKind.u8, ZK.i IntKind.u8]) ,
  (176, Ti.mk Kd.func 1 8 [ZK.f]) ,
  (178, Ti.mk Kd.func 1 8 [ZK.f]) ,
  (179, Ti.mk Kd.func 1 8 [ZK.f]) ,
  (180, Ti.mk Kd.func 1 8 [ZK.f]) ,
  (181, Ti.mk (Kd.ptr 163) 1 8 [ZK.p]) ,
  (182, Ti.mk Kd.func 1 8 [ZK.f]) ,
  (183, Ti.mk Kd.func 1 8 [ZK.f]) ,
  (184, Ti.mk (Kd.array 256 5) 256 256 [ZK.i IntKind.u8, ZK.i IntKind.u8, ZK.i IntKind.u8, ZK.i IntKind.u8, ZK.i IntKind.u8, ZK.i IntKind.u8, ZK.i IntKind.u8, ZK.i IntKind.u8, ZK.i IntKind.u8, ZK.i IntKind.u8, ZK.i IntKind.u8, ZK.i IntKind.u8, ZK.i IntKind.u8, ZK.i IntKind.u8, ZK.i IntKind.u8, ZK.i IntKind.u8, ZK.i IntKind.u8, ZK.i IntKind.u8, ZK.i IntKind.u8, ZK.i IntKind.u8, ZK.i IntKind.u8, ZK.i IntKind.u8, ZK.i IntKind.u8, ZK.i IntKind.u8, ZK.i IntKind.u8, ZK.i IntKind.u8, ZK.i IntKind.u8, ZK.i IntKind.u8, ZK.i IntKind.u8, ZK.i IntKind.u8, ZK.i IntKind.u8, ZK.i IntKind.u8, ZK.i IntKind.u8, ZK.i IntKind.u8, ZK.i IntKind.u8, ZK.i IntKind.u8, ZK.i IntKind.u8, ZK.i IntKind.u8, ZK.i IntKind.u8, ZK.i IntKind.u8, ZK.i IntKind.u8, ZK.i IntKind.u8, ZK.i IntKind.u8, ZK.i IntKind.u8, ZK.i IntKind.u8, ZK.i IntKind.u8, ZK.i IntKind.u8, ZK.i IntKind.u8, ZK.i IntKind.u8, ZK.i IntKind.u8, ZK.i IntKind.u8, ZK.i IntKind.u8, ZK.i IntKind.u8, ZK.i IntKind.u8, ZK.i IntKind.u8, ZK.i IntKind.u8, ZK.i IntKind.u8, ZK.i IntKind.u8, ZK.i IntKind.u8, ZK.i IntKind.u8, ZK.i IntKind.u8, ZK.i IntKind.u8, ZK.i IntKind.u8, ZK.i IntKind.u8, ZK.i IntKind.u8, ZK.i IntKind.u8, ZK.i IntKind.u8, ZK.i IntKind.u8, ZK.i IntKind.u8, ZK.i IntKind.u8, ZK.i IntKind.u8, ZK.i IntKind.u8, ZK.i IntKind.u8, ZK.i IntKind.u8, ZK.i IntKind.u8, ZK.i IntKind.u8, ZK.i IntKind.u8, ZK.i IntKind.u8, ZK.i IntKind.u8, ZK.i IntKind.u8, ZK.i IntKind.u8, ZK.i IntKind.u8, ZK.i IntKind.u8, ZK.i IntKind.u8, ZK.i IntKind.u8, ZK.i IntKind.u8, ZK.i IntKind.u8, ZK.i IntKind.u8, ZK.i IntKind.u8, ZK.i IntKind.u8, ZK.i IntKind.u8, ZK.i IntKind.u8, ZK.i IntKind.u8, ZK.i IntKind.u8, ZK.i IntKind.u8, ZK.i IntKind.u8, ZK.i IntKind.u8, ZK.i IntKind.u8, ZK.i IntKind.u8, ZK.i IntKind.u8, ZK.i IntKind.u8, ZK.i IntKind.u8, ZK.i IntKind.u8, ZK.i IntKind.u8, ZK.i IntKind.u8, ZK.i IntKind.u8, ZK.i IntKind.u8, ZK.i IntKind.u8, ZK.i IntKind.u8, ZK.i IntKind.u8, ZK.i IntKind.u8, ZK.i IntKind.u8, ZK.i IntKind.u8, ZK.i IntKind.u8, ZK.i IntKind.u8, ZK.i IntKind.u8, ZK.i IntKind.u8, ZK.i IntKind.u8, ZK.i IntKind.u8, ZK.i IntKind.u8, ZK.i IntKind.u8, ZK.i IntKind.u8, ZK.i IntKind.u8, ZK.i IntKind.u8, ZK.i IntKind.u8, ZK.i IntKind.u8, ZK.i IntKind.u8, ZK.i IntKind.u8, ZK.i IntKind.u8, ZK.i IntKind.u8, ZK.i IntKind.u8, ZK.i IntKind.u8, ZK.i IntKind.u8, ZK.i IntKind.u8, ZK.i IntKind.u8, ZK.i IntKind.u8, ZK.i IntKind.u8, ZK.i IntKind.u8, ZK.i IntKind.u8, ZK.i IntKind.u8, ZK.i IntKind.u8, ZK.i IntKind.u8, ZK.i IntKind.u8, ZK.i IntKind.u8, ZK.i IntKind.u8, ZK.i IntKind.u8, ZK.i IntKind.u8, ZK.i IntKind.u8, ZK.i IntKind.u8, ZK.i IntKind.u8, ZK.i IntKind.u8, ZK.i IntKind.u8, ZK.i IntKind.u8, ZK.i IntKind.u8, ZK.i IntKind.u8, ZK.i IntKind.u8, ZK.i IntKind.u8, ZK.i IntKind.u8, ZK.i IntKind.u8, ZK.i IntKind.u8, ZK.i IntKind.u8, ZK.i IntKind.u8, ZK.i IntKind.u8, ZK.i IntKind.u8, ZK.i IntKind.u8, ZK.i IntKind.u8, ZK.i IntKind.u8, ZK.i IntKind.u8, ZK.i IntKind.u8, ZK.i IntKind.u8, ZK.i IntKind.u8, ZK.i IntKind.u8, ZK.i IntKind.u8, ZK.i IntKind.u8, ZK.i IntKind.u8, ZK.i IntKind.u8, ZK.i IntKind.u8, ZK.i IntKind.u8, ZK.i IntKind.u8, ZK.i IntKind.u8, ZK.i IntKind.u8, ZK.i IntKind.u8, ZK.i IntKind.u8, ZK.i IntKind.u8, ZK.i IntKind.u8, ZK.i IntKind.u8, ZK.i IntKind.u8, ZK.i IntKind.u8, ZK.i IntKind.u8, ZK.i IntKind.u8, ZK.i IntKind.u8, ZK.i IntKind.u8, ZK.i IntKind.u8, ZK.i IntKind.u8, ZK.i IntKind.u8, ZK.i IntKind.u8, ZK.i IntKind.u8, ZK.i IntKind.u8, ZK.i IntKind.u8, ZK.i IntKind.u8, ZK.i IntKind.u8, ZK.i IntKind.u8, ZK.i IntKind.u8, ZK.i IntKind.u8, ZK.i IntKind.u8, ZK.i IntKind.u8, ZK.i IntKind.u8, ZK.i IntKind.u8, ZK.i IntKind.u8, ZK.i IntKind.u8, ZK.i IntKind.u8, ZK.i IntKind.u8, ZK.i IntKind.u8, ZK.i IntKind.u8, ZK.i IntKind.u8, ZK.i IntKind.u8, ZK.i IntKind.u8, ZK.i IntKind.u8, ZK.i IntKind.u8, ZK.i IntKind.u8, ZK.i IntKind.u8, ZK.i IntKind.u8, ZK.i IntKind.u8, ZK.i IntKind.u8, ZK.i IntKind.u8, ZK.i IntKind.u8, ZK.i IntKind.u8, ZK.i IntKind.u8, ZK.i IntKind.u8, ZK.i IntKind.u8, ZK.i IntKind.u8, ZK.i IntKind.u8, ZK.i IntKind.u8, ZK.i IntKind.u8, ZK.i IntKind.u8, ZK.i IntKind.u8, ZK.i IntKind.u8, ZK.i IntKind.u8, ZK.i IntKind.u8, ZK.i IntKind.u8, ZK.i IntKind.u8, ZK.i IntKind.u8, ZK.i IntKind.u8, ZK.i IntKind.u8, ZK.i IntKind.u8, ZK.i IntKind.u8, ZK.i IntKind.u8, ZK.i IntKind.u8, ZK.i IntKind.u8, ZK.i IntKind.u8, ZK.i IntKind.u8, ZK.i IntKind.u8, ZK.i IntKind.u8, ZK.i IntKind.u8, ZK.i IntKind.u8, ZK.i IntKind.u8]) ,
  (185, Ti.mk (Kd.struct [Av.Fd.mk 0 1 Bool.false 5, Av.Fd.mk 1 1 Bool.false 5]) 2 2 [ZK.i IntKind.u8, ZK.i IntKind.u8]) ,
  (186, Ti.mk (Kd.struct [Av.Fd.mk 0 1 Bool.false 5, Av.Fd.mk 1 1 Bool.false 5]) 2 2 [ZK.i IntKind.u8, ZK.i IntKind.u8]) ,
  (187, Ti.mk (Kd.array 16 186) 32 32 [ZK.i IntKind.u8, ZK.i IntKind.u8, ZK.i IntKind.u8, ZK.i IntKind.u8, ZK.i IntKind.u8, ZK.i IntKind.u8, ZK.i IntKind.u8, ZK.i IntKind.u8, ZK.i IntKind.u8, ZK.i IntKind.u8, ZK.i IntKind.u8, ZK.i IntKind.u8, ZK.i IntKind.u8, ZK.i IntKind.u8, ZK.i IntKind.u8, ZK.i IntKind.u8, ZK.i IntKind.u8, ZK.i IntKind.u8, ZK.i IntKind.u8, ZK.i IntKind.u8, ZK.i IntKind.u8, ZK.i IntKind.u8, ZK.i IntKind.u8, ZK.i IntKind.u8, ZK.i IntKind.u8, ZK.i IntKind.u8, ZK.i IntKind.u8, ZK.i IntKind.u8, ZK.i IntKind.u8, ZK.i IntKind.u8, ZK.i IntKind.u8, ZK.i IntKind.u8]) ,
  (188, Ti.mk Kd.func 1 8 [ZK.f]) ,
  (189, Ti.mk Kd.func 1 8 [ZK.f]) ,
  (190, Ti.mk Kd.func 1 8 [ZK.f]) ,
  (191, Ti.mk (Kd.array 20 22) 20 160 [ZK.i IntKind.u64, ZK.i IntKind.u64, ZK.i IntKind.u64, ZK.i IntKind.u64, ZK.i IntKind.u64, ZK.i IntKind.u64, ZK.i IntKind.u64, ZK.i IntKind.u64, ZK.i IntKind.u64, ZK.i IntKind.u64, ZK.i IntKind.u64, ZK.i IntKind.u64, ZK.i IntKind.u64, ZK.i IntKind.u64, ZK.i IntKind.u64, ZK.i IntKind.u64, ZK.i IntKind.u64, ZK.i IntKind.u64, ZK.i IntKind.u64, ZK.i IntKind.u64]) ,
  (192, Ti.mk (Kd.int IntKind.u32) 1 4 [ZK.i IntKind.u32]) ,
  (193, Ti.mk (Kd.array 65 5) 65 65 [ZK.i IntKind.u8, ZK.i IntKind.u8, ZK.i IntKind.u8, ZK.i IntKind.u8, ZK.i IntKind.u8, ZK.i IntKind.u8, ZK.i IntKind.u8, ZK.i IntKind.u8, ZK.i IntKind.u8, ZK.i IntKind.u8, ZK.i IntKind.u8, ZK.i IntKind.u8, ZK.i IntKind.u8, ZK.i IntKind.u8, ZK.i IntKind.u8, ZK.i IntKind.u8, ZK.i IntKind.u8, ZK.i IntKind.u8, ZK.i IntKind.u8, ZK.i IntKind.u8, ZK.i IntKind.u8, ZK.i IntKind.u8, ZK.i IntKind.u8, ZK.i IntKind.u8, ZK.i IntKind.u8, ZK.i IntKind.u8, ZK.i IntKind.u8, ZK.i IntKind.u8, ZK.i IntKind.u8, ZK.i IntKind.u8, ZK.i IntKind.u8, ZK.i IntKind.u8, ZK.i IntKind.u8, ZK.i IntKind.u8, ZK.i IntKind.u8, ZK.i IntKind.u8, ZK.i IntKind.u8, ZK.i IntKind.u8, ZK.i IntKind.u8, ZK.i IntKind.u8, ZK.i IntKind.u8, ZK.i IntKind.u8, ZK.i IntKind.u8, ZK.i IntKind.u8, ZK.i IntKind.u8, ZK.i IntKind.u8, ZK.i IntKind.u8, ZK.i IntKind.u8, ZK.i IntKind.u8, ZK.i IntKind.u8, ZK.i IntKind.u8, ZK.i IntKind.u8, ZK.i IntKind.u8, ZK.i IntKind.u8, ZK.i IntKind.u8, ZK.i IntKind.u8, ZK.i IntKind.u8, ZK.i IntKind.u8, ZK.i IntKind.u8, ZK.i IntKind.u8, ZK.i IntKind.u8, ZK.i IntKind.u8, ZK.i IntKind.u8, ZK.i IntKind.u8, ZK.i IntKind.u8]) ,
  (194, Ti.mk Kd.func 1 8 [ZK.f]) ,
  (195, Ti.mk Kd.func 1 8 [ZK.f]) ,
  (196, Ti.mk (Kd.int IntKind.i64) 1 8 [ZK.i IntKind.i64]) ,
  (197, Ti.mk Kd.func 1 8 [ZK.f]) ,
  (198, Ti.mk Kd.func 1 8 [ZK.f]) ,
  (199, Ti.mk (Kd.ptr 206) 1 8 [ZK.p]) ,
  (200, Ti.mk Kd.func 1 8 [ZK.f]) ,
  (201, Ti.mk Kd.func 1 8 [ZK.f]) ,
  (202, Ti.mk Kd.func 1 8 [ZK.f]) ,
  (203, Ti.mk Kd.func 1 8 [ZK.f]) ,
  (204, Ti.mk Kd.func 1 8 [ZK.f]) ,
  (205, Ti.mk (Kd.struct [Av.Fd.mk 0 1 Bool.false 9, Av.Fd.mk 1 1 Bool.false 9, Av.Fd.mk 2 1 Bool.false 153]) 3 48 [ZK.s, ZK.s, ZK.n]) ,
  (206, Ti.mk (Kd.struct [Av.Fd.mk 0 1 Bool.false 9, Av.Fd.mk 1 1 Bool.false 9, Av.Fd.mk 2 1 Bool.false 153]) 3 48 [ZK.s, ZK.s, ZK.n]) ,
  (207, Ti.mk Kd.func 1 8 [ZK.f]) ,
  (208, Ti.mk (Kd.array 32 5) 32 32 [ZK.i IntKind.u8, ZK.i IntKind.u8, ZK.i IntKind.u8, ZK.i IntKind.u8, ZK.i IntKind.u8, ZK.i IntKind.u8, ZK.i IntKind.u8, ZK.i IntKind.u8, ZK.i IntKind.u8, ZK.i IntKind.u8, ZK.i IntKind.u8, ZK.i IntKind.u8, ZK.i IntKind.u8, ZK.i IntKind.u8, ZK.i IntKind.u8, ZK.i IntKind.u8, ZK.i IntKind.u8, ZK.i IntKind.u8, ZK.i IntKind.u8, ZK.i IntKind.u8, ZK.i IntKind.u8, ZK.i IntKind.u8, ZK.i IntKind.u8, ZK.i IntKind.u8, ZK.i IntKind.u8, ZK.i IntKind.u8, ZK.i IntKind.u8, ZK.i IntKind.u8, ZK.i IntKind.u8, ZK.i IntKind.u8, ZK.i IntKind.u8, ZK.i IntKind.u8]) ,
  (209, Ti.mk (Kd.array 64 5) 64 64 [ZK.i IntKind.u8, ZK.i IntKind.u8, ZK.i IntKind.u8, ZK.i IntKind.u8, ZK.i IntKind.u8, ZK.i IntKind.u8, ZK.i IntKind.u8, ZK.i IntKind.u8, ZK.i IntKind.u8, ZK.i IntKind.u8, ZK.i IntKind.u8, ZK.i IntKind.u8, ZK.i IntKind.u8, ZK.i IntKind.u8, ZK.i IntKind.u8, ZK.i IntKind.u8, ZK.i IntKind.u8, ZK.i IntKind.u8, ZK.i IntKind.u8, ZK.i IntKind.u8, ZK.i IntKind.u8, ZK.i IntKind.u8, ZK.i IntKind.u8, ZK.i IntKind.u8, ZK.i IntKind.u8, ZK.i IntKind.u8, ZK.i IntKind.u8, ZK.i IntKind.u8, ZK.i IntKind.u8, ZK.i IntKind.u8, ZK.i IntKind.u8, ZK.i IntKind.u8, ZK.i IntKind.u8, ZK.i IntKind.u8, ZK.i IntKind.u8, ZK.i IntKind.u8, ZK.i IntKind.u8, ZK.i IntKind.u8, ZK.i IntKind.u8, ZK.i IntKind.u8, ZK.i IntKind.u8, ZK.i IntKind.u8, ZK.i IntKind.u8, ZK.i IntKind.u8, ZK.i IntKind.u8, ZK.i IntKind.u8, ZK.i IntKind.u8, ZK.i IntKind.u8, ZK.i IntKind.u8, ZK.i IntKind.u8, ZK.i IntKind.u8, ZK.i IntKind.u8, ZK.i IntKind.u8, ZK.i IntKind.u8, ZK.i IntKind.u8, ZK.i IntKind.u8, ZK.i IntKind.u8, ZK.i IntKind.u8, ZK.i IntKind.u8, ZK.i IntKind.u8, ZK.i IntKind.u8, ZK.i IntKind.u8, ZK.i IntKind.u8, ZK.i IntKind.u8]) ,
  (211, Ti.mk Kd.func 1 8 [ZK.f]) ,
  (212, Ti.mk (Kd.ptr 5) 1 8 [ZK.p]) ,
  (213, Ti.mk (Kd.ptr 215) 1 8 [ZK.p]) ,
  (214, Ti.mk (Kd.struct [Av.Fd.mk 0 1 Bool.false 9]) 1 16 [ZK.s]) ,
  (215, Ti.mk (Kd.struct [Av.Fd.mk 0 1 Bool.false 9]) 1 16 [ZK.s]) ,
  (216, Ti.mk Kd.func 1 8 [ZK.f]) ,
  (217, Ti.mk Kd.func 1 8 [ZK.f]) ,
  (218, Ti.mk (Kd.struct [Av.Fd.mk 0 1 Bool.false 17, Av.Fd.mk 1 1 Bool.false 17, Av.Fd.mk 2 1 Bool.false 17, Av.Fd.mk 3 1 Bool.false 9]) 4 40 [ZK.p, ZK.p, ZK.p, ZK.s]) ,
  (219, Ti.mk (Kd.struct [Av.Fd.mk 0 1 Bool.false 17, Av.Fd.mk 1 1 Bool.false 17, Av.Fd.mk 2 1 Bool.false 17, Av.Fd.mk 3 1 Bool.false 9]) 4 40 [ZK.p, ZK.p, ZK.p, ZK.s]) ,
  (220, Ti.mk (Kd.array 0 16) 0 0 []) ,
  (221, Ti.mk (Kd.struct [Av.Fd.mk 0 0 Bool.true 220]) 0 0 []) ,
  (222, Ti.mk (Kd.struct [Av.Fd.mk 0 0 Bool.true 220]) 0 0 []) ,
  (223, Ti.mk (Kd.int IntKind.u8) 1 1 [ZK.i IntKind.u8]) ,
  (224, Ti.mk (Kd.int IntKind.u8) 1 1 [ZK.i IntKind.u8]) ,
  (225, Ti.mk Kd.func 1 8 [ZK.f]) ,
  (226, Ti.mk (Kd.int IntKind.i32) 1 4 [ZK.i IntKind.i32]) ,
  (227, Ti.mk (Kd.int IntKind.i32) 1 4 [ZK.i IntKind.i32]) ,
  (228, Ti.mk (Kd.struct [Av.Fd.mk 0 1 Bool.false 12, Av.Fd.mk 1 1 Bool.false 12, Av.Fd.mk 2 1 Bool.false 192, Av.Fd.mk 3 1 Bool.false 223, Av.Fd.mk 4 1 Bool.false 5, Av.Fd.mk 5 1 Bool.false 5, Av.Fd.mk 6 1 Bool.false 224, Av.Fd.mk 7 1 Bool.false 225, Av.Fd.mk 8 1 Bool.false 212, Av.Fd.mk 9 1 Bool.false 226, Av.Fd.mk 10 1 Bool.false 227]) 11 48 [ZK.i IntKind.u64, ZK.i IntKind.u64, ZK.i IntKind.u32, ZK.i IntKind.u8, ZK.i IntKind.u8, ZK.i IntKind.u8, ZK.i IntKind.u8, ZK.f, ZK.p, ZK.i IntKind.i32, ZK.i IntKind.i32]) ,
  (229, Ti.mk (Kd.struct [Av.Fd.mk 0 1 Bool.false 12, Av.Fd.mk 1 1 Bool.false 12, Av.Fd.mk 2 1 Bool.false 192, Av.Fd.mk 3 1 Bool.false 223, Av.Fd.mk 4 1 Bool.false 5, Av.Fd.mk 5 1 Bool.false 5, Av.Fd.mk 6 1 Bool.false 224, Av.Fd.mk 7 1 Bool.false 225, Av.Fd.mk 8 1 Bool.false 212, Av.Fd.mk 9 1 Bool.false 226, Av.Fd.mk 10 1 Bool.false 227]) 11 48 [ZK.i IntKind.u64, ZK.i IntKind.u64, ZK.i IntKind.u32, ZK.i IntKind.u8, ZK.i IntKind.u8, ZK.i IntKind.u8, ZK.i IntKind.u8, ZK.f, ZK.p, ZK.i IntKind.i32, ZK.i IntKind.i32]) ,
  (230, Ti.mk Kd.func 1 8 [ZK.f])]
theorem ttok : chk Tryd.prog tt = true := by kernel_rfl
end Go.Proofs.YtnihobjehelagaaDoor
end
/- What every text of this seat uses: bytes as trees, and the seat's table. -/
section
open Go.RowKit Go.Pl Go.Av
namespace Go.Proofs.YtnihobjehelagaaDoor
set_option linter.unusedVariables false
set_option linter.unusedSimpArgs false
theorem hmix : Tryd.prog.follows .mixedOrders = true := by kernel_rfl
abbrev byE (l : List UInt8) : D := .sl .ext (l.map E.byte)
theorem uniB1 (l : List UInt8) : Uni 1 (l.map E.byte) := Uni.map (f := E.byte) (fun _ => rfl) l
/-- slices of bytes -/
abbrev E.bys (l : List UInt8) : E := .sl (l.map E.byte)
abbrev bysE (l : List (List UInt8)) : D := .sl .ext (l.map E.bys)
theorem uniS1 (l : List (List UInt8)) : Uni 1 (l.map E.bys) := Uni.map (f := E.bys) (fun _ => rfl) l
theorem arg1 {W : World} {d0 : D} {v0 : Value} (h0 : V W (g0 W) [] d0 v0) : ∀ (j : Nat) (d : D) (v : Value), [d0][j]? = some d → [v0][j]? = some v → V W (g0 W) [] d v := fun j d v hd hv => by
  cases j with
  | zero => simp at hd hv; subst hd hv; exact h0
  | succ j => simp at hd
theorem arg2 {W : World} {d0 d1 : D} {v0 v1 : Value} (h0 : V W (g0 W) [] d0 v0) (h1 : V W (g0 W) [] d1 v1) : ∀ (j : Nat) (d : D) (v : Value), [d0, d1][j]? = some d → [v0, v1][j]? = some v → V W (g0 W) [] d v := fun j d v hd hv => by
  cases j with
  | zero => simp at hd hv; subst hd hv; exact h0
  | succ j => exact arg1 h1 j d v (by simpa using hd) (by simpa using hv)
theorem arg3 {W : World} {d0 d1 d2 : D} {v0 v1 v2 : Value} (h0 : V W (g0 W) [] d0 v0) (h1 : V W (g0 W) [] d1 v1) (h2 : V W (g0 W) [] d2 v2) : ∀ (j : Nat) (d : D) (v : Value), [d0, d1, d2][j]? = some d → [v0, v1, v2][j]? = some v → V W (g0 W) [] d v := fun j d v hd hv => by
  cases j with
  | zero => simp at hd hv; subst hd hv; exact h0
  | succ j => exact arg2 h1 h2 j d v (by simpa using hd) (by simpa using hv)
theorem by_V {W : World} {v : Value} {l : List UInt8} (hs : SlB W (· < W.heap.size) v l) : V W (g0 W) [] (byE l) v :=
  V.ofE (e := .sl (l.map E.byte)) (ToE.byte.sl (C := (g0 W).C) (fun k hk o => hk) hs)
theorem bys_V {W : World} {v : Value} {l : List (List UInt8)} (hs : Sl (Rep.slice Rep.byte (by decide)) W (· < W.heap.size) v l) : V W (g0 W) [] (bysE l) v :=
  V.ofE (e := .sl (l.map E.bys)) ((ToE.byte.slice (by decide)).sl (C := (g0 W).C) (fun k hk o => hk) hs)
theorem sl_max {α : Type} {R : Rep α} {W : World} {S : Nat → Prop} {v : Value} {l : List α} (h : Sl R W S v l) : l.length ≤ maxLen := by
  obtain ⟨A, c, _, h1, h2, _⟩ := h
  omega
end Go.Proofs.YtnihobjehelagaaDoor
end
/- Contracts of functions that are handed variables: what the variables hold ahead and behind. -/
section
open Go.RowKit Go.Pl
namespace Go.Av
set_option linter.unusedSimpArgs false
set_option linter.unusedVariables false
theorem Mem.wk [Known] {g : G} {bx : List (List D)} {fr : List Fr} {w : World} (h : Mem g bx fr w) : Mem g (bx.map D.wks) fr w where
  bl := by rw [h.bl]; simp
  bat i blk cs h1 h2 := by
    rw [List.getElem?_map] at h2
    cases hi : bx[i]? with
    | none => simp [hi] at h2
    | some cs0 =>
      simp [hi] at h2; subst h2
      obtain ⟨vs, ty, q1, q2, q3⟩ := h.bat i blk cs0 h1 hi
      refine ⟨vs, ty, q1, by rw [q2, wks_map]; simp, fun j d v hd hv => ?_⟩
      rw [wks_map, List.getElem?_map] at hd
      cases hj : cs0[j]? with
      | none => simp [hj] at hd
      | some d0 => simp [hj] at hd; subst hd; exact (q3 j d0 v hj hv).wk
  bC := h.bC
  bN := h.bN
  tl := h.tl
  tat := h.tat
  tN := h.tN
  tρ := h.tρ
  Clt := h.Clt
  gl := h.gl
/-- a function that is handed variables: bx: what they hold; behind it: bx', its new ones behind them; no tokens are handed on -/
def AQ [Known] (P : Program) (f : FuncId) (args : List D) (bx : List (List D)) (d : D) (bx' : List (List D)) : Prop := AC P f args bx [] fun r b fr => r = .ret d ∧ b = bx' ∧ fr = []
theorem AQ.weak [Known] {P : Program} {f : FuncId} {args : List D} {bx bx' : List (List D)} {d : D} (h : AC P f args bx [] fun r b fr => ∃ d0, r = .ret d0 ∧ d0.wk = d ∧ b.map D.wks = bx' ∧ fr = []) : AQ P f args bx d bx' := by
  refine ⟨fun g w vs hm hl hv => (h.run g w vs hm hl hv).mono fun e w' ⟨g', b', fr', r, h1, h2, h3, d0, h4, h5, h6, h7⟩ => ?_⟩
  subst h4 h5 h6 h7
  obtain ⟨v, rfl, hv⟩ := h3
  exact ⟨g', _, [], .ret d0.wk, h1, h2.wk, ⟨v, rfl, hv.wk⟩, rfl, rfl, rfl⟩
theorem AP.toQ [Known] {P : Program} {f : FuncId} {args : List D} {d : D} (h : AP P f args d []) : AQ P f args [] d [] := h
/-- a function that hands on nothing: variables and tokens let go -/
theorem AP.ofA [Known] {P : Program} {f : FuncId} {args : List D} {d : D} (h : AC P f args [] [] fun r b fr => ∃ d0, r = .ret d0 ∧ d0.wk = d ∧ b.map D.wks = [] ∧ fr = []) : AP P f args d [] := AQ.weak h
def selOk : List Nat → Nat → Bool
  | [], _ => true
  | b :: bs, n => Nat.blt b n && (!(bs.any (Nat.beq b)) && selOk bs n)
theorem selOk_ok : ∀ {bs : List Nat} {n : Nat}, selOk bs n = true → okSel bs n
  | [], n, _ => okSel_nil n
  | b :: bs, n, h => by
    simp only [selOk, Bool.and_eq_true, Nat.blt_eq, Bool.not_eq_true', List.any_eq_false] at h
    obtain ⟨h1, h2, h3⟩ := h
    have ih := selOk_ok h3
    have hne : ∀ j c : Nat, bs[j]? = some c → c ≠ b := fun j c hj e => by
      subst e
      exact h2 c (List.mem_of_getElem? hj) (Nat.beq_refl c)
    refine ⟨fun i j c hi hj => ?_, fun c hc => ?_⟩
    · cases i with
      | zero =>
        cases j with
        | zero => rfl
        | succ j => simp at hi hj; subst hi; exact (hne j _ hj rfl).elim
      | succ i =>
        cases j with
        | zero => simp at hi hj; subst hj; exact (hne i _ hi rfl).elim
        | succ j => simp at hi hj; rw [ih.1 i j c hi hj]
    · rcases List.mem_cons.1 hc with rfl | hc
      · exact h1
      · exact ih.2 c hc
def preOk (k : Nat) (bs : List Nat) : Bool := (List.range k).all fun i => match bs[i]? with
  | some j => Nat.beq i j
  | none => false
theorem preOk_ok {k : Nat} {bs : List Nat} (h : preOk k bs = true) : ∀ i, i < k → bs[i]? = some i := fun i hi => by
  have := List.all_eq_true.1 h i (List.mem_range.2 hi)
  split at this
  · rename_i j hj
    rw [hj, Nat.eq_of_beq_eq_true this]
  · cases this
theorem endQ {P : Program} {rs : List ResultVar} {S : St} {d d' : D} {ds : List D} {bx' B : List (List D)} {k : Nat} (bs : List Nat) (h : ResL P S rs ds) (hb : selOk bs S.bx.length = true) (hk : preOk k bs = true) (hn : nf (((ret1 ds).ren (idx bs) (idx [])).wk) = some d') (hB : nfb ((selB bs [] S.bx).map D.wks) = some B) (hd : d' = d) (hB' : B = bx') :
    fnPost P rs k 0 (fun r b fr => ∃ d0, r = .ret d0 ∧ d0.wk = d ∧ b.map D.wks = bx' ∧ fr = []) .ret S :=
  ⟨ds, bs, [], h, selOk_ok hb, okSel_nil _, preOk_ok hk, fun i h => by omega, _, rfl, by rw [nf_eq hn, hd], by rw [nfb_eq hB, hB'], rfl⟩
theorem endQn {P : Program} {rs : List ResultVar} {S : St} {d d' : D} {ds : List D} {bx' B : List (List D)} {k : Nat} (bs : List Nat) (h : ResL P S rs ds) (hb : selOk bs S.bx.length = true) (hk : preOk k bs = true) (hn : nf (((ret1 ds).ren (idx bs) (idx [])).wk) = some d') (hB : nfb ((selB bs [] S.bx).map D.wks) = some B) (hd : d' = d) (hB' : B = bx') :
    fnPost P rs k 0 (fun r b fr => ∃ d0, r = .ret d0 ∧ d0.wk = d ∧ b.map D.wks = bx' ∧ fr = []) .norm S :=
  ⟨ds, bs, [], h, selOk_ok hb, okSel_nil _, preOk_ok hk, fun i h => by omega, _, rfl, by rw [nf_eq hn, hd], by rw [nfb_eq hB, hB'], rfl⟩
section
variable {P : Program} {Q : X → St → Prop} {n : Nat} {ee : Nat × Nat} {tm : List (Nat × D)} {bx : List (List D)} {fr : List Fr} {ops : Array Oper} {rest : List Oper} {ty : Nat} {pos : String} {after : Array Edge} {f : FuncId} {ars : Array Operand} {ats : Array TypeId}
theorem AL_callQ [Known] [Dfr] {t : Nat} {cds : List D} {d d' : D} {bxs bxs' bx2 : List (List D)} (bs : List Nat) (hQ : AQ P f cds bxs d bxs') (hf : isFn P f = true)
    (hc : (ars.toList.map (ev tm)).map (D.ren (idx bs) (idx [])) = cds) (hb : selOk bs bx.length = true) (hbx : selB bs [] bx = bxs) (hle : Nat.ble bs.length bxs'.length = true) (htd : Nat.blt t n = true) (hd : nf (d.ren (upN bs bx.length) (upN [] fr.length)) = some d') (hB : nfb (aftB bs [] bx fr.length bxs') = some bx2)
    (k : AL P ops rest ⟨n, (t, d') :: tm, bx2, fr, ee⟩ Q) : AL P ops (⟨some t, .call { callee := .value (.func f), args := ars, argTypes := ats }, ty, pos, after, none⟩ :: rest) ⟨n, tm, bx, fr, ee⟩ Q := by
  refine AL_call bs [] hf hQ hc (selOk_ok hb) (okSel_nil _) hbx rfl htd (fun _ _ _ h => by cases h.1) fun d0 bx' fr' h => ?_
  obtain ⟨h1, rfl, rfl⟩ := h
  injection h1 with h1
  subst h1
  refine ⟨Nat.le_of_ble_eq_true hle, ?_⟩
  have e1 := nf_eq hd
  have e2 := nfb_eq hB
  subst e1 e2
  simpa [St.aft, aftF, putAt] using k
theorem AL_callQn [Known] [Dfr] {cds : List D} {d : D} {bxs bxs' bx2 : List (List D)} (bs : List Nat) (hQ : AQ P f cds bxs d bxs') (hf : isFn P f = true)
    (hc : (ars.toList.map (ev tm)).map (D.ren (idx bs) (idx [])) = cds) (hb : selOk bs bx.length = true) (hbx : selB bs [] bx = bxs) (hle : Nat.ble bs.length bxs'.length = true) (hB : nfb (aftB bs [] bx fr.length bxs') = some bx2)
    (k : AL P ops rest ⟨n, tm, bx2, fr, ee⟩ Q) : AL P ops (⟨none, .call { callee := .value (.func f), args := ars, argTypes := ats }, ty, pos, after, none⟩ :: rest) ⟨n, tm, bx, fr, ee⟩ Q := by
  refine AL_call bs [] hf hQ hc (selOk_ok hb) (okSel_nil _) hbx rfl rfl (fun _ _ _ h => by cases h.1) fun d0 bx' fr' h => ?_
  obtain ⟨h1, rfl, rfl⟩ := h
  refine ⟨Nat.le_of_ble_eq_true hle, ?_⟩
  have e2 := nfb_eq hB
  subst e2
  simpa [St.aft, aftF, putAt] using k
end
/-! ### calls: what is handed in, said without tokens -/
theorem AC.unwk [Known] {P : Program} {f : FuncId} {args : List D} {bx : List (List D)} {fr : List Fr} {post : R → List (List D) → List Fr → Prop} (h : AC P f (D.wks args) bx fr post) : AC P f args bx fr post :=
  ⟨fun g w vs hm hl hv => h.run g w vs hm (by rw [wks_map]; simpa using hl) fun j d v hd hvv => by
    rw [wks_map, List.getElem?_map] at hd
    cases hj : args[j]? with
    | none => simp [hj] at hd
    | some d0 => simp [hj] at hd; subst hd; exact (hv j d0 v hj hvv).wk⟩
section
variable {P : Program} {Q : X → St → Prop} {n : Nat} {ee : Nat × Nat} {tm : List (Nat × D)} {bx : List (List D)} {fr : List Fr} {ops : Array Oper} {rest : List Oper} {ty : Nat} {pos : String} {after : Array Edge} {f : FuncId} {ars : Array Operand} {ats : Array TypeId}
theorem AL_callPw [Known] [Dfr] {t : Nat} {cds : List D} {d d' : D} {frs fr' : List Fr} (hAC : AP P f cds d frs) (hf : isFn P f = true)
    (hc : D.wks ((ars.toList.map (ev tm)).map (D.ren (idx []) (idx []))) = cds) (htd : Nat.blt t n = true) (hd : nf (d.ren (upN [] bx.length) (upN [] fr.length)) = some d') (hfr : nfl (fr ++ frs) = some fr')
    (k : AL P ops rest ⟨n, (t, d') :: tm, bx, fr', ee⟩ Q) : AL P ops (⟨some t, .call { callee := .value (.func f), args := ars, argTypes := ats }, ty, pos, after, none⟩ :: rest) ⟨n, tm, bx, fr, ee⟩ Q := by
  subst hc
  exact AL_callP (AC.unwk hAC) hf rfl htd hd hfr k
theorem AL_callQw [Known] [Dfr] {t : Nat} {cds : List D} {d d' : D} {bxs bxs' bx2 : List (List D)} (bs : List Nat) (hQ : AQ P f cds bxs d bxs') (hf : isFn P f = true)
    (hc : D.wks ((ars.toList.map (ev tm)).map (D.ren (idx bs) (idx []))) = cds) (hb : selOk bs bx.length = true) (hbx : selB bs [] bx = bxs) (hle : Nat.ble bs.length bxs'.length = true) (htd : Nat.blt t n = true) (hd : nf (d.ren (upN bs bx.length) (upN [] fr.length)) = some d') (hB : nfb (aftB bs [] bx fr.length bxs') = some bx2)
    (k : AL P ops rest ⟨n, (t, d') :: tm, bx2, fr, ee⟩ Q) : AL P ops (⟨some t, .call { callee := .value (.func f), args := ars, argTypes := ats }, ty, pos, after, none⟩ :: rest) ⟨n, tm, bx, fr, ee⟩ Q := by
  subst hc
  exact AL_callQ bs (AC.unwk hQ) hf rfl hb hbx hle htd hd hB k
theorem AL_callQnw [Known] [Dfr] {cds : List D} {d : D} {bxs bxs' bx2 : List (List D)} (bs : List Nat) (hQ : AQ P f cds bxs d bxs') (hf : isFn P f = true)
    (hc : D.wks ((ars.toList.map (ev tm)).map (D.ren (idx bs) (idx []))) = cds) (hb : selOk bs bx.length = true) (hbx : selB bs [] bx = bxs) (hle : Nat.ble bs.length bxs'.length = true) (hB : nfb (aftB bs [] bx fr.length bxs') = some bx2)
    (k : AL P ops rest ⟨n, tm, bx2, fr, ee⟩ Q) : AL P ops (⟨none, .call { callee := .value (.func f), args := ars, argTypes := ats }, ty, pos, after, none⟩ :: rest) ⟨n, tm, bx, fr, ee⟩ Q := by
  subst hc
  exact AL_callQn bs (AC.unwk hQ) hf rfl hb hbx hle hB k
end
/-! ### where branches come together -/
theorem AW_ofLands [Known] [Dfr] {P : Program} {Q : X → St → Prop} {S : St} {c : Code} {n k : Nat} {ee : Nat × Nat} {J : Nat → List (Nat × D) → List (List D) → List Fr → Prop}
    (h : Lands J n ee k S) (hy : ∀ m tm bx fr, J m tm bx fr → AW P c ⟨n, tm, bx, fr, ee⟩ Q) : AW P c S Q := by
  refine ⟨fun b0 g a w hi => ?_⟩
  obtain ⟨m, hm, tm, bx, fr, g', hJ, hi'⟩ := h.inv hi
  exact (hy m tm bx fr hJ).run b0 g' a w hi'
/-- behind a choice on slot t -/
theorem AW_join [Known] [Dfr] {P : Program} {Q : X → St → Prop} {n : Nat} {ee : Nat × Nat} {tm0 : List (Nat × D)} {bx0 : List (List D)} {fr0 : List Fr} {r x z y : Code} (t : Nat) (J : List (Nat × D) → List (List D) → List Fr → Prop)
    (hy : ∀ tm bx fr, J tm bx fr → AW P y ⟨n, tm, bx, fr, ee⟩ Q) (hx : AW P (.seq r (.cond (.tmp t) x z)) ⟨n, tm0, bx0, fr0, ee⟩ (X.then (Lands (fun _ => J) n ee 1) Q)) : AW P (.seq (.seq r (.cond (.tmp t) x z)) y) ⟨n, tm0, bx0, fr0, ee⟩ Q :=
  AW_seq' (AW_mono hx fun x S h => by
    cases x with
    | norm => exact AW_ofLands h fun _ => hy
    | _ => exact h)
end Go.Av
end
/- Behind a loop. -/
section
open Go.RowKit Go.Pl
namespace Go.Av
set_option linter.unusedSimpArgs false
set_option linter.unusedVariables false
/-- behind a loop -/
theorem AW_joinB [Known] [Dfr] {P : Program} {Q : X → St → Prop} {n : Nat} {ee : Nat × Nat} {tm0 : List (Nat × D)} {bx0 : List (List D)} {fr0 : List Fr} {r x y : Code} (t : Nat) (J : List (Nat × D) → List (List D) → List Fr → Prop)
    (hy : ∀ tm bx fr, J tm bx fr → AW P y ⟨n, tm, bx, fr, ee⟩ Q) (hx : AW P (.seq r (.block t x)) ⟨n, tm0, bx0, fr0, ee⟩ (X.then (Lands (fun _ => J) n ee 1) Q)) : AW P (.seq (.seq r (.block t x)) y) ⟨n, tm0, bx0, fr0, ee⟩ Q :=
  AW_seq' (AW_mono hx fun x S h => by
    cases x with
    | norm => exact AW_ofLands h fun _ => hy
    | _ => exact h)
end Go.Av
end
/- Package eid: is a text plain? -/
section
open Go.RowKit Go.Pl Go.Av
namespace Go.Proofs.YtnihobjehelagaaDoor
set_option linter.unusedVariables false
set_option linter.unusedSimpArgs false
set_option maxHeartbeats 1000000
/-- may a byte be, beside m? -/
def okB (m : Nat) (c : UInt8) : Bool := (97 ≤ c.toNat && c.toNat ≤ 122) || (48 ≤ c.toNat && c.toNat ≤ 57) || c.toNat == 45 || c.toNat == m
theorem okB_true {m : Nat} {c : UInt8} : okB m c = true ↔ (97 ≤ (c.toNat : Int) ∧ (c.toNat : Int) ≤ 122) ∨ (48 ≤ (c.toNat : Int) ∧ (c.toNat : Int) ≤ 57) ∨ (c.toNat : Int) = 45 ∨ (c.toNat : Int) = (m : Int) := by
  simp only [okB, Bool.or_eq_true, Bool.and_eq_true, decide_eq_true_eq, beq_iff_eq]
  omega
theorem plain_walk (s : ByteArray) (m : Nat) (hm : m < 128) (w : World) (B : Bool) (hB : s.data.toList.all (okB m) = B) :
    Calls Tryd.prog 68 #[.string s, .int .i32 (m : Int)] w fun e w' => e = .returned (.bool B) ∧ Below w.heap.size w w' := by
  have hT : (∀ j, j < s.size → ∀ c, s.data.toList[j]? = some c → okB m c = true) → B = true := fun h => by
    rw [← hB, List.all_eq_true]
    intro x hx
    obtain ⟨j, hj⟩ := List.getElem?_of_mem hx
    have hlt := (List.getElem?_eq_some_iff.1 hj).1
    exact h j (by simpa using hlt) x hj
  have hF : ∀ (j : Nat) (c : UInt8), s.data.toList[j]? = some c → ¬ okB m c = true → B = false := fun j c hj hc => by
    rw [← hB, List.all_eq_false]
    exact ⟨c, List.mem_of_getElem? hj, hc⟩
  clear hB
  go_enter Tryd.func68, Tryd.ntmps68
  go_wp2
  go_loopw [] (fun w' => ∃ pos, w' = w.iter s pos ∧ pos ≤ s.size ∧ Hid (∀ j, j < pos → ∀ c, s.data.toList[j]? = some c → okB m c = true)) (fun w' => s.size - w'.iterPos w.heap.size)
  case atStart => exact ⟨0, rfl, Nat.zero_le _, fun j hj => by omega⟩
  case round =>
    obtain ⟨pos, rfl, hps, hall⟩ := hrel
    have hb : ∀ p, Below w.heap.size w (w.iter s p) := fun p => (Below.refl _ _).alloc (Nat.le_refl _) _
    by_cases hp : pos < s.size
    · have hget : s.data.toList[pos]? = some (s[pos]'hp) := by
        have hlt : pos < s.data.toList.length := by simpa using hp
        rw [List.getElem?_eq_getElem hlt]; rfl
      by_cases ha : (s[pos]'hp).toNat < 128
      · obtain ⟨c, hc⟩ : ∃ c, c = s[pos]'hp := ⟨_, rfl⟩
        have hnx : ∀ ty, (Instr.next (.pointer (some ⟨w.heap.size, 0, none⟩)) true ty).run Tryd.prog (w.iter s pos) = .ok (.tuple #[.bool true, .int .i64 pos, .int .i32 (c.toNat : Int)]) (w.iter s (pos + 1)) := fun ty => by
          rw [hc]; exact run_next_ascii w s pos ty hp ha
        rw [← hc] at hget ha
        clear hc
        have hbad := hid (hF pos c hget)
        have hstep : Hid (okB m c = true → ∀ j, j < pos + 1 → ∀ c, s.data.toList[j]? = some c → okB m c = true) := fun hc j hj c' hj' => by
          rcases Nat.lt_or_ge j pos with h | h
          · exact hall j h c' hj'
          · have : j = pos := by omega
            subst this
            rw [hget] at hj'
            injection hj' with hj'
            subst hj'
            exact hc
        clear hT hF hget
        go_wp2
        all_goals first
          | (go_ret
             have hBf := hbad (fun h => by rw [okB_true] at h; clear hbad hstep hnx; (try simp only [bne_iff_ne, ne_eq, bne_eq_false_iff_eq] at *); omega)
             subst hBf
             exact ⟨rfl, hb _⟩)
          | (refine ⟨⟨pos + 1, rfl, by omega, hstep ?_⟩, ?_⟩
             · rw [okB_true]
               clear hbad hstep hnx
               try simp only [bne_iff_ne, ne_eq, bne_eq_false_iff_eq] at *
               omega
             · simp; omega)
      · obtain ⟨hd1, hd2⟩ := decode_high s pos hp (by omega)
        have hle := decode_le s pos
        have hnx : ∀ ty, (Instr.next (.pointer (some ⟨w.heap.size, 0, none⟩)) true ty).run Tryd.prog (w.iter s pos) = _ := fun ty => run_next_any w s pos ty hp
        have hBf := hF pos _ hget (fun h => by rw [okB_true] at h; omega)
        clear hT hF hget
        subst hBf
        generalize Utf8.decode s pos = dd at hd1 hd2 hle hnx
        have n1 : ¬ ((dd.1 : Int) < 97) := by omega
        have n2 : ((dd.1 : Int) > 122) := by omega
        have n3 : ¬ ((dd.1 : Int) < 48) := by omega
        have n4 : ((dd.1 : Int) > 57) := by omega
        have n5 : ¬ ((dd.1 : Int) = 45) := by omega
        have n6 : ¬ ((dd.1 : Int) = (m : Int)) := by omega
        go_wp2
        all_goals first
          | (go_ret; exact ⟨rfl, hb _⟩)
          | (exfalso; clear hnx hb hall; (try simp only [bne_iff_ne, ne_eq, bne_eq_false_iff_eq] at *); omega)
    · have hnx : ∀ ty, (Instr.next (.pointer (some ⟨w.heap.size, 0, none⟩)) true ty).run Tryd.prog (w.iter s pos) = _ := fun ty => run_next_end w s pos ty hp
      have hBt := hT (fun j hj => hall j (by omega))
      subst hBt
      go_wp2
      go_ret
      exact ⟨rfl, hb _⟩
end Go.Proofs.YtnihobjehelagaaDoor
end
/- Texts cut; contracts said of worlds. -/
section
open Go.RowKit Go.Pl
namespace Go.Av
set_option linter.unusedSimpArgs false
set_option linter.unusedVariables false
theorem endBelow [Known] {g : G} {w w' : World} {e : Ending} {d : D} {v : Value} (hm : Mem g [] [] w) (hb : Below w.heap.size w w') (he : e = .returned v) (hv : V w g [] d v) :
    ∃ g' bx' fr' r, Evo ⟨g, [], w⟩ ⟨g', fr', w'⟩ ∧ Mem g' bx' fr' w' ∧ R.is w' g' fr' e r ∧ (r = .ret d ∧ bx' = [] ∧ fr' = []) := by
  have hρ : g.ρ = [] := List.length_eq_zero_iff.1 hm.bl
  have hτ : g.τ = [] := List.length_eq_zero_iff.1 hm.tl
  have hevo : Evo ⟨g, [], w⟩ ⟨g, [], w'⟩ := ⟨hb.os, hb.tape, hb.output, hb.size, fun k hk _ => hb.block k hk, fun _ _ h => h, fun k o hk => World.cell?_of_block (hb.block k (hm.Clt k o hk)), fun _ _ h => .inl h, fun _ _ h => h, fun _ h => .inl h, fun _ c h => .inl ⟨c, h⟩, fun i f h => by simp at h⟩
  exact ⟨g, [], [], .ret d, hevo, ⟨hm.bl, fun i k cs h => by simp [hρ] at h, hm.bC, hm.bN, hm.tl, fun i k c f h => by simp [hτ] at h, hm.tN, hm.tρ, fun k o hk => Nat.lt_of_lt_of_le (hm.Clt k o hk) hb.size, hm.gl.evo hevo⟩, ⟨v, he, hv.evo hevo⟩, rfl, rfl, rfl⟩
section
variable {P : Program} {Q : X → St → Prop} {n : Nat} {ee : Nat × Nat} {tm : List (Nat × D)} {bx bx' : List (List D)} {fr fr' : List Fr} {b0 : Bs} {g : G} {w : World} {a : Act} {T : Tab}
variable {ops : Array Oper} {rest : List Oper} {t ty : Nat} {pos : String} {after : Array Edge}
/-- a text cut -/
theorem AL_sliceS [Known] [Dfr] (hT : chk P T = true) {x : Operand} {st : Nat} {s s2 : List UInt8} {lo hi' : Option Operand} {p q : Nat} {ti : Ti} (hx : ev tm x = .str s) (ht : tl T st = some ti) (hk : ti.kd = .str) (htd : Nat.blt t n = true)
    (hlo : Bnd tm lo 0 p) (hhi : Bnd tm hi' s.length q) (hpq : p ≤ q) (hq : q ≤ s.length) (hs2 : (s.take q).drop p = s2)
    (kk : AL P ops rest ⟨n, (t, .str s2) :: tm, bx, fr, ee⟩ Q) : AL P ops (⟨some t, .slice st x lo hi' none, ty, pos, after, none⟩ :: rest) ⟨n, tm, bx, fr, ee⟩ Q :=
  AL_val _ htd (fun g a w hi => by
    have h1 : V w g fr (ev tm x) (a.eval x) := hi.ev x
    rw [hx] at h1
    obtain ⟨h1, hl⟩ := h1.str_inv
    have hu := (tl_ok hT ht).str hk
    have hsz : (⟨s.toArray⟩ : ByteArray).size = s.length := by show s.toArray.size = _; simp
    have hb := Bnd.runs (S := ⟨n, tm, bx, fr, _⟩) (P := P) (cap := s.length) hlo hhi hi hpq hq false
    refine ⟨.string ⟨s2.toArray⟩, ?_, .str _ (by subst hs2; simp; omega)⟩
    have hex : (⟨s.toArray⟩ : ByteArray).extract p q = ⟨s2.toArray⟩ := by
      apply ByteArray.ext
      subst hs2
      apply Array.ext'
      simp [ByteArray.data_extract, List.extract_eq_take_drop, List.drop_take]
    have hrun : (Instr.sliceAt st (.string ⟨s.toArray⟩) (lo.map a.eval) (hi'.map a.eval) none).run P w = .ok (.string ⟨s2.toArray⟩) w := by
      simp [Instr.sliceAt, Instr.slice, Sem.run_bind, run_underlying hu, hsz, hb, hex]
    simp only [execOp, h1, Sem.run_bind, Option.map_none, hrun, Result.andThen_ok]
    rfl) kk
end
end Go.Av
end

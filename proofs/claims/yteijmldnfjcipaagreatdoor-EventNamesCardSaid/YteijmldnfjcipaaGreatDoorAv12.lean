/- More operations: slices read and cut, texts, conversions, structs built, tests. -/
import Derived.Test.YteijmldnfjcipaaGreatDoorAv11
open Go.RowKit Go.Pl
namespace Go.Av
set_option linter.unusedSimpArgs false
set_option linter.unusedVariables false
section
variable {P : Program} {Q : X → St → Prop} {n : Nat} {ee : Nat × Nat} {tm : List (Nat × D)} {bx bx' : List (List D)} {fr fr' : List Fr} {b0 : Bs} {g : G} {w : World} {a : Act} {T : Tab}
variable {ops : Array Oper} {rest : List Oper} {t ty : Nat} {pos : String} {after : Array Edge}
theorem AL_idx (hT : chk P T = true) {x y : Operand} {st e : Nat} {k : IntKind} {i : Int} {tk : Tok} {l : List E} {ti te : Ti} {v : E} (hx : ev tm x = .sl tk l) (hy : ev tm y = .int k i) (ht : tl T st = some ti) (hk : ti.kd = .slice e) (hte : tl T e = some te) (htd : Nat.blt t n = true)
    (h0 : 0 ≤ i) (hv : l[i.toNat]? = some v) (hU : Uni te.size l)
    (kk : AL P ops rest ⟨n, (t, .eptr v.cells 0) :: tm, bx, fr, ee⟩ Q) : AL P ops (⟨some t, .indexAddr st x y, ty, pos, after, none⟩ :: rest) ⟨n, tm, bx, fr, ee⟩ Q :=
  AL_val _ htd (fun g a w hi => by
    have h1 : V w g fr (ev tm x) (a.eval x) := hi.ev x
    rw [hx] at h1
    have h2 : V w g fr (ev tm y) (a.eval y) := hi.ev y
    rw [hy] at h2
    have h2 := h2.int_inv
    obtain ⟨a1, _⟩ := sl_inv h1
    have hlt : i.toNat < l.length := (List.getElem?_eq_some_iff.1 hv).1
    have hu := (tl_ok hT ht).slice hk
    have hsz := run_sizeOf (P := P) (t := e) (tl_ok hT hte).tSize w
    have hvs : v.cells.length = te.size := hU v (List.mem_of_getElem? hv)
    have hfl := hU.flat
    have hle : i.toNat * te.size + te.size ≤ l.length * te.size := by
      have := Nat.mul_le_mul_right te.size (show i.toNat + 1 ≤ l.length by omega)
      rw [Nat.add_mul] at this; omega
    generalize hq : E.sl l = q at a1
    obtain ⟨p, hp⟩ : ∃ p, p = a.eval x := ⟨_, rfl⟩
    rw [← hp] at a1
    cases a1 with
    | slC l' b off cap us q1 q2 hc hw hvv =>
      injection hq with hq; subst hq
      have hadd : (⟨b, off, none⟩ : Addr).add (i.toNat * te.size) = ⟨b, off + i.toNat * te.size, none⟩ := by unfold Addr.add; split <;> simp_all
      refine ⟨.pointer (some ⟨b, off + i.toNat * te.size, none⟩), ?_, ?_⟩
      · have hb : 0 ≤ i ∧ i < (l.length : Int) := ⟨h0, by omega⟩
        have hrun : (Instr.indexAt st (.slice (some ⟨b, off, none⟩) l.length cap) (.int k i)).run P w = .ok (.pointer (some ⟨b, off + i.toNat * te.size, none⟩)) w := by
          simp [Instr.indexAt, asIntOf, Sem.run_bind, run_underlying hu, hb, hsz, hadd]
        simp [execOp, ← hp, h2, Sem.run_bind, hrun]
      · have := V.eptr (w := w) (g := g) (fr := fr) v.cells 0 b (off + i.toNat * te.size) (fun j => us (i.toNat * te.size + j)) (fun j hj => by rw [Nat.add_assoc]; exact hc _ (by omega)) (fun j hj => by rw [Nat.add_assoc]; exact hw _ (by omega)) (fun j x hx => by
          have hj := (List.getElem?_eq_some_iff.1 hx).1
          exact hvv _ x ((hU.at_ hv j (by omega)).trans hx))
        simpa using this
    | slE A cap h => injection hq with hq; subst hq; simp at hlt
    | _ => cases hq) kk
theorem AL_idxs {x y : Operand} {st : Nat} {k : IntKind} {i : Int} {s : List UInt8} {ti : Ti} {c : UInt8} (hT : chk P T = true) (hx : ev tm x = .str s) (hy : ev tm y = .int k i) (ht : tl T st = some ti) (hk : ti.kd = .str) (htd : Nat.blt t n = true)
    (h0 : 0 ≤ i) (hv : s[i.toNat]? = some c)
    (kk : AL P ops rest ⟨n, (t, .int .u8 (c.toNat : Int)) :: tm, bx, fr, ee⟩ Q) : AL P ops (⟨some t, .index st x y, ty, pos, after, none⟩ :: rest) ⟨n, tm, bx, fr, ee⟩ Q :=
  AL_val _ htd (fun g a w hi => by
    have h1 : V w g fr (ev tm x) (a.eval x) := hi.ev x
    rw [hx] at h1
    have h1 := h1.str_inv.1
    have h2 : V w g fr (ev tm y) (a.eval y) := hi.ev y
    rw [hy] at h2
    have h2 := h2.int_inv
    have hlt : i.toNat < s.length := (List.getElem?_eq_some_iff.1 hv).1
    have hc := (List.getElem?_eq_some_iff.1 hv).2
    refine ⟨.int .u8 (c.toNat : Int), ?_, .int _ _⟩
    have hg : (⟨s.toArray⟩ : ByteArray)[i.toNat]? = some c := by
      have hlt' : i.toNat < (⟨s.toArray⟩ : ByteArray).size := by show _ < s.toArray.size; simpa using hlt
      rw [show ((⟨s.toArray⟩ : ByteArray)[i.toNat]?) = if h : i.toNat < (⟨s.toArray⟩ : ByteArray).size then some ((⟨s.toArray⟩ : ByteArray)[i.toNat]) else none from rfl, dif_pos hlt']
      congr 1
    have hrun : (Instr.index st (.string ⟨s.toArray⟩) (.int k i)).run P w = .ok (.int .u8 (c.toNat : Int)) w := by
      simp [Instr.index, asIntOf, Sem.run_bind, run_underlying ((tl_ok hT ht).str hk), h0, hg]
    simp [execOp, h1, h2, Sem.run_bind, hrun]) kk
theorem AL_len {x : Operand} {st : Nat} {tk : Tok} {l : List E} {ti : Ti} {e : Nat} (hT : chk P T = true) (hx : ev tm x = .sl tk l) (ht : tl T st = some ti) (hk : ti.kd = .slice e) (htd : Nat.blt t n = true)
    (kk : AL P ops rest ⟨n, (t, .int .i64 (l.length : Int)) :: tm, bx, fr, ee⟩ Q) : AL P ops (⟨some t, .call { callee := .builtin .len, args := #[x], argTypes := #[st] }, ty, pos, after, none⟩ :: rest) ⟨n, tm, bx, fr, ee⟩ Q :=
  AL_val _ htd (fun g a w hi => by
    have h1 : V w g fr (ev tm x) (a.eval x) := hi.ev x
    rw [hx] at h1
    obtain ⟨a1, _⟩ := sl_inv h1
    obtain ⟨A, cap, hv⟩ : ∃ A cap, a.eval x = .slice A l.length cap := by
      generalize hq : E.sl l = q at a1
      generalize a.eval x = v at a1
      cases a1 with
      | slC l' b off cap us _ _ _ _ _ => injection hq with hq; subst hq; exact ⟨_, cap, rfl⟩
      | slE A cap h => injection hq with hq; subst hq; exact ⟨A, cap, rfl⟩
      | _ => cases hq
    refine ⟨.int .i64 (l.length : Int), ?_, .int _ _⟩
    simp [execOp, resolve, invoke, builtin, Builtin.len_, Sem.run_bind, hv, run_underlying ((tl_ok hT ht).slice hk), goInt]) kk
theorem AL_lens {x : Operand} {st : Nat} {s : List UInt8} {ti : Ti} (hT : chk P T = true) (hx : ev tm x = .str s) (ht : tl T st = some ti) (hk : ti.kd = .str) (htd : Nat.blt t n = true)
    (kk : AL P ops rest ⟨n, (t, .int .i64 (s.length : Int)) :: tm, bx, fr, ee⟩ Q) : AL P ops (⟨some t, .call { callee := .builtin .len, args := #[x], argTypes := #[st] }, ty, pos, after, none⟩ :: rest) ⟨n, tm, bx, fr, ee⟩ Q :=
  AL_val _ htd (fun g a w hi => by
    have h1 : V w g fr (ev tm x) (a.eval x) := hi.ev x
    rw [hx] at h1
    have h1 := h1.str_inv.1
    refine ⟨.int .i64 (s.length : Int), ?_, .int _ _⟩
    have hs : (⟨s.toArray⟩ : ByteArray).size = s.length := by show s.toArray.size = _; simp
    simp [execOp, resolve, invoke, builtin, Builtin.len_, Sem.run_bind, h1, run_underlying ((tl_ok hT ht).str hk), goInt, hs]) kk
/-- a bound of a slice expression -/
inductive Bnd (tm : List (Nat × D)) : Option Operand → Nat → Nat → Prop
  | dft (d : Nat) : Bnd tm none d d
  | lit (x : Operand) (d : Nat) (k : IntKind) (i : Int) (h : ev tm x = .int k i) (h0 : 0 ≤ i) : Bnd tm (some x) d i.toNat
theorem Bnd.val {S : St} {x : Operand} {k : IntKind} {i : Int} (hi : Inv b0 S g a w) (h : ev S.tm x = .int k i) : a.eval x = .int k i := by
  have h1 : V w g S.fr (ev S.tm x) (a.eval x) := hi.ev x
  rw [h] at h1
  exact h1.int_inv
theorem Bnd.runs {S : St} {lo hi' : Option Operand} {p q len cap : Nat} (hlo : Bnd S.tm lo 0 p) (hhi : Bnd S.tm hi' len q) (hi : Inv b0 S g a w) (hpq : p ≤ q) (hq : q ≤ cap) (b : Bool) :
    (Instr.sliceBounds b len cap (lo.map a.eval) (hi'.map a.eval) none).run P w = .ok (p, q, cap) w := by
  cases hlo with
  | dft =>
    cases hhi with
    | dft => rfl
    | lit y _ k' j h' h0' =>
      have hb : 0 ≤ j ∧ j ≤ (cap : Int) := ⟨h0', by omega⟩
      simp [Instr.sliceBounds, Bnd.val hi h', Instr.sliceBound, asIntOf, Sem.run_bind, hb]
  | lit x _ k i h h0 =>
    cases hhi with
    | dft =>
      have hb : 0 ≤ i ∧ i ≤ (q : Int) := ⟨h0, by omega⟩
      simp [Instr.sliceBounds, Bnd.val hi h, Instr.sliceBound, asIntOf, Sem.run_bind, hb]
    | lit y _ k' j h' h0' =>
      have hb : 0 ≤ j ∧ j ≤ (cap : Int) := ⟨h0', by omega⟩
      have hb2 : 0 ≤ i ∧ i ≤ ((j.toNat : Nat) : Int) := ⟨h0, by omega⟩
      simp only [Instr.sliceBounds, Option.map_some, Bnd.val hi h, Bnd.val hi h', Instr.sliceBound, asIntOf, Sem.run_bind, Sem.run_pure, Result.andThen_ok, if_pos hb, if_pos hb2]
theorem AL_slice (hT : chk P T = true) {x : Operand} {st e : Nat} {tk : Tok} {l l2 : List E} {lo hi' : Option Operand} {p q : Nat} {ti te : Ti} (hx : ev tm x = .sl tk l) (ht : tl T st = some ti) (hk : ti.kd = .slice e) (hte : tl T e = some te) (htd : Nat.blt t n = true)
    (hlo : Bnd tm lo 0 p) (hhi : Bnd tm hi' l.length q) (hpq : p ≤ q) (hq : q ≤ l.length) (hU : Uni te.size l) (hl2 : (l.take q).drop p = l2)
    (kk : AL P ops rest ⟨n, (t, .sl .ext l2) :: tm, bx, fr, ee⟩ Q) : AL P ops (⟨some t, .slice st x lo hi' none, ty, pos, after, none⟩ :: rest) ⟨n, tm, bx, fr, ee⟩ Q :=
  AL_val _ htd (fun g a w hi => by
    have h1 : V w g fr (ev tm x) (a.eval x) := hi.ev x
    rw [hx] at h1
    obtain ⟨a1, _⟩ := sl_inv h1
    have hu := (tl_ok hT ht).slice hk
    have hsz := run_sizeOf (P := P) (t := e) (tl_ok hT hte).tSize w
    obtain ⟨A, cap, hv, hcap⟩ : ∃ A cap, a.eval x = .slice A l.length cap ∧ l.length ≤ cap := by
      generalize hq : E.sl l = q at a1
      generalize a.eval x = v at a1
      cases a1 with
      | slC l' b off cap us h1 _ _ _ _ => injection hq with hq; subst hq; exact ⟨_, cap, rfl, h1⟩
      | slE A cap h => injection hq with hq; subst hq; exact ⟨A, cap, rfl, Nat.zero_le _⟩
      | _ => cases hq
    have hb := Bnd.runs (S := ⟨n, tm, bx, fr, _⟩) (P := P) (cap := cap) hlo hhi hi hpq (by omega) true
    refine ⟨.slice (if cap = p then A else A.map (·.add (p * te.size))) (q - p) (cap - p), ?_, ?_⟩
    · have hrun : (Instr.sliceAt st (.slice A l.length cap) (lo.map a.eval) (hi'.map a.eval) none).run P w = .ok (.slice (if cap = p then A else A.map (·.add (p * te.size))) (q - p) (cap - p)) w := by
        simp [Instr.sliceAt, Instr.slice, Sem.run_bind, run_underlying hu, hb, hsz]
      simp only [execOp, hv, Sem.run_bind, Option.map_none, hrun, Result.andThen_ok]
      rfl
    · subst hl2
      have hlen : ((l.take q).drop p).length = q - p := by simp; omega
      refine .sl _ _ _ ?_ trivial
      by_cases he : q - p = 0
      · have hnil : (l.take q).drop p = [] := List.eq_nil_of_length_eq_zero (by rw [hlen]; exact he)
        rw [hnil, he]
        refine .slE _ _ ?_
        generalize hq' : E.sl l = qq at a1
        rw [hv] at a1
        generalize hs : Value.slice A l.length cap = s at a1
        cases a1 with
        | slC l' b off cap us h1 h2 _ _ _ => injection hs with _ _ e; omega
        | slE A cap h => injection hs with _ _ e; omega
        | _ => cases hq'
      · have hpc : ¬ cap = p := by omega
        rw [if_neg hpc, ← hlen]
        generalize hq' : E.sl l = qq at a1
        rw [hv] at a1
        generalize hs : Value.slice A l.length cap = s at a1
        cases a1 with
        | slC l' b off cap' us h1 h2 hc hw hvv =>
          injection hq' with hq'; subst hq'
          injection hs with e1 _ e3
          subst e1 e3
          have hadd : (⟨b, off, none⟩ : Addr).add (p * te.size) = ⟨b, off + p * te.size, none⟩ := by unfold Addr.add; split <;> simp_all
          simp only [Option.map_some, hadd]
          have hU2 : Uni te.size (l.take q) := hU.sub fun e h => List.mem_of_mem_take h
          have hf : flat ((l.take q).drop p) = ((flat l).take (q * te.size)).drop (p * te.size) := by rw [hU2.drop_flat, hU.take_flat]
          have hfl := hU.flat
          have hql : q * te.size ≤ l.length * te.size := Nat.mul_le_mul_right _ hq
          have hfl2 : (flat ((l.take q).drop p)).length = q * te.size - p * te.size := by rw [hf]; simp; omega
          refine .slC _ b (off + p * te.size) (cap - p) (fun j => us (p * te.size + j)) (by omega) (by omega) (fun j hj => by rw [Nat.add_assoc]; exact hc _ (by omega)) (fun j hj => by rw [Nat.add_assoc]; exact hw _ (by omega)) (fun j x hx => hvv _ x ?_)
          have hj := (List.getElem?_eq_some_iff.1 hx).1
          rw [hf, List.getElem?_drop, List.getElem?_take, if_pos (by omega)] at hx
          exact hx
        | slE A cap' h => injection hs with _ e; omega
        | _ => cases hq') kk
end
end Go.Av

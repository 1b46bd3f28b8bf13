/- More operations: slices built, read, cut; structs built. -/
import Derived.Test.YtnihobjehelagaaDoorG01
import Derived.ScopeJumps
import Derived.Lib.SlBytesConst
import Derived.Laws.IdiomStrings
section
open Go.RowKit Go.Pl
namespace Go.Av
set_option linter.unusedSimpArgs false
set_option linter.unusedVariables false
theorem foldl_set : ∀ (l : List Value) (k off : Nat) (cs : Array Value), off + k + l.length ≤ cs.size →
    ((l.zipIdx k).foldl (fun (cs : Array Value) (p : Value × Nat) => cs.setIfInBounds (off + p.2) p.1) cs).toList = cs.toList.take (off + k) ++ (l ++ cs.toList.drop (off + k + l.length))
  | [], k, off, cs, _ => by simp
  | v :: l, k, off, cs, h => by
    have h' : off + k < cs.size := by simp at h; omega
    have hl : off + (k + 1) + l.length ≤ (cs.setIfInBounds (off + k) v).size := by simp at h ⊢; omega
    have ih := foldl_set l (k + 1) off (cs.setIfInBounds (off + k) v) hl
    rw [List.zipIdx_cons, List.foldl_cons, ih]
    simp only [Array.toList_setIfInBounds, List.length_cons]
    rw [List.drop_set_of_lt (by omega), List.take_set, show off + (k + 1) = off + k + 1 from by omega, List.take_succ_eq_append_getElem (by simpa using h')]
    rw [List.set_append_right _ _ (by simp; omega)]
    simp only [List.length_take, Array.length_toList, Nat.min_eq_left (Nat.le_of_lt h'), Nat.sub_self, List.set_cons_zero, List.append_assoc, List.cons_append, List.nil_append]
    rw [show off + k + (l.length + 1) = off + k + 1 + l.length from by omega]
/-- one part laid -/
theorem fill_cons {place : Nat → Option (Nat × Nat)} {cells : Array Value} {i off size : Nat} {v : Value} {rest : List (Nat × Value)} {vs : List Value} (hp : place i = some (off, size)) (hv : v.cells = vs.toArray) (hs : vs.length = size) (hle : off + size ≤ cells.size) :
    ∃ cells' : Array Value, Instr.fill place cells ((i, v) :: rest) = Instr.fill place cells' rest ∧ cells'.toList = cells.toList.take off ++ (vs ++ cells.toList.drop (off + size)) := by
  refine ⟨_, ?_, foldl_set vs 0 off cells (by omega) |>.trans (by rw [hs]; rfl)⟩
  simp only [Instr.fill, hp, hv, List.size_toArray, hs]
  rw [if_neg (by simp; omega)]
  congr 1
  rw [← Array.foldl_toList]
  simp
/-- the parts of a slice, one behind the other -/
theorem fill_seq {sz : Nat} : ∀ (vs : List (List Value × Value)) (i : Nat) (cells : Array Value), (∀ p ∈ vs, p.2.cells = p.1.toArray ∧ p.1.length = sz) → cells.size = (i + vs.length) * sz →
    ∃ out : Array Value, Instr.fill (fun i => some (i * sz, sz)) cells ((vs.zipIdx i).map fun q => (q.2, q.1.2)) = some out ∧ out.toList = cells.toList.take (i * sz) ++ vs.flatMap (·.1)
  | [], i, cells, _, hs => ⟨cells, rfl, by simp at hs; rw [List.take_of_length_le (by simp; omega)]; simp⟩
  | p :: vs, i, cells, h, hs => by
    obtain ⟨h1, h2⟩ := h p (by simp)
    have hs' : cells.size = i * sz + sz + vs.length * sz := by rw [hs]; simp [Nat.add_mul]; omega
    obtain ⟨c', e1, e2⟩ := fill_cons (place := fun i => some (i * sz, sz)) (cells := cells) (i := i) (rest := (vs.zipIdx (i + 1)).map fun q => (q.2, q.1.2)) rfl h1 h2 (by omega)
    have hc' : c'.size = cells.size := by
      rw [← Array.length_toList, e2]; simp [h2]; omega
    obtain ⟨out, e3, e4⟩ := fill_seq vs (i + 1) c' (fun q hq => h q (by simp [hq])) (by rw [hc', hs', Nat.add_mul, Nat.add_mul]; omega)
    refine ⟨out, by rw [List.zipIdx_cons, List.map_cons, e1, e3], ?_⟩
    rw [e4, e2, List.flatMap_cons, Nat.add_mul, Nat.one_mul]
    rw [List.take_append, List.take_take, Nat.min_eq_right (by omega)]
    simp only [List.length_take, Array.length_toList, Nat.min_eq_left (show i * sz ≤ cells.size by omega), Nat.add_sub_cancel_left]
    rw [List.take_append, h2, List.take_of_length_le (l := p.1) (by omega), Nat.sub_self]
    simp
def D.toEl : List D → Option (List E)
  | [] => some []
  | d :: l => match d.toE, D.toEl l with
    | some e, some l' => some (e :: l')
    | _, _ => none
def uniB (sz : Nat) : List E → Bool
  | [] => true
  | e :: l => match Nat.beq e.cells.length sz with
    | true => uniB sz l
    | false => false
theorem uniB_ok {sz : Nat} : ∀ {l : List E}, uniB sz l = true → Uni sz l
  | [], _ => Uni.nil sz
  | e :: l, h => by
    simp only [uniB] at h
    cases hb : Nat.beq e.cells.length sz with
    | true => simp only [hb] at h; exact Uni.cons (Nat.eq_of_beq_eq_true hb) (uniB_ok h)
    | false => simp [hb] at h
section
variable {P : Program} {Q : X → St → Prop} {n : Nat} {ee : Nat × Nat} {tm : List (Nat × D)} {bx bx' : List (List D)} {fr fr' : List Fr} {b0 : Bs} {g : G} {w : World} {a : Act} {T : Tab}
variable {ops : Array Oper} {rest : List Oper} {t ty : Nat} {pos : String} {after : Array Edge}
theorem toEs_get : ∀ {l : List D} {es : List E}, D.toEs l = some es → l.length = es.length ∧ ∀ (j : Nat) (x : E), es[j]? = some x → ∃ d, l[j]? = some d ∧ d.toE1 = some x
  | [], es, h => by simp [D.toEs] at h; subst h; simp
  | d :: l, es, h => by
    cases hd : d.toE1 with
    | none => simp [D.toEs, hd] at h
    | some e =>
      cases hl : D.toEs l with
      | none => simp [D.toEs, hd, hl] at h
      | some es' =>
        simp [D.toEs, hd, hl] at h; subst h
        obtain ⟨h1, h2⟩ := toEs_get hl
        refine ⟨by simp [h1], fun j x hx => ?_⟩
        cases j with
        | zero => simp at hx; subst hx; exact ⟨d, rfl, hd⟩
        | succ j => simp at hx; simpa using h2 j x hx
/-- what lies down: cell by cell -/
theorem V.toE {d : D} {e : E} {v : Value} (h : V w g fr d v) (he : d.toE = some e) : ∃ vs : List Value, v.cells = vs.toArray ∧ vs.length = e.cells.length ∧ ∀ (j : Nat) (x : E) (u : Value), e.cells[j]? = some x → vs[j]? = some u → VE w g.C x u := by
  by_cases hd : ∃ l, d = .agg l
  · obtain ⟨l, rfl⟩ := hd
    obtain ⟨vs, rfl, h2, h3⟩ := agg_inv h
    simp only [D.toE, Option.map_eq_some_iff] at he
    obtain ⟨es, he, rfl⟩ := he
    obtain ⟨q1, q2⟩ := toEs_get he
    refine ⟨vs, rfl, by rw [h2, q1]; rfl, fun j x u hx hu => ?_⟩
    obtain ⟨d, hd, hx⟩ := q2 j x hx
    exact (h3 j d u hd hu).toE1 hx
  · have he1 : d.toE1 = some e := by cases d <;> first | exact he | exact (hd ⟨_, rfl⟩).elim
    have hv := h.toE1 he1
    have hc : e.cells = [e] := by cases e <;> first | rfl | exact hv.notAgg.elim
    rw [hc]
    refine ⟨[v], ?_, rfl, fun j x u hx hu => ?_⟩
    · cases hv <;> rfl
    · cases j with
      | zero => simp at hx hu; subst hx hu; exact hv
      | succ j => simp at hx
theorem toEl_get : ∀ {l : List D} {es : List E}, D.toEl l = some es → l.length = es.length ∧ ∀ (j : Nat) (d : D), l[j]? = some d → ∃ x, es[j]? = some x ∧ d.toE = some x
  | [], es, h => by simp [D.toEl] at h; subst h; simp
  | d :: l, es, h => by
    cases hd : d.toE with
    | none => simp [D.toEl, hd] at h
    | some e =>
      cases hl : D.toEl l with
      | none => simp [D.toEl, hd, hl] at h
      | some es' =>
        simp [D.toEl, hd, hl] at h; subst h
        obtain ⟨h1, h2⟩ := toEl_get hl
        refine ⟨by simp [h1], fun j x hx => ?_⟩
        cases j with
        | zero => simp at hx; subst hx; exact ⟨e, rfl, hd⟩
        | succ j => simp at hx; simpa using h2 j x hx
/-- the cells of many values, one behind the other -/
theorem rows_of {sz : Nat} : ∀ {ds : List D} {vs : List Value} {es : List E}, D.toEl ds = some es → vs.length = ds.length → (∀ (j : Nat) (d : D) (v : Value), ds[j]? = some d → vs[j]? = some v → V w g fr d v) → Uni sz es →
    ∃ rs : List (List Value × Value), rs.map (·.2) = vs ∧ (∀ p ∈ rs, p.2.cells = p.1.toArray ∧ p.1.length = sz) ∧ (rs.flatMap (·.1)).length = es.length * sz ∧ ∀ (j : Nat) (x : E) (u : Value), (flat es)[j]? = some x → (rs.flatMap (·.1))[j]? = some u → VE w g.C x u
  | [], [], es, h, _, _, _ => ⟨[], rfl, by simp, by simp [D.toEl] at h; subst h; simp, by simp⟩
  | d :: ds, v :: vs, es, h, hl, hv, hU => by
    cases hd : d.toE with
    | none => simp [D.toEl, hd] at h
    | some e =>
      cases hl' : D.toEl ds with
      | none => simp [D.toEl, hd, hl'] at h
      | some es' =>
        simp [D.toEl, hd, hl'] at h; subst h
        obtain ⟨us, q1, q2, q3⟩ := (hv 0 d v rfl rfl).toE hd
        have hsz : e.cells.length = sz := hU e (by simp)
        obtain ⟨rs, p1, p2, p3, p4⟩ := rows_of (sz := sz) hl' (by simpa using hl) (fun j d v h1 h2 => hv (j + 1) d v (by simpa using h1) (by simpa using h2)) (fun x hx => hU x (by simp [hx]))
        refine ⟨(us, v) :: rs, by simp [p1], fun p hp => ?_, ?_, fun j x u hx hu => ?_⟩
        · rcases List.mem_cons.1 hp with rfl | hp
          · exact ⟨q1, by rw [← hsz]; exact q2⟩
          · exact p2 p hp
        · simp only [List.flatMap_cons, List.length_append, List.length_cons, p3, q2, hsz, Nat.add_mul]; omega
        · simp only [flat_cons, List.flatMap_cons] at hx hu
          rcases Nat.lt_or_ge j sz with hj | hj
          · rw [List.getElem?_append_left (by rw [hsz]; exact hj)] at hx
            rw [List.getElem?_append_left (by rw [q2, hsz]; exact hj)] at hu
            exact q3 j x u hx hu
          · rw [List.getElem?_append_right (by rw [hsz]; exact hj), hsz] at hx
            rw [List.getElem?_append_right (by rw [q2, hsz]; exact hj), q2, hsz] at hu
            exact p4 _ x u hx hu
  | [], _ :: _, _, _, hl, _, _ => by simp at hl
  | _ :: _, [], _, _, hl, _, _ => by simp at hl
/-- a slice built: its row's cells -/
theorem bs_run [Known] [Dfr] (hT : chk P T = true) {st len e : Nat} {xs : List Operand} {ds : List D} {es : List E} {ti te : Ti} (ht : tl T st = some ti) (hk : ti.kd = .slice e) (hte : tl T e = some te) {parts : Array (Nat × Operand)} (hp : parts = ((xs.zipIdx 0).map fun q => (q.2, q.1)).toArray) (hlen : Nat.beq xs.length len = true)
    (hds : nfs (xs.map (ev tm)) = some ds) (hes : D.toEl ds = some es) (hU : uniB te.size es = true) (hpos : Nat.blt 0 te.size = true) (hsm : Nat.ble (len * te.size) 16777216 = true) (hi : Inv b0 ⟨n, tm, bx, fr, ee⟩ g a w) :
    ∃ cs : List Value, cs.length = len * te.size ∧ es.length = len ∧ len ≤ maxLen ∧ (∀ (j : Nat) (x : E) (u : Value), (flat es)[j]? = some x → cs[j]? = some u → VE w g.C x u) ∧
      (execOp a.eval ⟨some t, .buildSlice st len parts, ty, pos, after, none⟩).run P w = .ok (.value (.slice (some ⟨w.heap.size, 0, none⟩) len len)) (w.alloc (.cells cs.toArray e)) := by
  have hl := Nat.eq_of_beq_eq_true hlen
  have hsm := Nat.le_of_ble_eq_true hsm
  have hpos : 0 < te.size := by simpa [Nat.blt_eq] using hpos
  have hu := (tl_ok hT ht).slice hk
  have hds' := nfs_eq hds
  obtain ⟨hel, _⟩ := toEl_get hes
  have hdl : ds.length = xs.length := by rw [← hds']; simp
  obtain ⟨rs, r1, r2, r3, r4⟩ := rows_of (w := w) (g := g) (fr := fr) (sz := te.size) (vs := xs.map a.eval) hes (by rw [hdl]; simp) (fun j d v h1 h2 => by
    rw [← hds', List.getElem?_map] at h1
    rw [List.getElem?_map] at h2
    cases hx : xs[j]? with
    | none => simp [hx] at h1
    | some x => simp [hx] at h1 h2; subst h1 h2; exact hi.ev x) (uniB_ok hU)
  have hrl : rs.length = len := by rw [← hl]; have := congrArg List.length r1; simpa using this
  obtain ⟨z, hz1, hz2⟩ := (tl_ok hT hte).zero w
  obtain ⟨hzl, _⟩ := zks_ok (w := w) (g := g) (fr := fr) hz2
  have hparts : (parts.map fun (p : Nat × Operand) => (p.1, a.eval p.2)).toList = (rs.zipIdx 0).map fun q => (q.2, q.1.2) := by
    subst hp
    apply List.ext_getElem?
    intro j
    simp only [List.map_toArray, List.map_map, List.getElem?_map, List.getElem?_zipIdx, Nat.zero_add]
    have hj : (rs.map (·.2))[j]? = (xs.map a.eval)[j]? := by rw [r1]
    rw [List.getElem?_map, List.getElem?_map] at hj
    cases h1 : xs[j]? <;> cases h2 : rs[j]? <;> simp_all
  -- whatever stood there ahead is covered
  have key : ∀ cells : Array Value, cells.size = len * te.size → ∃ out : Array Value, Instr.fill (fun i => some (i * te.size, te.size)) cells (parts.map fun (p : Nat × Operand) => (p.1, a.eval p.2)).toList = some out ∧ out.toList = rs.flatMap (·.1) := fun cells hc => by
    obtain ⟨out, e1, e2⟩ := fill_seq rs 0 cells r2 (by rw [hc, hrl]; simp)
    exact ⟨out, by rw [hparts]; exact e1, by rw [e2]; simp⟩
  have hmul : (rs.flatMap (·.1)).length = len * te.size := by rw [r3, ← hel, hdl, hl]
  have hesl : es.length = len := by rw [← hel, hdl, hl]
  have hrun : (Instr.buildSlice st len (parts.map fun (p : Nat × Operand) => (p.1, a.eval p.2))).run P w = .ok (.slice (some ⟨w.heap.size, 0, none⟩) len len) (w.alloc (.cells (rs.flatMap (·.1)).toArray e)) := by
    have hsz := run_sizeOf (P := P) (t := e) (tl_ok hT hte).tSize w
    by_cases h0 : len * te.size = 0
    · obtain ⟨out, e1, e2⟩ := key #[] (by simp [h0])
      have : out = (rs.flatMap (·.1)).toArray := by rw [← e2]
      have hnil : (Array.range (len * te.size)).map (fun i => (#[] : Array Value)[i % (#[] : Array Value).size]!) = #[] := by rw [h0]; simp
      simp only [Instr.buildSlice, Sem.run_bind, run_underlying hu, Result.andThen_ok, hsz, if_neg (show ¬ len * te.size > 2 ^ 24 by omega), if_pos h0, Sem.run_pure, hnil, e1, this]
      rfl
    · obtain ⟨out, e1, e2⟩ := key ((Array.range (len * te.size)).map (z.cells[· % z.cells.size]!)) (by simp)
      have : out = (rs.flatMap (·.1)).toArray := by rw [← e2]
      simp only [Instr.buildSlice, Sem.run_bind, run_underlying hu, Result.andThen_ok, hsz, if_neg (show ¬ len * te.size > 2 ^ 24 by omega), if_neg h0, hz1, Sem.run_pure, e1, this]
      rfl
  refine ⟨rs.flatMap (·.1), hmul, hesl, by simp only [maxLen]; have := Nat.le_mul_of_pos_right len hpos; omega, r4, ?_⟩
  simp only [execOp, Sem.run_bind]
  rw [show (fun (x : Nat × Operand) => match x with | (i, x) => (i, a.eval x)) = fun (p : Nat × Operand) => (p.1, a.eval p.2) from rfl, hrun]
  rfl
theorem AL_buildSlice [Known] [Dfr] (hT : chk P T = true) {st len e : Nat} {xs : List Operand} {ds : List D} {es : List E} {ti te : Ti} {m : Nat} (ht : tl T st = some ti) (hk : ti.kd = .slice e) (hte : tl T e = some te) {parts : Array (Nat × Operand)} (hp : parts = ((xs.zipIdx 0).map fun q => (q.2, q.1)).toArray) (hlen : Nat.beq xs.length len = true)
    (hds : nfs (xs.map (ev tm)) = some ds) (hes : D.toEl ds = some es) (hU : uniB te.size es = true) (hpos : Nat.blt 0 te.size = true) (hsm : Nat.ble (len * te.size) 16777216 = true) (hm : fr.length = m) (hf : nfl (fr ++ [⟨len, te.size, e⟩]) = some fr') (htd : Nat.blt t n = true)
    (k : AL P ops rest ⟨n, (t, .sl (.own m) es) :: tm, bx, fr', ee⟩ Q) : AL P ops (⟨some t, .buildSlice st len parts, ty, pos, after, none⟩ :: rest) ⟨n, tm, bx, fr, ee⟩ Q :=
  AL_mem _ htd (fun g a w hi => by
    obtain ⟨cs, c1, c2, c3, c4, c5⟩ := bs_run (t := t) (ty := ty) (pos := pos) (after := after) hT ht hk hte hp hlen hds hes hU hpos hsm hi
    have hpos' : 0 < te.size := by simpa [Nat.blt_eq] using hpos
    obtain ⟨k1, k2, k3⟩ := hi.mem.row cs es len te.size e hpos' c1 (by omega) c3 (uniB_ok hU) c4
    rw [c2] at k1 k2 k3
    have e1 := nfl_eq hf
    subst e1 hm
    exact ⟨.slice (some ⟨w.heap.size, 0, none⟩) len len, _, _, c5, k1, k2, k3⟩) k
end
end Go.Av
end
/- Appends, said of abstract states. -/
section
open Go.RowKit Go.Pl
namespace Go.Av
set_option linter.unusedSimpArgs false
set_option linter.unusedVariables false
section
variable {P : Program} {Q : X → St → Prop} {n : Nat} {ee : Nat × Nat} {tm : List (Nat × D)} {bx bx' : List (List D)} {fr fr' : List Fr} {b0 : Bs} {g : G} {w : World} {a : Act} {T : Tab}
variable {ops : Array Oper} {rest : List Oper} {t ty : Nat} {pos : String} {after : Array Edge}
theorem VE.drew {C : Nat → Nat → Prop} {e : E} {v : Value} (h : VE w C e v) : VE w.drew C e v := h.mono (fun _ _ h => h) fun _ _ _ => rfl
theorem V.drew {d : D} {v : Value} (h : V w g fr d v) : V w.drew g fr d v := h.mono (fun _ _ h => h) (fun _ _ _ => rfl) (fun _ _ h => h) (TokOn.refl _ _)
theorem Mem.drew [Known] (hm : Mem g bx fr w) : Mem g bx fr w.drew where
  bl := hm.bl
  bat i k cs h1 h2 := by
    obtain ⟨vs, ty, q1, q2, q3⟩ := hm.bat i k cs h1 h2
    exact ⟨vs, ty, q1, q2, fun j d v hd hv => (q3 j d v hd hv).drew⟩
  bC := hm.bC
  bN := hm.bN
  tl := hm.tl
  tat i k c f h1 h2 := by
    have h := hm.tat i k c f h1 h2
    exact ⟨h.row, h.le, h.max, h.pos, h.far⟩
  tN := hm.tN
  tρ := hm.tρ
  Clt := hm.Clt
  gl := hm.gl
theorem Evo.drew : Evo ⟨g, fr, w⟩ ⟨g, fr, w.drew⟩ := ⟨rfl, rfl, rfl, Nat.le_refl _, fun _ _ _ => rfl, fun _ _ h => h, fun _ _ _ => rfl, fun _ _ h => .inl h, fun _ _ h => h, fun _ h => .inl h, fun _ c h => .inl ⟨c, h⟩, TokOn.refl _ _⟩
theorem mem_set {α : Type} {l : List α} {i : Nat} {x y : α} (h : y ∈ l.set i x) : y = x ∨ ∃ j, j ≠ i ∧ l[j]? = some y := by
  obtain ⟨j, hj⟩ := List.getElem?_of_mem h
  by_cases e : i = j
  · subst e
    have hlt : i < l.length := by have := (List.getElem?_eq_some_iff.1 hj).1; simpa using this
    rw [List.getElem?_set_self hlt] at hj
    injection hj with hj
    exact .inl hj.symm
  · rw [List.getElem?_set_ne e] at hj
    exact .inr ⟨j, fun h => e h.symm, hj⟩
/-- a token's row goes on at another block, or in its own: what both have in common -/
theorem Mem.retok [Known] (hm : Mem g bx fr w) {i blk cap blk' cap' : Nat} {f f' : Fr} {C' : Nat → Nat → Prop} {w' : World} (hτ : g.τ[i]? = some (blk, cap)) (hf : fr[i]? = some f) (hn : f.n < f'.n)
    (hb : blk' = blk ∨ blk' = w.heap.size) (hos : w'.os = w.os) (htape : w'.tape = w.tape) (hout : w'.output = w.output) (hsize : w.heap.size ≤ w'.heap.size) (hlt' : blk' < w'.heap.size)
    (hfar : ∀ k, k < w.heap.size → k ≠ blk' → w'.heap[k]? = w.heap[k]?)
    (hC : ∀ k o, C' k o ↔ (g.C k o ∨ (k = blk' ∧ o < f'.n * f'.sz)))
    (hold : ∀ o, g.C blk' o → w'.cell? ⟨blk', o, none⟩ = w.cell? ⟨blk', o, none⟩)
    (hT : ∃ cur, w'.heap[blk']? = some (.cells cur f'.e (0, 0)) ∧ cur.size = cap' * f'.sz) (hle : f'.n ≤ cap') (hmax : cap' ≤ maxLen) (hpos : 0 < f'.sz) (hfarC : ∀ o, f'.n * f'.sz ≤ o → ¬ g.C blk' o) :
    Evo ⟨g, fr, w⟩ ⟨⟨C', g.ρ, g.τ.set i (blk', cap')⟩, fr.set i f', w'⟩ ∧ Mem ⟨C', g.ρ, g.τ.set i (blk', cap')⟩ bx (fr.set i f') w' := by
  have hlt : i < g.τ.length := (List.getElem?_eq_some_iff.1 hτ).1
  have hltf : i < fr.length := (List.getElem?_eq_some_iff.1 hf).1
  have hMb : M g blk' ∨ w.heap.size ≤ blk' := by
    rcases hb with rfl | rfl
    · exact .inl (.inr ⟨cap, List.mem_of_getElem? hτ⟩)
    · exact .inr (Nat.le_refl _)
  have hcell : ∀ k o, g.C k o → w'.cell? ⟨k, o, none⟩ = w.cell? ⟨k, o, none⟩ := fun k o h => by
    by_cases e : k = blk'
    · subst e; exact hold o h
    · exact World.cell?_of_block (w := w) (hfar k (hm.Clt k o h) e)
  have hevo : Evo ⟨g, fr, w⟩ ⟨⟨C', g.ρ, g.τ.set i (blk', cap')⟩, fr.set i f', w'⟩ := by
    refine ⟨hos, htape, hout, hsize, fun k hk hn => hfar k hk fun e => ?_, fun k o h => (hC k o).2 (.inl h), hcell, fun k o h => ?_, fun _ _ h => h, fun _ h => .inl h, fun k c h => ?_, fun j fj hj => ?_⟩
    · subst e
      rcases hMb with h | h
      · exact hn h
      · have : w.heap.size ≤ k := h
        have hk : k < w.heap.size := hk
        omega
    · rcases (hC k o).1 h with h | ⟨rfl, _⟩
      · exact .inl h
      · rcases hMb with h | h
        · exact .inr (.inr h)
        · exact .inr (.inl h)
    · rcases mem_set h with h | ⟨j, _, h⟩
      · injection h with h1 h2
        subst h1
        rcases hb with rfl | rfl
        · exact .inl ⟨cap, List.mem_of_getElem? hτ⟩
        · exact .inr (Nat.le_refl _)
      · exact .inl ⟨c, List.mem_of_getElem? h⟩
    · by_cases e : i = j
      · subst e
        rw [hf] at hj; injection hj with hj; subst hj
        exact ⟨f', List.getElem?_set_self hltf, Nat.le_of_lt hn, fun e => by omega⟩
      · exact ⟨fj, by rw [List.getElem?_set_ne e]; exact hj, Nat.le_refl _, fun _ => List.getElem?_set_ne e⟩
  refine ⟨hevo, ?_⟩
  have hρ : blk' ∉ g.ρ := fun h => by
    rcases hb with rfl | rfl
    · exact hm.tρ _ _ (List.mem_of_getElem? hτ) h
    · have := hm.lt (.inl h); omega
  have hτn : ∀ (j c : Nat), j ≠ i → g.τ[j]? = some (blk', c) → False := fun j c hji hj => by
    rcases hb with rfl | rfl
    · exact hji (hm.tN j i _ c cap hj hτ)
    · have := hm.lt (.inr ⟨c, List.mem_of_getElem? hj⟩); omega
  constructor
  · exact hm.bl
  · intro j k cs h1 h2
    obtain ⟨vs, ty, q1, q2, q3⟩ := hm.bat j k cs h1 h2
    have hne : k ≠ blk' := fun e => hρ (e ▸ List.mem_of_getElem? h1)
    exact ⟨vs, ty, (hfar k (Array.getElem?_eq_some_iff.1 q1).1 hne).trans q1, q2, fun j d v hd hv => (q3 j d v hd hv).evo hevo⟩
  · intro k o hk h
    rcases (hC k o).1 h with h | ⟨rfl, _⟩
    · exact hm.bC k o hk h
    · exact hρ hk
  · exact hm.bN
  · simp [hm.tl]
  · intro j k c fj h1 h2
    by_cases e : i = j
    · subst e
      have h1 : (g.τ.set i (blk', cap'))[i]? = some (k, c) := h1
      rw [List.getElem?_set_self hlt] at h1
      injection h1 with h1
      injection h1 with h1 h3
      subst h1 h3
      rw [List.getElem?_set_self hltf] at h2
      injection h2 with h2
      subst h2
      refine ⟨hT, hle, hmax, hpos, fun o ho h => ?_⟩
      rcases (hC _ o).1 h with h | ⟨_, h⟩
      · exact hfarC o ho h
      · omega
    · have h1x : (g.τ.set i (blk', cap'))[j]? = some (k, c) := h1
      clear h1
      rw [List.getElem?_set_ne e] at h1x h2
      have hTk := hm.tat j k c fj h1x h2
      obtain ⟨cur, s1, s2⟩ := hTk.row
      have hne : k ≠ blk' := fun e' => by subst e'; exact hτn j c (Ne.symm e) h1x
      refine ⟨⟨cur, (hfar k (Array.getElem?_eq_some_iff.1 s1).1 hne).trans s1, s2⟩, hTk.le, hTk.max, hTk.pos, fun o ho h => ?_⟩
      rcases (hC k o).1 h with h | ⟨h, _⟩
      · exact hTk.far o ho h
      · exact hne h
  · intro x y k c c' h1 h2
    have hget : ∀ (x c : Nat), (g.τ.set i (blk', cap'))[x]? = some (k, c) → (x = i ∧ k = blk') ∨ (x ≠ i ∧ g.τ[x]? = some (k, c)) := fun x c h => by
      by_cases e : i = x
      · subst e
        rw [List.getElem?_set_self hlt] at h
        injection h with h
        injection h with h
        exact .inl ⟨rfl, h.symm⟩
      · rw [List.getElem?_set_ne e] at h
        exact .inr ⟨Ne.symm e, h⟩
    rcases hget x c h1 with ⟨rfl, h3⟩ | ⟨hx, h3⟩ <;> rcases hget y c' h2 with ⟨rfl, h4⟩ | ⟨hy, h4⟩
    · rfl
    · subst h3; exact (hτn y c' hy h4).elim
    · subst h4; exact (hτn x c hx h3).elim
    · exact hm.tN x y k c c' h3 h4
  · intro k c hk hr
    rcases mem_set hk with h | ⟨j, _, h⟩
    · injection h with h1 h2
      subst h1
      exact hρ hr
    · exact hm.tρ k c (List.mem_of_getElem? h) hr
  · intro k o h
    rcases (hC k o).1 h with h | ⟨rfl, _⟩
    · have := hm.Clt k o h
      omega
    · exact hlt'
  · exact hm.gl.evo hevo
/-- what is appended -/
theorem news_of {l : List E} {sz : Nat} {v : Value} (h : VE w g.C (.sl l) v) (hU : Uni sz l) (hne : l ≠ []) : ∃ (ad : Addr) (c : Nat) (news : List Value), v = .slice (some ad) l.length c ∧ news.length = l.length * sz ∧ (∀ j u, news[j]? = some u → w.cell? (ad.add j) = some u) ∧ (∀ u ∈ news, u.oneCell' = true) ∧
    ∀ (j : Nat) (x : E) (u : Value), (flat l)[j]? = some x → news[j]? = some u → VE w g.C x u := by
  generalize hq : E.sl l = q at h
  cases h with
  | slC l' b off cap us h1 h2 hc hw hv =>
    injection hq with hq; subst hq
    have hfl := hU.flat
    have hnj : ∀ (j : Nat) (u : Value), ((List.range (l.length * sz)).map us)[j]? = some u → j < l.length * sz ∧ u = us j := fun j u hu => by
      rw [List.getElem?_map] at hu
      cases hj : (List.range (l.length * sz))[j]? with
      | none => simp [hj] at hu
      | some j' =>
        obtain ⟨q1, q2⟩ := List.getElem?_eq_some_iff.1 hj
        simp at q1 q2
        subst q2
        simp [hj] at hu
        exact ⟨q1, hu.symm⟩
    refine ⟨⟨b, off, none⟩, cap, (List.range (l.length * sz)).map us, rfl, by simp, fun j u hu => ?_, fun u hu => ?_, fun j x u hx hu => ?_⟩
    · obtain ⟨q1, rfl⟩ := hnj j u hu
      rw [Addr.add_mid]
      exact hw j (by omega)
    · obtain ⟨j, hj⟩ := List.getElem?_of_mem hu
      obtain ⟨q1, rfl⟩ := hnj j u hj
      have : j < (flat l).length := by omega
      exact (hv j _ (List.getElem?_eq_getElem this)).one
    · obtain ⟨q1, rfl⟩ := hnj j u hu
      exact hv j x hx
  | slE A cap h => injection hq with hq; exact (hne hq).elim
  | _ => cases hq
theorem sl_inv {tk : Tok} {l : List E} {v : Value} (h : V w g fr (.sl tk l) v) : VE w g.C (.sl l) v ∧ TokOk g fr tk l.length v := by cases h; exact ⟨‹_›, ‹_›⟩
/-- what an old row read as, cell by cell -/
theorem VE.old {l : List E} {sz blk cap : Nat} (h : VE w g.C (.sl l) (.slice (some ⟨blk, 0, none⟩) l.length cap)) (hU : Uni sz l) : (∀ o, o < l.length * sz → g.C blk o) ∧ ∀ (j : Nat) (x : E) (u : Value), (flat l)[j]? = some x → w.cell? ⟨blk, j, none⟩ = some u → VE w g.C x u := by
  have hfl := hU.flat
  generalize hq : E.sl l = q at h
  generalize hs : Value.slice (some ⟨blk, 0, none⟩) l.length cap = s at h
  cases h with
  | slC l' b off cap us h1 h2 hc hw hv =>
    injection hq with hq; subst hq
    injection hs with e1 e2 e3
    injection e1 with e1
    injection e1 with e1 e4
    subst e1 e4
    refine ⟨fun o ho => by have := hc o (by omega); simpa using this, fun j x u hx hu => ?_⟩
    have hj := (List.getElem?_eq_some_iff.1 hx).1
    have := hw j hj
    rw [Nat.zero_add, hu] at this
    injection this with this
    rw [this]
    exact hv j x hx
  | slE A cap h =>
    injection hq with hq; subst hq
    exact ⟨fun o ho => by simp at ho, fun j x u hx => by simp at hx⟩
  | _ => cases hq
theorem AL_append [Known] [Dfr] (hT : chk P T = true) {x y : Operand} {st e i : Nat} {l l' : List E} {tk : Tok} {ti te : Ti} {f : Fr} (ht : tl T st = some ti) (hk : ti.kd = .slice e) (hte : tl T e = some te) (hx : ev tm x = .sl (.own i) l) (hy : ev tm y = .sl tk l')
    (hf : fr[i]? = some f) (hfn : f.n = l.length) (hfs : f.sz = te.size) (hfe : f.e = e) (hU : Uni te.size l) (hU' : Uni te.size l') (hne : l' ≠ []) (hlen : l.length + l'.length ≤ maxLen) (hby : (l.length + l'.length) * te.bytes ≤ 140737488355328)
    (hfr : nfl (fr.set i ⟨l.length + l'.length, te.size, e⟩) = some fr') (htd : Nat.blt t n = true)
    (k : AL P ops rest ⟨n, (t, .sl (.own i) (l ++ l')) :: tm, bx, fr', ee⟩ Q) : AL P ops (⟨some t, .call { callee := .builtin .append, args := #[x, y], argTypes := #[st, st] }, ty, pos, after, none⟩ :: rest) ⟨n, tm, bx, fr, ee⟩ Q :=
  AL_mem _ htd (fun g a w hi => by
    have h1 : V w g fr (ev tm x) (a.eval x) := hi.ev x
    have h2 : V w g fr (ev tm y) (a.eval y) := hi.ev y
    rw [hx] at h1
    rw [hy] at h2
    obtain ⟨a1, a2⟩ := sl_inv h1
    obtain ⟨b1, _⟩ := sl_inv h2
    obtain ⟨ad, c, news, hyv, n1, n2, n3, n4⟩ := news_of b1 hU' hne
    have hpos' : 0 < l'.length := List.length_pos_iff.2 hne
    obtain ⟨f', hf', _, hfv⟩ := a2
    rw [hf] at hf'; injection hf' with hf'; subst hf'
    obtain ⟨blk, cap, hxv, hτ⟩ := hfv hfn
    have hm := hi.mem
    have hTk := hm.tat i blk cap f hτ hf
    obtain ⟨cur, s1, s2⟩ := hTk.row
    rw [hfe] at s1
    rw [hfs] at s2
    have hle := hTk.le
    rw [hfn] at hle
    have hpos := hTk.pos
    rw [hfs] at hpos
    have hmax := hTk.max
    have hblk : blk < w.heap.size := (Array.getElem?_eq_some_iff.1 s1).1
    have hu := (tl_ok hT ht).slice hk
    obtain ⟨ie, ue, z, i1, i2, i3, i4, i5, i6, i7⟩ := (tl_ok hT hte).out
    rw [hxv] at a1
    obtain ⟨o1, o2⟩ := a1.old hU
    have hz := (zks_ok (w := w) (g := g) (fr := fr) i7).1
    -- the cells of old
    have hcurle : l.length * te.size ≤ cur.size := by rw [s2]; exact Nat.mul_le_mul_right _ hle
    have olds : (cur.toList.take (l.length * te.size)).length = l.length * ie.size := by rw [← i5]; simp; omega
    have oget : ∀ (j : Nat) (u : Value), (cur.toList.take (l.length * te.size))[j]? = some u → w.cell? ⟨blk, j, none⟩ = some u := fun j u hu => by
      rw [cell_of_row w blk j cur e (0, 0) s1]
      have : j < l.length * te.size ∧ cur[j]? = some u := by simpa [List.getElem?_take] using hu
      exact this.2
    have hflat := hU.flat
    have hnew : ∀ (j : Nat) (x : E) (u : Value), (flat (l ++ l'))[j]? = some x → (cur.toList.take (l.length * te.size) ++ news)[j]? = some u → VE w g.C x u := fun j x u hx hu => by
      rw [flat_append] at hx
      have hl2 : (cur.toList.take (l.length * te.size)).length = l.length * te.size := by simp; omega
      rcases Nat.lt_or_ge j (l.length * te.size) with hj | hj
      · rw [List.getElem?_append_left (by omega)] at hx
        rw [List.getElem?_append_left (by omega)] at hu
        exact o2 j x u hx (oget j u hu)
      · rw [List.getElem?_append_right (by omega), hflat] at hx
        rw [List.getElem?_append_right (by omega), hl2] at hu
        exact n4 _ x u hx hu
    have hll : (l ++ l').length = l.length + l'.length := List.length_append
    have hUU := hU.append hU'
    have hmul : (l.length + l'.length) * te.size = l.length * te.size + l'.length * te.size := Nat.add_mul _ _ _
    have hltr : i < fr.length := (List.getElem?_eq_some_iff.1 hf).1
    have hltτ : i < g.τ.length := by rw [hm.tl]; exact hltr
    rw [← nfl_eq hfr]
    by_cases hroom : l.length + l'.length ≤ cap
    · -- in place
      have hfit : l.length * ie.size + news.length ≤ cur.size := by rw [n1, ← i5, s2, ← Nat.add_mul]; exact Nat.mul_le_mul_right _ hroom
      have hr := run_append_room (P := P) w st ty e ie hu i1 blk l.length cap cur s1 ad l'.length c news (by rw [← i5]; exact n1) n2 n3 hroom hfit
      obtain ⟨w', hw'⟩ : ∃ w', w' = w.setRow blk (cur.toList.take (l.length * ie.size) ++ news ++ cur.toList.drop (l.length * ie.size + news.length)).toArray := ⟨_, rfl⟩
      rw [← hw'] at hr
      rw [← i5] at hw' hfit
      have hheap : w'.heap[blk]? = some (.cells (cur.toList.take (l.length * te.size) ++ news ++ cur.toList.drop (l.length * te.size + news.length)).toArray e (0, 0)) := by
        rw [hw']; exact setRow_heap w blk cur _ e _ s1
      have hsz : w'.heap.size = w.heap.size := by rw [hw']; simp [World.setRow]
      have hl2 : (cur.toList.take (l.length * te.size)).length = l.length * te.size := by simp; omega
      have hcl : ∀ j, j < l.length * te.size + news.length → w'.cell? ⟨blk, j, none⟩ = (cur.toList.take (l.length * te.size) ++ news)[j]? := fun j hj => by
        rw [cell_of_row w' blk j _ _ _ hheap]
        simp only [List.getElem?_toArray]
        rw [List.getElem?_append_left (by simp only [List.length_append, hl2]; exact hj)]
      obtain ⟨k1, k2⟩ := hm.retok (i := i) (blk' := blk) (cap' := cap) (f := f) (f' := ⟨l.length + l'.length, te.size, e⟩) (C' := fun k o => g.C k o ∨ (k = blk ∧ o < (l.length + l'.length) * te.size)) (w' := w') hτ hf (by dsimp only; omega) (.inl rfl)
        (by rw [hw']; rfl) (by rw [hw']; rfl) (by rw [hw']; rfl) (by rw [hsz]; exact Nat.le_refl _) (by rw [hsz]; exact hblk)
        (fun k hk hne => by rw [hw']; simp only [World.setRow, Array.getElem?_modify]; rw [if_neg (fun e => hne e.symm)])
        (fun k o => Iff.rfl)
        (fun o ho => by
          have hlt : o < l.length * te.size := by
            rcases Nat.lt_or_ge o (l.length * te.size) with h | h
            · exact h
            · exact (hTk.far o (by rw [hfn, hfs]; exact h) ho).elim
          rw [hcl o (by omega), List.getElem?_append_left (by omega), List.getElem?_take, if_pos hlt, cell_of_row w blk o cur e (0, 0) s1]
          simp)
        ⟨_, hheap, by simp only [List.size_toArray, List.length_append, hl2, List.length_drop, Array.length_toList, n1]; rw [n1] at hfit; omega⟩ hroom hmax hpos
        (fun o ho hC => hTk.far o (by rw [hfn, hfs]; dsimp only at ho; omega) hC)
      refine ⟨.slice (some ⟨blk, 0, none⟩) (l.length + l'.length) cap, w', _, by simp only [execOp, resolve, invoke, builtin, Sem.run_bind, Sem.run_pure, Result.andThen_ok, List.map_toArray, List.map_cons, List.map_nil, hxv, hyv, hr], k1, k2, ?_⟩
      refine .sl _ _ _ ?_ ⟨⟨l.length + l'.length, te.size, e⟩, List.getElem?_set_self hltr, by rw [hll]; exact Nat.le_refl _, fun _ => ⟨blk, cap, by rw [hll], List.getElem?_set_self hltτ⟩⟩
      have hfl2 : (flat (l ++ l')).length = l.length * te.size + news.length := by rw [hUU.flat, hll, n1, hmul]
      suffices hVE : VE w' (fun k o => g.C k o ∨ (k = blk ∧ o < (l.length + l'.length) * te.size)) (.sl (l ++ l')) (.slice (some ⟨blk, 0, none⟩) (l ++ l').length cap) by rw [hll] at hVE; exact hVE
      refine .slC _ blk 0 cap (fun j => (cur.toList.take (l.length * te.size) ++ news).getD j undef) (by rw [hll]; exact hroom) hmax (fun j hj => .inr ⟨rfl, by rw [hfl2, n1] at hj; rw [hmul]; omega⟩) (fun j hj => ?_) (fun j x hx => ?_)
      · rw [hfl2] at hj
        rw [Nat.zero_add, hcl j hj]
        exact getD_some (by simp only [List.length_append, hl2]; exact hj)
      · have hj := (List.getElem?_eq_some_iff.1 hx).1
        rw [hfl2] at hj
        exact (hnew j x _ hx (getD_some (by simp only [List.length_append, hl2]; exact hj))).mono k1.C k1.cell
    · -- copied
      have hr := run_append_grow (P := P) w st ty e ie z hu i1 i3 ⟨blk, 0, none⟩ l.length cap (cur.toList.take (l.length * te.size)) olds (fun j u hu => by rw [Addr.add_mid, Nat.zero_add]; exact oget j u hu) ad l'.length c news (by rw [← i5]; exact n1) n2 (by omega) (by simp only [maxLen] at hlen; omega) (growslice_fits (by omega) (by rw [← i6]; exact hby))
      have hge := grownCap_ge w (l.length + l'.length) cap e
      have hcm := grownCap_le_maxLen w (l.length + l'.length) cap e hlen
      obtain ⟨C2, hC2⟩ : ∃ C2, C2 = grownCap w (l.length + l'.length) cap e := ⟨_, rfl⟩
      rw [← hC2] at hr hge hcm
      have hl2 : (cur.toList.take (l.length * te.size)).length = l.length * te.size := by simp; omega
      have hcurr : (cur.toList.take (l.length * te.size)).toArray ++ news.toArray ++ Builtin.zeroCells z.cells (C2 - (l.length + l'.length)) = (cur.toList.take (l.length * te.size) ++ news ++ (Builtin.zeroCells z.cells (C2 - (l.length + l'.length))).toList).toArray := by simp
      rw [hcurr] at hr
      obtain ⟨rest', hrest⟩ : ∃ rest', rest' = (Builtin.zeroCells z.cells (C2 - (l.length + l'.length))).toList := ⟨_, rfl⟩
      have hzc : z.cells.size = ie.size := by
        have := i7; rw [← Array.length_toList, hz, ← i5]
        exact (tl_zero hT hte).symm
      have hrl : rest'.length = (C2 - (l.length + l'.length)) * te.size := by rw [hrest, Array.length_toList, size_zeroCells, hzc, ← i5]
      rw [← hrest] at hr
      have hheap : (w.drew.alloc (.cells (cur.toList.take (l.length * te.size) ++ news ++ rest').toArray e)).heap[w.heap.size]? = some (.cells (cur.toList.take (l.length * te.size) ++ news ++ rest').toArray e (0, 0)) := heap_alloc_new w.drew _
      have hcl : ∀ j, j < l.length * te.size + news.length → (w.drew.alloc (.cells (cur.toList.take (l.length * te.size) ++ news ++ rest').toArray e)).cell? ⟨w.heap.size, j, none⟩ = (cur.toList.take (l.length * te.size) ++ news)[j]? := fun j hj => by
        rw [cell_of_row _ w.heap.size j _ _ _ hheap]
        simp only [List.getElem?_toArray]
        rw [List.getElem?_append_left (by simp only [List.length_append, hl2]; exact hj)]
      obtain ⟨k1, k2⟩ := hm.retok (i := i) (blk' := w.heap.size) (cap' := C2) (f := f) (f' := ⟨l.length + l'.length, te.size, e⟩) (C' := fun k o => g.C k o ∨ (k = w.heap.size ∧ o < (l.length + l'.length) * te.size)) (w' := w.drew.alloc (.cells (cur.toList.take (l.length * te.size) ++ news ++ rest').toArray e)) hτ hf (by dsimp only; omega) (.inr rfl)
        rfl rfl rfl (by simp) (by simp) (fun k hk _ => Below.heap_alloc w.drew _ k hk) (fun k o => Iff.rfl) (fun o ho => by have := hm.Clt _ o ho; omega)
        ⟨_, hheap, by simp only [List.size_toArray, List.length_append, hl2, n1, hrl, ← Nat.add_mul]; congr 1; omega⟩ hge hcm hpos (fun o _ hC => by have := hm.Clt _ o hC; omega)
      refine ⟨.slice (some ⟨w.heap.size, 0, none⟩) (l.length + l'.length) C2, _, _, by simp only [execOp, resolve, invoke, builtin, Sem.run_bind, Sem.run_pure, Result.andThen_ok, List.map_toArray, List.map_cons, List.map_nil, hxv, hyv, hr], k1, k2, ?_⟩
      refine .sl _ _ _ ?_ ⟨⟨l.length + l'.length, te.size, e⟩, List.getElem?_set_self hltr, by rw [hll]; exact Nat.le_refl _, fun _ => ⟨w.heap.size, C2, by rw [hll], List.getElem?_set_self hltτ⟩⟩
      have hfl2 : (flat (l ++ l')).length = l.length * te.size + news.length := by rw [hUU.flat, hll, n1, hmul]
      suffices hVE : VE (w.drew.alloc (.cells (cur.toList.take (l.length * te.size) ++ news ++ rest').toArray e)) (fun k o => g.C k o ∨ (k = w.heap.size ∧ o < (l.length + l'.length) * te.size)) (.sl (l ++ l')) (.slice (some ⟨w.heap.size, 0, none⟩) (l ++ l').length C2) by rw [hll] at hVE; exact hVE
      refine .slC _ w.heap.size 0 C2 (fun j => (cur.toList.take (l.length * te.size) ++ news).getD j undef) (by rw [hll]; exact hge) hcm (fun j hj => .inr ⟨rfl, by rw [hfl2, n1] at hj; rw [hmul]; omega⟩) (fun j hj => ?_) (fun j x hx => ?_)
      · rw [hfl2] at hj
        rw [Nat.zero_add, hcl j hj]
        exact getD_some (by simp only [List.length_append, hl2]; exact hj)
      · have hj := (List.getElem?_eq_some_iff.1 hx).1
        rw [hfl2] at hj
        exact (hnew j x _ hx (getD_some (by simp only [List.length_append, hl2]; exact hj))).mono k1.C k1.cell) k
/-- the first append to nil -/
theorem AL_append_nil [Known] [Dfr] (hT : chk P T = true) {x y : Operand} {st e m : Nat} {l' : List E} {tk : Tok} {ti te : Ti} (ht : tl T st = some ti) (hk : ti.kd = .slice e) (hte : tl T e = some te) (hx : ev tm x = .sl .nil []) (hy : ev tm y = .sl tk l')
    (hpos : Nat.blt 0 te.size = true) (hU' : Uni te.size l') (hne : l' ≠ []) (hlen : l'.length ≤ maxLen) (hby : l'.length * te.bytes ≤ 140737488355328)
    (hm : fr.length = m) (hfr : nfl (fr ++ [⟨l'.length, te.size, e⟩]) = some fr') (htd : Nat.blt t n = true)
    (k : AL P ops rest ⟨n, (t, .sl (.own m) l') :: tm, bx, fr', ee⟩ Q) : AL P ops (⟨some t, .call { callee := .builtin .append, args := #[x, y], argTypes := #[st, st] }, ty, pos, after, none⟩ :: rest) ⟨n, tm, bx, fr, ee⟩ Q :=
  AL_mem _ htd (fun g a w hi => by
    have h1 : V w g fr (ev tm x) (a.eval x) := hi.ev x
    have h2 : V w g fr (ev tm y) (a.eval y) := hi.ev y
    rw [hx] at h1
    rw [hy] at h2
    obtain ⟨a1, a2⟩ := sl_inv h1
    obtain ⟨b1, _⟩ := sl_inv h2
    have hxv : a.eval x = .slice none 0 0 := a2
    obtain ⟨ad, c, news, hyv, n1, n2, n3, n4⟩ := news_of b1 hU' hne
    have hpos' : 0 < l'.length := List.length_pos_iff.2 hne
    have hpos : 0 < te.size := by simpa [Nat.blt_eq] using hpos
    have hu := (tl_ok hT ht).slice hk
    obtain ⟨ie, ue, z, i1, i2, i3, i4, i5, i6, i7⟩ := (tl_ok hT hte).out
    have hr := run_append_nil (P := P) w st ty e ie z hu i1 i3 ad l'.length c news (by rw [← i5]; exact n1) n2 hpos' (by simp only [maxLen] at hlen; omega) (by rw [← i6]; omega)
    have hge := grownCap_ge w l'.length 0 e
    have hcm := grownCap_le_maxLen w l'.length 0 e hlen
    obtain ⟨C2, hC2⟩ : ∃ C2, C2 = grownCap w l'.length 0 e := ⟨_, rfl⟩
    rw [← hC2] at hr hge hcm
    have hcurr : news.toArray ++ Builtin.zeroCells z.cells (C2 - l'.length) = (news ++ (Builtin.zeroCells z.cells (C2 - l'.length)).toList).toArray := by simp
    rw [hcurr] at hr
    have hz := (zks_ok (w := w) (g := g) (fr := fr) i7).1
    have hzc : z.cells.size = ie.size := by
      rw [← Array.length_toList, hz, ← i5]
      exact (tl_zero hT hte).symm
    have hfl := hU'.flat
    have hd : Mem g bx fr w.drew := hi.mem.drew
    have hzl : (Builtin.zeroCells z.cells (C2 - l'.length)).toList.length = (C2 - l'.length) * te.size := by rw [Array.length_toList, size_zeroCells, hzc, ← i5]
    obtain ⟨k1, k2, k3⟩ := hd.row (news ++ (Builtin.zeroCells z.cells (C2 - l'.length)).toList) l' C2 te.size e hpos (by
      rw [List.length_append, hzl, n1, ← Nat.add_mul]
      congr 1; omega) hge hcm hU' (fun j x u hx hu => by
        have hj := (List.getElem?_eq_some_iff.1 hx).1
        rw [List.getElem?_append_left (by omega)] at hu
        exact (n4 j x u hx hu).drew)
    have e1 := nfl_eq hfr
    subst e1 hm
    exact ⟨.slice (some ⟨w.heap.size, 0, none⟩) l'.length C2, _, _, by simp only [execOp, resolve, invoke, builtin, Sem.run_bind, Sem.run_pure, Result.andThen_ok, List.map_toArray, List.map_cons, List.map_nil, hxv, hyv, hr], Evo.drew.trans k1, k2, k3⟩) k
/-- nothing appended -/
theorem AL_append_none [Known] [Dfr] (hT : chk P T = true) {x y : Operand} {st e : Nat} {l : List E} {tk tk' : Tok} {ti te : Ti} (ht : tl T st = some ti) (hk : ti.kd = .slice e) (hte : tl T e = some te) (hx : ev tm x = .sl tk l) (hy : ev tm y = .sl tk' []) (htd : Nat.blt t n = true)
    (k : AL P ops rest ⟨n, (t, .sl tk l) :: tm, bx, fr, ee⟩ Q) : AL P ops (⟨some t, .call { callee := .builtin .append, args := #[x, y], argTypes := #[st, st] }, ty, pos, after, none⟩ :: rest) ⟨n, tm, bx, fr, ee⟩ Q :=
  AL_val _ htd (fun g a w hi => by
    have h1 : V w g fr (ev tm x) (a.eval x) := hi.ev x
    have h2 : V w g fr (ev tm y) (a.eval y) := hi.ev y
    rw [hx] at h1
    rw [hy] at h2
    obtain ⟨b1, _⟩ := sl_inv h2
    refine ⟨a.eval x, ?_, h1⟩
    obtain ⟨a1, _⟩ := sl_inv h1
    have hu := (tl_ok hT ht).slice hk
    obtain ⟨ie, ue, z, i1, i2, i3, i4, i5, i6, i7⟩ := (tl_ok hT hte).out
    obtain ⟨A, cap, hyv⟩ : ∃ A cap, a.eval y = .slice A 0 cap := by
      generalize hq : E.sl [] = q at b1
      generalize a.eval y = v at b1
      cases b1 with
      | slE A cap h => exact ⟨A, cap, rfl⟩
      | slC l' b off cap us _ _ _ _ _ => injection hq with hq; subst hq; exact ⟨_, cap, rfl⟩
      | _ => cases hq
    obtain ⟨A', m, cap', hxv, hle⟩ : ∃ A m cap, a.eval x = .slice A m cap ∧ m ≤ cap := by
      generalize hq : E.sl l = q at a1
      generalize a.eval x = v at a1
      cases a1 with
      | slE A cap h => exact ⟨A, 0, cap, rfl, Nat.zero_le _⟩
      | slC l' b off cap us h1 _ _ _ _ => exact ⟨_, _, cap, rfl, h1⟩
      | _ => cases hq
    rw [hxv]
    have hrun : (Builtin.append_ #[st, st] ty #[.slice A' m cap', .slice A 0 cap]).run P w = .ok (.slice A' m cap') w := by
      cases A' <;> cases A <;> simp [Builtin.append_, run_underlying hu, sizeOf, typeInfo, i1, Builtin.lenOf, Builtin.firstCells, loadCells, loadCellsFrom, storeCells, hle]
    simp only [execOp, resolve, invoke, builtin, Sem.run_bind, Sem.run_pure, Result.andThen_ok, List.map_toArray, List.map_cons, List.map_nil, hxv, hyv, hrun]) k
end
end Go.Av
end
/- More operations: slices read and cut, texts, conversions, structs built, tests. -/
section
open Go.RowKit Go.Pl
namespace Go.Av
set_option linter.unusedSimpArgs false
set_option linter.unusedVariables false
section
variable {P : Program} {Q : X → St → Prop} {n : Nat} {ee : Nat × Nat} {tm : List (Nat × D)} {bx bx' : List (List D)} {fr fr' : List Fr} {b0 : Bs} {g : G} {w : World} {a : Act} {T : Tab}
variable {ops : Array Oper} {rest : List Oper} {t ty : Nat} {pos : String} {after : Array Edge}
theorem AL_idx [Known] [Dfr] (hT : chk P T = true) {x y : Operand} {st e : Nat} {k : IntKind} {i : Int} {tk : Tok} {l : List E} {ti te : Ti} {v : E} (hx : ev tm x = .sl tk l) (hy : ev tm y = .int k i) (ht : tl T st = some ti) (hk : ti.kd = .slice e) (hte : tl T e = some te) (htd : Nat.blt t n = true)
    (h0 : 0 ≤ i) (hv : l[i.toNat]? = some v) (hU : Uni te.size l)
    (kk : AL P ops rest ⟨n, (t, .eptr v.cells 0) :: tm, bx, fr, ee⟩ Q) : AL P ops (⟨some t, .indexAddr st x y, ty, pos, after, none⟩ :: rest) ⟨n, tm, bx, fr, ee⟩ Q :=
  AL_val _ htd (fun g a w hi => by
    have h1 : V w g fr (ev tm x) (a.eval x) := hi.ev x
    rw [hx] at h1
    have h2 : V w g fr (ev tm y) (a.eval y) := hi.ev y
    rw [hy] at h2
    have h2 := h2.int_inv
    obtain ⟨a1, _⟩ := sl_inv h1
    have hlt : i.toNat < l.length := (List.getElem?_eq_some_iff.1 hv).1
    have hu := (tl_ok hT ht).slice hk
    have hsz := run_sizeOf (P := P) (t := e) (tl_ok hT hte).tSize w
    have hvs : v.cells.length = te.size := hU v (List.mem_of_getElem? hv)
    have hfl := hU.flat
    have hle : i.toNat * te.size + te.size ≤ l.length * te.size := by
      have := Nat.mul_le_mul_right te.size (show i.toNat + 1 ≤ l.length by omega)
      rw [Nat.add_mul] at this; omega
    generalize hq : E.sl l = q at a1
    obtain ⟨p, hp⟩ : ∃ p, p = a.eval x := ⟨_, rfl⟩
    rw [← hp] at a1
    cases a1 with
    | slC l' b off cap us q1 q2 hc hw hvv =>
      injection hq with hq; subst hq
      have hadd : (⟨b, off, none⟩ : Addr).add (i.toNat * te.size) = ⟨b, off + i.toNat * te.size, none⟩ := by unfold Addr.add; split <;> simp_all
      refine ⟨.pointer (some ⟨b, off + i.toNat * te.size, none⟩), ?_, ?_⟩
      · have hb : 0 ≤ i ∧ i < (l.length : Int) := ⟨h0, by omega⟩
        have hrun : (Instr.indexAt st (.slice (some ⟨b, off, none⟩) l.length cap) (.int k i)).run P w = .ok (.pointer (some ⟨b, off + i.toNat * te.size, none⟩)) w := by
          simp [Instr.indexAt, asIntOf, Sem.run_bind, run_underlying hu, hb, hsz, hadd]
        simp [execOp, ← hp, h2, Sem.run_bind, hrun]
      · have := V.eptr (w := w) (g := g) (fr := fr) v.cells 0 b (off + i.toNat * te.size) (fun j => us (i.toNat * te.size + j)) (fun j hj => by rw [Nat.add_assoc]; exact hc _ (by omega)) (fun j hj => by rw [Nat.add_assoc]; exact hw _ (by omega)) (fun j x hx => by
          have hj := (List.getElem?_eq_some_iff.1 hx).1
          exact hvv _ x ((hU.at_ hv j (by omega)).trans hx))
        simpa using this
    | slE A cap h => injection hq with hq; subst hq; simp at hlt
    | _ => cases hq) kk
theorem AL_idxs [Known] [Dfr] {x y : Operand} {st : Nat} {k : IntKind} {i : Int} {s : List UInt8} {ti : Ti} {c : UInt8} (hT : chk P T = true) (hx : ev tm x = .str s) (hy : ev tm y = .int k i) (ht : tl T st = some ti) (hk : ti.kd = .str) (htd : Nat.blt t n = true)
    (h0 : 0 ≤ i) (hv : s[i.toNat]? = some c)
    (kk : AL P ops rest ⟨n, (t, .int .u8 (c.toNat : Int)) :: tm, bx, fr, ee⟩ Q) : AL P ops (⟨some t, .index st x y, ty, pos, after, none⟩ :: rest) ⟨n, tm, bx, fr, ee⟩ Q :=
  AL_val _ htd (fun g a w hi => by
    have h1 : V w g fr (ev tm x) (a.eval x) := hi.ev x
    rw [hx] at h1
    have h1 := h1.str_inv.1
    have h2 : V w g fr (ev tm y) (a.eval y) := hi.ev y
    rw [hy] at h2
    have h2 := h2.int_inv
    have hlt : i.toNat < s.length := (List.getElem?_eq_some_iff.1 hv).1
    have hc := (List.getElem?_eq_some_iff.1 hv).2
    refine ⟨.int .u8 (c.toNat : Int), ?_, .int _ _⟩
    have hg : (⟨s.toArray⟩ : ByteArray)[i.toNat]? = some c := by
      have hlt' : i.toNat < (⟨s.toArray⟩ : ByteArray).size := by show _ < s.toArray.size; simpa using hlt
      rw [show ((⟨s.toArray⟩ : ByteArray)[i.toNat]?) = if h : i.toNat < (⟨s.toArray⟩ : ByteArray).size then some ((⟨s.toArray⟩ : ByteArray)[i.toNat]) else none from rfl, dif_pos hlt']
      congr 1
    have hrun : (Instr.index st (.string ⟨s.toArray⟩) (.int k i)).run P w = .ok (.int .u8 (c.toNat : Int)) w := by
      simp [Instr.index, asIntOf, Sem.run_bind, run_underlying ((tl_ok hT ht).str hk), h0, hg]
    simp [execOp, h1, h2, Sem.run_bind, hrun]) kk
theorem AL_len [Known] [Dfr] {x : Operand} {st : Nat} {tk : Tok} {l : List E} {ti : Ti} {e : Nat} (hT : chk P T = true) (hx : ev tm x = .sl tk l) (ht : tl T st = some ti) (hk : ti.kd = .slice e) (htd : Nat.blt t n = true)
    (kk : AL P ops rest ⟨n, (t, .int .i64 (l.length : Int)) :: tm, bx, fr, ee⟩ Q) : AL P ops (⟨some t, .call { callee := .builtin .len, args := #[x], argTypes := #[st] }, ty, pos, after, none⟩ :: rest) ⟨n, tm, bx, fr, ee⟩ Q :=
  AL_val _ htd (fun g a w hi => by
    have h1 : V w g fr (ev tm x) (a.eval x) := hi.ev x
    rw [hx] at h1
    obtain ⟨a1, _⟩ := sl_inv h1
    obtain ⟨A, cap, hv⟩ : ∃ A cap, a.eval x = .slice A l.length cap := by
      generalize hq : E.sl l = q at a1
      generalize a.eval x = v at a1
      cases a1 with
      | slC l' b off cap us _ _ _ _ _ => injection hq with hq; subst hq; exact ⟨_, cap, rfl⟩
      | slE A cap h => injection hq with hq; subst hq; exact ⟨A, cap, rfl⟩
      | _ => cases hq
    refine ⟨.int .i64 (l.length : Int), ?_, .int _ _⟩
    simp [execOp, resolve, invoke, builtin, Builtin.len_, Sem.run_bind, hv, run_underlying ((tl_ok hT ht).slice hk), goInt]) kk
theorem AL_lens [Known] [Dfr] {x : Operand} {st : Nat} {s : List UInt8} {ti : Ti} (hT : chk P T = true) (hx : ev tm x = .str s) (ht : tl T st = some ti) (hk : ti.kd = .str) (htd : Nat.blt t n = true)
    (kk : AL P ops rest ⟨n, (t, .int .i64 (s.length : Int)) :: tm, bx, fr, ee⟩ Q) : AL P ops (⟨some t, .call { callee := .builtin .len, args := #[x], argTypes := #[st] }, ty, pos, after, none⟩ :: rest) ⟨n, tm, bx, fr, ee⟩ Q :=
  AL_val _ htd (fun g a w hi => by
    have h1 : V w g fr (ev tm x) (a.eval x) := hi.ev x
    rw [hx] at h1
    have h1 := h1.str_inv.1
    refine ⟨.int .i64 (s.length : Int), ?_, .int _ _⟩
    have hs : (⟨s.toArray⟩ : ByteArray).size = s.length := by show s.toArray.size = _; simp
    simp [execOp, resolve, invoke, builtin, Builtin.len_, Sem.run_bind, h1, run_underlying ((tl_ok hT ht).str hk), goInt, hs]) kk
/-- a bound of a slice expression -/
inductive Bnd (tm : List (Nat × D)) : Option Operand → Nat → Nat → Prop
  | dft (d : Nat) : Bnd tm none d d
  | lit (x : Operand) (d : Nat) (k : IntKind) (i : Int) (h : ev tm x = .int k i) (h0 : 0 ≤ i) : Bnd tm (some x) d i.toNat
theorem Bnd.val [Known] [Dfr] {S : St} {x : Operand} {k : IntKind} {i : Int} (hi : Inv b0 S g a w) (h : ev S.tm x = .int k i) : a.eval x = .int k i := by
  have h1 : V w g S.fr (ev S.tm x) (a.eval x) := hi.ev x
  rw [h] at h1
  exact h1.int_inv
theorem Bnd.runs [Known] [Dfr] {S : St} {lo hi' : Option Operand} {p q len cap : Nat} (hlo : Bnd S.tm lo 0 p) (hhi : Bnd S.tm hi' len q) (hi : Inv b0 S g a w) (hpq : p ≤ q) (hq : q ≤ cap) (b : Bool) :
    (Instr.sliceBounds b len cap (lo.map a.eval) (hi'.map a.eval) none).run P w = .ok (p, q, cap) w := by
  cases hlo with
  | dft =>
    cases hhi with
    | dft => rfl
    | lit y _ k' j h' h0' =>
      have hb : 0 ≤ j ∧ j ≤ (cap : Int) := ⟨h0', by omega⟩
      simp [Instr.sliceBounds, Bnd.val hi h', Instr.sliceBound, asIntOf, Sem.run_bind, hb]
  | lit x _ k i h h0 =>
    cases hhi with
    | dft =>
      have hb : 0 ≤ i ∧ i ≤ (q : Int) := ⟨h0, by omega⟩
      simp [Instr.sliceBounds, Bnd.val hi h, Instr.sliceBound, asIntOf, Sem.run_bind, hb]
    | lit y _ k' j h' h0' =>
      have hb : 0 ≤ j ∧ j ≤ (cap : Int) := ⟨h0', by omega⟩
      have hb2 : 0 ≤ i ∧ i ≤ ((j.toNat : Nat) : Int) := ⟨h0, by omega⟩
      simp only [Instr.sliceBounds, Option.map_some, Bnd.val hi h, Bnd.val hi h', Instr.sliceBound, asIntOf, Sem.run_bind, Sem.run_pure, Result.andThen_ok, if_pos hb, if_pos hb2]
theorem AL_slice [Known] [Dfr] (hT : chk P T = true) {x : Operand} {st e : Nat} {tk : Tok} {l l2 : List E} {lo hi' : Option Operand} {p q : Nat} {ti te : Ti} (hx : ev tm x = .sl tk l) (ht : tl T st = some ti) (hk : ti.kd = .slice e) (hte : tl T e = some te) (htd : Nat.blt t n = true)
    (hlo : Bnd tm lo 0 p) (hhi : Bnd tm hi' l.length q) (hpq : p ≤ q) (hq : q ≤ l.length) (hU : Uni te.size l) (hl2 : (l.take q).drop p = l2)
    (kk : AL P ops rest ⟨n, (t, .sl .ext l2) :: tm, bx, fr, ee⟩ Q) : AL P ops (⟨some t, .slice st x lo hi' none, ty, pos, after, none⟩ :: rest) ⟨n, tm, bx, fr, ee⟩ Q :=
  AL_val _ htd (fun g a w hi => by
    have h1 : V w g fr (ev tm x) (a.eval x) := hi.ev x
    rw [hx] at h1
    obtain ⟨a1, _⟩ := sl_inv h1
    have hu := (tl_ok hT ht).slice hk
    have hsz := run_sizeOf (P := P) (t := e) (tl_ok hT hte).tSize w
    obtain ⟨A, cap, hv, hcap⟩ : ∃ A cap, a.eval x = .slice A l.length cap ∧ l.length ≤ cap := by
      generalize hq : E.sl l = q at a1
      generalize a.eval x = v at a1
      cases a1 with
      | slC l' b off cap us h1 _ _ _ _ => injection hq with hq; subst hq; exact ⟨_, cap, rfl, h1⟩
      | slE A cap h => injection hq with hq; subst hq; exact ⟨A, cap, rfl, Nat.zero_le _⟩
      | _ => cases hq
    have hb := Bnd.runs (S := ⟨n, tm, bx, fr, _⟩) (P := P) (cap := cap) hlo hhi hi hpq (by omega) true
    refine ⟨.slice (if cap = p then A else A.map (·.add (p * te.size))) (q - p) (cap - p), ?_, ?_⟩
    · have hrun : (Instr.sliceAt st (.slice A l.length cap) (lo.map a.eval) (hi'.map a.eval) none).run P w = .ok (.slice (if cap = p then A else A.map (·.add (p * te.size))) (q - p) (cap - p)) w := by
        simp [Instr.sliceAt, Instr.slice, Sem.run_bind, run_underlying hu, hb, hsz]
      simp only [execOp, hv, Sem.run_bind, Option.map_none, hrun, Result.andThen_ok]
      rfl
    · subst hl2
      have hlen : ((l.take q).drop p).length = q - p := by simp; omega
      refine .sl _ _ _ ?_ trivial
      by_cases he : q - p = 0
      · have hnil : (l.take q).drop p = [] := List.eq_nil_of_length_eq_zero (by rw [hlen]; exact he)
        rw [hnil, he]
        refine .slE _ _ ?_
        generalize hq' : E.sl l = qq at a1
        rw [hv] at a1
        generalize hs : Value.slice A l.length cap = s at a1
        cases a1 with
        | slC l' b off cap us h1 h2 _ _ _ => injection hs with _ _ e; omega
        | slE A cap h => injection hs with _ _ e; omega
        | _ => cases hq'
      · have hpc : ¬ cap = p := by omega
        rw [if_neg hpc, ← hlen]
        generalize hq' : E.sl l = qq at a1
        rw [hv] at a1
        generalize hs : Value.slice A l.length cap = s at a1
        cases a1 with
        | slC l' b off cap' us h1 h2 hc hw hvv =>
          injection hq' with hq'; subst hq'
          injection hs with e1 _ e3
          subst e1 e3
          have hadd : (⟨b, off, none⟩ : Addr).add (p * te.size) = ⟨b, off + p * te.size, none⟩ := by unfold Addr.add; split <;> simp_all
          simp only [Option.map_some, hadd]
          have hU2 : Uni te.size (l.take q) := hU.sub fun e h => List.mem_of_mem_take h
          have hf : flat ((l.take q).drop p) = ((flat l).take (q * te.size)).drop (p * te.size) := by rw [hU2.drop_flat, hU.take_flat]
          have hfl := hU.flat
          have hql : q * te.size ≤ l.length * te.size := Nat.mul_le_mul_right _ hq
          have hfl2 : (flat ((l.take q).drop p)).length = q * te.size - p * te.size := by rw [hf]; simp; omega
          refine .slC _ b (off + p * te.size) (cap - p) (fun j => us (p * te.size + j)) (by omega) (by omega) (fun j hj => by rw [Nat.add_assoc]; exact hc _ (by omega)) (fun j hj => by rw [Nat.add_assoc]; exact hw _ (by omega)) (fun j x hx => hvv _ x ?_)
          have hj := (List.getElem?_eq_some_iff.1 hx).1
          rw [hf, List.getElem?_drop, List.getElem?_take, if_pos (by omega)] at hx
          exact hx
        | slE A cap' h => injection hs with _ e; omega
        | _ => cases hq') kk
end
end Go.Av
end
/- More operations: structs built, texts, conversions, tests, guards, panics, calls of function values. -/
section
open Go.RowKit Go.Pl
namespace Go.Av
set_option linter.unusedSimpArgs false
set_option linter.unusedVariables false
def buildD (fs : List Fd) : List D → List (Nat × D) → Option (List D)
  | cs, [] => some cs
  | cs, (i, d) :: rest => match fs[i]? with
    | some fd => match Nat.beq d.cellsOf.length fd.size, Nat.ble (fd.off + fd.size) cs.length, D.ones d.cellsOf with
      | true, true, true => buildD fs (splice cs fd.off d.cellsOf) rest
      | _, _, _ => none
    | none => none
section
variable {P : Program} {Q : X → St → Prop} {n : Nat} {ee : Nat × Nat} {tm : List (Nat × D)} {bx bx' : List (List D)} {fr fr' : List Fr} {b0 : Bs} {g : G} {w : World} {a : Act} {T : Tab}
variable {ops : Array Oper} {rest : List Oper} {t ty : Nat} {pos : String} {after : Array Edge}
theorem fill_build {place : Nat → Option (Nat × Nat)} {fs : List Fd} (hp : ∀ (i : Nat) (fd : Fd), fs[i]? = some fd → place i = some (fd.off, fd.size)) :
    ∀ (ds : List (Nat × D)) (vs : List Value) (cs cs' : List D) (cells : Array Value), buildD fs cs ds = some cs' → vs.length = ds.length → (∀ (j : Nat) (p : Nat × D) (v : Value), ds[j]? = some p → vs[j]? = some v → V w g fr p.2 v) →
      cells.size = cs.length → (∀ (j : Nat) (d : D) (v : Value), cs[j]? = some d → cells[j]? = some v → V w g fr d v) →
      ∃ out : Array Value, Instr.fill place cells ((ds.map (·.1)).zip vs) = some out ∧ out.size = cs'.length ∧ ∀ (j : Nat) (d : D) (v : Value), cs'[j]? = some d → out[j]? = some v → V w g fr d v
  | [], [], cs, cs', cells, h, _, _, hs, hv => by simp [buildD] at h; subst h; exact ⟨cells, rfl, hs, hv⟩
  | (i, d) :: ds, v :: vs, cs, cs', cells, h, hl, hV, hs, hv => by
    simp only [buildD] at h
    cases hfd : fs[i]? with
    | none => simp [hfd] at h
    | some fd =>
      simp only [hfd] at h
      cases h1 : Nat.beq d.cellsOf.length fd.size with
      | false => simp [h1] at h
      | true =>
        cases h2 : Nat.ble (fd.off + fd.size) cs.length with
        | false => simp [h1, h2] at h
        | true =>
          cases h3 : D.ones d.cellsOf with
          | false => simp [h1, h2, h3] at h
          | true =>
            simp only [h1, h2, h3] at h
            have h1' := Nat.eq_of_beq_eq_true h1
            have h2' := Nat.le_of_ble_eq_true h2
            obtain ⟨us, q1, q2, q3⟩ := (hV 0 (i, d) v rfl rfl).cells h3
            dsimp only at q2 q3
            obtain ⟨c', e1, e2⟩ := fill_cons (place := place) (cells := cells) (rest := (ds.map (·.1)).zip vs) (hp i fd hfd) q1 (by rw [q2, h1']) (by rw [hs]; exact h2')
            have hcs : cells.toList.length = cs.length := by simpa using hs
            have hc' : c'.size = (splice cs fd.off d.cellsOf).length := by
              rw [← Array.length_toList, e2]; simp [splice, q2, h1', hs]
            obtain ⟨out, o1, o2, o3⟩ := fill_build hp ds vs (splice cs fd.off d.cellsOf) cs' c' h (by simpa using hl) (fun j p v hp hv => hV (j + 1) p v (by simpa using hp) (by simpa using hv)) hc' (fun j c u hc hu => by
              have hu : (cells.toList.take fd.off ++ (us ++ cells.toList.drop (fd.off + fd.size)))[j]? = some u := by rw [← e2]; simpa using hu
              simp only [splice] at hc
              rcases Nat.lt_or_ge j fd.off with hj | hj
              · rw [List.getElem?_append_left (by simp; omega), List.getElem?_take, if_pos hj] at hc hu
                exact hv j c u hc (by simpa using hu)
              · rw [List.getElem?_append_right (by simp; omega)] at hc hu
                simp only [List.length_take, hcs, Nat.min_eq_left (show fd.off ≤ cs.length by omega)] at hc hu
                rcases Nat.lt_or_ge (j - fd.off) us.length with hj2 | hj2
                · rw [List.getElem?_append_left (by omega)] at hc
                  rw [List.getElem?_append_left hj2] at hu
                  exact q3 _ c u hc hu
                · rw [List.getElem?_append_right (by omega), List.getElem?_drop] at hc
                  rw [List.getElem?_append_right hj2, List.getElem?_drop] at hu
                  rw [q2] at hu
                  rw [h1'] at hc hu
                  exact hv _ c u hc (by simpa using hu))
            exact ⟨out, by rw [List.map_cons, List.zip_cons_cons, e1, o1], o2, o3⟩
  | [], _ :: _, _, _, _, _, hl, _, _, _ => by simp at hl
  | _ :: _, [], _, _, _, _, hl, _, _, _ => by simp at hl
theorem AL_build [Known] [Dfr] (hT : chk P T = true) {st : Nat} {parts : Array (Nat × Operand)} {ds : List (Nat × D)} {cs cs' : List D} {ti : Ti} {fs : List Fd} (ht : tl T st = some ti) (hk : ti.kd = .struct fs)
    (hds : parts.toList.map (fun p => (p.1, ev tm p.2)) = ds) (hb : buildD fs (ti.zero.map ZK.d) ds = some cs) (hn : nfs cs = some cs') (htd : Nat.blt t n = true)
    (k : AL P ops rest ⟨n, (t, .agg cs') :: tm, bx, fr, ee⟩ Q) : AL P ops (⟨some t, .build st parts, ty, pos, after, none⟩ :: rest) ⟨n, tm, bx, fr, ee⟩ Q :=
  AL_val _ htd (fun g a w hi => by
    have hti := tl_ok hT ht
    obtain ⟨z, hz1, hz2⟩ := hti.zero w
    obtain ⟨z3, z4⟩ := zks_ok (w := w) (g := g) (fr := fr) hz2
    obtain ⟨fields, f1, f2, f3⟩ := hti.struct' hk
    have hplaces : (fields.mapM (fun f => do pure (f.offset, ← sizeOf f.type)) : Sem (Array (Nat × Nat))).run P w = .ok (fs.map fun fd => (fd.off, fd.size)).toArray w := by
      have hl : ∀ l : List Field, (∀ f ∈ l, (Go.Av.tSize P f.type).isSome = true ∧ (Go.Av.tAgg P f.type).isSome = true) → (l.mapM (fun f => do pure (f.offset, ← sizeOf f.type)) : Sem (List (Nat × Nat))).run P w = .ok ((l.map fun f => (⟨f.offset, (Go.Av.tSize P f.type).getD 0, (Go.Av.tAgg P f.type).getD false, f.type⟩ : Fd)).map fun fd => (fd.off, fd.size)) w := by
        intro l
        induction l with
        | nil => intro _; rfl
        | cons f l ih =>
          intro h
          obtain ⟨s, hs⟩ := Option.isSome_iff_exists.1 (h f (by simp)).1
          have := ih fun f hf => h f (by simp [hf])
          simp only [List.mapM_cons, Sem.run_bind, run_sizeOf hs, Result.andThen_ok, Sem.run_pure, this, List.map_cons, hs, Option.getD_some]
      have h1 := hl fields.toList f3
      rw [← f2] at h1
      have e : fields = fields.toList.toArray := by simp
      rw [e, List.mapM_toArray, show (List.toArray <$> fields.toList.mapM (fun f => do pure (f.offset, ← sizeOf f.type)) : Sem (Array (Nat × Nat))) = (fields.toList.mapM (fun f => do pure (f.offset, ← sizeOf f.type)) >>= fun l => pure l.toArray) from rfl, Sem.run_bind, h1]
      rfl
    obtain ⟨out, o1, o2, o3⟩ := fill_build (w := w) (g := g) (fr := fr) (place := fun i => ((fs.map fun fd => (fd.off, fd.size)).toArray)[i]?) (fs := fs) (fun i fd h => by simp [h]) ds (parts.toList.map fun p => a.eval p.2) (ti.zero.map ZK.d) cs z.cells hb (by rw [← hds]; simp) (fun j p v hp hv => by
      rw [← hds, List.getElem?_map] at hp
      rw [List.getElem?_map] at hv
      cases hj : parts.toList[j]? with
      | none => simp only [hj, Option.map_none] at hp; cases hp
      | some x => simp only [hj, Option.map_some, Option.some.injEq] at hp hv; subst hp hv; exact hi.ev x.2) (by rw [← Array.length_toList, z3]; simp) (fun j d v hd hv => (z4 j d v hd (by simpa using hv)).1)
    refine ⟨.agg out, ?_, ?_⟩
    · have hzip : (ds.map (·.1)).zip (parts.toList.map fun p => a.eval p.2) = (parts.map fun p => (p.1, a.eval p.2)).toList := by
        rw [← hds]; simp [List.zip_map', Function.comp_def]
      rw [hzip] at o1
      have hrun : (Instr.build st (parts.map fun p => (p.1, a.eval p.2))).run P w = .ok (.agg out) w := by
        simp only [Instr.build, Sem.run_bind, hz1, Result.andThen_ok, run_underlying f1, hplaces]
        rw [o1]
        rfl
      simp only [execOp, Sem.run_bind]
      rw [show (fun (x : Nat × Operand) => match x with | (i, x) => (i, a.eval x)) = fun (p : Nat × Operand) => (p.1, a.eval p.2) from rfl, hrun]
      rfl
    · have := V.agg (w := w) (g := g) (fr := fr) cs out.toList (by simpa using o2) (fun j d v hd hv => o3 j d v hd (by simpa using hv))
      rw [nfs_eq hn] at this
      simpa using this) k
theorem AL_makeIface [Known] [Dfr] (hT : chk P T = true) {x : Operand} {xt : Nat} {d : D} {ti : Ti} (hx : nf (ev tm x) = some d) (ht : tl T xt = some ti) (hk : (match ti.kd with | .iface => false | _ => true) = true) (htd : Nat.blt t n = true)
    (k : AL P ops rest ⟨n, (t, .iface xt d) :: tm, bx, fr, ee⟩ Q) : AL P ops (⟨some t, .makeInterface xt x, ty, pos, after, none⟩ :: rest) ⟨n, tm, bx, fr, ee⟩ Q :=
  AL_val _ htd (fun g a w hi => by
    have h1 : V w g fr (ev tm x) (a.eval x) := hi.ev x
    rw [nf_eq hx] at h1
    obtain ⟨u, hu, hku⟩ := (tl_ok hT ht).under
    refine ⟨.iface xt (a.eval x), ?_, .iface _ _ _ h1⟩
    cases u <;> simp [kdOf] at hku <;> simp [hku] at hk <;> simp [execOp, Instr.makeInterface, Sem.run_bind, run_underlying hu]) k
theorem AL_makeFunc [Known] [Dfr] {f : FuncId} {caps : Array Operand} {ds : List D} (hds : nfs (caps.toList.map (ev tm)) = some ds) (htd : Nat.blt t n = true)
    (k : AL P ops rest ⟨n, (t, .fn f ds) :: tm, bx, fr, ee⟩ Q) : AL P ops (⟨some t, .makeFunc (.func f) #[] caps, ty, pos, after, none⟩ :: rest) ⟨n, tm, bx, fr, ee⟩ Q :=
  AL_val _ htd (fun g a w hi => by
    have e := nfs_eq hds
    refine ⟨.func (.func f) #[] (caps.toList.map a.eval).toArray, by have e2 : caps.map a.eval = (caps.toList.map a.eval).toArray := by { rw [← Array.toList_map, Array.toArray_toList] }; simp only [execOp, Instr.makeFunc, e2, Sem.run_bind, Sem.run_pure, Result.andThen_ok]; simp, .fn _ _ _ (by rw [← e]; simp) fun j d v hd hv => ?_⟩
    rw [← e] at hd
    exact evs hi caps j d v hd hv) k
theorem AL_pick [Known] [Dfr] {c x y : Operand} {b : Bool} {d : D} (hc : ev tm c = .bool b) (hd : nf (match b with | true => ev tm x | false => ev tm y) = some d) (htd : Nat.blt t n = true)
    (k : AL P ops rest ⟨n, (t, d) :: tm, bx, fr, ee⟩ Q) : AL P ops (⟨some t, .pick c x y, ty, pos, after, none⟩ :: rest) ⟨n, tm, bx, fr, ee⟩ Q :=
  AL_val _ htd (fun g a w hi => by
    have h1 : V w g fr (ev tm c) (a.eval c) := hi.ev c
    rw [hc] at h1
    have h1 := h1.bool_inv
    rw [← nf_eq hd]
    cases b with
    | true => exact ⟨a.eval x, by simp [execOp, h1, asBool, Sem.run_bind], hi.ev x⟩
    | false => exact ⟨a.eval y, by simp [execOp, h1, asBool, Sem.run_bind], hi.ev y⟩) k
/-! texts -/
def strBin (op : BinOp) (x y : List UInt8) : D :=
  match op with
  | .add => .str (x ++ y)
  | .eql => .bool (x == y)
  | .neq => .bool (x != y)
  | .lss => .bool (Op.bytesLess x y)
  | .leq => .bool (Op.bytesLess x y || x == y)
  | .gtr => .bool (!(Op.bytesLess x y || x == y))
  | .geq => .bool (!Op.bytesLess x y)
  | _ => .junk
theorem ba_toList (s : List UInt8) : (⟨s.toArray⟩ : ByteArray).toList = s := by simp
theorem AL_str [Known] [Dfr] {op : BinOp} {x y : Operand} {xt yt : Nat} {p q : List UInt8} {d : D} (hx : ev tm x = .str p) (hy : ev tm y = .str q) (ho : (match op with | .eql | .neq | .lss | .leq | .gtr | .geq => true | _ => false) = true) (hd : nf (strBin op p q) = some d) (htd : Nat.blt t n = true)
    (k : AL P ops rest ⟨n, (t, d) :: tm, bx, fr, ee⟩ Q) : AL P ops (⟨some t, .binOp op xt x y yt, ty, pos, after, none⟩ :: rest) ⟨n, tm, bx, fr, ee⟩ Q :=
  AL_val _ htd (fun g a w hi => by
    have h1 : V w g fr (ev tm x) (a.eval x) := hi.ev x
    rw [hx] at h1
    have h2 : V w g fr (ev tm y) (a.eval y) := hi.ev y
    rw [hy] at h2
    have h1 := h1.str_inv.1
    have h2 := h2.str_inv.1
    have hd := nf_eq hd
    subst hd
    have hrun : ∃ b, (Op.stringOp op ⟨p.toArray⟩ ⟨q.toArray⟩).run P w = .ok (.bool b) w ∧ strBin op p q = .bool b := by
      unfold Op.stringOp
      simp only [ba_toList]
      cases op <;> simp at ho <;> exact ⟨_, rfl, rfl⟩
    obtain ⟨b, hb, e⟩ := hrun
    rw [e]
    have hbin : binOp op xt (.string ⟨p.toArray⟩) (.string ⟨q.toArray⟩) = Op.stringOp op ⟨p.toArray⟩ ⟨q.toArray⟩ := by cases op <;> simp at ho <;> rfl
    exact ⟨.bool b, by simp only [execOp, h1, h2, Sem.run_bind, hbin]; cases op <;> simp at ho <;> simp [eqGuard, hb], .bool _⟩) k
theorem AL_cat [Known] [Dfr] {x y : Operand} {xt yt : Nat} {p q : List UInt8} (hx : ev tm x = .str p) (hy : ev tm y = .str q) (hl : p.length + q.length ≤ maxLen) (htd : Nat.blt t n = true)
    (k : AL P ops rest ⟨n, (t, .str (p ++ q)) :: tm, bx, fr, ee⟩ Q) : AL P ops (⟨some t, .binOp .add xt x y yt, ty, pos, after, none⟩ :: rest) ⟨n, tm, bx, fr, ee⟩ Q :=
  AL_val _ htd (fun g a w hi => by
    have h1 : V w g fr (ev tm x) (a.eval x) := hi.ev x
    rw [hx] at h1
    have h2 : V w g fr (ev tm y) (a.eval y) := hi.ev y
    rw [hy] at h2
    have h1 := h1.str_inv.1
    have h2 := h2.str_inv.1
    have hs : ∀ s : List UInt8, (⟨s.toArray⟩ : ByteArray).size = s.length := fun s => by show s.toArray.size = _; simp
    have hcat : (⟨p.toArray⟩ : ByteArray) ++ ⟨q.toArray⟩ = ⟨(p ++ q).toArray⟩ := by
      apply ByteArray.ext
      simp [ByteArray.data_append]
    have hle : ¬ (9223372036854775807 < (p.length : Int) + (q.length : Int)) := by simp only [maxLen] at hl; omega
    exact ⟨.string ⟨(p ++ q).toArray⟩, by simp [execOp, h1, h2, eqGuard, binOp, Op.stringOp, Sem.run_bind, hs, hle, hcat], .str _ (by simpa using hl)⟩) k
/-! tests -/
theorem AL_beq [Known] [Dfr] (hT : chk P T = true) {op : BinOp} {x y : Operand} {xt yt : Nat} {p q : Bool} {d : D} {ti : Ti} (hx : ev tm x = .bool p) (hy : ev tm y = .bool q) (ht : tl T xt = some ti) (hk : ti.kd = .bool) (hd : (match op with | .eql => some (D.bool (p == q)) | .neq => some (D.bool (!(p == q))) | _ => none) = some d) (htd : Nat.blt t n = true)
    (k : AL P ops rest ⟨n, (t, d) :: tm, bx, fr, ee⟩ Q) : AL P ops (⟨some t, .binOp op xt x y yt, ty, pos, after, none⟩ :: rest) ⟨n, tm, bx, fr, ee⟩ Q :=
  AL_val _ htd (fun g a w hi => by
    have h1 : V w g fr (ev tm x) (a.eval x) := hi.ev x
    rw [hx] at h1
    have h2 : V w g fr (ev tm y) (a.eval y) := hi.ev y
    rw [hy] at h2
    have h1 := h1.bool_inv
    have h2 := h2.bool_inv
    obtain ⟨u, hu, hku⟩ := (tl_ok hT ht).under
    rw [hk] at hku
    have hub : P.underlying xt = some .bool := by
      rw [hu]; cases u <;> simp only [kdOf] at hku <;> first | (split at hku <;> cases hku; done) | cases hku
      rfl
    have hrun : (Op.equal xt (.bool p) (.bool q)).run P w = .ok (p == q) w := run_equalIn_bool w 9999 xt p q hub
    cases op <;> simp at hd <;> subst hd <;> first | exact ⟨.bool (p == q), by simp [execOp, h1, h2, eqGuard, binOp, Sem.run_bind, hrun], .bool _⟩ | exact ⟨.bool (!(p == q)), by simp [execOp, h1, h2, eqGuard, binOp, Sem.run_bind, hrun], .bool _⟩) k
/-- is a pointer nil? -/
def nilD : D → Option Bool
  | .nilp => some true
  | .ptr _ _ => some false
  | .eptr _ _ => some false
  | .gptr _ _ => some false
  | _ => none
theorem AL_nilp [Known] [Dfr] (hT : chk P T = true) {op : BinOp} {x y : Operand} {xt yt e : Nat} {p : Bool} {d : D} {ti : Ti} (hx : nilD (ev tm x) = some p) (hy : ev tm y = .nilp) (ht : tl T xt = some ti) (hk : ti.kd = .ptr e) (hd : (match op with | .eql => some (D.bool p) | .neq => some (D.bool (!p)) | _ => none) = some d) (htd : Nat.blt t n = true)
    (k : AL P ops rest ⟨n, (t, d) :: tm, bx, fr, ee⟩ Q) : AL P ops (⟨some t, .binOp op xt x y yt, ty, pos, after, none⟩ :: rest) ⟨n, tm, bx, fr, ee⟩ Q :=
  AL_val _ htd (fun g a w hi => by
    have h1 : V w g fr (ev tm x) (a.eval x) := hi.ev x
    have h2 : V w g fr (ev tm y) (a.eval y) := hi.ev y
    rw [hy] at h2
    have h2 : a.eval y = .pointer none := by
      generalize a.eval y = v at h2
      cases h2 with | nilp => rfl
    obtain ⟨u, hu, hku⟩ := (tl_ok hT ht).under
    rw [hk] at hku
    have hub : P.underlying xt = some (.pointer e) := by
      rw [hu]; cases u <;> simp only [kdOf] at hku <;> first | (split at hku <;> cases hku; done) | cases hku
      rfl
    obtain ⟨v, hv⟩ : ∃ v, v = a.eval x := ⟨_, rfl⟩
    rw [← hv] at h1
    have hp : ∃ A, v = .pointer A ∧ A.isNone = p := by
      cases hd' : ev tm x <;> rw [hd'] at hx h1 <;> simp [nilD] at hx <;> subst hx <;> cases h1 <;> exact ⟨_, rfl, rfl⟩
    obtain ⟨A, rfl, hA⟩ := hp
    have hrun : (Op.equal xt (.pointer A) (.pointer none)).run P w = .ok p w := by
      rw [← hA]
      exact run_equal_pointer_nil w xt A (by rw [hub]; simp [Program.pointee, hub])
    cases op <;> simp at hd <;> subst hd <;> first | exact ⟨.bool p, by simp [execOp, ← hv, h2, eqGuard, binOp, Sem.run_bind, hrun], .bool _⟩ | exact ⟨.bool (!p), by simp [execOp, ← hv, h2, eqGuard, binOp, Sem.run_bind, hrun], .bool _⟩) k
/-! bytes and texts -/
theorem bytes_inv {l : List E} {bs : List UInt8} {A : Option Addr} {m cap : Nat} (hl : l = bs.map E.byte) (h : VE w g.C (.sl l) (.slice A m cap)) : m = bs.length ∧ (bs = [] ∨ ∃ b off, A = some ⟨b, off, none⟩ ∧ ∀ j (hj : j < bs.length), w.cell? ⟨b, off + j, none⟩ = some (.int .u8 (bs[j].toNat : Int))) := by
  have hf : ∀ l : List UInt8, flat (l.map E.byte) = l.map E.byte := fun l => by induction l with | nil => rfl | cons x l ih => simp [E.cells, ih]
  generalize hq : E.sl l = q at h
  generalize hs : Value.slice A m cap = s at h
  cases h with
  | slC l' b off cap us h1 h2 hc hw hv =>
    injection hq with hq; subst hq
    injection hs with e1 e2 e3
    subst hl
    refine ⟨by rw [e2]; simp, .inr ⟨b, off, e1, fun j hj => ?_⟩⟩
    have hj' : j < (flat (bs.map E.byte)).length := by rw [hf]; simpa using hj
    rw [hw j hj']
    have hx : (flat (bs.map E.byte))[j]? = some (E.byte bs[j]) := by rw [hf]; simp [hj]
    have := hv j _ hx
    generalize us j = u at this
    cases this
    rfl
  | slE A cap h =>
    injection hq with hq; subst hq
    injection hs with _ e2 _
    have : bs = [] := by cases bs <;> simp at hl; rfl
    exact ⟨by rw [e2, this]; rfl, .inl this⟩
  | _ => cases hq
theorem AL_b2s [Known] [Dfr] (hT : chk P T = true) {x : Operand} {src dst e : Nat} {tk : Tok} {l : List E} {bs : List UInt8} {ti td te : Ti} (hx : ev tm x = .sl tk l) (hl : l = bs.map E.byte) (ht : tl T src = some ti) (hk : ti.kd = .slice e) (hte : tl T e = some te) (hke : te.kd = .int .u8) (htds : tl T dst = some td) (hkd : td.kd = .str) (htd : Nat.blt t n = true)
    (k : AL P ops rest ⟨n, (t, .str bs) :: tm, bx, fr, ee⟩ Q) : AL P ops (⟨some t, .convert src dst x, ty, pos, after, none⟩ :: rest) ⟨n, tm, bx, fr, ee⟩ Q :=
  AL_val _ htd (fun g a w hi => by
    have h1 : V w g fr (ev tm x) (a.eval x) := hi.ev x
    rw [hx] at h1
    obtain ⟨a1, _⟩ := sl_inv h1
    obtain ⟨A, m, cap, hv, hcm, hmc⟩ : ∃ A m cap, a.eval x = .slice A m cap ∧ cap ≤ maxLen ∧ m ≤ cap := by
      generalize hq : E.sl l = q at a1
      generalize a.eval x = v at a1
      cases a1 with
      | slC l' b off cap us h1 h2 _ _ _ => exact ⟨_, _, cap, rfl, h2, h1⟩
      | slE A cap h => exact ⟨A, 0, cap, rfl, h, Nat.zero_le _⟩
      | _ => cases hq
    rw [hv] at a1
    obtain ⟨hm, hc⟩ := bytes_inv hl a1
    subst hm
    refine ⟨.string ⟨bs.toArray⟩, ?_, .str _ (by omega)⟩
    have hrun := run_str (P := P) (w := w) (S := fun _ => True) (v := .slice A bs.length cap) (l := bs) src dst e ((tl_ok hT ht).slice hk) ((tl_ok hT hte).int hke) ((tl_ok hT htds).str hkd) (SlB.mk rfl (by omega) hcm fun hne => by
      rcases hc with hc | ⟨b, off, hA, hc⟩
      · exact (hne hc).elim
      · exact ⟨b, off, hA, trivial, hc⟩)
    simp [execOp, hv, Sem.run_bind, hrun]) k
theorem AL_s2s [Known] [Dfr] (hT : chk P T = true) {x : Operand} {src dst : Nat} {s : List UInt8} {ti td : Ti} (hx : ev tm x = .str s) (ht : tl T src = some ti) (hk : ti.kd = .str) (htds : tl T dst = some td) (hkd : td.kd = .str) (htd : Nat.blt t n = true)
    (k : AL P ops rest ⟨n, (t, .str s) :: tm, bx, fr, ee⟩ Q) : AL P ops (⟨some t, .convert src dst x, ty, pos, after, none⟩ :: rest) ⟨n, tm, bx, fr, ee⟩ Q :=
  AL_val _ htd (fun g a w hi => by
    have h1 : V w g fr (ev tm x) (a.eval x) := hi.ev x
    rw [hx] at h1
    refine ⟨a.eval x, ?_, h1⟩
    have h1 := h1.str_inv.1
    simp [execOp, h1, convert, Sem.run_bind, run_underlying ((tl_ok hT ht).str hk), run_underlying ((tl_ok hT htds).str hkd)]) k
/-! guards, panics -/
theorem AL_guard [Known] [Dfr] {o : Op} {td : Option Nat} {j : Nat} {want b : Bool} {gt : Nat} (hj : ((ops[j]?).bind (·.dst)) = some gt) (hb : look tm gt = .bool b) (htd : (match td with | some t => Nat.blt t n | none => true) = true)
    (h1 : b = want → AL P ops (⟨td, o, ty, pos, after, none⟩ :: rest) ⟨n, tm, bx, fr, ee⟩ Q)
    (h2 : b = !want → AL P ops rest ⟨n, match td with | some t => (t, .tup []) :: tm | none => tm, bx, fr, ee⟩ Q) : AL P ops (⟨td, o, ty, pos, after, some (j, want)⟩ :: rest) ⟨n, tm, bx, fr, ee⟩ Q := ⟨fun b0 g a w hi => by
  have hv : V w g fr (look tm gt) (a.tmps.getD gt undef) := hi.tm gt
  rw [hb] at hv
  have hv := hv.bool_inv
  have hy : yielded ops a.tmps j = some b := by
    have hlt : gt < a.tmps.size := by
      rcases Nat.lt_or_ge gt a.tmps.size with h | h
      · exact h
      · have : a.tmps.getD gt undef = undef := by simp [Nat.not_lt.2 h]
        rw [this] at hv; cases hv
    have he : a.tmps[gt]? = some (.bool b) := by
      rw [Array.getElem?_eq_getElem hlt, ← hv]
      simp [hlt]
    unfold yielded
    rw [hj]
    show (match (some gt).bind (a.tmps[·]?) with | some (.bool b) => some b | _ => none) = some b
    simp only [Option.bind_some, he]
  by_cases e : b = want
  · have := (h1 e).run b0 g a w hi
    unfold wpList at this ⊢
    have hw : Region.wanted ⟨td, o, ty, pos, after, some (j, want)⟩ (yielded ops a.tmps) = true := by simp [Region.wanted, hy, e]
    have hw' : Region.wanted ⟨td, o, ty, pos, after, none⟩ (yielded ops a.tmps) = true := rfl
    rw [if_pos hw]
    rw [if_pos hw'] at this
    exact this
  · have e' : b = !want := by cases b <;> cases want <;> simp_all
    have := h2 e'
    unfold wpList
    have hw : Region.wanted ⟨td, o, ty, pos, after, some (j, want)⟩ (yielded ops a.tmps) = false := by simp [Region.wanted, hy, e]
    rw [if_neg (by rw [hw]; simp)]
    cases td with
    | none => exact this.run b0 g a w hi
    | some t => exact this.run b0 g _ w (hi.put htd (.tup [] [] rfl fun j d v h => by simp at h))⟩
/-- what hangs on a skipped operation is skipped -/
theorem AL_guardU [Known] [Dfr] {o : Op} {t : Nat} {j : Nat} {want : Bool} {gt : Nat} (hj : ((ops[j]?).bind (·.dst)) = some gt) (hb : look tm gt = .tup []) (htd : Nat.blt t n = true)
    (h2 : AL P ops rest ⟨n, (t, .tup []) :: tm, bx, fr, ee⟩ Q) : AL P ops (⟨some t, o, ty, pos, after, some (j, want)⟩ :: rest) ⟨n, tm, bx, fr, ee⟩ Q := ⟨fun b0 g a w hi => by
  have hv : V w g fr (look tm gt) (a.tmps.getD gt undef) := hi.tm gt
  rw [hb] at hv
  obtain ⟨vs, hv, hl, _⟩ := tup_inv hv
  obtain rfl : vs = [] := List.length_eq_zero_iff.1 hl
  have hy : yielded ops a.tmps j = none := by
    unfold yielded
    rw [hj]
    show (match (some gt).bind (a.tmps[·]?) with | some (.bool b) => some b | _ => none) = none
    rw [Option.bind_some]
    cases hg : a.tmps[gt]? with
    | none => rfl
    | some v =>
      have : a.tmps.getD gt undef = v := by simp [Array.getD_getElem?, hg]
      rw [this] at hv
      subst hv
      rfl
  unfold wpList
  have hw : Region.wanted ⟨some t, o, ty, pos, after, some (j, want)⟩ (yielded ops a.tmps) = false := by simp [Region.wanted, hy]
  rw [if_neg (by rw [hw]; simp)]
  exact h2.run b0 g _ w (hi.put htd (.tup [] [] rfl fun j d v h => by simp at h))⟩
theorem AL_panic [Known] [Dfr] {x : Operand} {d : D} {td : Option Nat} (hx : nf (ev tm x) = some d) (hn : (match d with | .iface _ _ => true | _ => false) = true) (k : Q (.pan d) ⟨n, tm, bx, fr, ee⟩) : AL P ops (⟨td, .panic x, ty, pos, after, none⟩ :: rest) ⟨n, tm, bx, fr, ee⟩ Q := ⟨fun b0 g a w hi =>
  wpList_plain rfl fun K hK => by
    have h1 : V w g fr (ev tm x) (a.eval x) := hi.ev x
    rw [nf_eq hx] at h1
    obtain ⟨v, hv⟩ : ∃ v, v = a.eval x := ⟨_, rfl⟩
    rw [← hv] at h1
    unfold Oper.wp
    have hrun : (execOp a.eval ⟨td, .panic x, ty, pos, after, none⟩).run P w = .halt (.panic v) w := by
      cases d <;> simp at hn
      cases h1
      simp [execOp, ← hv, Instr.panic, Sem.run_bind, goPanic]
    rw [hrun]
    exact ⟨_, g, v, d, hi, rfl, h1, k⟩⟩
/-- whole numbers converted -/
theorem AL_convT [Known] [Dfr] (hT : chk P T = true) {x : Operand} {src dst : Nat} {k k' : IntKind} {q : Int} {ti td : Ti} (hx : ev tm x = .int k q) (hs : tl T src = some ti) (hd : tl T dst = some td) (hk : td.kd = .int k') (htd : Nat.blt t n = true)
    (kk : AL P ops rest ⟨n, (t, .int k' (k'.wrap q)) :: tm, bx, fr, ee⟩ Q) : AL P ops (⟨some t, .convert src dst x, ty, pos, after, none⟩ :: rest) ⟨n, tm, bx, fr, ee⟩ Q := by
  obtain ⟨u, hu, _⟩ := (tl_ok hT hs).under
  exact AL_conv hx (by rw [hu]) (by rw [(tl_ok hT hd).int hk]) htd kk
theorem AL_guardT [Known] [Dfr] {o : Op} {td : Option Nat} {j : Nat} {want b : Bool} {gt : Nat} (hj : ((ops[j]?).bind (·.dst)) = some gt) (hb : look tm gt = .bool b) (htd : (match td with | some t => Nat.blt t n | none => true) = true) (hw : b = want)
    (h1 : AL P ops (⟨td, o, ty, pos, after, none⟩ :: rest) ⟨n, tm, bx, fr, ee⟩ Q) : AL P ops (⟨td, o, ty, pos, after, some (j, want)⟩ :: rest) ⟨n, tm, bx, fr, ee⟩ Q :=
  AL_guard hj hb htd (fun _ => h1) (fun h => by subst hw; cases b <;> cases h)
theorem AL_guardF [Known] [Dfr] {o : Op} {t : Nat} {j : Nat} {want b b' : Bool} {gt : Nat} (hj : ((ops[j]?).bind (·.dst)) = some gt) (hb : look tm gt = .bool b) (htd : Nat.blt t n = true) (hw : b = b') (hne : (b' != want) = true)
    (h1 : AL P ops rest ⟨n, (t, .tup []) :: tm, bx, fr, ee⟩ Q) : AL P ops (⟨some t, o, ty, pos, after, some (j, want)⟩ :: rest) ⟨n, tm, bx, fr, ee⟩ Q :=
  AL_guard hj hb htd (fun h => by subst hw; subst h; simp at hne) (fun _ => h1)
theorem AL_guardFt [Known] [Dfr] {o : Op} {t : Nat} {j : Nat} {b : Bool} {gt : Nat} (hj : ((ops[j]?).bind (·.dst)) = some gt) (hb : look tm gt = .bool b) (htd : Nat.blt t n = true) (hw : b = false)
    (h1 : AL P ops rest ⟨n, (t, .tup []) :: tm, bx, fr, ee⟩ Q) : AL P ops (⟨some t, o, ty, pos, after, some (j, true)⟩ :: rest) ⟨n, tm, bx, fr, ee⟩ Q := AL_guardF hj hb htd hw rfl h1
theorem AL_guardFf [Known] [Dfr] {o : Op} {t : Nat} {j : Nat} {b : Bool} {gt : Nat} (hj : ((ops[j]?).bind (·.dst)) = some gt) (hb : look tm gt = .bool b) (htd : Nat.blt t n = true) (hw : b = true)
    (h1 : AL P ops rest ⟨n, (t, .tup []) :: tm, bx, fr, ee⟩ Q) : AL P ops (⟨some t, o, ty, pos, after, some (j, false)⟩ :: rest) ⟨n, tm, bx, fr, ee⟩ Q := AL_guardF hj hb htd hw rfl h1
theorem AL_guardS [Known] [Dfr] {o : Op} {td : Option Nat} {j : Nat} {want b : Bool} {gt : Nat} (hj : ((ops[j]?).bind (·.dst)) = some gt) (hb : look tm gt = .bool b)
    (h1 : b = true → AL P ops (⟨td, o, ty, pos, after, some (j, want)⟩ :: rest) ⟨n, tm, bx, fr, ee⟩ Q) (h2 : b = false → AL P ops (⟨td, o, ty, pos, after, some (j, want)⟩ :: rest) ⟨n, tm, bx, fr, ee⟩ Q) :
    AL P ops (⟨td, o, ty, pos, after, some (j, want)⟩ :: rest) ⟨n, tm, bx, fr, ee⟩ Q := by
  cases b with
  | true => exact h1 rfl
  | false => exact h2 rfl
theorem AL_pickT [Known] [Dfr] {c x y : Operand} {b : Bool} {d : D} (hc : ev tm c = .bool b) (hb : b = true) (hd : nf (ev tm x) = some d) (htd : Nat.blt t n = true)
    (k : AL P ops rest ⟨n, (t, d) :: tm, bx, fr, ee⟩ Q) : AL P ops (⟨some t, .pick c x y, ty, pos, after, none⟩ :: rest) ⟨n, tm, bx, fr, ee⟩ Q := by
  subst hb; exact AL_pick hc hd htd k
theorem AL_pickF [Known] [Dfr] {c x y : Operand} {b : Bool} {d : D} (hc : ev tm c = .bool b) (hb : b = false) (hd : nf (ev tm y) = some d) (htd : Nat.blt t n = true)
    (k : AL P ops rest ⟨n, (t, d) :: tm, bx, fr, ee⟩ Q) : AL P ops (⟨some t, .pick c x y, ty, pos, after, none⟩ :: rest) ⟨n, tm, bx, fr, ee⟩ Q := by
  subst hb; exact AL_pick hc hd htd k
end
theorem AW_condA [Known] [Dfr] {P : Program} {Q : X → St → Prop} {n : Nat} {ee : Nat × Nat} {tm : List (Nat × D)} {bx : List (List D)} {fr : List Fr} {x y : Code} {b : Bool} {t : Nat} (hd : look tm t = .bool b) (hb : b = true) (h1 : AW P x ⟨n, tm, bx, fr, ee⟩ Q) : AW P (.cond (.tmp t) x y) ⟨n, tm, bx, fr, ee⟩ Q := AW_condT (hb ▸ hd) h1
theorem AW_condB [Known] [Dfr] {P : Program} {Q : X → St → Prop} {n : Nat} {ee : Nat × Nat} {tm : List (Nat × D)} {bx : List (List D)} {fr : List Fr} {x y : Code} {b : Bool} {t : Nat} (hd : look tm t = .bool b) (hb : b = false) (h1 : AW P y ⟨n, tm, bx, fr, ee⟩ Q) : AW P (.cond (.tmp t) x y) ⟨n, tm, bx, fr, ee⟩ Q := AW_condF (hb ▸ hd) h1
end Go.Av
end
/- Structs compared, said of abstract states. -/
section
open Go.RowKit Go.Pl
namespace Go.Av
set_option linter.unusedSimpArgs false
set_option linter.unusedVariables false
/-- one cell against another -/
def eq1 : ZK → D → D → Option Bool
  | .b, .bool a, .bool b => some (a == b)
  | .i k, .int k1 a, .int k2 b => if k1 = k then if k2 = k then some (a == b) else none else none
  | .s, .str a, .str b => some (a == b)
  | _, _, _ => none
def eqL : List ZK → List D → List D → Option Bool
  | [], [], [] => some true
  | k :: ks, a :: l, b :: l' => match eq1 k a b, eqL ks l l' with
    | some p, some q => some (p && q)
    | _, _ => none
  | _, _, _ => none
/-- which cells a type's values have, if they are compared cell by cell -/
def kgo (P : Program) (kd : TypeId → Option (List ZK)) : List ZK → List Field → Option (List ZK)
  | acc, [] => some acc
  | acc, f :: fs => if f.name ≠ "_" ∧ f.offset = acc.length then match kd f.type with
      | some ks => if tSize P f.type = some ks.length then kgo P kd (acc ++ ks) fs else none
      | none => none
    else none
def kinds (P : Program) : Nat → TypeId → Option (List ZK)
  | 0, _ => none
  | d + 1, t => match P.underlying t with
    | some .bool => some [.b]
    | some (.int k) => some [.i k]
    | some .string => some [.s]
    | some (.struct fs) => if P.stoodInHeld t = true then none else kgo P (kinds P d) [] fs.toList
    | _ => none
theorem kgo_pre {P : Program} {kd : TypeId → Option (List ZK)} : ∀ {fs : List Field} {acc full : List ZK}, kgo P kd acc fs = some full → ∃ rest, full = acc ++ rest
  | [], acc, full, h => ⟨[], by simp [kgo] at h; simp [h]⟩
  | f :: fs, acc, full, h => by
    simp only [kgo] at h
    split at h
    · cases hk : kd f.type with
      | none => simp [hk] at h
      | some ks =>
        simp only [hk] at h
        split at h
        · obtain ⟨rest, hr⟩ := kgo_pre h
          exact ⟨ks ++ rest, by rw [hr, List.append_assoc]⟩
        · cases h
    · cases h
theorem eqL_app : ∀ {ks ks' : List ZK} {a b : List D} {r : Bool}, eqL (ks ++ ks') a b = some r → ∃ p q, eqL ks (a.take ks.length) (b.take ks.length) = some p ∧ eqL ks' (a.drop ks.length) (b.drop ks.length) = some q ∧ r = (p && q)
  | [], ks', a, b, r, h => ⟨true, r, by simp [eqL], by simpa using h, by simp⟩
  | k :: ks, ks', x :: a, y :: b, r, h => by
    simp only [List.cons_append, eqL] at h
    cases h1 : eq1 k x y with
    | none => simp [h1] at h
    | some p =>
      cases h2 : eqL (ks ++ ks') a b with
      | none => simp [h1, h2] at h
      | some q =>
        simp [h1, h2] at h
        subst h
        obtain ⟨p', q', e1, e2, e3⟩ := eqL_app h2
        exact ⟨p && p', q', by simp [eqL, h1, e1], by simpa using e2, by rw [e3, Bool.and_assoc]⟩
  | k :: ks, ks', [], b, r, h => by simp [eqL] at h
  | k :: ks, ks', x :: a, [], r, h => by simp [eqL] at h
theorem eqL_len : ∀ {ks : List ZK} {a b : List D} {r : Bool}, eqL ks a b = some r → a.length = ks.length ∧ b.length = ks.length
  | [], [], [], r, h => ⟨rfl, rfl⟩
  | k :: ks, x :: a, y :: b, r, h => by
    simp only [eqL] at h
    cases h1 : eq1 k x y with
    | none => simp [h1] at h
    | some p =>
      cases h2 : eqL ks a b with
      | none => simp [h1, h2] at h
      | some q =>
        obtain ⟨h3, h4⟩ := eqL_len h2
        exact ⟨by simp [h3], by simp [h4]⟩
  | [], _ :: _, _, r, h => by simp [eqL] at h
  | [], [], _ :: _, r, h => by simp [eqL] at h
  | k :: ks, [], b, r, h => by simp [eqL] at h
  | k :: ks, x :: a, [], r, h => by simp [eqL] at h
section
variable {P : Program} {Q : X → St → Prop} {n : Nat} {ee : Nat × Nat} {tm : List (Nat × D)} {bx bx' : List (List D)} {fr fr' : List Fr} {b0 : Bs} {g : G} {w : World} {a : Act} {T : Tab}
variable {ops : Array Oper} {rest : List Oper} {t ty : Nat} {pos : String} {after : Array Edge}
/-- cells that hold so -/
def Holds (w : World) (g : G) (fr : List Fr) (l : List D) (vs : List Value) : Prop := vs.length = l.length ∧ ∀ (j : Nat) (d : D) (v : Value), l[j]? = some d → vs[j]? = some v → V w g fr d v
theorem Holds.sub {l : List D} {vs : List Value} (h : Holds w g fr l vs) (o k : Nat) : Holds w g fr ((l.drop o).take k) ((vs.drop o).take k) := by
  refine ⟨by simp [h.1], fun j d v hd hv => ?_⟩
  have hd' : j < k ∧ l[o + j]? = some d := by simpa [List.getElem?_take] using hd
  have hv' : j < k ∧ vs[o + j]? = some v := by simpa [List.getElem?_take] using hv
  exact h.2 _ d v hd'.2 hv'.2
theorem run_kinds : ∀ (d : Nat) (t : TypeId) (dd : Nat) (ks : List ZK) (l l' : List D) (vs vs' : List Value) (x y : Value) (r : Bool), kinds P d t = some ks → d ≤ dd → Holds w g fr l vs → Holds w g fr l' vs' → eqL ks l l' = some r →
    (tAgg P t = some true → x = .agg vs.toArray ∧ y = .agg vs'.toArray) → (tAgg P t = some false → vs = [x] ∧ vs' = [y]) → (Op.equalIn dd t x y).run P w = .ok r w := by
  intro d
  induction d with
  | zero => intro t dd ks l l' vs vs' x y r h; simp [kinds] at h
  | succ d ih =>
    intro t dd ks l l' vs vs' x y r h hdd hl hl' he hA hS
    obtain ⟨dd, rfl⟩ : ∃ k, dd = k + 1 := ⟨dd - 1, by omega⟩
    have sc : ∀ k, ks = [k] → tAgg P t = some false → ∃ p q, V w g fr p x ∧ V w g fr q y ∧ eq1 k p q = some r := fun k hk hAf => by
      subst hk
      obtain ⟨rfl, rfl⟩ := hS hAf
      obtain ⟨h1, h2⟩ := eqL_len he
      match l, l', h1, h2 with
      | [p], [q], _, _ =>
        refine ⟨p, q, hl.2 0 p x rfl rfl, hl'.2 0 q y rfl rfl, ?_⟩
        cases h5 : eq1 k p q with
        | none => simp [eqL, h5] at he
        | some b => simp [eqL, h5] at he; rw [he]
    unfold kinds at h
    cases hu : P.underlying t with
    | none => simp [hu] at h
    | some u =>
      cases u <;> simp [hu] at h
      case bool =>
        obtain ⟨p, q, hp, hq, he⟩ := sc .b h.symm (by simp [Go.Av.tAgg, hu])
        cases p <;> cases q <;> simp [eq1] at he
        cases hp; cases hq; subst he
        exact run_equalIn_bool w dd t _ _ hu
      case int k =>
        obtain ⟨p, q, hp, hq, he⟩ := sc (.i k) h.symm (by simp [Go.Av.tAgg, hu])
        cases p <;> cases q <;> simp [eq1] at he
        obtain ⟨rfl, rfl, he⟩ := he
        cases hp; cases hq; subst he
        exact run_equalIn_int w dd t _ _ _ _ hu
      case string =>
        obtain ⟨p, q, hp, hq, he⟩ := sc .s h.symm (by simp [Go.Av.tAgg, hu])
        cases p <;> cases q <;> simp [eq1] at he
        have h1 := hp.str_inv.1
        have h2 := hq.str_inv.1
        subst h1 h2 he
        rw [run_equalIn_string w dd t _ _ hu, ba_toList, ba_toList]
      case struct fs =>
        obtain ⟨hst, h⟩ := h
        obtain ⟨rfl, rfl⟩ := hA (by simp [Go.Av.tAgg, hu])
        have hfs : P.fieldsOf t = fs := by simp [Program.fieldsOf, hu]
        rw [run_equalIn_struct w dd t _ _ (by rw [hfs]; exact hu) hst, hfs]
        -- field by field
        obtain ⟨hL, hL'⟩ := eqL_len he
        have key : ∀ (fl : List Field) (acc : List ZK) (r : Bool), kgo P (kinds P d) acc fl = some ks → eqL (ks.drop acc.length) (l.drop acc.length) (l'.drop acc.length) = some r → (Op.eqFields dd vs.toArray vs'.toArray fl).run P w = .ok r w := by
          intro fl
          induction fl with
          | nil =>
            intro acc r h he
            simp [kgo] at h
            subst h
            have : eqL [] (l.drop acc.length) (l'.drop acc.length) = some r := by simpa using he
            obtain ⟨h1, h2⟩ := eqL_len this
            have e1 : l.drop acc.length = [] := List.eq_nil_of_length_eq_zero h1
            have e2 : l'.drop acc.length = [] := List.eq_nil_of_length_eq_zero h2
            rw [e1, e2] at this
            simp [eqL] at this
            subst this
            rfl
          | cons f fl ihf =>
            intro acc r h he
            simp only [kgo] at h
            split at h
            · rename_i hn
              cases hk : kinds P d f.type with
              | none => simp [hk] at h
              | some kf =>
                simp only [hk] at h
                split at h
                · rename_i hsz
                  obtain ⟨rest, hr⟩ := kgo_pre h
                  have hd : ks.drop acc.length = kf ++ rest := by rw [hr]; simp
                  rw [hd] at he
                  obtain ⟨p, q, e1, e2, e3⟩ := eqL_app he
                  obtain ⟨q1, q2⟩ := eqL_len e1
                  have hks : ks.length = acc.length + kf.length + rest.length := by rw [hr]; simp; omega
                  have hlen : acc.length + kf.length ≤ l.length := by omega
                  have hlen' : acc.length + kf.length ≤ l'.length := by omega
                  have hvl := hl.1
                  have hvl' := hl'.1
                  -- the parts
                  have hpart : ∃ x y, (part f.type vs.toArray f.offset).run P w = .ok x w ∧ (part f.type vs'.toArray f.offset).run P w = .ok y w ∧ (tAgg P f.type = some true → x = .agg ((vs.drop acc.length).take kf.length).toArray ∧ y = .agg ((vs'.drop acc.length).take kf.length).toArray) ∧ (tAgg P f.type = some false → (vs.drop acc.length).take kf.length = [x] ∧ (vs'.drop acc.length).take kf.length = [y]) := by
                    cases hag : tAgg P f.type with
                    | none =>
                      exfalso
                      cases d with
                      | zero => simp [kinds] at hk
                      | succ d =>
                        unfold kinds at hk
                        unfold Go.Av.tAgg at hag
                        cases hu2 : P.underlying f.type with
                        | none => simp [hu2] at hk
                        | some u2 => cases u2 <;> simp [hu2] at hag
                    | some b =>
                      rw [hn.2]
                      cases b with
                      | true =>
                        refine ⟨.agg (vs.toArray.extract acc.length (acc.length + kf.length)), .agg (vs'.toArray.extract acc.length (acc.length + kf.length)), by simp [part, Sem.run_bind, run_isAgg hag, run_sizeOf hsz], by simp [part, Sem.run_bind, run_isAgg hag, run_sizeOf hsz], fun _ => ⟨?_, ?_⟩, fun h => by cases h⟩
                        · congr 1; apply Array.ext'; simp [List.drop_take, Nat.add_sub_cancel_left]
                        · congr 1; apply Array.ext'; simp [List.drop_take, Nat.add_sub_cancel_left]
                      | false =>
                        have hk1 : kf.length = 1 := by
                          cases d with
                          | zero => simp [kinds] at hk
                          | succ d =>
                            unfold kinds at hk
                            unfold Go.Av.tAgg at hag
                            cases hu2 : P.underlying f.type with
                            | none => simp [hu2] at hk
                            | some u2 => cases u2 <;> simp [hu2] at hag hk <;> subst hk <;> rfl
                        have h1 : acc.length < vs.length := by omega
                        have h2 : acc.length < vs'.length := by omega
                        refine ⟨vs[acc.length], vs'[acc.length], by simp [part, Sem.run_bind, run_isAgg hag, h1], by simp [part, Sem.run_bind, run_isAgg hag, h2], (fun h => by cases h), fun _ => ⟨?_, ?_⟩⟩
                        · rw [hk1, List.drop_eq_getElem_cons h1]; rfl
                        · rw [hk1, List.drop_eq_getElem_cons h2]; rfl
                  obtain ⟨x, y, p1, p2, p3, p4⟩ := hpart
                  have hrec := ih f.type dd kf _ _ _ _ x y p hk (by omega) (hl.sub acc.length kf.length) (hl'.sub acc.length kf.length) e1 p3 p4
                  have hnext := ihf (acc ++ kf) q h (by
                    rw [List.length_append, ← List.drop_drop, hd, ← List.drop_drop, ← List.drop_drop]
                    simpa using e2)
                  simp only [Op.eqFields, Sem.run_bind, Sem.run_ite, if_pos hn.1, p1, p2, Result.andThen_ok, hrec]
                  subst e3
                  cases p with
                  | true => simpa using hnext
                  | false => simp
                · cases h
            · cases h
        exact key fs.toList [] r h (by simpa using he)
theorem AL_eqS [Known] [Dfr] {op : BinOp} {x y : Operand} {xt yt : Nat} {l l' : List D} {ti : Ti} {d : D} {r : Bool} (hT : chk P T = true) (hx : ev tm x = .agg l) (hy : ev tm y = .agg l') (ht : tl T xt = some ti) (ha : ti.kd.agg = true) (hk : kinds P 9 xt = some ti.zero) (hg : P.eqGuardType P.depth xt = false) (he : eqL ti.zero l l' = some r)
    (hd : (match op with | .eql => some (D.bool r) | .neq => some (D.bool (!r)) | _ => none) = some d) (htd : Nat.blt t n = true)
    (k : AL P ops rest ⟨n, (t, d) :: tm, bx, fr, ee⟩ Q) : AL P ops (⟨some t, .binOp op xt x y yt, ty, pos, after, none⟩ :: rest) ⟨n, tm, bx, fr, ee⟩ Q :=
  AL_val _ htd (fun g a w hi => by
    have h1 : V w g fr (ev tm x) (a.eval x) := hi.ev x
    rw [hx] at h1
    have h2 : V w g fr (ev tm y) (a.eval y) := hi.ev y
    rw [hy] at h2
    obtain ⟨vs, v1, v2, v3⟩ := agg_inv h1
    obtain ⟨vs', u1, u2, u3⟩ := agg_inv h2
    have hrun : (Op.equal xt (.agg vs.toArray) (.agg vs'.toArray)).run P w = .ok r w :=
      run_kinds 9 xt 10000 ti.zero l l' vs vs' _ _ r hk (by omega) ⟨v2, v3⟩ ⟨u2, u3⟩ he (fun _ => ⟨rfl, rfl⟩) (fun h => by rw [(tl_ok hT ht).tAgg, ha] at h; cases h)
    have hguard := fun op => run_eqGuard_agg (P := P) w op xt x y vs.toArray vs'.toArray hg
    cases op <;> simp at hd <;> subst hd
    · exact ⟨.bool r, by simp [execOp, v1, u1, binOp, Sem.run_bind, hguard, hrun], .bool _⟩
    · exact ⟨.bool (!r), by simp [execOp, v1, u1, binOp, Sem.run_bind, hguard, hrun], .bool _⟩) k
end
end Go.Av
end
/- Tokens and variables let go. -/
section
open Go.RowKit Go.Pl
namespace Go.Av
set_option linter.unusedSimpArgs false
set_option linter.unusedVariables false
/-! ### tokens let go -/
mutual
def D.wk : D → D
  | .bool b => .bool b
  | .int k n => .int k n
  | .str s => .str s
  | .sl _ l => .sl .ext l
  | .nilp => .nilp
  | .ptr b o => .ptr b o
  | .eptr cs o => .eptr cs o
  | .gptr k o => .gptr k o
  | .bsl b o n => .bsl b o n
  | .agg l => .agg (D.wks l)
  | .tup l => .tup (D.wks l)
  | .fn i l => .fn i (D.wks l)
  | .nilf => .nilf
  | .iface t d => .iface t (D.wk d)
  | .nili => .nili
  | .junk => .junk
def D.wks : List D → List D
  | [] => []
  | d :: l => D.wk d :: D.wks l
end
theorem wks_map (l : List D) : D.wks l = l.map D.wk := by
  induction l with
  | nil => rfl
  | cons d l ih => simp [D.wks, ih]
theorem V.wk {w : World} {g : G} {fr : List Fr} {d : D} {v : Value} (hV : V w g fr d v) : V w g fr d.wk v := by
  have key : ∀ {l : List D} {vs : List Value}, (∀ (j : Nat) (d : D) (v : Value), l[j]? = some d → vs[j]? = some v → V w g fr d.wk v) → ∀ (j : Nat) (d : D) (v : Value), (D.wks l)[j]? = some d → vs[j]? = some v → V w g fr d v := by
    intro l vs h j d v hd hv
    rw [wks_map, List.getElem?_map] at hd
    cases hj : l[j]? with
    | none => simp [hj] at hd
    | some d0 => simp [hj] at hd; subst hd; exact h j d0 v hj hv
  induction hV with
  | bool b => exact .bool b
  | int k n => exact .int k n
  | str s h => exact .str s h
  | sl t l v h hk => exact .sl .ext l v h trivial
  | nilp => exact .nilp
  | ptr b o blk h => exact .ptr b o blk h
  | eptr cs o blk off us hc hw' hv => exact .eptr cs o blk off us hc hw' hv
  | gptr k o => exact .gptr k o
  | bsl b o n blk cap hb h1 h2 => exact .bsl b o n blk cap hb h1 h2
  | agg l vs hl _ ih => exact .agg _ vs (by rw [wks_map]; simpa using hl) (key ih)
  | tup l vs hl _ ih => exact .tup _ vs (by rw [wks_map]; simpa using hl) (key ih)
  | fn f l vs hl _ ih => exact .fn f _ vs (by rw [wks_map]; simpa using hl) (key ih)
  | nilf => exact .nilf
  | iface t d v _ ih => exact .iface t _ v ih
  | nili => exact .nili
  | junk v => exact .junk v
/-! ### loops -/
inductive Sub (tm : List (Nat × D)) : List (Nat × D) → Prop
  | nil : Sub tm []
  | cons {t : Nat} {d : D} {l : List (Nat × D)} (h : look tm t = d) (k : Sub tm l) : Sub tm ((t, d) :: l)
  | wk {t : Nat} {d : D} {l : List (Nat × D)} (h : (look tm t).wk = d) (k : Sub tm l) : Sub tm ((t, d) :: l)
theorem Sub.look {tm : List (Nat × D)} {l : List (Nat × D)} (hs : Sub tm l) (t : Nat) : look l t = .junk ∨ look l t = look tm t ∨ look l t = (look tm t).wk := by
  induction hs with
  | nil => exact .inl rfl
  | @cons k d l h s ih =>
    simp only [Go.Av.look]
    cases hb : Nat.beq k t with
    | true =>
      have := Nat.eq_of_beq_eq_true hb
      subst this
      exact .inr (.inl h.symm)
    | false => exact ih
  | @wk k d l h s ih =>
    simp only [Go.Av.look]
    cases hb : Nat.beq k t with
    | true =>
      have := Nat.eq_of_beq_eq_true hb
      subst this
      exact .inr (.inr h.symm)
    | false => exact ih
theorem Inv.sub [Known] [Dfr] {b0 : Bs} {n : Nat} {ee : Nat × Nat} {tm tm2 : List (Nat × D)} {bx : List (List D)} {fr : List Fr} {g : G} {a : Act} {w : World} (h : Inv b0 ⟨n, tm, bx, fr, ee⟩ g a w) (hs : Sub tm tm2) : Inv b0 ⟨n, tm2, bx, fr, ee⟩ g a w := by
  refine ⟨h.size, h.defers, h.mem, fun t => ?_, h.evo, h.bd⟩
  rcases hs.look t with e | e | e
  · dsimp only; rw [e]; exact .junk _
  · dsimp only; rw [e]; exact h.tm t
  · dsimp only; rw [e]; exact (h.tm t).wk
/-! which pointers and tokens a datum names -/
mutual
def D.lt (k m : Nat) : D → Bool
  | .sl (.own i) _ => Nat.blt i m
  | .ptr b _ => Nat.blt b k
  | .bsl b _ _ => Nat.blt b k
  | .agg l => D.lts k m l
  | .tup l => D.lts k m l
  | .fn _ l => D.lts k m l
  | .iface _ d => D.lt k m d
  | _ => true
def D.lts (k m : Nat) : List D → Bool
  | [] => true
  | d :: l => match D.lt k m d with
    | true => D.lts k m l
    | false => false
end
theorem lts_get {k m : Nat} : ∀ {l : List D} {j : Nat} {d : D}, D.lts k m l = true → l[j]? = some d → D.lt k m d = true
  | [], j, d, _, h => by simp at h
  | x :: l, j, d, hl, h => by
    simp only [D.lts] at hl
    cases hx : D.lt k m x with
    | false => simp [hx] at hl
    | true =>
      simp only [hx] at hl
      cases j with
      | zero => simp at h; subst h; exact hx
      | succ j => simp at h; exact lts_get hl h
theorem V.cutB {w : World} {g : G} {fr : List Fr} {d : D} {v : Value} {k m : Nat} (h : V w g fr d v) (hd : D.lt k m d = true) : V w ⟨g.C, g.ρ.take k, g.τ.take m⟩ (fr.take m) d v := by
  induction h with
  | bool b => exact .bool b
  | int k n => exact .int k n
  | str s h => exact .str s h
  | sl t l v h hk =>
    refine .sl t l v h ?_
    cases t with
    | ext => trivial
    | nil => exact hk
    | own i =>
      simp only [D.lt, Nat.blt_eq] at hd
      obtain ⟨f, h1, h2, h3⟩ := hk
      refine ⟨f, by rw [List.getElem?_take, if_pos hd]; exact h1, h2, fun e => ?_⟩
      obtain ⟨blk, cap, q1, q2⟩ := h3 e
      exact ⟨blk, cap, q1, by show (g.τ.take m)[i]? = _; rw [List.getElem?_take, if_pos hd]; exact q2⟩
  | nilp => exact .nilp
  | ptr b o blk h =>
    simp only [D.lt, Nat.blt_eq] at hd
    exact .ptr b o blk (by show (g.ρ.take k)[b]? = _; rw [List.getElem?_take, if_pos hd]; exact h)
  | eptr cs o blk off us hc hw' hv => exact .eptr cs o blk off us hc hw' hv
  | gptr k o => exact .gptr k o
  | bsl b o n blk cap h h1 h2 =>
    simp only [D.lt, Nat.blt_eq] at hd
    exact .bsl b o n blk cap (by show (g.ρ.take k)[b]? = _; rw [List.getElem?_take, if_pos hd]; exact h) h1 h2
  | agg l vs hl _ ih => exact .agg l vs hl fun j d v hj hv => ih j d v hj hv (lts_get hd hj)
  | tup l vs hl _ ih => exact .tup l vs hl fun j d v hj hv => ih j d v hj hv (lts_get hd hj)
  | fn f l vs hl _ ih => exact .fn f l vs hl fun j d v hj hv => ih j d v hj hv (lts_get hd hj)
  | nilf => exact .nilf
  | iface t d v _ ih => exact .iface t d v (ih hd)
  | nili => exact .nili
  | junk v => exact .junk v
def allLt (k m : Nat) : List (List D) → Bool
  | [] => true
  | l :: ls => match D.lts k m l with
    | true => allLt k m ls
    | false => false
theorem allLt_get {k m : Nat} : ∀ {ls : List (List D)} {i : Nat} {l : List D}, allLt k m ls = true → ls[i]? = some l → D.lts k m l = true
  | [], i, l, _, h => by simp at h
  | x :: ls, i, l, hl, h => by
    simp only [allLt] at hl
    cases hx : D.lts k m x with
    | false => simp [hx] at hl
    | true =>
      simp only [hx] at hl
      cases i with
      | zero => simp at h; subst h; exact hx
      | succ i => simp at h; exact allLt_get hl h
def tmLt (k m : Nat) : List (Nat × D) → Bool
  | [] => true
  | p :: l => match D.lt k m p.2 with
    | true => tmLt k m l
    | false => false
theorem tmLt_look {k m : Nat} : ∀ {l : List (Nat × D)} (t : Nat), tmLt k m l = true → D.lt k m (look l t) = true
  | [], t, _ => rfl
  | (x, d) :: l, t, h => by
    simp only [tmLt] at h
    cases hd : D.lt k m d with
    | false => simp [hd] at h
    | true =>
      simp only [hd] at h
      simp only [Go.Av.look]
      cases hb : Nat.beq x t with
      | true => exact hd
      | false => exact tmLt_look t h
/-- variables and tokens let go: the last ones -/
theorem Inv.cut [Known] [Dfr] {b0 : Bs} {n k m : Nat} {ee : Nat × Nat} {tm : List (Nat × D)} {bx : List (List D)} {fr : List Fr} {g : G} {a : Act} {w : World} (h : Inv b0 ⟨n, tm, bx, fr, ee⟩ g a w) (hk : ee.1 ≤ k) (hm : ee.2 ≤ m) (htm : tmLt k m tm = true) (hbx : allLt k m (bx.take k) = true) :
    Inv b0 ⟨n, tm, bx.take k, fr.take m, ee⟩ ⟨g.C, g.ρ.take k, g.τ.take m⟩ a w := by
  have hM := h.mem
  have hbd := h.bd
  dsimp only at hbd
  have hρ : ∀ (i b : Nat), (g.ρ.take k)[i]? = some b → i < k ∧ g.ρ[i]? = some b := fun i b h => by simpa [List.getElem?_take] using h
  have hτ : ∀ (i : Nat) (p : Nat × Nat), (g.τ.take m)[i]? = some p → i < m ∧ g.τ[i]? = some p := fun i p h => by simpa [List.getElem?_take] using h
  refine ⟨h.size, h.defers, ?_, fun t => (h.tm t).cutB (tmLt_look t htm), ?_, h.bd⟩
  · constructor
    · have := hM.bl; simp at this ⊢; omega
    · intro i blk cs h1 h2
      obtain ⟨hi, h1⟩ := hρ i blk h1
      have h2' : bx[i]? = some cs := by have : i < k ∧ bx[i]? = some cs := by simpa [List.getElem?_take] using h2
                                        exact this.2
      obtain ⟨vs, ty, q1, q2, q3⟩ := hM.bat i blk cs h1 h2'
      exact ⟨vs, ty, q1, q2, fun j d v hd hv => (q3 j d v hd hv).cutB (lts_get (allLt_get hbx h2) hd)⟩
    · intro blk o hb
      obtain ⟨i, hi⟩ := List.getElem?_of_mem hb
      exact hM.bC blk o (List.mem_of_getElem? (hρ i blk hi).2)
    · intro i j b h1 h2
      exact hM.bN i j b (hρ i b h1).2 (hρ j b h2).2
    · have := hM.tl; simp at this ⊢; omega
    · intro i blk cap f h1 h2
      obtain ⟨hi, h1⟩ := hτ i _ h1
      have h2 : i < m ∧ fr[i]? = some f := by simpa [List.getElem?_take] using h2
      exact (hM.tat i blk cap f h1 h2.2).same fun _ h => h
    · intro i j b c c' h1 h2
      exact hM.tN i j b c c' (hτ i _ h1).2 (hτ j _ h2).2
    · intro b c h1 h2
      obtain ⟨i, hi⟩ := List.getElem?_of_mem h1
      obtain ⟨j, hj⟩ := List.getElem?_of_mem h2
      exact hM.tρ b c (List.mem_of_getElem? (hτ i _ hi).2) (List.mem_of_getElem? (hρ j b hj).2)
    · exact hM.Clt
    · exact hM.gl
  · have he := h.evo
    refine ⟨he.os, he.tape, he.output, he.size, he.block, he.C, he.cell, he.newC, fun i b hb => ?_, fun b hb => ?_, fun b c hb => ?_, fun i f hf => ?_⟩
    · have := (List.getElem?_eq_some_iff.1 hb).1
      show (g.ρ.take k)[i]? = _
      rw [List.getElem?_take, if_pos (by omega)]; exact he.ρp i b hb
    · exact he.ρn b (List.mem_of_mem_take hb)
    · exact he.τn b c (List.mem_of_mem_take hb)
    · have := (List.getElem?_eq_some_iff.1 hf).1
      obtain ⟨f', h1, h2, h3⟩ := he.tok i f hf
      refine ⟨f', by show (fr.take m)[i]? = _; rw [List.getElem?_take, if_pos (by omega)]; exact h1, h2, fun e => ?_⟩
      show (g.τ.take m)[i]? = _
      rw [List.getElem?_take, if_pos (by omega)]; exact h3 e
/-- what holds names only what there is -/
theorem lts_all {k m : Nat} : ∀ {l : List D}, (∀ (j : Nat) (d : D), l[j]? = some d → D.lt k m d = true) → D.lts k m l = true
  | [], _ => rfl
  | d :: l, h => by
    simp only [D.lts, h 0 d rfl]
    exact lts_all fun j d hd => h (j + 1) d (by simpa using hd)
theorem V.lt {w : World} {g : G} {fr : List Fr} {d : D} {v : Value} {k : Nat} (h : V w g fr d v) (hk : g.ρ.length = k) : D.lt k fr.length d = true := by
  induction h with
  | sl t l v h hk =>
    cases t with
    | own i =>
      obtain ⟨f, h1, _⟩ := hk
      simp only [D.lt, Nat.blt_eq]
      exact (List.getElem?_eq_some_iff.1 h1).1
    | _ => rfl
  | ptr b o blk h =>
    simp only [D.lt, Nat.blt_eq]
    have := (List.getElem?_eq_some_iff.1 h).1
    omega
  | bsl b o n blk cap h h1 h2 =>
    simp only [D.lt, Nat.blt_eq]
    have := (List.getElem?_eq_some_iff.1 h).1
    omega
  | agg l vs hl _ ih =>
    simp only [D.lt]
    exact lts_all fun j d hd => ih j d _ hd (List.getElem?_eq_getElem (by have := (List.getElem?_eq_some_iff.1 hd).1; omega))
  | tup l vs hl _ ih =>
    simp only [D.lt]
    exact lts_all fun j d hd => ih j d _ hd (List.getElem?_eq_getElem (by have := (List.getElem?_eq_some_iff.1 hd).1; omega))
  | fn f l vs hl _ ih =>
    simp only [D.lt]
    exact lts_all fun j d hd => ih j d _ hd (List.getElem?_eq_getElem (by have := (List.getElem?_eq_some_iff.1 hd).1; omega))
  | iface t d v _ ih => exact ih
  | _ => rfl
theorem allLt_all {k m : Nat} : ∀ {ls : List (List D)}, (∀ (i : Nat) (l : List D), ls[i]? = some l → D.lts k m l = true) → allLt k m ls = true
  | [], _ => rfl
  | l :: ls, h => by
    simp only [allLt, h 0 l rfl]
    exact allLt_all fun i l hl => h (i + 1) l (by simpa using hl)
theorem Mem.allLt [Known] {g : G} {bx : List (List D)} {fr : List Fr} {w : World} (hm : Mem g bx fr w) : Go.Av.allLt bx.length fr.length bx = true :=
  allLt_all fun i l hl => lts_all fun j d hd => by
    have hi := (List.getElem?_eq_some_iff.1 hl).1
    have hρ : i < g.ρ.length := by rw [hm.bl]; exact hi
    obtain ⟨vs, ty, _, q2, q3⟩ := hm.bat i _ l (List.getElem?_eq_getElem hρ) hl
    have hj := (List.getElem?_eq_some_iff.1 hd).1
    exact (q3 j d vs[j] hd (Array.getElem?_eq_getElem (by omega))).lt hm.bl
end Go.Av
end
/- Regions that draw their order: operations that leave variables as they are may come in any order. -/
section
open Go.RowKit Go.Pl
namespace Go.Av
set_option linter.unusedSimpArgs false
set_option linter.unusedVariables false
/-- on which operations an operation waits, through others too: as the bits of a number -/
def mbits (ms : List Nat) : List Edge → Nat
  | [] => 0
  | e :: es => match Region.binds .any e with
    | true => ((1 <<< e.on) ||| ms.getD e.on 0) ||| mbits ms es
    | false => mbits ms es
def masks : List Nat → List Oper → List Nat
  | ms, [] => ms
  | ms, o :: l => masks (ms ++ [mbits ms o.after.toList]) l
def up (ms : List Nat) (j i : Nat) : Bool := (ms.getD j 0).testBit i
def looks (l : List Oper) (o : Oper) : List Nat := o.looksAt l.toArray
/-- who writes a slot that another one reads or writes is ahead of it, or behind it, whatever the order -/
def chkPair (ms : List Nat) (l : List Oper) (i j : Nat) : Bool :=
  match l[i]?, l[j]? with
  | some oi, some oj => match oi.dst with
    | some t => oj.dst != some t && (!(looks l oj).contains t || (if i < j then up ms j i else up ms i j))
    | none => true
  | _, _ => true
def chkDraw (l : List Oper) : Bool :=
  (List.range l.length).all fun i => (List.range l.length).all fun j => decide (i = j) || chkPair (masks [] l) l i j
/-- of a state what an operation looks at -/
def restr (l : List Oper) (o : Oper) : List (Nat × D) → List (Nat × D)
  | [] => []
  | p :: tm => match (looks l o).contains p.1 with
    | true => p :: restr l o tm
    | false => restr l o tm
/-- what an operation that may come in any order leaves: variables and tokens of its own are let go -/
def qp (t : Nat) (d : D) (bx : List (List D)) (fr : List Fr) : X → St → Prop
  | .norm, S => (S.bx = bx ∧ S.fr = fr ∧ look S.tm t = d) ∨ (S.bx.take bx.length = bx ∧ S.fr.take fr.length = fr ∧ (look S.tm t = d ∨ (look S.tm t).wk = d) ∧ D.lt bx.length fr.length d = true)
  | _, _ => False
theorem qp_ok {t n : Nat} {ee : Nat × Nat} {d : D} {tm : List (Nat × D)} {bx : List (List D)} {fr : List Fr} (h : nf (look tm t) = some d) : qp t d bx fr .norm ⟨n, tm, bx, fr, ee⟩ := .inl ⟨rfl, rfl, nf_eq h⟩
theorem qp_cut {t n : Nat} {ee : Nat × Nat} {d : D} {tm : List (Nat × D)} {bx bx' : List (List D)} {fr fr' : List Fr} (hb : nfb (bx'.take bx.length) = some bx) (hf : nfl (fr'.take fr.length) = some fr) (h : nf (look tm t) = some d) (hd : D.lt bx.length fr.length d = true) : qp t d bx fr .norm ⟨n, tm, bx', fr', ee⟩ := .inr ⟨nfb_eq hb, nfl_eq hf, .inl (nf_eq h), hd⟩
theorem qp_wk {t n : Nat} {ee : Nat × Nat} {d : D} {tm : List (Nat × D)} {bx bx' : List (List D)} {fr fr' : List Fr} (hb : nfb (bx'.take bx.length) = some bx) (hf : nfl (fr'.take fr.length) = some fr) (h : nf (look tm t).wk = some d) (hd : D.lt bx.length fr.length d = true) : qp t d bx fr .norm ⟨n, tm, bx', fr', ee⟩ := .inr ⟨nfb_eq hb, nfl_eq hf, .inr (nf_eq h), hd⟩
inductive AD [Known] [Dfr] (P : Program) (l : List Oper) (n : Nat) (bx : List (List D)) (fr : List Fr) : List Oper → List (Nat × D) → List (Nat × D) → Prop
  | nil (tm : List (Nat × D)) : AD P l n bx fr [] tm tm
  | cons (o : Oper) (rest : List Oper) (t : Nat) (d : D) (tm tm' : List (Nat × D)) (hd : o.dst = some t) (ht : Nat.blt t n = true) (h : AL P l.toArray [o] ⟨n, restr l o tm, bx, fr, (bx.length, fr.length)⟩ (qp t d bx fr)) (k : AD P l n bx fr rest ((t, d) :: tm) tm') : AD P l n bx fr (o :: rest) tm tm'
theorem look_restr {l : List Oper} {o : Oper} {t : Nat} : ∀ (tm : List (Nat × D)), t ∈ looks l o → look (restr l o tm) t = look tm t
  | [], _ => rfl
  | p :: tm, h => by
    obtain ⟨k, d⟩ := p
    simp only [restr]
    cases hc : (looks l o).contains k with
    | true =>
      simp only [look]
      rw [look_restr tm h]
    | false =>
      simp only [look]
      have hne : Nat.beq k t = false := by
        cases hb : Nat.beq k t with
        | false => rfl
        | true =>
          have := Nat.eq_of_beq_eq_true hb
          subst this
          simp [h] at hc
      rw [hne]
      exact look_restr tm h
theorem look_restr_far {l : List Oper} {o : Oper} {t : Nat} : ∀ (tm : List (Nat × D)), t ∉ looks l o → look (restr l o tm) t = .junk
  | [], _ => rfl
  | p :: tm, h => by
    obtain ⟨k, d⟩ := p
    simp only [restr]
    cases hc : (looks l o).contains k with
    | true =>
      simp only [look]
      have hne : Nat.beq k t = false := by
        cases hb : Nat.beq k t with
        | false => rfl
        | true =>
          have := Nat.eq_of_beq_eq_true hb
          subst this
          simp [h] at hc
      rw [hne]
      exact look_restr_far tm h
    | false => exact look_restr_far tm h
section
variable {P : Program} {Q : X → St → Prop} {n : Nat} {ee : Nat × Nat} {tm tm' : List (Nat × D)} {bx bx' : List (List D)} {fr fr' : List Fr} {b0 : Bs} {g : G} {w : World} {a : Act}
/-- what the operations leave in the slots, one by one -/
theorem AD.steps [Known] [Dfr] {l : List Oper} {rest : List Oper} (h : AD P l n bx fr rest tm tm') : ∃ ds : List (Nat × D), ds.length = rest.length ∧ tm' = ds.reverse ++ tm ∧ ∀ (i : Nat) (o : Oper), rest[i]? = some o → ∃ t d, ds[i]? = some (t, d) ∧ o.dst = some t ∧ Nat.blt t n = true ∧ AL P l.toArray [o] ⟨n, restr l o ((ds.take i).reverse ++ tm), bx, fr, (bx.length, fr.length)⟩ (qp t d bx fr) := by
  induction h with
  | nil tm => exact ⟨[], rfl, rfl, fun i o h => by simp at h⟩
  | cons o rest t d tm tm' hd ht h k ih =>
    obtain ⟨ds, h1, h2, h3⟩ := ih
    refine ⟨(t, d) :: ds, by simp [h1], by simp [h2], fun i o' ho => ?_⟩
    cases i with
    | zero => simp at ho; subst ho; exact ⟨t, d, rfl, hd, ht, by simpa using h⟩
    | succ i =>
      simp at ho
      obtain ⟨t', d', q1, q2, q3, q4⟩ := h3 i o' ho
      exact ⟨t', d', by simpa using q1, q2, q3, by simpa using q4⟩
/-- an operation hands on its frame with its own slot put -/
theorem upon_put {L : List Deferred} {o : Oper} {K : Act → World → Prop} {Q' Q2 : Exit → Act → World → Prop} {r : Result Next} (h : o.upon P a K Q' r) (ha : a.defers = L) (hd : ∀ a w, K a w → a.defers = L) (hQ : ∀ c a w, Q' (.panic c) a w → False) (hL : LetsOut Q' → False) :
    o.upon P a (fun a' w' => (∃ v, a' = a.put o.dst v) ∧ K a' w') Q2 r := by
  cases r with
  | ok nx w' =>
    cases nx <;> simp only [Oper.upon] at h ⊢
    case value v => exact ⟨⟨v, rfl⟩, h⟩
    case skip => exact ⟨⟨undef, rfl⟩, h⟩
    case defer d =>
      have := hd _ _ h
      have := congrArg List.length this
      cases hdst : o.dst <;> simp [Act.put, hdst, ha] at this
    case enter f args =>
      refine Calls.mono h (fun e w'' he => ?_)
      cases e with
      | returned u => exact ⟨⟨u, rfl⟩, he⟩
      | panicked c => exact (hQ _ _ _ he).elim
      | outgrown => exact (hL he).elim
    case row row args => exact Rows.mono h fun u w'' he => ⟨⟨u, rfl⟩, he⟩
  | halt x w' =>
    cases x <;> simp only [Oper.upon] at h ⊢
    case panic u => exact (hQ _ _ _ h).elim
theorem mem_mbits {ms : List Nat} {i : Nat} : ∀ {es : List Edge}, (mbits ms es).testBit i = true → ∃ e ∈ es, Region.binds .any e = true ∧ (i = e.on ∨ (ms.getD e.on 0).testBit i = true)
  | [], h => by simp [mbits] at h
  | e :: es, h => by
    simp only [mbits] at h
    cases hb : Region.binds .any e with
    | false =>
      simp only [hb] at h
      obtain ⟨e', h1, h2⟩ := mem_mbits h
      exact ⟨e', by simp [h1], h2⟩
    | true =>
      simp only [hb, Nat.testBit_or, Bool.or_eq_true] at h
      rcases h with (h | h) | h
      · refine ⟨e, by simp, hb, .inl ?_⟩
        rw [Nat.shiftLeft_eq, Nat.one_mul, Nat.testBit_two_pow] at h
        simpa [eq_comm] using h
      · exact ⟨e, by simp, hb, .inr h⟩
      · obtain ⟨e', h1, h2⟩ := mem_mbits h
        exact ⟨e', by simp [h1], h2⟩
theorem masks_pre : ∀ (l : List Oper) (ms : List Nat), ∃ r, masks ms l = ms ++ r ∧ r.length = l.length
  | [], ms => ⟨[], by simp [masks], rfl⟩
  | o :: l, ms => by
    obtain ⟨r, h1, h2⟩ := masks_pre l (ms ++ [mbits ms o.after.toList])
    exact ⟨mbits ms o.after.toList :: r, by simp [masks, h1], by simp [h2]⟩
theorem masks_get : ∀ (l : List Oper) (ms : List Nat) (j : Nat) (o : Oper), l[j]? = some o → ∃ r, masks ms l = r ++ (masks ms l).drop (ms.length + j) ∧ r.length = ms.length + j ∧ (masks ms l)[ms.length + j]? = some (mbits r o.after.toList)
  | o0 :: l, ms, 0, o, h => by
    simp at h; subst h
    obtain ⟨r, h1, h2⟩ := masks_pre l (ms ++ [mbits ms o0.after.toList])
    refine ⟨ms, ?_, by simp, ?_⟩
    · simp [masks, h1]
    · simp [masks, h1]
  | o0 :: l, ms, j + 1, o, h => by
    simp at h
    obtain ⟨r, h1, h2, h3⟩ := masks_get l (ms ++ [mbits ms o0.after.toList]) j o h
    have e : (ms ++ [mbits ms o0.after.toList]).length + j = ms.length + (j + 1) := by simp; omega
    rw [e] at h1 h2 h3
    exact ⟨r, h1, h2, h3⟩
  | [], ms, j, o, h => by simp at h
theorem mem_up {l : List Oper} {listed : Array Bool} (hc : ∀ (m : Nat) (o : Oper), l[m]? = some o → listed.getD m false = true → ∀ e ∈ o.after, Region.binds .any e = true → listed.getD e.on false = true) :
    ∀ (i : Nat) (o : Oper), l[i]? = some o → (∀ e ∈ o.after, Region.binds .any e = true → listed.getD e.on false = true) → ∀ k, up (masks [] l) i k = true → listed.getD k false = true := by
  intro i
  induction i using Nat.strongRecOn with
  | _ i ih =>
    intro o ho hr k hk
    obtain ⟨r, h1, h2, h3⟩ := masks_get l [] i o ho
    simp only [List.length_nil, Nat.zero_add] at h1 h2 h3
    unfold up at hk
    rw [List.getD_eq_getElem?_getD, h3, Option.getD_some] at hk
    obtain ⟨e, he, hb, hor⟩ := mem_mbits hk
    have hle := hr e (by simpa using he) hb
    rcases hor with rfl | hor
    · exact hle
    · have hlt : e.on < i := by
        rcases Nat.lt_or_ge e.on i with h | h
        · exact h
        · exfalso
          rw [List.getD_eq_getElem?_getD, List.getElem?_eq_none (by omega)] at hor
          simp at hor
      have hil : i < l.length := (List.getElem?_eq_some_iff.1 ho).1
      have hoe : l[e.on]? = some l[e.on] := List.getElem?_eq_getElem (by omega)
      refine ih e.on hlt l[e.on] hoe (hc e.on _ hoe hle) k ?_
      unfold up
      rw [h1, List.getD_eq_getElem?_getD, List.getElem?_append_left (by omega), ← List.getD_eq_getElem?_getD]
      exact hor
/-- what the slots hold when so many operations are done -/
def cur (l : List Oper) (ds : List (Nat × D)) (tm : List (Nat × D)) (listed : Array Bool) (t : Nat) : D :=
  match (List.range l.length).find? (fun i => listed.getD i false && ((ds[i]?).map (·.1) == some t)) with
  | some i => ((ds[i]?).map (·.2)).getD .junk
  | none => look tm t
/-- the state in the midst of such a region -/
structure Mid [Known] [Dfr] (b0 : Bs) (ee : Nat × Nat) (n : Nat) (tm : List (Nat × D)) (bx : List (List D)) (fr : List Fr) (l : List Oper) (ds : List (Nat × D)) (listed : Array Bool) (g : G) (a : Act) (w : World) : Prop where
  bd : b0.g.ρ.length ≤ ee.1 ∧ b0.fr.length ≤ ee.2
  size : a.tmps.size = n
  defers : a.defers = Dfr.l
  mem : Mem g bx fr w
  evo : Evo b0 ⟨g, fr, w⟩
  tm : ∀ t, V w g fr (cur l ds tm listed t) (a.tmps.getD t undef)
  closed : ∀ (m : Nat) (o : Oper), l[m]? = some o → listed.getD m false = true → ∀ e ∈ o.after, Region.binds .any e = true → listed.getD e.on false = true
  len : listed.size = l.length
theorem chk_get {l : List Oper} (h : chkDraw l = true) {i j : Nat} (hi : i < l.length) (hj : j < l.length) (hne : i ≠ j) : chkPair (masks [] l) l i j = true := by
  have h1 := List.all_eq_true.1 h i (List.mem_range.2 hi)
  have h2 := List.all_eq_true.1 h1 j (List.mem_range.2 hj)
  simpa [hne] using h2
theorem look_append (a : List (Nat × D)) (b : List (Nat × D)) (t : Nat) : look (a ++ b) t = if t ∈ a.map (·.1) then look a t else look b t := by
  induction a with
  | nil => simp
  | cons p a ih =>
    obtain ⟨k, d⟩ := p
    simp only [List.cons_append, look, List.map_cons, List.mem_cons]
    cases hb : Nat.beq k t with
    | true =>
      have := Nat.eq_of_beq_eq_true hb
      subst this
      rw [if_pos (by simp)]
    | false =>
      have hne : t ≠ k := fun e => by subst e; simp at hb
      dsimp only
      rw [ih]
      by_cases hm : t ∈ a.map (·.1)
      · rw [if_pos hm, if_pos (.inr hm)]
      · rw [if_neg hm, if_neg (fun h => h.elim hne hm)]
/-- in a list without a slot twice the first that matches is the one -/
theorem look_at {ds : List (Nat × D)} (hN : ∀ (i j : Nat) (p q : Nat × D), ds[i]? = some p → ds[j]? = some q → p.1 = q.1 → i = j) : ∀ {i : Nat} {t : Nat} {d : D}, ds[i]? = some (t, d) → look ds t = d := by
  induction ds with
  | nil => intro i t d h; simp at h
  | cons p ds ih =>
    intro i t d h
    obtain ⟨k, d0⟩ := p
    simp only [look]
    cases i with
    | zero => simp at h; obtain ⟨rfl, rfl⟩ := h; rw [Nat.beq_refl]
    | succ i =>
      simp at h
      cases hb : Nat.beq k t with
      | true =>
        have := Nat.eq_of_beq_eq_true hb
        subst this
        have := hN 0 (i + 1) (k, d0) (k, d) rfl (by simpa using h) rfl
        omega
      | false =>
        exact ih (fun i j p q h1 h2 e => by have := hN (i + 1) (j + 1) p q (by simpa using h1) (by simpa using h2) e; omega) h
theorem cur_at {l : List Oper} {ds : List (Nat × D)} {tm : List (Nat × D)} {listed : Array Bool} (hN : ∀ (i j : Nat) (p q : Nat × D), ds[i]? = some p → ds[j]? = some q → p.1 = q.1 → i = j) (hl : ds.length ≤ l.length) {j t : Nat} {d : D} (hj : ds[j]? = some (t, d)) :
    cur l ds tm listed t = if listed.getD j false = true then d else look tm t := by
  unfold cur
  have hjl : j < l.length := Nat.lt_of_lt_of_le (List.getElem?_eq_some_iff.1 hj).1 hl
  cases hf : (List.range l.length).find? (fun i => listed.getD i false && ((ds[i]?).map (·.1) == some t)) with
  | some i =>
    have := List.find?_some hf
    simp only [Bool.and_eq_true, beq_iff_eq] at this
    obtain ⟨h1, h2⟩ := this
    cases hi : ds[i]? with
    | none => simp [hi] at h2
    | some p =>
      simp [hi] at h2
      have := hN i j p (t, d) hi hj h2
      subst this
      rw [if_pos h1]
      show ((ds[i]?).map (·.2)).getD .junk = d
      rw [hj]
      rfl
  | none =>
    have := List.find?_eq_none.1 hf j (List.mem_range.2 hjl)
    simp only [hj, Option.map_some, beq_self_eq_true, Bool.and_true, Bool.not_eq_true] at this
    rw [if_neg (by rw [this]; simp)]
theorem cur_far {l : List Oper} {ds : List (Nat × D)} {tm : List (Nat × D)} {listed : Array Bool} {t : Nat} (h : ∀ (j : Nat) (p : Nat × D), ds[j]? = some p → p.1 ≠ t) : cur l ds tm listed t = look tm t := by
  unfold cur
  cases hf : (List.range l.length).find? (fun i => listed.getD i false && ((ds[i]?).map (·.1) == some t)) with
  | some i =>
    have := List.find?_some hf
    simp only [Bool.and_eq_true, beq_iff_eq] at this
    cases hi : ds[i]? with
    | none => simp [hi] at this
    | some p => simp [hi] at this; exact (h i p hi this.2).elim
  | none => rfl
/-- what an operation looks at stands as in the order of the text -/
theorem cur_ready {l : List Oper} {ds : List (Nat × D)} {tm : List (Nat × D)} {listed : Array Bool} (hchk : chkDraw l = true) (hl : ds.length ≤ l.length) (hdst : ∀ (i : Nat) (o : Oper), l[i]? = some o → i < ds.length → ∃ t d, ds[i]? = some (t, d) ∧ o.dst = some t)
    (hcl : ∀ (m : Nat) (o : Oper), l[m]? = some o → listed.getD m false = true → ∀ e ∈ o.after, Region.binds .any e = true → listed.getD e.on false = true)
    {i : Nat} {o : Oper} (hi : l[i]? = some o) (hni : listed.getD i false = false) (hr : ∀ e ∈ o.after, Region.binds .any e = true → listed.getD e.on false = true) (hid : i ≤ ds.length) {t : Nat} (ht : t ∈ looks l o) :
    cur l ds tm listed t = look ((ds.take i).reverse ++ tm) t := by
  have hil : i < l.length := (List.getElem?_eq_some_iff.1 hi).1
  have hN : ∀ (i j : Nat) (p q : Nat × D), ds[i]? = some p → ds[j]? = some q → p.1 = q.1 → i = j := fun x y p q hx hy e => by
    by_cases hxy : x = y
    · exact hxy
    · exfalso
      have hxd := (List.getElem?_eq_some_iff.1 hx).1
      have hxl : x < l.length := Nat.lt_of_lt_of_le hxd hl
      have hyd := (List.getElem?_eq_some_iff.1 hy).1
      have hyl : y < l.length := Nat.lt_of_lt_of_le hyd hl
      have hc := chk_get hchk hxl hyl hxy
      obtain ⟨t1, d1, a1, a2⟩ := hdst x _ (List.getElem?_eq_getElem hxl) hxd
      obtain ⟨t2, d2, c1, c2⟩ := hdst y _ (List.getElem?_eq_getElem hyl) hyd
      rw [hx] at a1; injection a1 with a1
      rw [hy] at c1; injection c1 with c1
      simp only [chkPair, List.getElem?_eq_getElem hxl, List.getElem?_eq_getElem hyl, a2, c2, Bool.and_eq_true, bne_iff_ne, ne_eq, Option.some.injEq] at hc
      rw [a1, c1] at e
      exact hc.1 e.symm
  by_cases hex : ∃ (j : Nat) (d : D), ds[j]? = some (t, d)
  · obtain ⟨j, d, hj⟩ := hex
    have hjd := (List.getElem?_eq_some_iff.1 hj).1
    have hjl : j < l.length := Nat.lt_of_lt_of_le hjd hl
    rw [cur_at hN hl hj]
    have hoj := List.getElem?_eq_getElem hjl
    obtain ⟨t', d', a1, a2⟩ := hdst j _ hoj hjd
    rw [hj] at a1; injection a1 with a1; injection a1 with a1 _
    subst a1
    have hord : j ≠ i → (if j < i then up (masks [] l) i j else up (masks [] l) j i) = true := fun hne => by
      have hc := chk_get hchk hjl hil hne
      simp only [chkPair, hoj, hi, a2, Bool.and_eq_true] at hc
      have h2 := hc.2
      rw [Bool.or_eq_true] at h2
      rcases h2 with h2 | h2
      · simp [ht] at h2
      · exact h2
    have htake : ∀ (x : Nat) (p : Nat × D), (ds.take i)[x]? = some p → x < i ∧ ds[x]? = some p := fun x p h => by simpa [List.getElem?_take] using h
    rw [look_append]
    by_cases hlist : listed.getD j false = true
    · rw [if_pos hlist]
      have hne : j ≠ i := fun e => by subst e; rw [hni] at hlist; cases hlist
      have hlt : j < i := by
        rcases Nat.lt_or_ge j i with h | h
        · exact h
        · exfalso
          have := hord hne
          rw [if_neg (by omega)] at this
          have := mem_up hcl j _ hoj (hcl j _ hoj hlist) i this
          rw [hni] at this; cases this
      have hin : (ds.take i)[j]? = some (t, d) := by simp [List.getElem?_take, hlt, hj]
      rw [if_pos (by simp only [List.map_reverse, List.mem_reverse]; exact List.mem_map.2 ⟨(t, d), List.mem_of_getElem? hin, rfl⟩)]
      have hN' : ∀ (x y : Nat) (p q : Nat × D), (ds.take i).reverse[x]? = some p → (ds.take i).reverse[y]? = some q → p.1 = q.1 → x = y := fun x y p q hx hy e => by
        have lx := (List.getElem?_eq_some_iff.1 hx).1
        have ly := (List.getElem?_eq_some_iff.1 hy).1
        rw [List.getElem?_reverse (by simpa using lx)] at hx
        rw [List.getElem?_reverse (by simpa using ly)] at hy
        have := hN _ _ p q (htake _ _ hx).2 (htake _ _ hy).2 e
        simp at lx ly this
        omega
      have hlen : (ds.take i).length = i := by rw [List.length_take]; omega
      refine (look_at hN' (i := i - 1 - j) (t := t) (d := d) ?_).symm
      rw [List.getElem?_reverse (by rw [hlen]; omega), hlen, show i - 1 - (i - 1 - j) = j from by omega]
      exact hin
    · rw [if_neg hlist]
      have hge : ¬ j < i := fun hlt => by
        have := hord (by omega)
        rw [if_pos hlt] at this
        exact hlist (mem_up hcl i o hi hr j this)
      rw [if_neg (fun hm => by
        simp only [List.map_reverse, List.mem_reverse] at hm
        obtain ⟨p, hp, he⟩ := List.mem_map.1 hm
        obtain ⟨x, hx⟩ := List.getElem?_of_mem hp
        obtain ⟨h1, h2⟩ := htake x p hx
        have := hN x j p (t, d) h2 hj he
        omega)]
  · have hno : ∀ (j : Nat) (p : Nat × D), ds[j]? = some p → p.1 ≠ t := fun j p hj e => hex ⟨j, p.2, by rw [hj, ← e]⟩
    rw [cur_far hno, look_append, if_neg (fun hm => by
      simp only [List.map_reverse, List.mem_reverse] at hm
      obtain ⟨p, hp, he⟩ := List.mem_map.1 hm
      obtain ⟨x, hx⟩ := List.getElem?_of_mem (List.mem_of_mem_take hp)
      exact hno x p hx he)]
def chkE (l : List Oper) : Bool := (l.zipIdx 0).all fun p => p.1.after.all fun e => !Region.binds .any e || Nat.blt e.on p.2
theorem chkE_get {l : List Oper} (h : chkE l = true) {i : Nat} {o : Oper} (hi : l[i]? = some o) : ∀ e ∈ o.after, Region.binds .any e = true → e.on < i := fun e he hb => by
  have h1 := List.all_eq_true.1 h (o, i) (by
    rw [List.mem_iff_getElem?]
    exact ⟨i, by rw [List.getElem?_zipIdx, hi]; simp⟩)
  have h2 := Array.all_eq_true_iff_forall_mem.1 h1 e he
  simpa [hb, Nat.blt_eq] using h2
/-- how many are not done -/
def left (l : List Oper) (listed : Array Bool) : Nat := (List.range l.length).countP fun i => !listed.getD i false
theorem left_set {l : List Oper} {listed : Array Bool} {i : Nat} (hi : i < l.length) (hs : listed.size = l.length) (hn : listed.getD i false = false) : left l listed = left l (listed.setIfInBounds i true) + 1 := by
  unfold left
  have key : ∀ (m : List Nat), m.Nodup → i ∈ m → m.countP (fun j => !listed.getD j false) = m.countP (fun j => !(listed.setIfInBounds i true).getD j false) + 1 := by
    intro m
    induction m with
    | nil => intro _ h; cases h
    | cons j m ih =>
      intro hnd hin
      have hnd' := List.nodup_cons.1 hnd
      by_cases e : j = i
      · subst e
        have h1 : (listed.setIfInBounds j true).getD j false = true := by simp [hs, hi]
        have h2 : m.countP (fun x => !listed.getD x false) = m.countP (fun x => !(listed.setIfInBounds j true).getD x false) := by
          apply List.countP_congr
          intro x hx
          have : j ≠ x := fun e => hnd'.1 (e ▸ hx)
          rw [getD_set_ne false this]
        rw [List.countP_cons, List.countP_cons, hn, h1, h2]
        simp
      · have hin' : i ∈ m := by
          rcases List.mem_cons.1 hin with h | h
          · exact (e h.symm).elim
          · exact h
        rw [List.countP_cons, List.countP_cons, ih hnd'.2 hin', getD_set_ne false (Ne.symm e)]
        omega
  exact key _ List.nodup_range (List.mem_range.2 hi)
theorem left_zero {l : List Oper} {listed : Array Bool} (h : left l listed = 0) {i : Nat} (hi : i < l.length) : listed.getD i false = true := by
  have := List.countP_eq_zero.1 h i (List.mem_range.2 hi)
  simpa using this
/-- something is ready as long as something is left -/
theorem ready_ne {l : List Oper} {listed : Array Bool} (hE : chkE l = true) (hs : listed.size = l.length) (h : left l listed ≠ 0) : Region.ready .any l.toArray listed ≠ [] := by
  obtain ⟨i, hi, hn⟩ : ∃ i, i < l.length ∧ listed.getD i false = false := by
    rcases Nat.eq_zero_or_pos (left l listed) with h0 | h0
    · exact (h h0).elim
    · obtain ⟨i, h1, h2⟩ := List.countP_pos_iff.1 h0
      exact ⟨i, List.mem_range.1 h1, by simpa using h2⟩
  have : ∀ i, i < l.length → listed.getD i false = false → Region.ready .any l.toArray listed ≠ [] := by
    intro i
    induction i using Nat.strongRecOn with
    | _ i ih =>
      intro hi hn
      by_cases hr : ∀ e ∈ l[i].after, Region.binds .any e = true → listed.getD e.on false = true
      · have : i ∈ Region.ready .any l.toArray listed := by
          rw [mem_ready]
          have h1 : i < listed.size := by omega
          refine ⟨by simp [h1] at hn ⊢; exact hn, l[i], by simp [hi], hr⟩
        intro e; rw [e] at this; cases this
      · obtain ⟨e, hr⟩ := Classical.not_forall.1 hr
        obtain ⟨he, hr⟩ := Classical.not_imp.1 hr
        obtain ⟨hb, hr⟩ := Classical.not_imp.1 hr
        have hlt := chkE_get hE (List.getElem?_eq_getElem hi) e he hb
        exact ih e.on hlt (by omega) (by simpa using hr)
  exact this i hi hn
theorem mid_step [Known] [Dfr] {l : List Oper} {ds : List (Nat × D)} {listed : Array Bool} (hchk : chkDraw l = true) (hE : chkE l = true) (hl : ds.length ≤ l.length)
    (hst : ∀ (i : Nat) (o : Oper), l[i]? = some o → i < ds.length → ∃ t d, ds[i]? = some (t, d) ∧ o.dst = some t ∧ Nat.blt t n = true ∧ AL P l.toArray [o] ⟨n, restr l o ((ds.take i).reverse ++ tm), bx, fr, (bx.length, fr.length)⟩ (qp t d bx fr))
    (hM : Mid b0 ee n tm bx fr l ds listed g a w) {i : Nat} (hi : i ∈ Region.ready .any l.toArray listed) (hids : i < ds.length) {K : Act → World → Prop} {Q2 : Exit → Act → World → Prop} (hK : ∀ g' a' w', Mid b0 ee n tm bx fr l ds (listed.setIfInBounds i true) g' a' w' → K a' w') :
    wpOp P l.toArray Q2 i K a w := by
  obtain ⟨hn0, o, ho, hr⟩ := mem_ready.1 hi
  have ho' : l[i]? = some o := by simpa using ho
  have hil : i < l.length := (List.getElem?_eq_some_iff.1 ho').1
  have hn : listed.getD i false = false := by
    have : i < listed.size := by rw [hM.len]; exact hil
    simp [this] at hn0 ⊢; exact hn0
  obtain ⟨t, d, e1, e2, e3, hAL⟩ := hst i o ho' hids
  have hdst : ∀ (i : Nat) (o : Oper), l[i]? = some o → i < ds.length → ∃ t d, ds[i]? = some (t, d) ∧ o.dst = some t := fun i o h hd => by
    obtain ⟨t, d, h1, h2, _⟩ := hst i o h hd; exact ⟨t, d, h1, h2⟩
  have hN : ∀ (i j : Nat) (p q : Nat × D), ds[i]? = some p → ds[j]? = some q → p.1 = q.1 → i = j := fun x y p q hx hy e => by
    by_cases hxy : x = y
    · exact hxy
    · exfalso
      have hxd := (List.getElem?_eq_some_iff.1 hx).1
      have hxl : x < l.length := Nat.lt_of_lt_of_le hxd hl
      have hyd := (List.getElem?_eq_some_iff.1 hy).1
      have hyl : y < l.length := Nat.lt_of_lt_of_le hyd hl
      have hc := chk_get hchk hxl hyl hxy
      obtain ⟨t1, d1, a1, a2⟩ := hdst x _ (List.getElem?_eq_getElem hxl) hxd
      obtain ⟨t2, d2, c1, c2⟩ := hdst y _ (List.getElem?_eq_getElem hyl) hyd
      rw [hx] at a1; injection a1 with a1
      rw [hy] at c1; injection c1 with c1
      simp only [chkPair, List.getElem?_eq_getElem hxl, List.getElem?_eq_getElem hyl, a2, c2, Bool.and_eq_true, bne_iff_ne, ne_eq, Option.some.injEq] at hc
      rw [a1, c1] at e
      exact hc.1 e.symm
  have hinv : Inv ⟨g, fr, w⟩ ⟨n, restr l o ((ds.take i).reverse ++ tm), bx, fr, (bx.length, fr.length)⟩ g a w := by
    refine ⟨hM.size, hM.defers, hM.mem, fun x => ?_, Evo.refl _, by rw [hM.mem.bl]; exact Nat.le_refl _, Nat.le_refl _⟩
    by_cases hx : x ∈ looks l o
    · dsimp only
      rw [look_restr _ hx, ← cur_ready hchk hl hdst hM.closed ho' hn hr (Nat.le_of_lt hids) hx]
      exact hM.tm x
    · dsimp only
      rw [look_restr_far _ hx]
      exact .junk _
  have hrun := hAL.run ⟨g, fr, w⟩ g a w hinv
  -- what such an end gives
  have fin : ∀ a' w', (∃ v, a' = a.put o.dst v) → wpList P l.toArray (conc ⟨g, fr, w⟩ (qp t d bx fr)) [] a' w' → K a' w' := by
    rintro a' w' ⟨v, rfl⟩ h
    obtain ⟨S', g', hi', hq⟩ := h
    obtain ⟨n', tm2, bx2, fr2, ee'⟩ := S'
    have hn' : n' = n := by
      have h1 := hi'.size
      dsimp only at h1
      rw [← h1, ← hM.size]
      cases hd' : o.dst <;> simp [Act.put, hd']
    subst hn'
    obtain ⟨tm3, g', hi', q3⟩ : ∃ tm3 g', Inv ⟨g, fr, w⟩ ⟨n', tm3, bx, fr, (g.ρ.length, fr.length)⟩ g' (a.put o.dst v) w' ∧ look tm3 t = d := by
      rcases hq with ⟨q1, q2, q3⟩ | ⟨q1, q2, q3, q4⟩
      · dsimp only at q1 q2 q3
        subst q1 q2
        exact ⟨tm2, g', ⟨hi'.size, hi'.defers, hi'.mem, hi'.tm, hi'.evo, Nat.le_refl _, Nat.le_refl _⟩, q3⟩
      · dsimp only at q1 q2 q3
        have h1 : Inv ⟨g, fr, w⟩ ⟨n', [(t, d)], bx2, fr2, (g.ρ.length, fr.length)⟩ g' (a.put o.dst v) w' := by
          refine ⟨hi'.size, hi'.defers, hi'.mem, fun x => ?_, hi'.evo, Nat.le_refl _, Nat.le_refl _⟩
          by_cases hx : x = t
          · subst hx
            have := hi'.tm x
            dsimp only at this ⊢
            simp only [look, Nat.beq_refl]
            rcases q3 with q3 | q3
            · rw [← q3]; exact this
            · rw [← q3]; exact this.wk
          · have hb : Nat.beq t x = false := by
              cases hb : Nat.beq t x with
              | false => rfl
              | true => exact (hx (Nat.eq_of_beq_eq_true hb).symm).elim
            simp only [look, hb]
            exact .junk _
        have h2 := h1.cut (k := bx.length) (m := fr.length) (by show g.ρ.length ≤ _; rw [hM.mem.bl]; exact Nat.le_refl _) (Nat.le_refl _) (by simp only [tmLt, q4]) (by rw [q1]; exact hM.mem.allLt)
        rw [q1, q2] at h2
        exact ⟨_, _, h2, by simp [look]⟩
    refine hK g' _ _ ⟨hM.bd, hi'.size, hi'.defers, hi'.mem, hM.evo.trans hi'.evo, fun x => ?_, fun m om hm hlm e he hb => ?_, by simp [hM.len]⟩
    · by_cases hx : x = t
      · subst hx
        rw [cur_at hN hl e1, if_pos (by simp [hM.len, hil])]
        have := hi'.tm x
        dsimp only at this
        rw [q3] at this
        exact this
      · have hcur : cur l ds tm (listed.setIfInBounds i true) x = cur l ds tm listed x := by
          by_cases hex : ∃ (j : Nat) (d : D), ds[j]? = some (x, d)
          · obtain ⟨j, dj, hj⟩ := hex
            have hne : i ≠ j := fun e => by
              subst e
              rw [e1] at hj; injection hj with hj; injection hj with hj
              exact hx hj.symm
            rw [cur_at hN hl hj, cur_at hN hl hj, getD_set_ne false hne]
          · have hno : ∀ (j : Nat) (p : Nat × D), ds[j]? = some p → p.1 ≠ x := fun j p hj e => hex ⟨j, p.2, by rw [hj, ← e]⟩
            rw [cur_far hno, cur_far hno]
        rw [hcur]
        have htm : (a.put o.dst v).tmps.getD x undef = a.tmps.getD x undef := by
          rw [e2]
          simp [Act.put, Array.getD_getElem?, Array.getElem?_setIfInBounds_ne (Ne.symm hx)]
        rw [htm]
        exact (hM.tm x).evo hi'.evo
    · by_cases hmi : m = i
      · subst hmi
        rw [ho'] at hm; injection hm with hm; subst hm
        exact getD_set_true (hr e he hb)
      · rw [getD_set_ne false (Ne.symm hmi)] at hlm
        exact getD_set_true (hM.closed m om hm hlm e he hb)
  unfold wpOp
  simp only [ho]
  unfold wpList at hrun
  by_cases hw : Region.wanted o (yielded l.toArray a.tmps) = true
  · rw [if_pos hw] at hrun
    rw [if_pos hw]
    have hL : LetsOut (conc ⟨g, fr, w⟩ (qp t d bx fr)) → False := fun ⟨_, _, h⟩ => h
    rcases hrun with hrun | ⟨_, hlo⟩
    · refine .inl ?_
      have := upon_put (Q2 := Q2) hrun hM.defers (fun a w h => by obtain ⟨S', g', hi', _⟩ := h; exact hi'.defers) (fun c a w h => by obtain ⟨_, _, _, _, _, _, _, hq⟩ := h; exact hq) hL
      exact Oper.wp_mono (P := P) (fun a' w' h => fin a' w' h.1 h.2) this
    · exact (hL hlo).elim
  · rw [if_neg hw] at hrun
    rw [if_neg hw]
    exact fin _ _ ⟨undef, rfl⟩ hrun
/-- the slots when all that the list says is done -/
theorem mid_all [Known] [Dfr] {l : List Oper} {ds : List (Nat × D)} {listed : Array Bool} (hchk : chkDraw l = true) (hl : ds.length ≤ l.length) (hdst : ∀ (i : Nat) (o : Oper), l[i]? = some o → i < ds.length → ∃ t d, ds[i]? = some (t, d) ∧ o.dst = some t)
    (hM : Mid b0 ee n tm bx fr l ds listed g a w) (hall : ∀ i, i < ds.length → listed.getD i false = true) : Inv b0 ⟨n, ds.reverse ++ tm, bx, fr, ee⟩ g a w := by
  have hN : ∀ (i j : Nat) (p q : Nat × D), ds[i]? = some p → ds[j]? = some q → p.1 = q.1 → i = j := fun x y p q hx hy e => by
    by_cases hxy : x = y
    · exact hxy
    · exfalso
      have hxd := (List.getElem?_eq_some_iff.1 hx).1
      have hxl : x < l.length := Nat.lt_of_lt_of_le hxd hl
      have hyd := (List.getElem?_eq_some_iff.1 hy).1
      have hyl : y < l.length := Nat.lt_of_lt_of_le hyd hl
      have hc := chk_get hchk hxl hyl hxy
      obtain ⟨t1, d1, a1, a2⟩ := hdst x _ (List.getElem?_eq_getElem hxl) hxd
      obtain ⟨t2, d2, c1, c2⟩ := hdst y _ (List.getElem?_eq_getElem hyl) hyd
      rw [hx] at a1; injection a1 with a1
      rw [hy] at c1; injection c1 with c1
      simp only [chkPair, List.getElem?_eq_getElem hxl, List.getElem?_eq_getElem hyl, a2, c2, Bool.and_eq_true, bne_iff_ne, ne_eq, Option.some.injEq] at hc
      rw [a1, c1] at e
      exact hc.1 e.symm
  refine ⟨hM.size, hM.defers, hM.mem, fun x => ?_, hM.evo, hM.bd⟩
  have hx := hM.tm x
  have hc : cur l ds tm listed x = look (ds.reverse ++ tm) x := by
    rw [look_append]
    by_cases hex : ∃ (j : Nat) (d : D), ds[j]? = some (x, d)
    · obtain ⟨j, dj, hj⟩ := hex
      have hjl := (List.getElem?_eq_some_iff.1 hj).1
      rw [cur_at hN hl hj, if_pos (hall j hjl), if_pos (by simp only [List.map_reverse, List.mem_reverse]; exact List.mem_map.2 ⟨(x, dj), List.mem_of_getElem? hj, rfl⟩)]
      have hN' : ∀ (x y : Nat) (p q : Nat × D), ds.reverse[x]? = some p → ds.reverse[y]? = some q → p.1 = q.1 → x = y := fun x y p q hx hy e => by
        have lx := (List.getElem?_eq_some_iff.1 hx).1
        have ly := (List.getElem?_eq_some_iff.1 hy).1
        rw [List.getElem?_reverse (by simpa using lx)] at hx
        rw [List.getElem?_reverse (by simpa using ly)] at hy
        have := hN _ _ p q hx hy e
        simp at lx ly
        omega
      refine (look_at hN' (i := ds.length - 1 - j) ?_).symm
      rw [List.getElem?_reverse (by omega), show ds.length - 1 - (ds.length - 1 - j) = j from by omega]
      exact hj
    · have hno : ∀ (j : Nat) (p : Nat × D), ds[j]? = some p → p.1 ≠ x := fun j p hj e => hex ⟨j, p.2, by rw [hj, ← e]⟩
      rw [cur_far hno, if_neg (fun hm => by
        simp only [List.map_reverse, List.mem_reverse] at hm
        obtain ⟨p, hp, he⟩ := List.mem_map.1 hm
        obtain ⟨y, hy⟩ := List.getElem?_of_mem hp
        exact hno y p hy he)]
  rw [← hc]; exact hx
theorem ready_none {l : List Oper} {listed : Array Bool} (hs : listed.size = l.length) (h0 : left l listed = 0) : Region.ready .any l.toArray listed = [] := by
  apply List.eq_nil_iff_forall_not_mem.2
  intro i hi
  obtain ⟨hn0, o, ho, _⟩ := mem_ready.1 hi
  have ho' : l[i]? = some o := by simpa using ho
  have hil : i < l.length := (List.getElem?_eq_some_iff.1 ho').1
  have := left_zero h0 hil
  have hlt : i < listed.size := by rw [hs]; exact hil
  simp [hlt] at hn0 this
  rw [hn0] at this; cases this
/-- from the m-th operation on each comes behind all that stand ahead of it -/
def chkChain (l : List Oper) (m : Nat) : Bool := (List.range l.length).all fun j => decide (j < m) || (List.range j).all fun i => up (masks [] l) j i
theorem chkChain_get {l : List Oper} {m : Nat} (h : chkChain l m = true) {i j : Nat} (hm : m ≤ j) (hj : j < l.length) (hi : i < j) : up (masks [] l) j i = true := by
  have h1 := List.all_eq_true.1 h j (List.mem_range.2 hj)
  rw [Bool.or_eq_true] at h1
  rcases h1 with h1 | h1
  · have := of_decide_eq_true h1; omega
  · exact List.all_eq_true.1 h1 i (List.mem_range.2 hi)
theorem left_eq {l : List Oper} {listed : Array Bool} {j : Nat} (h : ∀ i, i < l.length → (listed.getD i false = true ↔ i < j)) : left l listed = l.length - j := by
  unfold left
  have h2 : (List.range l.length).countP (fun i => !listed.getD i false) = (List.range l.length).countP (fun i => decide (j ≤ i)) := by
    apply List.countP_congr
    intro i hi
    have := h i (List.mem_range.1 hi)
    cases hb : listed.getD i false with
    | true => rw [hb] at this; have := this.1 rfl; simp; omega
    | false => rw [hb] at this; simp at this ⊢; omega
  rw [h2]
  generalize l.length = n
  induction n with
  | zero => simp
  | succ n ih =>
    rw [List.range_succ, List.countP_append, ih]
    simp only [List.countP_cons, List.countP_nil, decide_eq_true_eq, Nat.zero_add]
    split <;> omega
theorem chain_run {l : List Oper} {m : Nat} {R : Exit → Act → World → Prop} (hE : chkE l = true) (hch : chkChain l m = true) : ∀ (fuel j : Nat) (listed : Array Bool) (a : Act) (w : World), j + fuel = l.length → m ≤ j → listed.size = l.length → (∀ i, i < l.length → (listed.getD i false = true ↔ i < j)) → wpList P l.toArray R (l.drop j) a w → wpAny P .any l.toArray R fuel listed a w := by
  intro fuel
  induction fuel with
  | zero =>
    intro j listed a w hj hm hs hl h
    refine ⟨ready_none hs (by rw [left_eq hl]; omega), ?_⟩
    rw [List.drop_of_length_le (by omega)] at h
    exact h
  | succ fuel ih =>
    intro j listed a w hj hm hs hl h
    refine ⟨fun he => (ready_ne hE hs (by rw [left_eq hl]; omega) he).elim, fun i hi => ?_⟩
    obtain ⟨hn0, o, ho, hr⟩ := mem_ready.1 hi
    have ho' : l[i]? = some o := by simpa using ho
    have hil : i < l.length := (List.getElem?_eq_some_iff.1 ho').1
    have hlt : i < listed.size := by rw [hs]; exact hil
    have hn : ¬ listed.getD i false = true := by simp [hlt] at hn0 ⊢; exact hn0
    have hge : j ≤ i := Nat.le_of_not_lt fun h => hn ((hl i hil).2 h)
    have hcl : ∀ (m : Nat) (o : Oper), l[m]? = some o → listed.getD m false = true → ∀ e ∈ o.after, Region.binds .any e = true → listed.getD e.on false = true := fun x ox hx hlx e he hb => by
      have hxl := (List.getElem?_eq_some_iff.1 hx).1
      have h1 := chkE_get hE hx e he hb
      have h2 := (hl x hxl).1 hlx
      exact (hl e.on (by omega)).2 (by omega)
    have hij : i = j := by
      rcases Nat.lt_or_ge j i with h | h
      · exfalso
        have := mem_up hcl i o ho' hr j (chkChain_get hch (by omega) hil h)
        have := (hl j (by omega)).1 this
        omega
      · omega
    subst hij
    rw [List.drop_eq_getElem_cons hil, show l[i] = o from (List.getElem?_eq_some_iff.1 ho').2] at h
    have hK : ∀ a' w', wpList P l.toArray R (l.drop (i + 1)) a' w' → wpAny P .any l.toArray R fuel (listed.setIfInBounds i true) a' w' := fun a' w' h => ih (i + 1) _ a' w' (by omega) (by omega) (by simp [hs]) (fun x hx => by
      by_cases e : x = i
      · subst e; simp [hlt]
      · rw [getD_set_ne false (Ne.symm e), hl x hx]; omega) h
    unfold wpOp
    simp only [ho]
    unfold wpList at h
    by_cases hw : Region.wanted o (yielded l.toArray a.tmps) = true
    · rw [if_pos hw] at h
      rw [if_pos hw]
      rcases h with h | h
      · exact .inl (Oper.wp_mono hK h)
      · exact .inr h
    · rw [if_neg hw] at h
      rw [if_neg hw]
      exact hK _ _ h
theorem AW_drawA [Known] [Dfr] {id m : Nat} {l acts : List Oper} (hm : P.follows .mixedOrders = true) (hchk : chkDraw l = true) (hE : chkE l = true) (hch : chkChain l m = true) (hlen : (l.take m).length = m) (hacts : l.drop m = acts) (h : AD P l n bx fr (l.take m) tm tm') (k : AL P l.toArray acts ⟨n, tm', bx, fr, ee⟩ Q) :
    AW P (.region id l.toArray true) ⟨n, tm, bx, fr, ee⟩ Q := by
  obtain ⟨ds, h1, h2, h3⟩ := h.steps
  have hml : m ≤ l.length := by rw [List.length_take] at hlen; omega
  rw [hlen] at h1
  have hl : ds.length ≤ l.length := by omega
  have hst : ∀ (i : Nat) (o : Oper), l[i]? = some o → i < ds.length → ∃ t d, ds[i]? = some (t, d) ∧ o.dst = some t ∧ Nat.blt t n = true ∧ AL P l.toArray [o] ⟨n, restr l o ((ds.take i).reverse ++ tm), bx, fr, (bx.length, fr.length)⟩ (qp t d bx fr) := fun i o ho hi => h3 i o (by rw [List.getElem?_take, if_pos (by omega)]; exact ho)
  have hdst : ∀ (i : Nat) (o : Oper), l[i]? = some o → i < ds.length → ∃ t d, ds[i]? = some (t, d) ∧ o.dst = some t := fun i o h hd => by
    obtain ⟨t, d, h1, h2, _⟩ := hst i o h hd; exact ⟨t, d, h1, h2⟩
  refine ⟨fun b0 g a w hi => wp_region_any hm ?_⟩
  have main : ∀ (fuel : Nat) (listed : Array Bool) (g : G) (a : Act) (w : World), Mid b0 ee n tm bx fr l ds listed g a w → (∀ i, m ≤ i → i < l.length → listed.getD i false = false) → left l listed = fuel → wpAny P .any l.toArray (conc b0 Q) fuel listed a w := by
    intro fuel
    induction fuel with
    | zero =>
      intro listed g a w hM hu h0
      have hall : ∀ i, i < ds.length → listed.getD i false = true := fun i hi => left_zero h0 (by omega)
      have hinv := mid_all hchk hl hdst hM hall
      rw [← h2] at hinv
      have hml' : l.length = m := by
        rcases Nat.lt_or_ge m l.length with h | h
        · have h5 := hu m (Nat.le_refl _) h
          have h6 := left_zero h0 h
          rw [h5] at h6; cases h6
        · omega
      exact chain_run hE hch 0 m listed a w (by omega) (Nat.le_refl _) hM.len (fun i hi => by rw [left_zero h0 hi]; simp; omega) (by rw [hacts]; exact k.run b0 g a w hinv)
    | succ fuel ih =>
      intro listed g a w hM hu hf
      by_cases hall : ∀ i, i < m → listed.getD i false = true
      · have hinv := mid_all hchk hl hdst hM (fun i hi => hall i (by omega))
        rw [← h2] at hinv
        have hls : ∀ i, i < l.length → (listed.getD i false = true ↔ i < m) := fun i hi => by
          rcases Nat.lt_or_ge i m with h | h
          · simp [hall i h, h]
          · rw [hu i h hi]; simp; omega
        refine chain_run hE hch (fuel + 1) m listed a w (by rw [← hf, left_eq hls]; omega) (Nat.le_refl _) hM.len hls (by rw [hacts]; exact k.run b0 g a w hinv)
      refine ⟨fun he => (ready_ne hE hM.len (by omega) he).elim, fun i hi => ?_⟩
      obtain ⟨hn0, o, ho, hr⟩ := mem_ready.1 hi
      have ho' : l[i]? = some o := by simpa using ho
      have hil : i < l.length := (List.getElem?_eq_some_iff.1 ho').1
      have hlt : i < listed.size := by rw [hM.len]; exact hil
      have hn : listed.getD i false = false := by simp [hlt] at hn0 ⊢; exact hn0
      have hleft := left_set hil hM.len hn
      by_cases him : i < m
      · refine mid_step hchk hE hl hst hM hi (by omega) fun g' a' w' hM' => ih _ g' a' w' hM' (fun x hx hxl => ?_) (by omega)
        rw [getD_set_ne false (by omega)]
        exact hu x hx hxl
      · exact (hall fun x hx => mem_up hM.closed i o ho' hr x (chkChain_get hch (by omega) hil (by omega))).elim
  have hsz : l.toArray.size = l.length := by simp
  rw [hsz]
  have hfresh : ∀ i, (Array.replicate l.length false).getD i false = false := fun i => by
    rcases Nat.lt_or_ge i l.length with h | h <;> simp [h]
  refine main l.length _ g a _ ⟨hi.bd, hi.size, hi.defers, hi.mem.drew, hi.evo.trans Evo.drew, fun t => ?_, fun m o hm hl => ?_, by simp⟩ (fun i _ _ => hfresh i) ?_
  · have : cur l ds tm (Array.replicate l.length false) t = look tm t := by
      unfold cur
      have hf : (List.range l.length).find? (fun i => (Array.replicate l.length false).getD i false && ((ds[i]?).map (·.1) == some t)) = none := by
        apply List.find?_eq_none.2
        intro i _
        rw [hfresh]; simp
      rw [hf]
    rw [this]
    exact (hi.tm t).drew
  · rw [hfresh] at hl; cases hl
  · unfold left
    rw [List.countP_eq_length.2 (fun i _ => by rw [hfresh]; rfl), List.length_range]
/-- a drawn region: the first m operations in any order, the others behind them in turn -/
theorem AW_drawM [Known] [Dfr] {id : Nat} (m : Nat) {l acts : List Oper} (hm : P.follows .mixedOrders = true) (hch : chkChain l m = true) (hchk : chkDraw l = true) (hE : chkE l = true) (hlen : Nat.beq (l.take m).length m = true) (hacts : nfl (l.drop m) = some acts) (h : AD P l n bx fr (l.take m) tm tm') (k : AL P l.toArray acts ⟨n, tm', bx, fr, ee⟩ Q) :
    AW P (.region id l.toArray true) ⟨n, tm, bx, fr, ee⟩ Q := AW_drawA hm hchk hE hch (Nat.eq_of_beq_eq_true hlen) (nfl_eq hacts) h k
end
end Go.Av
end
/- From the form's own reading of arguments to trees; from a contract over abstract states to the row's walk. -/
section
open Go.RowKit Go.Pl
namespace Go.Av
set_option linter.unusedSimpArgs false
set_option linter.unusedVariables false
section
variable {P : Program} {Q : X → St → Prop} {n : Nat} {ee : Nat × Nat} {tm : List (Nat × D)} {bx bx' : List (List D)} {fr fr' : List Fr} {b0 : Bs} {g : G} {w : World} {a : Act} {T : Tab}
variable {ops : Array Oper} {rest : List Oper} {t ty : Nat} {pos : String} {after : Array Edge}
theorem parts_of {parts : Array (Nat × Operand)} {len : Nat} (h : parts.toList.map (·.1) = List.range len) : parts = (((parts.toList.map (·.2)).zipIdx 0).map fun q => (q.2, q.1)).toArray ∧ (parts.toList.map (·.2)).length = len := by
  have hl : parts.toList.length = len := by have := congrArg List.length h; simpa using this
  refine ⟨?_, by simpa using hl⟩
  apply Array.ext'
  apply List.ext_getElem?
  intro i
  simp only [List.getElem?_map, List.getElem?_zipIdx, Nat.zero_add]
  cases hi : parts.toList[i]? with
  | none => simp
  | some p =>
    have h1 : (parts.toList.map (·.1))[i]? = some p.1 := by simp [hi]
    rw [h] at h1
    obtain ⟨q1, q2⟩ := List.getElem?_eq_some_iff.1 h1
    simp at q2
    simp [q2]
/-- a slice built of parts -/
theorem AL_bs [Known] [Dfr] (hT : chk P T = true) {st len e : Nat} {ds : List D} {es : List E} {ti te : Ti} {m : Nat} {parts : Array (Nat × Operand)} (ht : tl T st = some ti) (hk : ti.kd = .slice e) (hte : tl T e = some te) (hp : parts.toList.map (·.1) = List.range len)
    (hds : nfs (parts.toList.map fun p => ev tm p.2) = some ds) (hes : D.toEl ds = some es) (hU : uniB te.size es = true) (hpos : Nat.blt 0 te.size = true) (hsm : Nat.ble (len * te.size) 16777216 = true) (hm : fr.length = m) (hf : nfl (fr ++ [⟨len, te.size, e⟩]) = some fr') (htd : Nat.blt t n = true)
    (k : AL P ops rest ⟨n, (t, .sl (.own m) es) :: tm, bx, fr', ee⟩ Q) : AL P ops (⟨some t, .buildSlice st len parts, ty, pos, after, none⟩ :: rest) ⟨n, tm, bx, fr, ee⟩ Q := by
  obtain ⟨h1, h2⟩ := parts_of hp
  exact AL_buildSlice hT ht hk hte h1 (by rw [h2]; exact Nat.beq_refl len) (by rw [List.map_map]; exact hds) hes hU hpos hsm hm hf htd k
end
theorem res_n {P : Program} {S : St} {T : Tab} (hT : chk P T = true) {a t b o : Nat} {cs cs' : List D} {ti : Ti} (h : look S.tm a = .ptr b o) (ht : tl T t = some ti) (ha : ti.kd.agg = true) (hx : S.bx[b]? = some cs) (ho : Nat.ble (o + ti.size) cs.length = true) (hd : nfs ((cs.drop o).take ti.size) = some cs') : ResOk P S (.cell a t) (.agg cs') :=
  .celln a t b o ti.size cs _ h (by rw [(tl_ok hT ht).tAgg, ha]) (tl_ok hT ht).tSize hx ho (by rw [nfs_eq hd])
theorem res_1 {P : Program} {S : St} {T : Tab} (hT : chk P T = true) {a t b o : Nat} {cs : List D} {d : D} {ti : Ti} (h : look S.tm a = .ptr b o) (ht : tl T t = some ti) (ha : ti.kd.agg = false) (hx : S.bx[b]? = some cs) (hd : cs[o]? = some d) : ResOk P S (.cell a t) d :=
  .cell1 a t b o cs d h (by rw [(tl_ok hT ht).tAgg, ha]) hx hd
theorem AD_cons [Known] [Dfr] {P : Program} {l : List Oper} {n : Nat} {bx : List (List D)} {fr : List Fr} {o : Oper} {rest : List Oper} {t : Nat} {d : D} {tm tm' tm2 : List (Nat × D)} (hd : o.dst = some t) (ht : Nat.blt t n = true) (h2 : nfl (restr l o tm) = some tm2)
    (h : AL P l.toArray [o] ⟨n, tm2, bx, fr, (bx.length, fr.length)⟩ (qp t d bx fr)) (k : AD P l n bx fr rest ((t, d) :: tm) tm') : AD P l n bx fr (o :: rest) tm tm' :=
  .cons o rest t d tm tm' hd ht (by rw [nfl_eq h2]; exact h) k
theorem AP.ext [Known] {P : Program} {f : FuncId} {args : List D} {d d' : D} {frs : List Fr} (h : AP P f args d frs) (hd : nf (d.ren (idx []) (idx [])) = some d') : AP P f args d' [] := by
  refine ⟨fun g w vs hm hl hv => (h.run g w vs hm hl hv).mono fun e w' ⟨g', bx', fr', r, h1, h2, h3, h4, h5, h6⟩ => ?_⟩
  subst h4 h5 h6
  obtain ⟨v, rfl, hv⟩ := h3
  refine ⟨g'.sel [] [], [], [], .ret d', ?_, by simpa [selB, selF] using h2.sel (okSel_nil _) (okSel_nil _), ⟨v, rfl, ?_⟩, rfl, rfl, rfl⟩
  · have := h1.sel h2 (okSel_nil _) (okSel_nil _) (fun i hi => by rw [hm.bl] at hi; simp at hi) (fun i hi => by simp at hi)
    simpa [selF] using this
  · have := hv.sel h2 (okSel_nil _) (okSel_nil _)
    rw [nf_eq hd] at this
    simpa [selF] using this
/-- a contract said of worlds: nothing old is touched -/
theorem AP.of0 [Known] {P : Program} {f : FuncId} {b : Bool} (h : ∀ w, Calls P f #[] w fun e w' => e = .returned (.bool b) ∧ Below w.heap.size w w') : AP P f [] (.bool b) [] := by
  refine ⟨fun g w vs hm hl hv => ?_⟩
  obtain rfl : vs = [] := List.length_eq_zero_iff.1 hl
  have hρ : g.ρ = [] := List.length_eq_zero_iff.1 hm.bl
  have hτ : g.τ = [] := List.length_eq_zero_iff.1 hm.tl
  refine (h w).mono fun e w' ⟨he, hb⟩ => ⟨g, [], [], .ret (.bool b), ?_, ?_, ⟨.bool b, he, .bool b⟩, rfl, rfl, rfl⟩
  · exact ⟨hb.os, hb.tape, hb.output, hb.size, fun k hk _ => hb.block k hk, fun _ _ h => h, fun k o hk => World.cell?_of_block (hb.block k (hm.Clt k o hk)), fun _ _ h => .inl h, fun _ _ h => h, fun _ h => .inl h, fun _ c h => .inl ⟨c, h⟩, fun i f h => by simp at h⟩
  · exact ⟨hm.bl, fun i k cs h => by simp [hρ] at h, hm.bC, hm.bN, hm.tl, fun i k c f h => by simp [hτ] at h, hm.tN, hm.tρ, fun k o hk => Nat.lt_of_lt_of_le (hm.Clt k o hk) hb.size, ⟨fun k cs hk j v hv => ⟨(hm.gl.1 k cs hk j v hv).1, (World.cell?_of_block (hb.block k (hm.Clt k j (hm.gl.1 k cs hk j v hv).1))).trans (hm.gl.1 k cs hk j v hv).2⟩, fun k t hk => ⟨(hm.gl.2 k t hk).1, (hm.gl.2 k t hk).2.imp fun v hv => (World.cell?_of_block (hb.block k (hm.Clt k 0 (hm.gl.2 k t hk).1))).trans hv⟩⟩⟩
/-! ### tokens let go -/
/-- a contract whose result is said without tokens -/
theorem AP.weak [Known] {P : Program} {f : FuncId} {args : List D} {d : D} (h : AC P f args [] [] fun r bx fr => ∃ d0, r = .ret d0 ∧ d0.wk = d ∧ bx = [] ∧ fr = []) : AP P f args d [] := by
  refine ⟨fun g w vs hm hl hv => (h.run g w vs hm hl hv).mono fun e w' ⟨g', bx', fr', r, h1, h2, h3, d0, h4, h5, h6, h7⟩ => ?_⟩
  subst h4 h5 h6 h7
  obtain ⟨v, rfl, hv⟩ := h3
  exact ⟨g', [], [], .ret d0.wk, h1, h2, ⟨v, rfl, hv.wk⟩, rfl, rfl, rfl⟩
theorem endW {P : Program} {rs : List ResultVar} {S : St} {d d' : D} {ds : List D} (h : ResL P S rs ds) (hn : nf (((ret1 ds).ren (idx []) (idx [])).wk) = some d') (hd : d' = d) :
    fnPost P rs 0 0 (fun r bx fr => ∃ d0, r = .ret d0 ∧ d0.wk = d ∧ bx = [] ∧ fr = []) .ret S :=
  ⟨ds, [], [], h, okSel_nil _, okSel_nil _, fun i h => by omega, fun i h => by omega, _, rfl, by rw [nf_eq hn, hd], rfl, rfl⟩
/-! ### loops -/
/-- what a round hands on: slots as said, later variables let go -/
structure Lands (J : Nat → List (Nat × D) → List (List D) → List Fr → Prop) (n : Nat) (ee : Nat × Nat) (k : Nat) (S : St) : Prop where
  out : ∃ m tm bx fr, m < k ∧ J m tm bx fr ∧ S.n = n ∧ S.e = ee ∧ Sub S.tm tm ∧ nfb (S.bx.take bx.length) = some bx ∧ nfl (S.fr.take fr.length) = some fr ∧ Nat.ble ee.1 bx.length = true ∧ Nat.ble ee.2 fr.length = true ∧ tmLt bx.length fr.length tm = true ∧ allLt bx.length fr.length bx = true
theorem Lands.mk' {J : Nat → List (Nat × D) → List (List D) → List Fr → Prop} {n k m : Nat} {ee : Nat × Nat} {tm0 tm : List (Nat × D)} {bx0 bx : List (List D)} {fr0 fr : List Fr} (hm : m < k) (hJ : J m tm bx fr) (hs : Sub tm0 tm) (hbx : nfb (bx0.take bx.length) = some bx) (hfr : nfl (fr0.take fr.length) = some fr)
    (h1 : Nat.ble ee.1 bx.length = true) (h2 : Nat.ble ee.2 fr.length = true) (h3 : tmLt bx.length fr.length tm = true) (h4 : allLt bx.length fr.length bx = true) : Lands J n ee k ⟨n, tm0, bx0, fr0, ee⟩ := ⟨m, tm, bx, fr, hm, hJ, rfl, rfl, hs, hbx, hfr, h1, h2, h3, h4⟩
theorem Lands.inv [Known] [Dfr] {J : Nat → List (Nat × D) → List (List D) → List Fr → Prop} {n k : Nat} {ee : Nat × Nat} {S : St} (h : Lands J n ee k S) {b0 : Bs} {g : G} {a : Act} {w : World} (hi : Inv b0 S g a w) : ∃ m, m < k ∧ ∃ tm bx fr g', J m tm bx fr ∧ Inv b0 ⟨n, tm, bx, fr, ee⟩ g' a w := by
  obtain ⟨m, tm, bx, fr, h1, h2, h3, h4, h5, h6, h7, h8, h9, h10, h11⟩ := h.out
  obtain ⟨n', tm', bx', fr', ee'⟩ := S
  dsimp only at h3 h4 h5 h6 h7
  subst h3 h4
  have e1 := nfb_eq h6
  have e2 := nfl_eq h7
  have := (hi.sub h5).cut (k := bx.length) (m := fr.length) (Nat.le_of_ble_eq_true h8) (Nat.le_of_ble_eq_true h9) h10 (by rw [e1]; exact h11)
  rw [e1, e2] at this
  exact ⟨m, h1, tm, bx, fr, _, h2, this⟩
/-- a loop: J tells, for so many rounds at most that are left, the slots and variables -/
theorem AW_loopJ [Known] [Dfr] {P : Program} {Q : X → St → Prop} {c : Code} {n : Nat} {ee : Nat × Nat} {tm0 : List (Nat × D)} {bx0 : List (List D)} {fr0 : List Fr} (J : Nat → List (Nat × D) → List (List D) → List Fr → Prop)
    (k0 : Nat) (h0 : Lands J n ee k0 ⟨n, tm0, bx0, fr0, ee⟩) (hr : ∀ k tm bx fr, J k tm bx fr → AW P c ⟨n, tm, bx, fr, ee⟩ (X.then (Lands J n ee k) Q)) : AW P (.loop c) ⟨n, tm0, bx0, fr0, ee⟩ Q := by
  refine ⟨fun b0 g a w hi => ?_⟩
  obtain ⟨m, _, tm, bx, fr, g', hJ, hi'⟩ := h0.inv hi
  refine wp_loop_ghost (fun k a w => ∃ tm bx fr g, J k tm bx fr ∧ Inv b0 ⟨n, tm, bx, fr, ee⟩ g a w) m ⟨tm, bx, fr, g', hJ, hi'⟩ fun k a w hI => ?_
  obtain ⟨tm, bx, fr, g, hJ, hi⟩ := hI
  refine wp_mono ((hr k tm bx fr hJ).run b0 g a w hi) fun e a w hc => ?_
  cases e <;> simp only [conc, X.then, Exit.then] at hc ⊢
  · obtain ⟨S', g', hi', hL⟩ := hc
    obtain ⟨m, hm, tm, bx, fr, g', hJ, hi'⟩ := hL.inv hi'
    exact ⟨m, hm, tm, bx, fr, g', hJ, hi'⟩
  all_goals exact hc
/-! ### the outside -/
def g0 (W : World) : G := ⟨fun b _ => b < W.heap.size, [], []⟩
theorem mem0 [Known] {W : World} (hg : Gls (g0 W).C W) : Mem (g0 W) [] [] W where
  bl := rfl
  bat i blk cs h := by simp [g0] at h
  bC blk o h := by simp [g0] at h
  bN i j b h := by simp [g0] at h
  tl := rfl
  tat i blk cap f h := by simp [g0] at h
  tN i j b c c' h := by simp [g0] at h
  tρ b c h := by simp [g0] at h
  Clt b o h := h
  gl := hg
/-- a law that holds: the row's walk -/
theorem topG [Known] {P : Program} {f : FuncId} {args : List D} (h : AC P f args [] [] fun r _ _ => r = .ret (.bool true)) {W : World} {vs : List Value} (hg : Gls (g0 W).C W) (hl : vs.length = args.length) (hv : ∀ (j : Nat) (d : D) (v : Value), args[j]? = some d → vs[j]? = some v → V W (g0 W) [] d v) :
    Calls P f vs.toArray W fun e w' => e = .returned (.bool true) ∧ Below W.heap.size W w' :=
  (h.run (g0 W) W vs (mem0 hg) hl hv).mono fun e w' ⟨g', bx', fr', r, he, _, hr, hp⟩ => by
    subst hp
    obtain ⟨v, rfl, hv⟩ := hr
    refine ⟨by rw [hv.bool_inv], he.os, he.tape, he.output, he.size, fun k hk => he.block k hk fun hM => ?_⟩
    rcases hM with h | ⟨c, h⟩ <;> simp [g0] at h
/-- where no package-level variable is asked for -/
theorem gls0 [Known] {C : Nat → Nat → Prop} {w : World} (h1 : Known.ks = []) : Gls C w := ⟨fun k cs h => (by rw [h1] at h; cases h.1), fun k t h => (by rw [h1] at h; cases h.1)⟩
/-- what cells read as is a tree's -/
structure ToE {α : Type} (R : Rep α) (f : α → E) : Prop where
  cells : ∀ (w : World) (S : Nat → Prop) (C : Nat → Nat → Prop) (cs : List Value) (x : α), (∀ k, S k → ∀ o, C k o) → R.ok w S cs x → cs.length = (f x).cells.length ∧ ∀ (j : Nat) (e : E) (v : Value), (f x).cells[j]? = some e → cs[j]? = some v → VE w C e v
theorem one_cell {w : World} {C : Nat → Nat → Prop} {u : Value} {e0 : E} (he : e0.cells = [e0]) (hv : VE w C e0 u) : [u].length = e0.cells.length ∧ ∀ (j : Nat) (e : E) (v : Value), e0.cells[j]? = some e → [u][j]? = some v → VE w C e v := by
  rw [he]
  refine ⟨rfl, fun j e v h1 h2 => ?_⟩
  cases j with
  | zero => simp at h1 h2; subst h1 h2; exact hv
  | succ j => simp at h1
theorem ToE.i64 : ToE Rep.i64 (.int .i64) := ⟨fun w S C cs x _ h => by obtain ⟨rfl, _⟩ := h; exact one_cell rfl (.int _ _)⟩
theorem ToE.u64 : ToE Rep.u64 (fun n => .int .u64 (n : Int)) := ⟨fun w S C cs x _ h => by obtain ⟨rfl, _⟩ := h; exact one_cell rfl (.int _ _)⟩
theorem ToE.byte : ToE Rep.byte E.byte := ⟨fun w S C cs x _ h => by cases h; exact one_cell rfl (.int _ _)⟩
theorem ToE.bool : ToE Rep.bool .bool := ⟨fun w S C cs x _ h => by cases h; exact one_cell rfl (.bool _)⟩
theorem ToE.str : ToE Rep.str .str := ⟨fun w S C cs x _ h => by obtain ⟨rfl, hl⟩ := h; exact one_cell rfl (.str _ hl)⟩
theorem ToE.prod {α β : Type} {R : Rep α} {R' : Rep β} {f : α → E} {f' : β → E} (h : ToE R f) (h' : ToE R' f') : ToE (R.prod R') (fun x => .agg ((f x.1).cells ++ (f' x.2).cells)) := ⟨fun w S C cs x hC hx => by
  obtain ⟨c1, c2, rfl, h1, h2⟩ := hx
  obtain ⟨l1, v1⟩ := h.cells w S C c1 x.1 hC h1
  obtain ⟨l2, v2⟩ := h'.cells w S C c2 x.2 hC h2
  refine ⟨by simp [E.cells, l1, l2], fun j e v he hv => ?_⟩
  have he : ((f x.1).cells ++ (f' x.2).cells)[j]? = some e := he
  rcases Nat.lt_or_ge j c1.length with hj | hj
  · rw [List.getElem?_append_left (by omega)] at he
    rw [List.getElem?_append_left hj] at hv
    exact v1 j e v he hv
  · rw [List.getElem?_append_right (by omega)] at he
    rw [List.getElem?_append_right hj] at hv
    rw [← l1] at he
    exact v2 _ e v he hv⟩
theorem ToE.run {α : Type} {R : Rep α} {f : α → E} (h : ToE R f) {w : World} {S : Nat → Prop} {C : Nat → Nat → Prop} (hC : ∀ k, S k → ∀ o, C k o) : ∀ {l : List α} {cs : List Value}, Run R w S cs l → cs.length = (flat (l.map f)).length ∧ ∀ (j : Nat) (e : E) (v : Value), (flat (l.map f))[j]? = some e → cs[j]? = some v → VE w C e v
  | [], cs, hr => by simp [Run] at hr; subst hr; simp
  | x :: l, cs, hr => by
    obtain ⟨c1, c2, rfl, h1, h2⟩ := hr
    obtain ⟨l1, v1⟩ := h.cells w S C c1 x hC h1
    obtain ⟨l2, v2⟩ := ToE.run h hC h2
    refine ⟨by simp [l1, l2], fun j e v he hv => ?_⟩
    simp only [List.map_cons, flat_cons] at he
    rcases Nat.lt_or_ge j c1.length with hj | hj
    · rw [List.getElem?_append_left (by omega)] at he
      rw [List.getElem?_append_left hj] at hv
      exact v1 j e v he hv
    · rw [List.getElem?_append_right (by omega)] at he
      rw [List.getElem?_append_right hj] at hv
      rw [← l1] at he
      exact v2 _ e v he hv
theorem ToE.sl {α : Type} {R : Rep α} {f : α → E} (h : ToE R f) {w : World} {S : Nat → Prop} {C : Nat → Nat → Prop} (hC : ∀ k, S k → ∀ o, C k o) {v : Value} {l : List α} (hs : Sl R w S v l) : VE w C (.sl (l.map f)) v := by
  obtain ⟨A, cap, rfl, h1, h2, cs, hr, hh⟩ := hs
  by_cases hl : l = []
  · subst hl
    exact .slE A cap h2
  · obtain ⟨g, off, rfl, hS, hc⟩ := hh hl
    obtain ⟨q1, q2⟩ := h.run hC hr
    have := VE.slC (w := w) (C := C) (l.map f) g off cap (fun j => cs.getD j undef) (by simpa using h1) h2 (fun j hj => hC g hS _) (fun j hj => by
      have hj' : j < cs.length := by omega
      rw [hc j hj']; exact getD_some hj') (fun j e he => q2 j e _ he (getD_some (by
        have := (List.getElem?_eq_some_iff.1 he).1; omega)))
    simpa using this
theorem ToE.slice {α : Type} {R : Rep α} {f : α → E} (h : ToE R f) (hR : 0 < R.n) : ToE (Rep.slice R hR) (fun l => .sl (l.map f)) := ⟨fun w S C cs x hC hx => by
  obtain ⟨v, rfl, hs⟩ := hx
  exact one_cell rfl (h.sl hC hs)⟩
/-- an argument of many cells -/
theorem ToE.agg {α : Type} {R : Rep α} {f : α → E} (h : ToE R f) {W : World} {cs : List Value} {x : α} {l : List E} (hf : (f x).cells = l) (hx : R.ok W (· < W.heap.size) cs x) : V W (g0 W) [] (.agg (l.map .ofE)) (.agg cs.toArray) := by
  obtain ⟨h1, h2⟩ := h.cells W _ (g0 W).C cs x (fun k hk o => hk) hx
  rw [hf] at h1 h2
  refine .agg _ cs (by simpa using h1) fun j d v hd hv => ?_
  rw [List.getElem?_map] at hd
  cases hj : l[j]? with
  | none => simp [hj] at hd
  | some e => simp [hj] at hd; subst hd; exact V.ofE (h2 j e v hj hv)
end Go.Av
end
/- Jumps back to a label; slices cut with a bound on their room; slices held against nil. -/
section
open Go.RowKit Go.Pl
namespace Go.Av
set_option linter.unusedSimpArgs false
set_option linter.unusedVariables false
/-- a scope with one label: what holds at the label, and a bound that falls -/
theorem wp_scope_ghost {P : Program} {Q : Exit → Act → World → Prop} {a : Act} {w : World} {c rest : Code} (l : Nat) (J : Nat → Act → World → Prop) (n0 : Nat) (hf : findLabel c l = some rest)
    (first : c.wp P (Exit.jump l (fun a w => ∃ m, m < n0 ∧ J m a w) Q) a w)
    (pass : ∀ n a w, J n a w → rest.wp P (Exit.jump l (fun a' w' => ∃ m, m < n ∧ J m a' w') Q) a w) : (Code.scope c).wp P Q a w := by
  intro b k cs
  have hg : gotoIn l (.inScope c :: k) = some (.code rest :: .inScope c :: k) := by simp [gotoIn, hf]
  have key : ∀ n a w, J n a w → ∃ e a' w', Q e a' w' ∧ Arrives P (lone (b.at a (.code rest :: .inScope c :: k)) cs w) b k cs e a' w' := by
    intro n
    induction n using Nat.strongRecOn with
    | _ n ih =>
      intro a w hJ
      obtain ⟨e, a₁, w₁, hq, harr⟩ := pass n a w hJ b (.inScope c :: k) cs
      cases e with
      | goto l' =>
        obtain ⟨rfl, m, hm, hJ'⟩ := hq
        obtain ⟨e₂, a₂, w₂, hq₂, harr₂⟩ := ih m hm a₁ w₁ hJ'
        exact ⟨e₂, a₂, w₂, hq₂, .of_steps (harr _ hg) harr₂⟩
      | normal => exact ⟨.normal, a₁, w₁, hq, Steps.trans harr (.one step_inScope)⟩
      | exit id => exact ⟨.exit id, a₁, w₁, hq, fun k' hk => harr k' (by simp [exitTo, hk])⟩
      | ret => exact ⟨_, a₁, w₁, hq, harr⟩
      | panic ch => exact ⟨_, a₁, w₁, hq, harr⟩
      | outgrown => exact ⟨_, a₁, w₁, hq, harr⟩
  obtain ⟨e, a₁, w₁, hq, harr⟩ := first b (.inScope c :: k) cs
  cases e with
  | goto l' =>
    obtain ⟨rfl, m, _, hJ'⟩ := hq
    obtain ⟨e₂, a₂, w₂, hq₂, harr₂⟩ := key m a₁ w₁ hJ'
    exact ⟨e₂, a₂, w₂, hq₂, .of_steps (.head step_scope (harr _ hg)) harr₂⟩
  | normal => exact ⟨.normal, a₁, w₁, hq, .head step_scope (Steps.trans harr (.one step_inScope))⟩
  | exit id => exact ⟨.exit id, a₁, w₁, hq, fun k' hk => .head step_scope (harr k' (by simp [exitTo, hk]))⟩
  | ret => exact ⟨_, a₁, w₁, hq, .of_steps (.one step_scope) harr⟩
  | panic ch => exact ⟨_, a₁, w₁, hq, .of_steps (.one step_scope) harr⟩
  | outgrown => exact ⟨_, a₁, w₁, hq, .of_steps (.one step_scope) harr⟩
def X.jump (l : Nat) (K : St → Prop) (Q : X → St → Prop) : X → St → Prop
  | .goto i, S => i = l ∧ K S
  | x, S => Q x S
section
variable {P : Program} {Q : X → St → Prop} {S : St}
theorem jump_goto {l : Nat} {K : St → Prop} (h : K S) : X.jump l K Q (.goto l) S := ⟨rfl, h⟩
theorem jump_norm {l : Nat} {K : St → Prop} (h : Q .norm S) : X.jump l K Q .norm S := h
theorem jump_exit {l i : Nat} {K : St → Prop} (h : Q (.exit i) S) : X.jump l K Q (.exit i) S := h
theorem jump_ret {l : Nat} {K : St → Prop} (h : Q .ret S) : X.jump l K Q .ret S := h
theorem jump_pan {l : Nat} {K : St → Prop} {d : D} (h : Q (.pan d) S) : X.jump l K Q (.pan d) S := h
theorem conc_jump [Known] [Dfr] {b0 : Bs} {l : Nat} {K : St → Prop} {e : Exit} {a : Act} {w : World} (h : conc b0 (X.jump l K Q) e a w) : Exit.jump l (fun a w => ∃ S g, Inv b0 S g a w ∧ K S) (conc b0 Q) e a w := by
  cases e with
  | goto i =>
    obtain ⟨S, g, h1, h2, h3⟩ := h
    exact ⟨h2, S, g, h1, h3⟩
  | _ => exact h
theorem Lands.up {J : Nat → List (Nat × D) → List (List D) → List Fr → Prop} {n k k' : Nat} {ee : Nat × Nat} (h : Lands J n ee k S) (hk : k ≤ k') : Lands J n ee k' S := by
  obtain ⟨m, tm, bx, fr, h1, h2⟩ := h.out
  exact ⟨m, tm, bx, fr, Nat.lt_of_lt_of_le h1 hk, h2⟩
theorem jump_mono {l : Nat} {K K' : St → Prop} (h : ∀ S, K S → K' S) : ∀ x S, X.jump l K Q x S → X.jump l K' Q x S := fun x S hx => by
  cases x with
  | goto i => exact ⟨hx.1, h _ hx.2⟩
  | _ => exact hx
/-- the first pass -/
theorem AW_first [Known] [Dfr] {rest : Code} {n : Nat} {ee : Nat × Nat} {l : Nat} {J : Nat → List (Nat × D) → List (List D) → List Fr → Prop} {k0 : Nat}
    (pass : ∀ k tm bx fr, J k tm bx fr → AW P rest ⟨n, tm, bx, fr, ee⟩ (X.jump l (Lands J n ee k) Q)) (h : Lands J n ee k0 S) : AW P rest S (X.jump l (Lands J n ee k0) Q) := by
  refine ⟨fun b0 g a w hi => ?_⟩
  obtain ⟨m, hm, tm, bx, fr, g', hJ, hi'⟩ := h.inv hi
  exact (AW_mono (pass m tm bx fr hJ) (jump_mono fun S hS => Lands.up hS (Nat.le_of_lt hm))).run b0 g' a w hi'
/-- a scope whose label is come back to: J tells, for so many passes at most that are left, the slots and variables -/
theorem AW_scopeJ [Known] [Dfr] {c rest : Code} {n : Nat} {ee : Nat × Nat} {tm0 : List (Nat × D)} {bx0 : List (List D)} {fr0 : List Fr} (l : Nat) (J : Nat → List (Nat × D) → List (List D) → List Fr → Prop) (k0 : Nat) (hf : findLabel c l = some (.seq .skip rest))
    (pass : ∀ k tm bx fr, J k tm bx fr → AW P rest ⟨n, tm, bx, fr, ee⟩ (X.jump l (Lands J n ee k) Q))
    (first : (∀ S', Lands J n ee k0 S' → AW P rest S' (X.jump l (Lands J n ee k0) Q)) → AW P c ⟨n, tm0, bx0, fr0, ee⟩ (X.jump l (Lands J n ee k0) Q)) : AW P (.scope c) ⟨n, tm0, bx0, fr0, ee⟩ Q := by
  refine ⟨fun b0 g a w hi => ?_⟩
  have key : ∀ (k : Nat) (a : Act) (w : World), (∃ S g, Inv b0 S g a w ∧ Lands J n ee k S) → ∃ m, m < k ∧ ∃ tm bx fr g, J m tm bx fr ∧ Inv b0 ⟨n, tm, bx, fr, ee⟩ g a w := fun k a w ⟨S, g, hi, hL⟩ => by
    obtain ⟨m, hm, tm, bx, fr, g', hJ, hi'⟩ := hL.inv hi
    exact ⟨m, hm, tm, bx, fr, g', hJ, hi'⟩
  refine wp_scope_ghost l (fun k a w => ∃ tm bx fr g, J k tm bx fr ∧ Inv b0 ⟨n, tm, bx, fr, ee⟩ g a w) k0 hf ?_ ?_
  · refine wp_mono ((first fun S' h => AW_first pass h).run b0 g a w hi) fun e a w hc => ?_
    have := conc_jump hc
    cases e with
    | goto i => exact ⟨this.1, key _ a w this.2⟩
    | _ => exact this
  · rintro k a w ⟨tm, bx, fr, g, hJ, hi⟩
    refine wp_mono ((AW_seq' (AW_skip (then_norm (pass k tm bx fr hJ)))).run b0 g a w hi) fun e a w hc => ?_
    have := conc_jump hc
    cases e with
    | goto i => exact ⟨this.1, key _ a w this.2⟩
    | _ => exact this
end
section
variable {P : Program} {Q : X → St → Prop} {n : Nat} {ee : Nat × Nat} {tm : List (Nat × D)} {bx bx' : List (List D)} {fr fr' : List Fr} {b0 : Bs} {g : G} {w : World} {a : Act} {T : Tab}
variable {ops : Array Oper} {rest : List Oper} {t ty : Nat} {pos : String} {after : Array Edge}
/-- is a slice nil? -/
theorem AL_snil [Known] [Dfr] (hT : chk P T = true) {op : BinOp} {x : Operand} {xt yt e : Nat} {tk : Tok} {l : List E} {d : Bool → D} {ti : Ti} (hx : ev tm x = .sl tk l) (ht : tl T xt = some ti) (hk : ti.kd = .slice e) (hd : (match op with | .eql => some (fun b => D.bool b) | .neq => some (fun b => D.bool (!b)) | _ => none) = some d) (htd : Nat.blt t n = true)
    (k : ∀ b : Bool, (l ≠ [] → b = false) → AL P ops rest ⟨n, (t, d b) :: tm, bx, fr, ee⟩ Q) : AL P ops (⟨some t, .binOp op xt x (.const (.slice none 0 0)) yt, ty, pos, after, none⟩ :: rest) ⟨n, tm, bx, fr, ee⟩ Q := by
  refine ⟨fun b0 g a w hi => ?_⟩
  have h1 : V w g fr (ev tm x) (a.eval x) := hi.ev x
  rw [hx] at h1
  obtain ⟨a1, _⟩ := sl_inv h1
  obtain ⟨A, cap, hv, hA⟩ : ∃ A cap, a.eval x = .slice A l.length cap ∧ (l ≠ [] → A.isNone = false) := by
    generalize hq : E.sl l = q at a1
    generalize a.eval x = v at a1
    cases a1 with
    | slC l' b off cap us h1 _ _ _ _ => injection hq with hq; subst hq; exact ⟨_, cap, rfl, fun _ => rfl⟩
    | slE A cap h => injection hq with hq; subst hq; exact ⟨A, cap, rfl, fun h => (h rfl).elim⟩
    | _ => cases hq
  have hu := (tl_ok hT ht).slice hk
  have hrun : (Op.equal xt (.slice A l.length cap) (.slice none 0 0)).run P w = .ok A.isNone w := Go.run_equal_slice_nil w xt e A l.length cap hu
  have hc0 : a.eval (.const (.slice none 0 0)) = .slice none 0 0 := rfl
  refine wpList_plain rfl fun K hK => ?_
  have hex : ∃ v, (execOp a.eval ⟨some t, .binOp op xt x (.const (.slice none 0 0)) yt, ty, pos, after, none⟩).run P w = .ok (.value v) w ∧ V w g fr (d A.isNone) v := by
    cases op <;> simp at hd <;> subst hd <;> first | exact ⟨.bool A.isNone, by simp [execOp, hv, hc0, eqGuard, binOp, Sem.run_bind, hrun], .bool _⟩ | exact ⟨.bool (!A.isNone), by simp [execOp, hv, hc0, eqGuard, binOp, Sem.run_bind, hrun], .bool _⟩
  obtain ⟨v, hr, hvv⟩ := hex
  unfold Oper.wp
  rw [hr]
  exact hK _ _ ((k A.isNone hA).run b0 g _ w (hi.put htd hvv))
/-- a slice cut with a bound on its room -/
theorem AL_slice3 [Known] [Dfr] (hT : chk P T = true) {x lo hh mx : Operand} {st e : Nat} {tk : Tok} {l l2 : List E} {k1 k2 k3 : IntKind} {i j m : Int} {p q r : Nat} {ti te : Ti} (hx : ev tm x = .sl tk l) (ht : tl T st = some ti) (hk : ti.kd = .slice e) (hte : tl T e = some te) (htd : Nat.blt t n = true)
    (hlo : ev tm lo = .int k1 i) (hhi : ev tm hh = .int k2 j) (hmx : ev tm mx = .int k3 m) (hi0 : i = (p : Int)) (hj0 : j = (q : Int)) (hm0 : m = (r : Int)) (hpq : p ≤ q) (hqr : q ≤ r) (hr : r ≤ l.length) (hU : Uni te.size l) (hl2 : (l.take q).drop p = l2)
    (kk : AL P ops rest ⟨n, (t, .sl .ext l2) :: tm, bx, fr, ee⟩ Q) : AL P ops (⟨some t, .slice st x (some lo) (some hh) (some mx), ty, pos, after, none⟩ :: rest) ⟨n, tm, bx, fr, ee⟩ Q :=
  AL_val _ htd (fun g a w hi => by
    subst hi0 hj0 hm0
    have h1 : V w g fr (ev tm x) (a.eval x) := hi.ev x
    rw [hx] at h1
    obtain ⟨a1, _⟩ := sl_inv h1
    have hu := (tl_ok hT ht).slice hk
    have hsz := run_sizeOf (P := P) (t := e) (tl_ok hT hte).tSize w
    obtain ⟨A, cap, hv, hcap, hmax⟩ : ∃ A cap, a.eval x = .slice A l.length cap ∧ l.length ≤ cap ∧ cap ≤ maxLen := by
      generalize hq : E.sl l = q at a1
      generalize a.eval x = v at a1
      cases a1 with
      | slC l' b off cap us h1 h2 _ _ _ => injection hq with hq; subst hq; exact ⟨_, cap, rfl, h1, h2⟩
      | slE A cap h => injection hq with hq; subst hq; exact ⟨A, cap, rfl, Nat.zero_le _, h⟩
      | _ => cases hq
    have v1 := Bnd.val (S := ⟨n, tm, bx, fr, _⟩) hi hlo
    have v2 := Bnd.val (S := ⟨n, tm, bx, fr, _⟩) hi hhi
    have v3 := Bnd.val (S := ⟨n, tm, bx, fr, _⟩) hi hmx
    have b1 : (0 : Int) ≤ (r : Int) ∧ (r : Int) ≤ (cap : Int) := by omega
    have b2 : (0 : Int) ≤ (q : Int) ∧ (q : Int) ≤ (r : Int) := by omega
    have b3 : (0 : Int) ≤ (p : Int) ∧ (p : Int) ≤ (q : Int) := by omega
    have hb : (Instr.sliceBounds true l.length cap (some (.int k1 (p : Int))) (some (.int k2 (q : Int))) (some (.int k3 (r : Int)))).run P w = .ok (p, q, r) w := by
      simp only [Instr.sliceBounds, Instr.sliceBound, asIntOf, Sem.run_bind, Sem.run_pure, Result.andThen_ok, if_pos b1, Int.toNat_natCast, if_pos b2, if_pos b3]
    refine ⟨.slice (if r = p then A else A.map (·.add (p * te.size))) (q - p) (r - p), ?_, ?_⟩
    · have hrun : (Instr.sliceAt st (.slice A l.length cap) (some (.int k1 (p : Int))) (some (.int k2 (q : Int))) (some (.int k3 (r : Int)))).run P w = .ok (.slice (if r = p then A else A.map (·.add (p * te.size))) (q - p) (r - p)) w := by
        simp [Instr.sliceAt, Instr.slice, Sem.run_bind, run_underlying hu, hb, hsz]
      simp only [execOp, hv, v1, v2, v3, Sem.run_bind, Option.map_some, hrun, Result.andThen_ok]
      rfl
    · subst hl2
      have hlen : ((l.take q).drop p).length = q - p := by simp; omega
      refine .sl _ _ _ ?_ trivial
      by_cases he : q - p = 0
      · have hnil : (l.take q).drop p = [] := List.eq_nil_of_length_eq_zero (by rw [hlen]; exact he)
        rw [hnil, he]
        exact .slE _ _ (by omega)
      · have hpc : ¬ r = p := by omega
        rw [if_neg hpc, ← hlen]
        generalize hq' : E.sl l = qq at a1
        rw [hv] at a1
        generalize hs : Value.slice A l.length cap = s at a1
        cases a1 with
        | slC l' b off cap' us h1 h2 hc hw hvv =>
          injection hq' with hq'; subst hq'
          injection hs with e1 _ e3
          subst e1 e3
          have hadd : (⟨b, off, none⟩ : Addr).add (p * te.size) = ⟨b, off + p * te.size, none⟩ := by unfold Addr.add; split <;> simp_all
          simp only [Option.map_some, hadd]
          have hU2 : Uni te.size (l.take q) := hU.sub fun e h => List.mem_of_mem_take h
          have hf : flat ((l.take q).drop p) = ((flat l).take (q * te.size)).drop (p * te.size) := by rw [hU2.drop_flat, hU.take_flat]
          have hfl := hU.flat
          have hql : q * te.size ≤ l.length * te.size := Nat.mul_le_mul_right _ (by omega)
          have hfl2 : (flat ((l.take q).drop p)).length = q * te.size - p * te.size := by rw [hf]; simp; omega
          refine .slC _ b (off + p * te.size) (r - p) (fun j => us (p * te.size + j)) (by omega) (by omega) (fun j hj => by rw [Nat.add_assoc]; exact hc _ (by omega)) (fun j hj => by rw [Nat.add_assoc]; exact hw _ (by omega)) (fun j x hx => hvv _ x ?_)
          have hj := (List.getElem?_eq_some_iff.1 hx).1
          rw [hf, List.getElem?_drop, List.getElem?_take, if_pos (by omega)] at hx
          exact hx
        | slE A cap' h => injection hs with _ e; omega
        | _ => cases hq') kk
/-! ### bytes of a constant text -/
def G.lit (g : G) (w : World) (m : Nat) : G := ⟨fun b o => g.C b o ∨ (b = w.heap.size ∧ o < m), g.ρ, g.τ⟩
/-- a new row, settled whole -/
theorem Mem.lit [Known] (hm : Mem g bx fr w) (cur : List Value) (l : List E) (sz : Nat) (e : TypeId) (mk : Nat × Nat) (hcur : cur.length = l.length * sz) (hcap : l.length ≤ maxLen) (hU : Uni sz l)
    (hv : ∀ (j : Nat) (x : E) (u : Value), (flat l)[j]? = some x → cur[j]? = some u → VE w g.C x u) :
    Evo ⟨g, fr, w⟩ ⟨g.lit w (l.length * sz), fr, w.alloc (.cells cur.toArray e mk)⟩ ∧ Mem (g.lit w (l.length * sz)) bx fr (w.alloc (.cells cur.toArray e mk)) ∧
      V (w.alloc (.cells cur.toArray e mk)) (g.lit w (l.length * sz)) fr (.sl .ext l) (.slice (some ⟨w.heap.size, 0, none⟩) l.length l.length) := by
  have hevo : Evo ⟨g, fr, w⟩ ⟨g.lit w (l.length * sz), fr, w.alloc (.cells cur.toArray e mk)⟩ := by
    refine ⟨rfl, rfl, rfl, by simp, fun k hk _ => Below.heap_alloc w _ k hk, fun _ _ h => .inl h, fun k o h => cell_alloc w _ (hm.Clt k o h) o, fun k o h => ?_, fun _ _ h => h, fun _ h => .inl h, fun k c h => .inl ⟨c, h⟩, TokOn.refl _ _⟩
    rcases h with h | ⟨h, _⟩
    · exact .inl h
    · exact .inr (.inl (by simp [h]))
  have hflat := hU.flat
  refine ⟨hevo, ?_, ?_⟩
  · constructor
    · exact hm.bl
    · intro i k cs h1 h2
      obtain ⟨us, ut, k1, k2, k3⟩ := hm.bat i k cs h1 h2
      exact ⟨us, ut, (Below.heap_alloc w _ k (Array.getElem?_eq_some_iff.1 k1).1).trans k1, k2, fun j d v hd hv => (k3 j d v hd hv).evo hevo⟩
    · intro k o hk hC
      rcases hC with hC | ⟨hC, _⟩
      · exact hm.bC k o hk hC
      · have := hm.lt (.inl hk); omega
    · exact hm.bN
    · exact hm.tl
    · intro i k c f h1 h2
      have hTk := hm.tat i k c f h1 h2
      obtain ⟨cur', s1, s2⟩ := hTk.row
      have hklt := (Array.getElem?_eq_some_iff.1 s1).1
      refine ⟨⟨cur', (Below.heap_alloc w _ k hklt).trans s1, s2⟩, hTk.le, hTk.max, hTk.pos, fun o ho hC => ?_⟩
      rcases hC with hC | ⟨hC, _⟩
      · exact hTk.far o ho hC
      · omega
    · exact hm.tN
    · exact hm.tρ
    · intro k o hC
      rcases hC with hC | ⟨hC, _⟩
      · have := hm.Clt k o hC; simp; omega
      · simp [hC]
    · exact hm.gl.evo hevo
  · refine .sl _ _ _ (.slC l w.heap.size 0 l.length (fun j => cur.getD j undef) (Nat.le_refl _) hcap (fun j hj => .inr ⟨rfl, by rw [hflat] at hj; omega⟩) (fun j hj => ?_) (fun j x hx => ?_)) trivial
    · rw [Nat.zero_add, World.cell?_alloc_mark]
      have : j < cur.length := by omega
      simp [List.getD, this]
    · have hj := (List.getElem?_eq_some_iff.1 hx).1
      have hlt : j < cur.length := by omega
      refine (hv j x _ hx (by rw [List.getElem?_eq_getElem hlt]; simp [List.getD, hlt])).mono (fun _ _ h => .inl h) fun k o h => cell_alloc w _ (hm.Clt k o h) o
/-- []byte("..") of a constant: the row is built, and marked -/
theorem AL_cb [Known] [Dfr] (hT : chk P T = true) {st len e t2 ty2 : Nat} {pos2 : String} {after2 : Array Edge} {ds : List D} {es : List E} {ti te : Ti} {parts : Array (Nat × Operand)} (ht : tl T st = some ti) (hk : ti.kd = .slice e) (hte : tl T e = some te) (hke : te.kd = .int .u8) (hp : parts.toList.map (·.1) = List.range len)
    (hds : nfs (parts.toList.map fun p => ev tm p.2) = some ds) (hes : D.toEl ds = some es) (hU : uniB te.size es = true) (hpos : Nat.blt 0 te.size = true) (hsm : Nat.ble (len * te.size) 16777216 = true) (htd : Nat.blt t n = true) (htd2 : Nat.blt t2 n = true)
    (k : AL P ops rest ⟨n, (t2, .sl .ext es) :: (t, .sl .ext es) :: tm, bx, fr, ee⟩ Q) : AL P ops (⟨some t, .buildSlice st len parts, ty, pos, after, none⟩ :: ⟨some t2, .convert st st (.tmp t), ty2, pos2, after2, none⟩ :: rest) ⟨n, tm, bx, fr, ee⟩ Q := by
  refine ⟨fun b0 g a w hi => ?_⟩
  obtain ⟨h1, h2⟩ := parts_of hp
  obtain ⟨cs, c1, c2, c3, c4, c5⟩ := bs_run (t := t) (ty := ty) (pos := pos) (after := after) hT ht hk hte h1 (by rw [h2]; exact Nat.beq_refl len) (by rw [List.map_map]; exact hds) hes hU hpos hsm hi
  obtain ⟨k1, k2, k3⟩ := hi.mem.lit cs es te.size e (cs.toArray.size, cs.toArray.size + 1) (by rw [c1, c2]) (by rw [c2]; exact c3) (uniB_ok hU) c4
  have hu := (tl_ok hT ht).slice hk
  have hue : P.underlying e = some (.int .u8) := (tl_ok hT hte).int hke
  refine wpList_plain rfl fun K hK => ?_
  unfold Oper.wp
  rw [c5]
  refine hK _ _ ?_
  refine wpList_plain rfl fun K hK => ?_
  have hlt : t < n := by simpa [Nat.blt_eq] using htd
  have hget : (a.put (some t) (.slice (some ⟨w.heap.size, 0, none⟩) len len)).eval (.tmp t) = .slice (some ⟨w.heap.size, 0, none⟩) len len := by
    have hs : a.tmps.size = n := hi.size
    simp [Act.put, Act.eval, hs, hlt]
  have hrun := Lib.run_convert_bytes_const (P := P) w st e cs.toArray len len hu hue
  unfold Oper.wp
  simp only [execOp, hget, hrun, Sem.run_bind, Result.andThen_ok]
  have hi2 : Inv b0 ⟨n, tm, bx, fr, ee⟩ _ a _ := ⟨hi.size, hi.defers, k2, fun t => (hi.tm t).evo k1, hi.evo.trans k1, hi.bd⟩
  subst c2
  exact hK _ _ (k.run b0 _ _ _ ((hi2.put htd k3).put htd2 k3))
end
end Go.Av
end
/- Contracts of functions that are handed variables: what the variables hold ahead and behind. -/
section
open Go.RowKit Go.Pl
namespace Go.Av
set_option linter.unusedSimpArgs false
set_option linter.unusedVariables false
theorem Mem.wk [Known] {g : G} {bx : List (List D)} {fr : List Fr} {w : World} (h : Mem g bx fr w) : Mem g (bx.map D.wks) fr w where
  bl := by rw [h.bl]; simp
  bat i blk cs h1 h2 := by
    rw [List.getElem?_map] at h2
    cases hi : bx[i]? with
    | none => simp [hi] at h2
    | some cs0 =>
      simp [hi] at h2; subst h2
      obtain ⟨vs, ty, q1, q2, q3⟩ := h.bat i blk cs0 h1 hi
      refine ⟨vs, ty, q1, by rw [q2, wks_map]; simp, fun j d v hd hv => ?_⟩
      rw [wks_map, List.getElem?_map] at hd
      cases hj : cs0[j]? with
      | none => simp [hj] at hd
      | some d0 => simp [hj] at hd; subst hd; exact (q3 j d0 v hj hv).wk
  bC := h.bC
  bN := h.bN
  tl := h.tl
  tat := h.tat
  tN := h.tN
  tρ := h.tρ
  Clt := h.Clt
  gl := h.gl
/-- a function that is handed variables: bx: what they hold; behind it: bx', its new ones behind them; no tokens are handed on -/
def AQ [Known] (P : Program) (f : FuncId) (args : List D) (bx : List (List D)) (d : D) (bx' : List (List D)) : Prop := AC P f args bx [] fun r b fr => r = .ret d ∧ b = bx' ∧ fr = []
theorem AQ.weak [Known] {P : Program} {f : FuncId} {args : List D} {bx bx' : List (List D)} {d : D} (h : AC P f args bx [] fun r b fr => ∃ d0, r = .ret d0 ∧ d0.wk = d ∧ b.map D.wks = bx' ∧ fr = []) : AQ P f args bx d bx' := by
  refine ⟨fun g w vs hm hl hv => (h.run g w vs hm hl hv).mono fun e w' ⟨g', b', fr', r, h1, h2, h3, d0, h4, h5, h6, h7⟩ => ?_⟩
  subst h4 h5 h6 h7
  obtain ⟨v, rfl, hv⟩ := h3
  exact ⟨g', _, [], .ret d0.wk, h1, h2.wk, ⟨v, rfl, hv.wk⟩, rfl, rfl, rfl⟩
theorem AP.toQ [Known] {P : Program} {f : FuncId} {args : List D} {d : D} (h : AP P f args d []) : AQ P f args [] d [] := h
/-- a function that hands on nothing: variables and tokens let go -/
theorem AP.ofA [Known] {P : Program} {f : FuncId} {args : List D} {d : D} (h : AC P f args [] [] fun r b fr => ∃ d0, r = .ret d0 ∧ d0.wk = d ∧ b.map D.wks = [] ∧ fr = []) : AP P f args d [] := AQ.weak h
def selOk : List Nat → Nat → Bool
  | [], _ => true
  | b :: bs, n => Nat.blt b n && (!(bs.any (Nat.beq b)) && selOk bs n)
theorem selOk_ok : ∀ {bs : List Nat} {n : Nat}, selOk bs n = true → okSel bs n
  | [], n, _ => okSel_nil n
  | b :: bs, n, h => by
    simp only [selOk, Bool.and_eq_true, Nat.blt_eq, Bool.not_eq_true', List.any_eq_false] at h
    obtain ⟨h1, h2, h3⟩ := h
    have ih := selOk_ok h3
    have hne : ∀ j c : Nat, bs[j]? = some c → c ≠ b := fun j c hj e => by
      subst e
      exact h2 c (List.mem_of_getElem? hj) (Nat.beq_refl c)
    refine ⟨fun i j c hi hj => ?_, fun c hc => ?_⟩
    · cases i with
      | zero =>
        cases j with
        | zero => rfl
        | succ j => simp at hi hj; subst hi; exact (hne j _ hj rfl).elim
      | succ i =>
        cases j with
        | zero => simp at hi hj; subst hj; exact (hne i _ hi rfl).elim
        | succ j => simp at hi hj; rw [ih.1 i j c hi hj]
    · rcases List.mem_cons.1 hc with rfl | hc
      · exact h1
      · exact ih.2 c hc
def preOk (k : Nat) (bs : List Nat) : Bool := (List.range k).all fun i => match bs[i]? with
  | some j => Nat.beq i j
  | none => false
theorem preOk_ok {k : Nat} {bs : List Nat} (h : preOk k bs = true) : ∀ i, i < k → bs[i]? = some i := fun i hi => by
  have := List.all_eq_true.1 h i (List.mem_range.2 hi)
  split at this
  · rename_i j hj
    rw [hj, Nat.eq_of_beq_eq_true this]
  · cases this
theorem endQ {P : Program} {rs : List ResultVar} {S : St} {d d' : D} {ds : List D} {bx' B : List (List D)} {k : Nat} (bs : List Nat) (h : ResL P S rs ds) (hb : selOk bs S.bx.length = true) (hk : preOk k bs = true) (hn : nf (((ret1 ds).ren (idx bs) (idx [])).wk) = some d') (hB : nfb ((selB bs [] S.bx).map D.wks) = some B) (hd : d' = d) (hB' : B = bx') :
    fnPost P rs k 0 (fun r b fr => ∃ d0, r = .ret d0 ∧ d0.wk = d ∧ b.map D.wks = bx' ∧ fr = []) .ret S :=
  ⟨ds, bs, [], h, selOk_ok hb, okSel_nil _, preOk_ok hk, fun i h => by omega, _, rfl, by rw [nf_eq hn, hd], by rw [nfb_eq hB, hB'], rfl⟩
theorem endQn {P : Program} {rs : List ResultVar} {S : St} {d d' : D} {ds : List D} {bx' B : List (List D)} {k : Nat} (bs : List Nat) (h : ResL P S rs ds) (hb : selOk bs S.bx.length = true) (hk : preOk k bs = true) (hn : nf (((ret1 ds).ren (idx bs) (idx [])).wk) = some d') (hB : nfb ((selB bs [] S.bx).map D.wks) = some B) (hd : d' = d) (hB' : B = bx') :
    fnPost P rs k 0 (fun r b fr => ∃ d0, r = .ret d0 ∧ d0.wk = d ∧ b.map D.wks = bx' ∧ fr = []) .norm S :=
  ⟨ds, bs, [], h, selOk_ok hb, okSel_nil _, preOk_ok hk, fun i h => by omega, _, rfl, by rw [nf_eq hn, hd], by rw [nfb_eq hB, hB'], rfl⟩
section
variable {P : Program} {Q : X → St → Prop} {n : Nat} {ee : Nat × Nat} {tm : List (Nat × D)} {bx : List (List D)} {fr : List Fr} {ops : Array Oper} {rest : List Oper} {ty : Nat} {pos : String} {after : Array Edge} {f : FuncId} {ars : Array Operand} {ats : Array TypeId}
theorem AL_callQ [Known] [Dfr] {t : Nat} {cds : List D} {d d' : D} {bxs bxs' bx2 : List (List D)} (bs : List Nat) (hQ : AQ P f cds bxs d bxs') (hf : isFn P f = true)
    (hc : (ars.toList.map (ev tm)).map (D.ren (idx bs) (idx [])) = cds) (hb : selOk bs bx.length = true) (hbx : selB bs [] bx = bxs) (hle : Nat.ble bs.length bxs'.length = true) (htd : Nat.blt t n = true) (hd : nf (d.ren (upN bs bx.length) (upN [] fr.length)) = some d') (hB : nfb (aftB bs [] bx fr.length bxs') = some bx2)
    (k : AL P ops rest ⟨n, (t, d') :: tm, bx2, fr, ee⟩ Q) : AL P ops (⟨some t, .call { callee := .value (.func f), args := ars, argTypes := ats }, ty, pos, after, none⟩ :: rest) ⟨n, tm, bx, fr, ee⟩ Q := by
  refine AL_call bs [] hf hQ hc (selOk_ok hb) (okSel_nil _) hbx rfl htd (fun _ _ _ h => by cases h.1) fun d0 bx' fr' h => ?_
  obtain ⟨h1, rfl, rfl⟩ := h
  injection h1 with h1
  subst h1
  refine ⟨Nat.le_of_ble_eq_true hle, ?_⟩
  have e1 := nf_eq hd
  have e2 := nfb_eq hB
  subst e1 e2
  simpa [St.aft, aftF, putAt] using k
theorem AL_callQn [Known] [Dfr] {cds : List D} {d : D} {bxs bxs' bx2 : List (List D)} (bs : List Nat) (hQ : AQ P f cds bxs d bxs') (hf : isFn P f = true)
    (hc : (ars.toList.map (ev tm)).map (D.ren (idx bs) (idx [])) = cds) (hb : selOk bs bx.length = true) (hbx : selB bs [] bx = bxs) (hle : Nat.ble bs.length bxs'.length = true) (hB : nfb (aftB bs [] bx fr.length bxs') = some bx2)
    (k : AL P ops rest ⟨n, tm, bx2, fr, ee⟩ Q) : AL P ops (⟨none, .call { callee := .value (.func f), args := ars, argTypes := ats }, ty, pos, after, none⟩ :: rest) ⟨n, tm, bx, fr, ee⟩ Q := by
  refine AL_call bs [] hf hQ hc (selOk_ok hb) (okSel_nil _) hbx rfl rfl (fun _ _ _ h => by cases h.1) fun d0 bx' fr' h => ?_
  obtain ⟨h1, rfl, rfl⟩ := h
  refine ⟨Nat.le_of_ble_eq_true hle, ?_⟩
  have e2 := nfb_eq hB
  subst e2
  simpa [St.aft, aftF, putAt] using k
end
/-! ### calls: what is handed in, said without tokens -/
theorem AC.unwk [Known] {P : Program} {f : FuncId} {args : List D} {bx : List (List D)} {fr : List Fr} {post : R → List (List D) → List Fr → Prop} (h : AC P f (D.wks args) bx fr post) : AC P f args bx fr post :=
  ⟨fun g w vs hm hl hv => h.run g w vs hm (by rw [wks_map]; simpa using hl) fun j d v hd hvv => by
    rw [wks_map, List.getElem?_map] at hd
    cases hj : args[j]? with
    | none => simp [hj] at hd
    | some d0 => simp [hj] at hd; subst hd; exact (hv j d0 v hj hvv).wk⟩
section
variable {P : Program} {Q : X → St → Prop} {n : Nat} {ee : Nat × Nat} {tm : List (Nat × D)} {bx : List (List D)} {fr : List Fr} {ops : Array Oper} {rest : List Oper} {ty : Nat} {pos : String} {after : Array Edge} {f : FuncId} {ars : Array Operand} {ats : Array TypeId}
theorem AL_callPw [Known] [Dfr] {t : Nat} {cds : List D} {d d' : D} {frs fr' : List Fr} (hAC : AP P f cds d frs) (hf : isFn P f = true)
    (hc : D.wks ((ars.toList.map (ev tm)).map (D.ren (idx []) (idx []))) = cds) (htd : Nat.blt t n = true) (hd : nf (d.ren (upN [] bx.length) (upN [] fr.length)) = some d') (hfr : nfl (fr ++ frs) = some fr')
    (k : AL P ops rest ⟨n, (t, d') :: tm, bx, fr', ee⟩ Q) : AL P ops (⟨some t, .call { callee := .value (.func f), args := ars, argTypes := ats }, ty, pos, after, none⟩ :: rest) ⟨n, tm, bx, fr, ee⟩ Q := by
  subst hc
  exact AL_callP (AC.unwk hAC) hf rfl htd hd hfr k
theorem AL_callQw [Known] [Dfr] {t : Nat} {cds : List D} {d d' : D} {bxs bxs' bx2 : List (List D)} (bs : List Nat) (hQ : AQ P f cds bxs d bxs') (hf : isFn P f = true)
    (hc : D.wks ((ars.toList.map (ev tm)).map (D.ren (idx bs) (idx []))) = cds) (hb : selOk bs bx.length = true) (hbx : selB bs [] bx = bxs) (hle : Nat.ble bs.length bxs'.length = true) (htd : Nat.blt t n = true) (hd : nf (d.ren (upN bs bx.length) (upN [] fr.length)) = some d') (hB : nfb (aftB bs [] bx fr.length bxs') = some bx2)
    (k : AL P ops rest ⟨n, (t, d') :: tm, bx2, fr, ee⟩ Q) : AL P ops (⟨some t, .call { callee := .value (.func f), args := ars, argTypes := ats }, ty, pos, after, none⟩ :: rest) ⟨n, tm, bx, fr, ee⟩ Q := by
  subst hc
  exact AL_callQ bs (AC.unwk hQ) hf rfl hb hbx hle htd hd hB k
theorem AL_callQnw [Known] [Dfr] {cds : List D} {d : D} {bxs bxs' bx2 : List (List D)} (bs : List Nat) (hQ : AQ P f cds bxs d bxs') (hf : isFn P f = true)
    (hc : D.wks ((ars.toList.map (ev tm)).map (D.ren (idx bs) (idx []))) = cds) (hb : selOk bs bx.length = true) (hbx : selB bs [] bx = bxs) (hle : Nat.ble bs.length bxs'.length = true) (hB : nfb (aftB bs [] bx fr.length bxs') = some bx2)
    (k : AL P ops rest ⟨n, tm, bx2, fr, ee⟩ Q) : AL P ops (⟨none, .call { callee := .value (.func f), args := ars, argTypes := ats }, ty, pos, after, none⟩ :: rest) ⟨n, tm, bx, fr, ee⟩ Q := by
  subst hc
  exact AL_callQn bs (AC.unwk hQ) hf rfl hb hbx hle hB k
end
/-! ### where branches come together -/
theorem AW_ofLands [Known] [Dfr] {P : Program} {Q : X → St → Prop} {S : St} {c : Code} {n k : Nat} {ee : Nat × Nat} {J : Nat → List (Nat × D) → List (List D) → List Fr → Prop}
    (h : Lands J n ee k S) (hy : ∀ m tm bx fr, J m tm bx fr → AW P c ⟨n, tm, bx, fr, ee⟩ Q) : AW P c S Q := by
  refine ⟨fun b0 g a w hi => ?_⟩
  obtain ⟨m, hm, tm, bx, fr, g', hJ, hi'⟩ := h.inv hi
  exact (hy m tm bx fr hJ).run b0 g' a w hi'
/-- behind a choice on slot t -/
theorem AW_join [Known] [Dfr] {P : Program} {Q : X → St → Prop} {n : Nat} {ee : Nat × Nat} {tm0 : List (Nat × D)} {bx0 : List (List D)} {fr0 : List Fr} {r x z y : Code} (t : Nat) (J : List (Nat × D) → List (List D) → List Fr → Prop)
    (hy : ∀ tm bx fr, J tm bx fr → AW P y ⟨n, tm, bx, fr, ee⟩ Q) (hx : AW P (.seq r (.cond (.tmp t) x z)) ⟨n, tm0, bx0, fr0, ee⟩ (X.then (Lands (fun _ => J) n ee 1) Q)) : AW P (.seq (.seq r (.cond (.tmp t) x z)) y) ⟨n, tm0, bx0, fr0, ee⟩ Q :=
  AW_seq' (AW_mono hx fun x S h => by
    cases x with
    | norm => exact AW_ofLands h fun _ => hy
    | _ => exact h)
end Go.Av
end
/- Behind a loop. -/
section
open Go.RowKit Go.Pl
namespace Go.Av
set_option linter.unusedSimpArgs false
set_option linter.unusedVariables false
/-- behind a loop -/
theorem AW_joinB [Known] [Dfr] {P : Program} {Q : X → St → Prop} {n : Nat} {ee : Nat × Nat} {tm0 : List (Nat × D)} {bx0 : List (List D)} {fr0 : List Fr} {r x y : Code} (t : Nat) (J : List (Nat × D) → List (List D) → List Fr → Prop)
    (hy : ∀ tm bx fr, J tm bx fr → AW P y ⟨n, tm, bx, fr, ee⟩ Q) (hx : AW P (.seq r (.block t x)) ⟨n, tm0, bx0, fr0, ee⟩ (X.then (Lands (fun _ => J) n ee 1) Q)) : AW P (.seq (.seq r (.block t x)) y) ⟨n, tm0, bx0, fr0, ee⟩ Q :=
  AW_seq' (AW_mono hx fun x S h => by
    cases x with
    | norm => exact AW_ofLands h fun _ => hy
    | _ => exact h)
end Go.Av
end

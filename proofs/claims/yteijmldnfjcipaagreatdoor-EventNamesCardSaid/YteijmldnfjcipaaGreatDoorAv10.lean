/- More operations: slices built, read, cut; structs built. -/
import Derived.Test.YteijmldnfjcipaaGreatDoorAv9
open Go.RowKit Go.Pl
namespace Go.Av
set_option linter.unusedSimpArgs false
set_option linter.unusedVariables false
theorem foldl_set : ∀ (l : List Value) (k off : Nat) (cs : Array Value), off + k + l.length ≤ cs.size →
    ((l.zipIdx k).foldl (fun (cs : Array Value) (p : Value × Nat) => cs.setIfInBounds (off + p.2) p.1) cs).toList = cs.toList.take (off + k) ++ (l ++ cs.toList.drop (off + k + l.length))
  | [], k, off, cs, _ => by simp
  | v :: l, k, off, cs, h => by
    have h' : off + k < cs.size := by simp at h; omega
    have hl : off + (k + 1) + l.length ≤ (cs.setIfInBounds (off + k) v).size := by simp at h ⊢; omega
    have ih := foldl_set l (k + 1) off (cs.setIfInBounds (off + k) v) hl
    rw [List.zipIdx_cons, List.foldl_cons, ih]
    simp only [Array.toList_setIfInBounds, List.length_cons]
    rw [List.drop_set_of_lt (by omega), List.take_set, show off + (k + 1) = off + k + 1 from by omega, List.take_succ_eq_append_getElem (by simpa using h')]
    rw [List.set_append_right _ _ (by simp; omega)]
    simp only [List.length_take, Array.length_toList, Nat.min_eq_left (Nat.le_of_lt h'), Nat.sub_self, List.set_cons_zero, List.append_assoc, List.cons_append, List.nil_append]
    rw [show off + k + (l.length + 1) = off + k + 1 + l.length from by omega]
/-- one part laid -/
theorem fill_cons {place : Nat → Option (Nat × Nat)} {cells : Array Value} {i off size : Nat} {v : Value} {rest : List (Nat × Value)} {vs : List Value} (hp : place i = some (off, size)) (hv : v.cells = vs.toArray) (hs : vs.length = size) (hle : off + size ≤ cells.size) :
    ∃ cells' : Array Value, Instr.fill place cells ((i, v) :: rest) = Instr.fill place cells' rest ∧ cells'.toList = cells.toList.take off ++ (vs ++ cells.toList.drop (off + size)) := by
  refine ⟨_, ?_, foldl_set vs 0 off cells (by omega) |>.trans (by rw [hs]; rfl)⟩
  simp only [Instr.fill, hp, hv, List.size_toArray, hs]
  rw [if_neg (by simp; omega)]
  congr 1
  rw [← Array.foldl_toList]
  simp
/-- the parts of a slice, one behind the other -/
theorem fill_seq {sz : Nat} : ∀ (vs : List (List Value × Value)) (i : Nat) (cells : Array Value), (∀ p ∈ vs, p.2.cells = p.1.toArray ∧ p.1.length = sz) → cells.size = (i + vs.length) * sz →
    ∃ out : Array Value, Instr.fill (fun i => some (i * sz, sz)) cells ((vs.zipIdx i).map fun q => (q.2, q.1.2)) = some out ∧ out.toList = cells.toList.take (i * sz) ++ vs.flatMap (·.1)
  | [], i, cells, _, hs => ⟨cells, rfl, by simp at hs; rw [List.take_of_length_le (by simp; omega)]; simp⟩
  | p :: vs, i, cells, h, hs => by
    obtain ⟨h1, h2⟩ := h p (by simp)
    have hs' : cells.size = i * sz + sz + vs.length * sz := by rw [hs]; simp [Nat.add_mul]; omega
    obtain ⟨c', e1, e2⟩ := fill_cons (place := fun i => some (i * sz, sz)) (cells := cells) (i := i) (rest := (vs.zipIdx (i + 1)).map fun q => (q.2, q.1.2)) rfl h1 h2 (by omega)
    have hc' : c'.size = cells.size := by
      rw [← Array.length_toList, e2]; simp [h2]; omega
    obtain ⟨out, e3, e4⟩ := fill_seq vs (i + 1) c' (fun q hq => h q (by simp [hq])) (by rw [hc', hs', Nat.add_mul, Nat.add_mul]; omega)
    refine ⟨out, by rw [List.zipIdx_cons, List.map_cons, e1, e3], ?_⟩
    rw [e4, e2, List.flatMap_cons, Nat.add_mul, Nat.one_mul]
    rw [List.take_append, List.take_take, Nat.min_eq_right (by omega)]
    simp only [List.length_take, Array.length_toList, Nat.min_eq_left (show i * sz ≤ cells.size by omega), Nat.add_sub_cancel_left]
    rw [List.take_append, h2, List.take_of_length_le (l := p.1) (by omega), Nat.sub_self]
    simp
def D.toEl : List D → Option (List E)
  | [] => some []
  | d :: l => match d.toE, D.toEl l with
    | some e, some l' => some (e :: l')
    | _, _ => none
def uniB (sz : Nat) : List E → Bool
  | [] => true
  | e :: l => match Nat.beq e.cells.length sz with
    | true => uniB sz l
    | false => false
theorem uniB_ok {sz : Nat} : ∀ {l : List E}, uniB sz l = true → Uni sz l
  | [], _ => Uni.nil sz
  | e :: l, h => by
    simp only [uniB] at h
    cases hb : Nat.beq e.cells.length sz with
    | true => simp only [hb] at h; exact Uni.cons (Nat.eq_of_beq_eq_true hb) (uniB_ok h)
    | false => simp [hb] at h
section
variable {P : Program} {Q : X → St → Prop} {n : Nat} {ee : Nat × Nat} {tm : List (Nat × D)} {bx bx' : List (List D)} {fr fr' : List Fr} {b0 : Bs} {g : G} {w : World} {a : Act} {T : Tab}
variable {ops : Array Oper} {rest : List Oper} {t ty : Nat} {pos : String} {after : Array Edge}
theorem toEs_get : ∀ {l : List D} {es : List E}, D.toEs l = some es → l.length = es.length ∧ ∀ (j : Nat) (x : E), es[j]? = some x → ∃ d, l[j]? = some d ∧ d.toE1 = some x
  | [], es, h => by simp [D.toEs] at h; subst h; simp
  | d :: l, es, h => by
    cases hd : d.toE1 with
    | none => simp [D.toEs, hd] at h
    | some e =>
      cases hl : D.toEs l with
      | none => simp [D.toEs, hd, hl] at h
      | some es' =>
        simp [D.toEs, hd, hl] at h; subst h
        obtain ⟨h1, h2⟩ := toEs_get hl
        refine ⟨by simp [h1], fun j x hx => ?_⟩
        cases j with
        | zero => simp at hx; subst hx; exact ⟨d, rfl, hd⟩
        | succ j => simp at hx; simpa using h2 j x hx
/-- what lies down: cell by cell -/
theorem V.toE {d : D} {e : E} {v : Value} (h : V w g fr d v) (he : d.toE = some e) : ∃ vs : List Value, v.cells = vs.toArray ∧ vs.length = e.cells.length ∧ ∀ (j : Nat) (x : E) (u : Value), e.cells[j]? = some x → vs[j]? = some u → VE w g.C x u := by
  by_cases hd : ∃ l, d = .agg l
  · obtain ⟨l, rfl⟩ := hd
    obtain ⟨vs, rfl, h2, h3⟩ := agg_inv h
    simp only [D.toE, Option.map_eq_some_iff] at he
    obtain ⟨es, he, rfl⟩ := he
    obtain ⟨q1, q2⟩ := toEs_get he
    refine ⟨vs, rfl, by rw [h2, q1]; rfl, fun j x u hx hu => ?_⟩
    obtain ⟨d, hd, hx⟩ := q2 j x hx
    exact (h3 j d u hd hu).toE1 hx
  · have he1 : d.toE1 = some e := by cases d <;> first | exact he | exact (hd ⟨_, rfl⟩).elim
    have hv := h.toE1 he1
    have hc : e.cells = [e] := by cases e <;> first | rfl | exact hv.notAgg.elim
    rw [hc]
    refine ⟨[v], ?_, rfl, fun j x u hx hu => ?_⟩
    · cases hv <;> rfl
    · cases j with
      | zero => simp at hx hu; subst hx hu; exact hv
      | succ j => simp at hx
theorem toEl_get : ∀ {l : List D} {es : List E}, D.toEl l = some es → l.length = es.length ∧ ∀ (j : Nat) (d : D), l[j]? = some d → ∃ x, es[j]? = some x ∧ d.toE = some x
  | [], es, h => by simp [D.toEl] at h; subst h; simp
  | d :: l, es, h => by
    cases hd : d.toE with
    | none => simp [D.toEl, hd] at h
    | some e =>
      cases hl : D.toEl l with
      | none => simp [D.toEl, hd, hl] at h
      | some es' =>
        simp [D.toEl, hd, hl] at h; subst h
        obtain ⟨h1, h2⟩ := toEl_get hl
        refine ⟨by simp [h1], fun j x hx => ?_⟩
        cases j with
        | zero => simp at hx; subst hx; exact ⟨e, rfl, hd⟩
        | succ j => simp at hx; simpa using h2 j x hx
/-- the cells of many values, one behind the other -/
theorem rows_of {sz : Nat} : ∀ {ds : List D} {vs : List Value} {es : List E}, D.toEl ds = some es → vs.length = ds.length → (∀ (j : Nat) (d : D) (v : Value), ds[j]? = some d → vs[j]? = some v → V w g fr d v) → Uni sz es →
    ∃ rs : List (List Value × Value), rs.map (·.2) = vs ∧ (∀ p ∈ rs, p.2.cells = p.1.toArray ∧ p.1.length = sz) ∧ (rs.flatMap (·.1)).length = es.length * sz ∧ ∀ (j : Nat) (x : E) (u : Value), (flat es)[j]? = some x → (rs.flatMap (·.1))[j]? = some u → VE w g.C x u
  | [], [], es, h, _, _, _ => ⟨[], rfl, by simp, by simp [D.toEl] at h; subst h; simp, by simp⟩
  | d :: ds, v :: vs, es, h, hl, hv, hU => by
    cases hd : d.toE with
    | none => simp [D.toEl, hd] at h
    | some e =>
      cases hl' : D.toEl ds with
      | none => simp [D.toEl, hd, hl'] at h
      | some es' =>
        simp [D.toEl, hd, hl'] at h; subst h
        obtain ⟨us, q1, q2, q3⟩ := (hv 0 d v rfl rfl).toE hd
        have hsz : e.cells.length = sz := hU e (by simp)
        obtain ⟨rs, p1, p2, p3, p4⟩ := rows_of (sz := sz) hl' (by simpa using hl) (fun j d v h1 h2 => hv (j + 1) d v (by simpa using h1) (by simpa using h2)) (fun x hx => hU x (by simp [hx]))
        refine ⟨(us, v) :: rs, by simp [p1], fun p hp => ?_, ?_, fun j x u hx hu => ?_⟩
        · rcases List.mem_cons.1 hp with rfl | hp
          · exact ⟨q1, by rw [← hsz]; exact q2⟩
          · exact p2 p hp
        · simp only [List.flatMap_cons, List.length_append, List.length_cons, p3, q2, hsz, Nat.add_mul]; omega
        · simp only [flat_cons, List.flatMap_cons] at hx hu
          rcases Nat.lt_or_ge j sz with hj | hj
          · rw [List.getElem?_append_left (by rw [hsz]; exact hj)] at hx
            rw [List.getElem?_append_left (by rw [q2, hsz]; exact hj)] at hu
            exact q3 j x u hx hu
          · rw [List.getElem?_append_right (by rw [hsz]; exact hj), hsz] at hx
            rw [List.getElem?_append_right (by rw [q2, hsz]; exact hj), q2, hsz] at hu
            exact p4 _ x u hx hu
  | [], _ :: _, _, _, hl, _, _ => by simp at hl
  | _ :: _, [], _, _, hl, _, _ => by simp at hl
/-- a slice built: its row's cells -/
theorem bs_run (hT : chk P T = true) {st len e : Nat} {xs : List Operand} {ds : List D} {es : List E} {ti te : Ti} (ht : tl T st = some ti) (hk : ti.kd = .slice e) (hte : tl T e = some te) {parts : Array (Nat × Operand)} (hp : parts = ((xs.zipIdx 0).map fun q => (q.2, q.1)).toArray) (hlen : Nat.beq xs.length len = true)
    (hds : nfs (xs.map (ev tm)) = some ds) (hes : D.toEl ds = some es) (hU : uniB te.size es = true) (hpos : Nat.blt 0 te.size = true) (hsm : Nat.ble (len * te.size) 16777216 = true) (hi : Inv b0 ⟨n, tm, bx, fr, ee⟩ g a w) :
    ∃ cs : List Value, cs.length = len * te.size ∧ es.length = len ∧ len ≤ maxLen ∧ (∀ (j : Nat) (x : E) (u : Value), (flat es)[j]? = some x → cs[j]? = some u → VE w g.C x u) ∧
      (execOp a.eval ⟨some t, .buildSlice st len parts, ty, pos, after, none⟩).run P w = .ok (.value (.slice (some ⟨w.heap.size, 0, none⟩) len len)) (w.alloc (.cells cs.toArray e)) := by
  have hl := Nat.eq_of_beq_eq_true hlen
  have hsm := Nat.le_of_ble_eq_true hsm
  have hpos : 0 < te.size := by simpa [Nat.blt_eq] using hpos
  have hu := (tl_ok hT ht).slice hk
  have hds' := nfs_eq hds
  obtain ⟨hel, _⟩ := toEl_get hes
  have hdl : ds.length = xs.length := by rw [← hds']; simp
  obtain ⟨rs, r1, r2, r3, r4⟩ := rows_of (w := w) (g := g) (fr := fr) (sz := te.size) (vs := xs.map a.eval) hes (by rw [hdl]; simp) (fun j d v h1 h2 => by
    rw [← hds', List.getElem?_map] at h1
    rw [List.getElem?_map] at h2
    cases hx : xs[j]? with
    | none => simp [hx] at h1
    | some x => simp [hx] at h1 h2; subst h1 h2; exact hi.ev x) (uniB_ok hU)
  have hrl : rs.length = len := by rw [← hl]; have := congrArg List.length r1; simpa using this
  obtain ⟨z, hz1, hz2⟩ := (tl_ok hT hte).zero w
  obtain ⟨hzl, _⟩ := zks_ok (w := w) (g := g) (fr := fr) hz2
  have hparts : (parts.map fun (p : Nat × Operand) => (p.1, a.eval p.2)).toList = (rs.zipIdx 0).map fun q => (q.2, q.1.2) := by
    subst hp
    apply List.ext_getElem?
    intro j
    simp only [List.map_toArray, List.map_map, List.getElem?_map, List.getElem?_zipIdx, Nat.zero_add]
    have hj : (rs.map (·.2))[j]? = (xs.map a.eval)[j]? := by rw [r1]
    rw [List.getElem?_map, List.getElem?_map] at hj
    cases h1 : xs[j]? <;> cases h2 : rs[j]? <;> simp_all
  -- whatever stood there ahead is covered
  have key : ∀ cells : Array Value, cells.size = len * te.size → ∃ out : Array Value, Instr.fill (fun i => some (i * te.size, te.size)) cells (parts.map fun (p : Nat × Operand) => (p.1, a.eval p.2)).toList = some out ∧ out.toList = rs.flatMap (·.1) := fun cells hc => by
    obtain ⟨out, e1, e2⟩ := fill_seq rs 0 cells r2 (by rw [hc, hrl]; simp)
    exact ⟨out, by rw [hparts]; exact e1, by rw [e2]; simp⟩
  have hmul : (rs.flatMap (·.1)).length = len * te.size := by rw [r3, ← hel, hdl, hl]
  have hesl : es.length = len := by rw [← hel, hdl, hl]
  have hrun : (Instr.buildSlice st len (parts.map fun (p : Nat × Operand) => (p.1, a.eval p.2))).run P w = .ok (.slice (some ⟨w.heap.size, 0, none⟩) len len) (w.alloc (.cells (rs.flatMap (·.1)).toArray e)) := by
    have hsz := run_sizeOf (P := P) (t := e) (tl_ok hT hte).tSize w
    by_cases h0 : len * te.size = 0
    · obtain ⟨out, e1, e2⟩ := key #[] (by simp [h0])
      have : out = (rs.flatMap (·.1)).toArray := by rw [← e2]
      have hnil : (Array.range (len * te.size)).map (fun i => (#[] : Array Value)[i % (#[] : Array Value).size]!) = #[] := by rw [h0]; simp
      simp only [Instr.buildSlice, Sem.run_bind, run_underlying hu, Result.andThen_ok, hsz, if_neg (show ¬ len * te.size > 2 ^ 24 by omega), if_pos h0, Sem.run_pure, hnil, e1, this]
      rfl
    · obtain ⟨out, e1, e2⟩ := key ((Array.range (len * te.size)).map (z.cells[· % z.cells.size]!)) (by simp)
      have : out = (rs.flatMap (·.1)).toArray := by rw [← e2]
      simp only [Instr.buildSlice, Sem.run_bind, run_underlying hu, Result.andThen_ok, hsz, if_neg (show ¬ len * te.size > 2 ^ 24 by omega), if_neg h0, hz1, Sem.run_pure, e1, this]
      rfl
  refine ⟨rs.flatMap (·.1), hmul, hesl, by simp only [maxLen]; have := Nat.le_mul_of_pos_right len hpos; omega, r4, ?_⟩
  simp only [execOp, Sem.run_bind]
  rw [show (fun (x : Nat × Operand) => match x with | (i, x) => (i, a.eval x)) = fun (p : Nat × Operand) => (p.1, a.eval p.2) from rfl, hrun]
  rfl
theorem AL_buildSlice (hT : chk P T = true) {st len e : Nat} {xs : List Operand} {ds : List D} {es : List E} {ti te : Ti} {m : Nat} (ht : tl T st = some ti) (hk : ti.kd = .slice e) (hte : tl T e = some te) {parts : Array (Nat × Operand)} (hp : parts = ((xs.zipIdx 0).map fun q => (q.2, q.1)).toArray) (hlen : Nat.beq xs.length len = true)
    (hds : nfs (xs.map (ev tm)) = some ds) (hes : D.toEl ds = some es) (hU : uniB te.size es = true) (hpos : Nat.blt 0 te.size = true) (hsm : Nat.ble (len * te.size) 16777216 = true) (hm : fr.length = m) (hf : nfl (fr ++ [⟨len, te.size, e⟩]) = some fr') (htd : Nat.blt t n = true)
    (k : AL P ops rest ⟨n, (t, .sl (.own m) es) :: tm, bx, fr', ee⟩ Q) : AL P ops (⟨some t, .buildSlice st len parts, ty, pos, after, none⟩ :: rest) ⟨n, tm, bx, fr, ee⟩ Q :=
  AL_mem _ htd (fun g a w hi => by
    obtain ⟨cs, c1, c2, c3, c4, c5⟩ := bs_run (t := t) (ty := ty) (pos := pos) (after := after) hT ht hk hte hp hlen hds hes hU hpos hsm hi
    have hpos' : 0 < te.size := by simpa [Nat.blt_eq] using hpos
    obtain ⟨k1, k2, k3⟩ := hi.mem.row cs es len te.size e hpos' c1 (by omega) c3 (uniB_ok hU) c4
    rw [c2] at k1 k2 k3
    have e1 := nfl_eq hf
    subst e1 hm
    exact ⟨.slice (some ⟨w.heap.size, 0, none⟩) len len, _, _, c5, k1, k2, k3⟩) k
end
end Go.Av

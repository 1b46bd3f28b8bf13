/- Operations that make or change memory, said of abstract states. -/
import Derived.Test.YteijmldnfjcipaaGreatDoorAv7
open Go.RowKit Go.Pl
namespace Go.Av
set_option linter.unusedSimpArgs false
set_option linter.unusedVariables false
section
variable {P : Program} {Q : X → St → Prop} {n : Nat} {ee : Nat × Nat} {tm : List (Nat × D)} {bx bx' : List (List D)} {fr fr' : List Fr} {b0 : Bs} {g : G} {w : World} {a : Act} {T : Tab}
variable {ops : Array Oper} {rest : List Oper} {t ty : Nat} {pos : String} {after : Array Edge}
theorem AL_mem {o : Op} (d : D) (htd : Nat.blt t n = true)
    (h : ∀ g a w, Inv ⟨g, fr, w⟩ ⟨n, tm, bx, fr, (g.ρ.length, fr.length)⟩ g a w → ∃ v w' g', (execOp a.eval ⟨some t, o, ty, pos, after, none⟩).run P w = .ok (.value v) w' ∧ Evo ⟨g, fr, w⟩ ⟨g', fr', w'⟩ ∧ Mem g' bx' fr' w' ∧ V w' g' fr' d v)
    (k : AL P ops rest ⟨n, (t, d) :: tm, bx', fr', ee⟩ Q) : AL P ops (⟨some t, o, ty, pos, after, none⟩ :: rest) ⟨n, tm, bx, fr, ee⟩ Q := ⟨fun b0 g a w hi =>
  wpList_plain rfl fun K hK => by
    obtain ⟨v, w', g', hr, he, hm, hv⟩ := h g a w ⟨hi.size, hi.defers, hi.mem, hi.tm, Evo.refl _, Nat.le_refl _, Nat.le_refl _⟩
    unfold Oper.wp
    rw [hr]
    have hi2 : Inv b0 ⟨n, tm, bx', fr', ee⟩ g' a w' := ⟨hi.size, hi.defers, hm, fun t => (hi.tm t).evo he, hi.evo.trans he, hi.bd⟩
    exact hK _ _ (k.run b0 g' _ w' (hi2.put htd hv))⟩
theorem AL_skip {o : Op}
    (h : ∀ g a w, Inv ⟨g, fr, w⟩ ⟨n, tm, bx, fr, (g.ρ.length, fr.length)⟩ g a w → ∃ w' g', (execOp a.eval ⟨none, o, ty, pos, after, none⟩).run P w = .ok .skip w' ∧ Evo ⟨g, fr, w⟩ ⟨g', fr', w'⟩ ∧ Mem g' bx' fr' w')
    (k : AL P ops rest ⟨n, tm, bx', fr', ee⟩ Q) : AL P ops (⟨none, o, ty, pos, after, none⟩ :: rest) ⟨n, tm, bx, fr, ee⟩ Q := ⟨fun b0 g a w hi =>
  wpList_plain rfl fun K hK => by
    obtain ⟨w', g', hr, he, hm⟩ := h g a w ⟨hi.size, hi.defers, hi.mem, hi.tm, Evo.refl _, Nat.le_refl _, Nat.le_refl _⟩
    unfold Oper.wp
    rw [hr]
    exact hK _ _ (k.run b0 g' _ w' ⟨hi.size, hi.defers, hm, fun t => (hi.tm t).evo he, hi.evo.trans he, hi.bd⟩)⟩
theorem Mem.lt (hm : Mem g bx fr w) {k : Nat} (h : M g k) : k < w.heap.size := by
  rcases h with hk | ⟨c, hk⟩
  · obtain ⟨i, hi⟩ := List.getElem?_of_mem hk
    have hlt : i < bx.length := by rw [← hm.bl]; exact (List.getElem?_eq_some_iff.1 hi).1
    obtain ⟨vs, ty, h1, _⟩ := hm.bat i k _ hi (List.getElem?_eq_getElem hlt)
    exact (Array.getElem?_eq_some_iff.1 h1).1
  · obtain ⟨i, hi⟩ := List.getElem?_of_mem hk
    have hlt : i < fr.length := by rw [← hm.tl]; exact (List.getElem?_eq_some_iff.1 hi).1
    obtain ⟨cur, h1, _⟩ := (hm.tat i k c _ hi (List.getElem?_eq_getElem hlt)).row
    exact (Array.getElem?_eq_some_iff.1 h1).1
theorem cell_alloc (w : World) (o : Obj) {b : Nat} (h : b < w.heap.size) (p : Nat) : (w.alloc o).cell? ⟨b, p, none⟩ = w.cell? ⟨b, p, none⟩ :=
  World.cell?_of_block (w := w) (Below.heap_alloc w o b h)
/-- a new variable -/
theorem Mem.box (hm : Mem g bx fr w) (vs : List Value) (cs : List D) (e : TypeId) (hl : vs.length = cs.length) (hv : ∀ (j : Nat) (d : D) (v : Value), cs[j]? = some d → vs[j]? = some v → V w g fr d v) :
    Evo ⟨g, fr, w⟩ ⟨⟨g.C, g.ρ ++ [w.heap.size], g.τ⟩, fr, w.alloc (.cells vs.toArray e)⟩ ∧ Mem ⟨g.C, g.ρ ++ [w.heap.size], g.τ⟩ (bx ++ [cs]) fr (w.alloc (.cells vs.toArray e)) := by
  have hevo : Evo ⟨g, fr, w⟩ ⟨⟨g.C, g.ρ ++ [w.heap.size], g.τ⟩, fr, w.alloc (.cells vs.toArray e)⟩ := by
    refine ⟨rfl, rfl, rfl, by simp, fun k hk _ => Below.heap_alloc w _ k hk, fun _ _ h => h, fun k o h => cell_alloc w _ (hm.Clt k o h) o, fun _ _ h => .inl h, fun i k h => ?_, fun k h => ?_, fun k c h => .inl ⟨c, h⟩, TokOn.refl _ _⟩
    · exact (List.getElem?_append_left (List.getElem?_eq_some_iff.1 h).1).trans h
    · rcases List.mem_append.1 h with h | h
      · exact .inl h
      · simp at h; exact .inr (by simp [h])
  refine ⟨hevo, ?_⟩
  have hget : ∀ (i k : Nat), (g.ρ ++ [w.heap.size])[i]? = some k → g.ρ[i]? = some k ∨ (i = g.ρ.length ∧ k = w.heap.size) := fun i k h => by
    rcases Nat.lt_or_ge i g.ρ.length with hlt | hge
    · rw [List.getElem?_append_left hlt] at h; exact .inl h
    · rw [List.getElem?_append_right hge] at h
      have h0 : i - g.ρ.length = 0 := by have := (List.getElem?_eq_some_iff.1 h).1; simp at this; omega
      simp [h0] at h
      exact .inr ⟨by omega, h.symm⟩
  constructor
  · simp [hm.bl]
  · intro i k cs' h1 h2
    rcases hget i k h1 with h3 | ⟨rfl, rfl⟩
    · have hlt : i < bx.length := by rw [← hm.bl]; exact (List.getElem?_eq_some_iff.1 h3).1
      rw [List.getElem?_append_left hlt] at h2
      obtain ⟨us, ty, k1, k2, k3⟩ := hm.bat i k cs' h3 h2
      exact ⟨us, ty, (Below.heap_alloc w _ k (Array.getElem?_eq_some_iff.1 k1).1).trans k1, k2, fun j d v hd hv => (k3 j d v hd hv).evo hevo⟩
    · rw [List.getElem?_append_right (by rw [hm.bl]; exact Nat.le_refl _), hm.bl] at h2
      simp at h2; subst h2
      exact ⟨vs.toArray, e, heap_alloc_new w _, by simpa using hl, fun j d v hd hv' => (hv j d v hd (by simpa using hv')).evo hevo⟩
  · intro k o hk hC
    rcases List.mem_append.1 hk with h | h
    · exact hm.bC k o h hC
    · simp at h; subst h
      have := hm.Clt _ o hC; omega
  · intro i j k h1 h2
    have cross : ∀ i : Nat, g.ρ[i]? = some k → k = w.heap.size → False := fun i h3 e => by
      have := hm.lt (.inl (List.mem_of_getElem? h3)); omega
    rcases hget i k h1 with h3 | ⟨e3, h3⟩ <;> rcases hget j k h2 with h4 | ⟨e4, h4⟩
    · exact hm.bN i j k h3 h4
    · exact (cross i h3 h4).elim
    · exact (cross j h4 h3).elim
    · omega
  · exact hm.tl
  · intro i k c f h1 h2
    have hT := hm.tat i k c f h1 h2
    obtain ⟨cur, r1, r2⟩ := hT.row
    exact ⟨⟨cur, (Below.heap_alloc w _ k (Array.getElem?_eq_some_iff.1 r1).1).trans r1, r2⟩, hT.le, hT.max, hT.pos, hT.far⟩
  · exact hm.tN
  · intro k c hk hr
    rcases List.mem_append.1 hr with h | h
    · exact hm.tρ k c hk h
    · simp at h; subst h
      have := hm.lt (.inr ⟨c, hk⟩); omega
  · intro k o hC
    have := hm.Clt k o hC
    simp; omega
def D.cellsOf : D → List D
  | .agg l => l
  | d => [d]
/-- one cell each -/
def D.one : D → Bool
  | .agg _ | .tup _ | .junk => false
  | _ => true
def D.ones : List D → Bool
  | [] => true
  | d :: l => match d.one with
    | true => D.ones l
    | false => false
theorem V.one {d : D} {v : Value} (h : V w g fr d v) (ho : d.one = true) : v.oneCell' = true := by
  cases h <;> first | rfl | simp [D.one] at ho | skip
  exact VE.one ‹_›
theorem ones_get : ∀ {l : List D} {j : Nat} {d : D}, D.ones l = true → l[j]? = some d → d.one = true
  | [], j, d, _, h => by simp at h
  | x :: l, j, d, ho, h => by
    simp only [D.ones] at ho
    cases hx : x.one with
    | false => simp [hx] at ho
    | true =>
      simp only [hx] at ho
      cases j with
      | zero => simp at h; subst h; exact hx
      | succ j => simp at h; exact ones_get ho h
/-- a value's cells -/
theorem V.cells {d : D} {v : Value} (h : V w g fr d v) (hne : D.ones d.cellsOf = true) : ∃ vs : List Value, v.cells = vs.toArray ∧ vs.length = d.cellsOf.length ∧ ∀ (j : Nat) (c : D) (u : Value), d.cellsOf[j]? = some c → vs[j]? = some u → V w g fr c u := by
  by_cases hd : ∃ l, d = .agg l
  · obtain ⟨l, rfl⟩ := hd
    obtain ⟨vs, rfl, h2, h3⟩ := agg_inv h
    exact ⟨vs, rfl, h2, h3⟩
  · have hc : d.cellsOf = [d] := by cases d <;> first | rfl | exact (hd ⟨_, rfl⟩).elim
    rw [hc] at hne ⊢
    have h1 : d.one = true := ones_get hne (j := 0) rfl
    have hv := h.one h1
    refine ⟨[v], ?_, rfl, fun j c u hc hu => ?_⟩
    · cases v <;> first | rfl | simp [Value.oneCell'] at hv
    · cases j with
      | zero => simp at hc hu; subst hc hu; exact h
      | succ j => simp at hc
/-- lists of lists laid open -/
def nfb : List (List D) → Option (List (List D))
  | [] => some []
  | x :: l => match nfs x, nfb l with
    | some x', some l' => some (x' :: l')
    | _, _ => none
theorem nfb_eq : ∀ {l l' : List (List D)}, nfb l = some l' → l = l'
  | [], l', h => by simpa [nfb] using h
  | x :: l, l', h => by
    cases hx : nfs x with
    | none => simp [nfb, hx] at h
    | some x' =>
      cases hl : nfb l with
      | none => simp [nfb, hx, hl] at h
      | some l'' => simp [nfb, hx, hl] at h; rw [← h, nfs_eq hx, nfb_eq hl]
theorem AL_box {x : Operand} {e : TypeId} {d : D} {m : Nat} (hx : nf (ev tm x) = some d) (ho : D.ones d.cellsOf = true) (hb : nfb (bx ++ [d.cellsOf]) = some bx') (hm : bx.length = m) (htd : Nat.blt t n = true)
    (k : AL P ops rest ⟨n, (t, .ptr m 0) :: tm, bx', fr, ee⟩ Q) : AL P ops (⟨some t, .box e x, ty, pos, after, none⟩ :: rest) ⟨n, tm, bx, fr, ee⟩ Q :=
  AL_mem _ htd (fun g a w hi => by
    have h1 : V w g fr (ev tm x) (a.eval x) := hi.ev x
    rw [nf_eq hx] at h1
    obtain ⟨vs, h2, h3, h4⟩ := h1.cells ho
    obtain ⟨k1, k2⟩ := hi.mem.box vs d.cellsOf e h3 h4
    refine ⟨.pointer (some ⟨w.heap.size, 0, none⟩), _, _, by simp [execOp, Instr.box, newVar, newRow, Sem.run_bind, h2], k1, (nfb_eq hb) ▸ k2, .ptr _ _ _ ?_⟩
    subst hm
    have := hi.mem.bl
    simp at this
    simp [this]) k
theorem AL_alloc (hT : chk P T = true) {e : TypeId} {ti : Ti} {m : Nat} (ht : tl T e = some ti) (hb : nfb (bx ++ [ti.zero.map ZK.d]) = some bx') (hm : bx.length = m) (htd : Nat.blt t n = true)
    (k : AL P ops rest ⟨n, (t, .ptr m 0) :: tm, bx', fr, ee⟩ Q) : AL P ops (⟨some t, .alloc e, ty, pos, after, none⟩ :: rest) ⟨n, tm, bx, fr, ee⟩ Q :=
  AL_mem _ htd (fun g a w hi => by
    obtain ⟨z, h1, h2⟩ := (tl_ok hT ht).zero w
    obtain ⟨h3, h4⟩ := zks_ok (w := w) (g := g) (fr := fr) h2
    obtain ⟨k1, k2⟩ := hi.mem.box z.cells.toList (ti.zero.map ZK.d) e (by simpa using h3) (fun j d v hd hv => (h4 j d v hd hv).1)
    refine ⟨.pointer (some ⟨w.heap.size, 0, none⟩), _, _, ?_, k1, (nfb_eq hb) ▸ k2, .ptr _ _ _ ?_⟩
    · simp [execOp, Instr.alloc, newVar, newRow, Sem.run_bind, h1]
    · subst hm
      have := hi.mem.bl
      simp at this
      simp [this]) k
/-- cells replaced -/
def splice (cs : List D) (o : Nat) (l : List D) : List D := cs.take o ++ (l ++ cs.drop (o + l.length))
theorem AL_store (hT : chk P T = true) {x y : Operand} {lt b o : Nat} {cs : List D} {d : D} {ti : Ti} (hx : ev tm x = .ptr b o) (hy : nf (ev tm y) = some d) (ho : D.ones d.cellsOf = true) (ht : tl T lt = some ti) (hs : Nat.beq d.cellsOf.length ti.size = true) (hb : bx[b]? = some cs)
    (hle : Nat.ble (o + d.cellsOf.length) cs.length = true) (hb' : nfb (bx.set b (splice cs o d.cellsOf)) = some bx')
    (k : AL P ops rest ⟨n, tm, bx', fr, ee⟩ Q) : AL P ops (⟨none, .store lt x y, ty, pos, after, none⟩ :: rest) ⟨n, tm, bx, fr, ee⟩ Q :=
  AL_skip (fun g a w hi => by
    have h1 : V w g fr (ev tm x) (a.eval x) := hi.ev x
    rw [hx] at h1
    obtain ⟨blk, h2, h3⟩ := ptr_inv h1
    have hv : V w g fr (ev tm y) (a.eval y) := hi.ev y
    rw [nf_eq hy] at hv
    obtain ⟨vs, q2, q3, q4⟩ := hv.cells ho
    have hm := hi.mem
    obtain ⟨us, ut, r1, r2, r3⟩ := hm.bat b blk cs h2 hb
    have hle' := Nat.le_of_ble_eq_true hle
    have hs' := Nat.eq_of_beq_eq_true hs
    have hvs1 : ∀ v ∈ vs, v.oneCell' = true := fun v hv => by
      obtain ⟨j, hj⟩ := List.getElem?_of_mem hv
      have hlt : j < d.cellsOf.length := by rw [← q3]; exact (List.getElem?_eq_some_iff.1 hj).1
      exact (q4 j _ v (List.getElem?_eq_getElem hlt) hj).one (ones_get ho (List.getElem?_eq_getElem hlt))
    have hrun := run_storeCells_at (P := P) blk o ut vs 0 us w r1 (by omega) hvs1
    have hag := (tl_ok hT ht)
    obtain ⟨w', hw'⟩ : ∃ w', w' = w.setRow blk (us.toList.take (o + 0) ++ vs ++ us.toList.drop (o + 0 + vs.length)).toArray := ⟨_, rfl⟩
    have hheap : w'.heap[blk]? = some (.cells (us.toList.take (o + 0) ++ vs ++ us.toList.drop (o + 0 + vs.length)).toArray ut (0, 0)) := by
      rw [hw']; exact setRow_heap w blk us _ ut _ r1
    have hfar : ∀ k, k ≠ blk → w'.heap[k]? = w.heap[k]? := fun k hk => by
      rw [hw']; simp only [World.setRow, Array.getElem?_modify]; rw [if_neg (fun e => hk e.symm)]
    have hsize : w'.heap.size = w.heap.size := by rw [hw']; simp [World.setRow]
    have hcell : ∀ k p, g.C k p → w'.cell? ⟨k, p, none⟩ = w.cell? ⟨k, p, none⟩ := fun k p hC => World.cell?_of_block (w := w) (hfar k fun e => by
      subst e; exact hm.bC k p (List.mem_of_getElem? h2) hC)
    have hevo : Evo ⟨g, fr, w⟩ ⟨g, fr, w'⟩ := ⟨by rw [hw']; rfl, by rw [hw']; rfl, by rw [hw']; rfl, by rw [hsize]; exact Nat.le_refl _, fun k hk hn => hfar k fun e => hn (.inl (e ▸ List.mem_of_getElem? h2)), fun _ _ h => h, hcell, fun _ _ h => .inl h, fun _ _ h => h, fun _ h => .inl h, fun _ c h => .inl ⟨c, h⟩, TokOn.refl _ _⟩
    refine ⟨w', g, ?_, hevo, ?_⟩
    · rw [← hw'] at hrun
      have hsz : (sizeOf lt).run P w = .ok vs.length w := run_sizeOf (by rw [hag.tSize, q3, hs']) w
      simp [execOp, h3, Instr.storeAt, Instr.sureAddr, storeVar, Sem.run_bind, q2, hsz, hrun]
    · rw [← nfb_eq hb']
      constructor
      · simp [hm.bl]
      · intro i k cs' e1 e2
        by_cases hib : i = b
        · subst hib
          rw [h2] at e1
          injection e1 with e1
          subst e1
          have hlt : i < bx.length := (List.getElem?_eq_some_iff.1 hb).1
          rw [List.getElem?_set_self hlt] at e2
          injection e2 with e2
          subst e2
          refine ⟨_, ut, hheap, by simp [splice, r2, q3] <;> omega, fun j c u hc hu => ?_⟩
          simp only [splice] at hc
          have hu : (us.toList.take o ++ vs ++ us.toList.drop (o + vs.length))[j]? = some u := by simpa using hu
          rw [List.append_assoc] at hu
          have hus : us.toList.length = cs.length := by simpa using r2
          rcases Nat.lt_or_ge j o with hjo | hjo
          · rw [List.getElem?_append_left (by simp; omega), List.getElem?_take, if_pos hjo] at hc hu
            exact (r3 j c u hc (by simpa using hu)).evo hevo
          · rw [List.getElem?_append_right (by simp; omega)] at hc hu
            simp only [List.length_take, hus, Nat.min_eq_left (show o ≤ cs.length by omega)] at hc hu
            rcases Nat.lt_or_ge (j - o) vs.length with hj2 | hj2
            · rw [List.getElem?_append_left (by omega)] at hc
              rw [List.getElem?_append_left hj2] at hu
              exact (q4 (j - o) c u hc hu).evo hevo
            · rw [List.getElem?_append_right (by omega), List.getElem?_drop] at hc
              rw [List.getElem?_append_right hj2, List.getElem?_drop] at hu
              rw [q3] at hu
              exact (r3 _ c u hc (by simpa using hu)).evo hevo
        · rw [List.getElem?_set_ne (Ne.symm hib)] at e2
          obtain ⟨us', ut', t1, t2, t3⟩ := hm.bat i k cs' e1 e2
          have hne : k ≠ blk := fun e => by
            subst e
            exact hib (hm.bN i b k e1 h2)
          exact ⟨us', ut', (hfar k hne).trans t1, t2, fun j c u hc hu => (t3 j c u hc hu).evo hevo⟩
      · exact hm.bC
      · exact hm.bN
      · exact hm.tl
      · intro i k c f e1 e2
        have hTk := hm.tat i k c f e1 e2
        obtain ⟨cur, s1, s2⟩ := hTk.row
        have hne : k ≠ blk := fun e => by
          subst e
          exact hm.tρ k c (List.mem_of_getElem? e1) (List.mem_of_getElem? h2)
        exact ⟨⟨cur, (hfar k hne).trans s1, s2⟩, hTk.le, hTk.max, hTk.pos, hTk.far⟩
      · exact hm.tN
      · exact hm.tρ
      · intro k p hC
        rw [hsize]; exact hm.Clt k p hC) k
end
end Go.Av

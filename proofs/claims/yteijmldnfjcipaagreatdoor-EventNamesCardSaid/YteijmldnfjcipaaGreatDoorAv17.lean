/- Jumps back to a label; slices cut with a bound on their room; slices held against nil. -/
import Derived.Test.YteijmldnfjcipaaGreatDoorAv16
import Derived.ScopeJumps
import Derived.Lib.SlBytesConst
import Derived.Laws.IdiomStrings
open Go.RowKit Go.Pl
namespace Go.Av
set_option linter.unusedSimpArgs false
set_option linter.unusedVariables false
/-- a scope with one label: what holds at the label, and a bound that falls -/
theorem wp_scope_ghost {P : Program} {Q : Exit → Act → World → Prop} {a : Act} {w : World} {c rest : Code} (l : Nat) (J : Nat → Act → World → Prop) (n0 : Nat) (hf : findLabel c l = some rest)
    (first : c.wp P (Exit.jump l (fun a w => ∃ m, m < n0 ∧ J m a w) Q) a w)
    (pass : ∀ n a w, J n a w → rest.wp P (Exit.jump l (fun a' w' => ∃ m, m < n ∧ J m a' w') Q) a w) : (Code.scope c).wp P Q a w := by
  intro b k cs
  have hg : gotoIn l (.inScope c :: k) = some (.code rest :: .inScope c :: k) := by simp [gotoIn, hf]
  have key : ∀ n a w, J n a w → ∃ e a' w', Q e a' w' ∧ Arrives P (lone (b.at a (.code rest :: .inScope c :: k)) cs w) b k cs e a' w' := by
    intro n
    induction n using Nat.strongRecOn with
    | _ n ih =>
      intro a w hJ
      obtain ⟨e, a₁, w₁, hq, harr⟩ := pass n a w hJ b (.inScope c :: k) cs
      cases e with
      | goto l' =>
        obtain ⟨rfl, m, hm, hJ'⟩ := hq
        obtain ⟨e₂, a₂, w₂, hq₂, harr₂⟩ := ih m hm a₁ w₁ hJ'
        exact ⟨e₂, a₂, w₂, hq₂, .of_steps (harr _ hg) harr₂⟩
      | normal => exact ⟨.normal, a₁, w₁, hq, Steps.trans harr (.one step_inScope)⟩
      | exit id => exact ⟨.exit id, a₁, w₁, hq, fun k' hk => harr k' (by simp [exitTo, hk])⟩
      | ret => exact ⟨_, a₁, w₁, hq, harr⟩
      | panic ch => exact ⟨_, a₁, w₁, hq, harr⟩
      | outgrown => exact ⟨_, a₁, w₁, hq, harr⟩
  obtain ⟨e, a₁, w₁, hq, harr⟩ := first b (.inScope c :: k) cs
  cases e with
  | goto l' =>
    obtain ⟨rfl, m, _, hJ'⟩ := hq
    obtain ⟨e₂, a₂, w₂, hq₂, harr₂⟩ := key m a₁ w₁ hJ'
    exact ⟨e₂, a₂, w₂, hq₂, .of_steps (.head step_scope (harr _ hg)) harr₂⟩
  | normal => exact ⟨.normal, a₁, w₁, hq, .head step_scope (Steps.trans harr (.one step_inScope))⟩
  | exit id => exact ⟨.exit id, a₁, w₁, hq, fun k' hk => .head step_scope (harr k' (by simp [exitTo, hk]))⟩
  | ret => exact ⟨_, a₁, w₁, hq, .of_steps (.one step_scope) harr⟩
  | panic ch => exact ⟨_, a₁, w₁, hq, .of_steps (.one step_scope) harr⟩
  | outgrown => exact ⟨_, a₁, w₁, hq, .of_steps (.one step_scope) harr⟩
def X.jump (l : Nat) (K : St → Prop) (Q : X → St → Prop) : X → St → Prop
  | .goto i, S => i = l ∧ K S
  | x, S => Q x S
section
variable {P : Program} {Q : X → St → Prop} {S : St}
theorem jump_goto {l : Nat} {K : St → Prop} (h : K S) : X.jump l K Q (.goto l) S := ⟨rfl, h⟩
theorem jump_norm {l : Nat} {K : St → Prop} (h : Q .norm S) : X.jump l K Q .norm S := h
theorem jump_exit {l i : Nat} {K : St → Prop} (h : Q (.exit i) S) : X.jump l K Q (.exit i) S := h
theorem jump_ret {l : Nat} {K : St → Prop} (h : Q .ret S) : X.jump l K Q .ret S := h
theorem jump_pan {l : Nat} {K : St → Prop} {d : D} (h : Q (.pan d) S) : X.jump l K Q (.pan d) S := h
theorem conc_jump {b0 : Bs} {l : Nat} {K : St → Prop} {e : Exit} {a : Act} {w : World} (h : conc b0 (X.jump l K Q) e a w) : Exit.jump l (fun a w => ∃ S g, Inv b0 S g a w ∧ K S) (conc b0 Q) e a w := by
  cases e with
  | goto i =>
    obtain ⟨S, g, h1, h2, h3⟩ := h
    exact ⟨h2, S, g, h1, h3⟩
  | _ => exact h
theorem Lands.up {J : Nat → List (Nat × D) → List (List D) → List Fr → Prop} {n k k' : Nat} {ee : Nat × Nat} (h : Lands J n ee k S) (hk : k ≤ k') : Lands J n ee k' S := by
  obtain ⟨m, tm, bx, fr, h1, h2⟩ := h.out
  exact ⟨m, tm, bx, fr, Nat.lt_of_lt_of_le h1 hk, h2⟩
theorem jump_mono {l : Nat} {K K' : St → Prop} (h : ∀ S, K S → K' S) : ∀ x S, X.jump l K Q x S → X.jump l K' Q x S := fun x S hx => by
  cases x with
  | goto i => exact ⟨hx.1, h _ hx.2⟩
  | _ => exact hx
/-- the first pass -/
theorem AW_first {rest : Code} {n : Nat} {ee : Nat × Nat} {l : Nat} {J : Nat → List (Nat × D) → List (List D) → List Fr → Prop} {k0 : Nat}
    (pass : ∀ k tm bx fr, J k tm bx fr → AW P rest ⟨n, tm, bx, fr, ee⟩ (X.jump l (Lands J n ee k) Q)) (h : Lands J n ee k0 S) : AW P rest S (X.jump l (Lands J n ee k0) Q) := by
  refine ⟨fun b0 g a w hi => ?_⟩
  obtain ⟨m, hm, tm, bx, fr, g', hJ, hi'⟩ := h.inv hi
  exact (AW_mono (pass m tm bx fr hJ) (jump_mono fun S hS => Lands.up hS (Nat.le_of_lt hm))).run b0 g' a w hi'
/-- a scope whose label is come back to: J tells, for so many passes at most that are left, the slots and variables -/
theorem AW_scopeJ {c rest : Code} {n : Nat} {ee : Nat × Nat} {tm0 : List (Nat × D)} {bx0 : List (List D)} {fr0 : List Fr} (l : Nat) (J : Nat → List (Nat × D) → List (List D) → List Fr → Prop) (k0 : Nat) (hf : findLabel c l = some (.seq .skip rest))
    (pass : ∀ k tm bx fr, J k tm bx fr → AW P rest ⟨n, tm, bx, fr, ee⟩ (X.jump l (Lands J n ee k) Q))
    (first : (∀ S', Lands J n ee k0 S' → AW P rest S' (X.jump l (Lands J n ee k0) Q)) → AW P c ⟨n, tm0, bx0, fr0, ee⟩ (X.jump l (Lands J n ee k0) Q)) : AW P (.scope c) ⟨n, tm0, bx0, fr0, ee⟩ Q := by
  refine ⟨fun b0 g a w hi => ?_⟩
  have key : ∀ (k : Nat) (a : Act) (w : World), (∃ S g, Inv b0 S g a w ∧ Lands J n ee k S) → ∃ m, m < k ∧ ∃ tm bx fr g, J m tm bx fr ∧ Inv b0 ⟨n, tm, bx, fr, ee⟩ g a w := fun k a w ⟨S, g, hi, hL⟩ => by
    obtain ⟨m, hm, tm, bx, fr, g', hJ, hi'⟩ := hL.inv hi
    exact ⟨m, hm, tm, bx, fr, g', hJ, hi'⟩
  refine wp_scope_ghost l (fun k a w => ∃ tm bx fr g, J k tm bx fr ∧ Inv b0 ⟨n, tm, bx, fr, ee⟩ g a w) k0 hf ?_ ?_
  · refine wp_mono ((first fun S' h => AW_first pass h).run b0 g a w hi) fun e a w hc => ?_
    have := conc_jump hc
    cases e with
    | goto i => exact ⟨this.1, key _ a w this.2⟩
    | _ => exact this
  · rintro k a w ⟨tm, bx, fr, g, hJ, hi⟩
    refine wp_mono ((AW_seq' (AW_skip (then_norm (pass k tm bx fr hJ)))).run b0 g a w hi) fun e a w hc => ?_
    have := conc_jump hc
    cases e with
    | goto i => exact ⟨this.1, key _ a w this.2⟩
    | _ => exact this
end
section
variable {P : Program} {Q : X → St → Prop} {n : Nat} {ee : Nat × Nat} {tm : List (Nat × D)} {bx bx' : List (List D)} {fr fr' : List Fr} {b0 : Bs} {g : G} {w : World} {a : Act} {T : Tab}
variable {ops : Array Oper} {rest : List Oper} {t ty : Nat} {pos : String} {after : Array Edge}
/-- is a slice nil? -/
theorem AL_snil (hT : chk P T = true) {op : BinOp} {x : Operand} {xt yt e : Nat} {tk : Tok} {l : List E} {d : Bool → D} {ti : Ti} (hx : ev tm x = .sl tk l) (ht : tl T xt = some ti) (hk : ti.kd = .slice e) (hd : (match op with | .eql => some (fun b => D.bool b) | .neq => some (fun b => D.bool (!b)) | _ => none) = some d) (htd : Nat.blt t n = true)
    (k : ∀ b : Bool, (l ≠ [] → b = false) → AL P ops rest ⟨n, (t, d b) :: tm, bx, fr, ee⟩ Q) : AL P ops (⟨some t, .binOp op xt x (.const (.slice none 0 0)) yt, ty, pos, after, none⟩ :: rest) ⟨n, tm, bx, fr, ee⟩ Q := by
  refine ⟨fun b0 g a w hi => ?_⟩
  have h1 : V w g fr (ev tm x) (a.eval x) := hi.ev x
  rw [hx] at h1
  obtain ⟨a1, _⟩ := sl_inv h1
  obtain ⟨A, cap, hv, hA⟩ : ∃ A cap, a.eval x = .slice A l.length cap ∧ (l ≠ [] → A.isNone = false) := by
    generalize hq : E.sl l = q at a1
    generalize a.eval x = v at a1
    cases a1 with
    | slC l' b off cap us h1 _ _ _ _ => injection hq with hq; subst hq; exact ⟨_, cap, rfl, fun _ => rfl⟩
    | slE A cap h => injection hq with hq; subst hq; exact ⟨A, cap, rfl, fun h => (h rfl).elim⟩
    | _ => cases hq
  have hu := (tl_ok hT ht).slice hk
  have hrun : (Op.equal xt (.slice A l.length cap) (.slice none 0 0)).run P w = .ok A.isNone w := Go.run_equal_slice_nil w xt e A l.length cap hu
  have hc0 : a.eval (.const (.slice none 0 0)) = .slice none 0 0 := rfl
  refine wpList_plain rfl fun K hK => ?_
  have hex : ∃ v, (execOp a.eval ⟨some t, .binOp op xt x (.const (.slice none 0 0)) yt, ty, pos, after, none⟩).run P w = .ok (.value v) w ∧ V w g fr (d A.isNone) v := by
    cases op <;> simp at hd <;> subst hd <;> first | exact ⟨.bool A.isNone, by simp [execOp, hv, hc0, eqGuard, binOp, Sem.run_bind, hrun], .bool _⟩ | exact ⟨.bool (!A.isNone), by simp [execOp, hv, hc0, eqGuard, binOp, Sem.run_bind, hrun], .bool _⟩
  obtain ⟨v, hr, hvv⟩ := hex
  unfold Oper.wp
  rw [hr]
  exact hK _ _ ((k A.isNone hA).run b0 g _ w (hi.put htd hvv))
/-- a slice cut with a bound on its room -/
theorem AL_slice3 (hT : chk P T = true) {x lo hh mx : Operand} {st e : Nat} {tk : Tok} {l l2 : List E} {k1 k2 k3 : IntKind} {i j m : Int} {p q r : Nat} {ti te : Ti} (hx : ev tm x = .sl tk l) (ht : tl T st = some ti) (hk : ti.kd = .slice e) (hte : tl T e = some te) (htd : Nat.blt t n = true)
    (hlo : ev tm lo = .int k1 i) (hhi : ev tm hh = .int k2 j) (hmx : ev tm mx = .int k3 m) (hi0 : i = (p : Int)) (hj0 : j = (q : Int)) (hm0 : m = (r : Int)) (hpq : p ≤ q) (hqr : q ≤ r) (hr : r ≤ l.length) (hU : Uni te.size l) (hl2 : (l.take q).drop p = l2)
    (kk : AL P ops rest ⟨n, (t, .sl .ext l2) :: tm, bx, fr, ee⟩ Q) : AL P ops (⟨some t, .slice st x (some lo) (some hh) (some mx), ty, pos, after, none⟩ :: rest) ⟨n, tm, bx, fr, ee⟩ Q :=
  AL_val _ htd (fun g a w hi => by
    subst hi0 hj0 hm0
    have h1 : V w g fr (ev tm x) (a.eval x) := hi.ev x
    rw [hx] at h1
    obtain ⟨a1, _⟩ := sl_inv h1
    have hu := (tl_ok hT ht).slice hk
    have hsz := run_sizeOf (P := P) (t := e) (tl_ok hT hte).tSize w
    obtain ⟨A, cap, hv, hcap, hmax⟩ : ∃ A cap, a.eval x = .slice A l.length cap ∧ l.length ≤ cap ∧ cap ≤ maxLen := by
      generalize hq : E.sl l = q at a1
      generalize a.eval x = v at a1
      cases a1 with
      | slC l' b off cap us h1 h2 _ _ _ => injection hq with hq; subst hq; exact ⟨_, cap, rfl, h1, h2⟩
      | slE A cap h => injection hq with hq; subst hq; exact ⟨A, cap, rfl, Nat.zero_le _, h⟩
      | _ => cases hq
    have v1 := Bnd.val (S := ⟨n, tm, bx, fr, _⟩) hi hlo
    have v2 := Bnd.val (S := ⟨n, tm, bx, fr, _⟩) hi hhi
    have v3 := Bnd.val (S := ⟨n, tm, bx, fr, _⟩) hi hmx
    have b1 : (0 : Int) ≤ (r : Int) ∧ (r : Int) ≤ (cap : Int) := by omega
    have b2 : (0 : Int) ≤ (q : Int) ∧ (q : Int) ≤ (r : Int) := by omega
    have b3 : (0 : Int) ≤ (p : Int) ∧ (p : Int) ≤ (q : Int) := by omega
    have hb : (Instr.sliceBounds true l.length cap (some (.int k1 (p : Int))) (some (.int k2 (q : Int))) (some (.int k3 (r : Int)))).run P w = .ok (p, q, r) w := by
      simp only [Instr.sliceBounds, Instr.sliceBound, asIntOf, Sem.run_bind, Sem.run_pure, Result.andThen_ok, if_pos b1, Int.toNat_natCast, if_pos b2, if_pos b3]
    refine ⟨.slice (if r = p then A else A.map (·.add (p * te.size))) (q - p) (r - p), ?_, ?_⟩
    · have hrun : (Instr.sliceAt st (.slice A l.length cap) (some (.int k1 (p : Int))) (some (.int k2 (q : Int))) (some (.int k3 (r : Int)))).run P w = .ok (.slice (if r = p then A else A.map (·.add (p * te.size))) (q - p) (r - p)) w := by
        simp [Instr.sliceAt, Instr.slice, Sem.run_bind, run_underlying hu, hb, hsz]
      simp only [execOp, hv, v1, v2, v3, Sem.run_bind, Option.map_some, hrun, Result.andThen_ok]
      rfl
    · subst hl2
      have hlen : ((l.take q).drop p).length = q - p := by simp; omega
      refine .sl _ _ _ ?_ trivial
      by_cases he : q - p = 0
      · have hnil : (l.take q).drop p = [] := List.eq_nil_of_length_eq_zero (by rw [hlen]; exact he)
        rw [hnil, he]
        exact .slE _ _ (by omega)
      · have hpc : ¬ r = p := by omega
        rw [if_neg hpc, ← hlen]
        generalize hq' : E.sl l = qq at a1
        rw [hv] at a1
        generalize hs : Value.slice A l.length cap = s at a1
        cases a1 with
        | slC l' b off cap' us h1 h2 hc hw hvv =>
          injection hq' with hq'; subst hq'
          injection hs with e1 _ e3
          subst e1 e3
          have hadd : (⟨b, off, none⟩ : Addr).add (p * te.size) = ⟨b, off + p * te.size, none⟩ := by unfold Addr.add; split <;> simp_all
          simp only [Option.map_some, hadd]
          have hU2 : Uni te.size (l.take q) := hU.sub fun e h => List.mem_of_mem_take h
          have hf : flat ((l.take q).drop p) = ((flat l).take (q * te.size)).drop (p * te.size) := by rw [hU2.drop_flat, hU.take_flat]
          have hfl := hU.flat
          have hql : q * te.size ≤ l.length * te.size := Nat.mul_le_mul_right _ (by omega)
          have hfl2 : (flat ((l.take q).drop p)).length = q * te.size - p * te.size := by rw [hf]; simp; omega
          refine .slC _ b (off + p * te.size) (r - p) (fun j => us (p * te.size + j)) (by omega) (by omega) (fun j hj => by rw [Nat.add_assoc]; exact hc _ (by omega)) (fun j hj => by rw [Nat.add_assoc]; exact hw _ (by omega)) (fun j x hx => hvv _ x ?_)
          have hj := (List.getElem?_eq_some_iff.1 hx).1
          rw [hf, List.getElem?_drop, List.getElem?_take, if_pos (by omega)] at hx
          exact hx
        | slE A cap' h => injection hs with _ e; omega
        | _ => cases hq') kk
/-! ### bytes of a constant text -/
def G.lit (g : G) (w : World) (m : Nat) : G := ⟨fun b o => g.C b o ∨ (b = w.heap.size ∧ o < m), g.ρ, g.τ⟩
/-- a new row, settled whole -/
theorem Mem.lit (hm : Mem g bx fr w) (cur : List Value) (l : List E) (sz : Nat) (e : TypeId) (mk : Nat × Nat) (hcur : cur.length = l.length * sz) (hcap : l.length ≤ maxLen) (hU : Uni sz l)
    (hv : ∀ (j : Nat) (x : E) (u : Value), (flat l)[j]? = some x → cur[j]? = some u → VE w g.C x u) :
    Evo ⟨g, fr, w⟩ ⟨g.lit w (l.length * sz), fr, w.alloc (.cells cur.toArray e mk)⟩ ∧ Mem (g.lit w (l.length * sz)) bx fr (w.alloc (.cells cur.toArray e mk)) ∧
      V (w.alloc (.cells cur.toArray e mk)) (g.lit w (l.length * sz)) fr (.sl .ext l) (.slice (some ⟨w.heap.size, 0, none⟩) l.length l.length) := by
  have hevo : Evo ⟨g, fr, w⟩ ⟨g.lit w (l.length * sz), fr, w.alloc (.cells cur.toArray e mk)⟩ := by
    refine ⟨rfl, rfl, rfl, by simp, fun k hk _ => Below.heap_alloc w _ k hk, fun _ _ h => .inl h, fun k o h => cell_alloc w _ (hm.Clt k o h) o, fun k o h => ?_, fun _ _ h => h, fun _ h => .inl h, fun k c h => .inl ⟨c, h⟩, TokOn.refl _ _⟩
    rcases h with h | ⟨h, _⟩
    · exact .inl h
    · exact .inr (.inl (by simp [h]))
  have hflat := hU.flat
  refine ⟨hevo, ?_, ?_⟩
  · constructor
    · exact hm.bl
    · intro i k cs h1 h2
      obtain ⟨us, ut, k1, k2, k3⟩ := hm.bat i k cs h1 h2
      exact ⟨us, ut, (Below.heap_alloc w _ k (Array.getElem?_eq_some_iff.1 k1).1).trans k1, k2, fun j d v hd hv => (k3 j d v hd hv).evo hevo⟩
    · intro k o hk hC
      rcases hC with hC | ⟨hC, _⟩
      · exact hm.bC k o hk hC
      · have := hm.lt (.inl hk); omega
    · exact hm.bN
    · exact hm.tl
    · intro i k c f h1 h2
      have hTk := hm.tat i k c f h1 h2
      obtain ⟨cur', s1, s2⟩ := hTk.row
      have hklt := (Array.getElem?_eq_some_iff.1 s1).1
      refine ⟨⟨cur', (Below.heap_alloc w _ k hklt).trans s1, s2⟩, hTk.le, hTk.max, hTk.pos, fun o ho hC => ?_⟩
      rcases hC with hC | ⟨hC, _⟩
      · exact hTk.far o ho hC
      · omega
    · exact hm.tN
    · exact hm.tρ
    · intro k o hC
      rcases hC with hC | ⟨hC, _⟩
      · have := hm.Clt k o hC; simp; omega
      · simp [hC]
  · refine .sl _ _ _ (.slC l w.heap.size 0 l.length (fun j => cur.getD j undef) (Nat.le_refl _) hcap (fun j hj => .inr ⟨rfl, by rw [hflat] at hj; omega⟩) (fun j hj => ?_) (fun j x hx => ?_)) trivial
    · rw [Nat.zero_add, World.cell?_alloc_mark]
      have : j < cur.length := by omega
      simp [List.getD, this]
    · have hj := (List.getElem?_eq_some_iff.1 hx).1
      have hlt : j < cur.length := by omega
      refine (hv j x _ hx (by rw [List.getElem?_eq_getElem hlt]; simp [List.getD, hlt])).mono (fun _ _ h => .inl h) fun k o h => cell_alloc w _ (hm.Clt k o h) o
/-- []byte("..") of a constant: the row is built, and marked -/
theorem AL_cb (hT : chk P T = true) {st len e t2 ty2 : Nat} {pos2 : String} {after2 : Array Edge} {ds : List D} {es : List E} {ti te : Ti} {parts : Array (Nat × Operand)} (ht : tl T st = some ti) (hk : ti.kd = .slice e) (hte : tl T e = some te) (hke : te.kd = .int .u8) (hp : parts.toList.map (·.1) = List.range len)
    (hds : nfs (parts.toList.map fun p => ev tm p.2) = some ds) (hes : D.toEl ds = some es) (hU : uniB te.size es = true) (hpos : Nat.blt 0 te.size = true) (hsm : Nat.ble (len * te.size) 16777216 = true) (htd : Nat.blt t n = true) (htd2 : Nat.blt t2 n = true)
    (k : AL P ops rest ⟨n, (t2, .sl .ext es) :: (t, .sl .ext es) :: tm, bx, fr, ee⟩ Q) : AL P ops (⟨some t, .buildSlice st len parts, ty, pos, after, none⟩ :: ⟨some t2, .convert st st (.tmp t), ty2, pos2, after2, none⟩ :: rest) ⟨n, tm, bx, fr, ee⟩ Q := by
  refine ⟨fun b0 g a w hi => ?_⟩
  obtain ⟨h1, h2⟩ := parts_of hp
  obtain ⟨cs, c1, c2, c3, c4, c5⟩ := bs_run (t := t) (ty := ty) (pos := pos) (after := after) hT ht hk hte h1 (by rw [h2]; exact Nat.beq_refl len) (by rw [List.map_map]; exact hds) hes hU hpos hsm hi
  obtain ⟨k1, k2, k3⟩ := hi.mem.lit cs es te.size e (cs.toArray.size, cs.toArray.size + 1) (by rw [c1, c2]) (by rw [c2]; exact c3) (uniB_ok hU) c4
  have hu := (tl_ok hT ht).slice hk
  have hue : P.underlying e = some (.int .u8) := (tl_ok hT hte).int hke
  refine wpList_plain rfl fun K hK => ?_
  unfold Oper.wp
  rw [c5]
  refine hK _ _ ?_
  refine wpList_plain rfl fun K hK => ?_
  have hlt : t < n := by simpa [Nat.blt_eq] using htd
  have hget : (a.put (some t) (.slice (some ⟨w.heap.size, 0, none⟩) len len)).eval (.tmp t) = .slice (some ⟨w.heap.size, 0, none⟩) len len := by
    have hs : a.tmps.size = n := hi.size
    simp [Act.put, Act.eval, hs, hlt]
  have hrun := Lib.run_convert_bytes_const (P := P) w st e cs.toArray len len hu hue
  unfold Oper.wp
  simp only [execOp, hget, hrun, Sem.run_bind, Result.andThen_ok]
  have hi2 : Inv b0 ⟨n, tm, bx, fr, ee⟩ _ a _ := ⟨hi.size, hi.defers, k2, fun t => (hi.tm t).evo k1, hi.evo.trans k1, hi.bd⟩
  subst c2
  exact hK _ _ (k.run b0 _ _ _ ((hi2.put htd k3).put htd2 k3))
end
end Go.Av

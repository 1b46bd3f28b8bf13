/- More operations: structs built, texts, conversions, tests, guards, panics, calls of function values. -/
import Derived.Test.YteijmldnfjcipaaGreatDoorAv12
open Go.RowKit Go.Pl
namespace Go.Av
set_option linter.unusedSimpArgs false
set_option linter.unusedVariables false
def buildD (fs : List Fd) : List D → List (Nat × D) → Option (List D)
  | cs, [] => some cs
  | cs, (i, d) :: rest => match fs[i]? with
    | some fd => match Nat.beq d.cellsOf.length fd.size, Nat.ble (fd.off + fd.size) cs.length, D.ones d.cellsOf with
      | true, true, true => buildD fs (splice cs fd.off d.cellsOf) rest
      | _, _, _ => none
    | none => none
section
variable {P : Program} {Q : X → St → Prop} {n : Nat} {ee : Nat × Nat} {tm : List (Nat × D)} {bx bx' : List (List D)} {fr fr' : List Fr} {b0 : Bs} {g : G} {w : World} {a : Act} {T : Tab}
variable {ops : Array Oper} {rest : List Oper} {t ty : Nat} {pos : String} {after : Array Edge}
theorem fill_build {place : Nat → Option (Nat × Nat)} {fs : List Fd} (hp : ∀ (i : Nat) (fd : Fd), fs[i]? = some fd → place i = some (fd.off, fd.size)) :
    ∀ (ds : List (Nat × D)) (vs : List Value) (cs cs' : List D) (cells : Array Value), buildD fs cs ds = some cs' → vs.length = ds.length → (∀ (j : Nat) (p : Nat × D) (v : Value), ds[j]? = some p → vs[j]? = some v → V w g fr p.2 v) →
      cells.size = cs.length → (∀ (j : Nat) (d : D) (v : Value), cs[j]? = some d → cells[j]? = some v → V w g fr d v) →
      ∃ out : Array Value, Instr.fill place cells ((ds.map (·.1)).zip vs) = some out ∧ out.size = cs'.length ∧ ∀ (j : Nat) (d : D) (v : Value), cs'[j]? = some d → out[j]? = some v → V w g fr d v
  | [], [], cs, cs', cells, h, _, _, hs, hv => by simp [buildD] at h; subst h; exact ⟨cells, rfl, hs, hv⟩
  | (i, d) :: ds, v :: vs, cs, cs', cells, h, hl, hV, hs, hv => by
    simp only [buildD] at h
    cases hfd : fs[i]? with
    | none => simp [hfd] at h
    | some fd =>
      simp only [hfd] at h
      cases h1 : Nat.beq d.cellsOf.length fd.size with
      | false => simp [h1] at h
      | true =>
        cases h2 : Nat.ble (fd.off + fd.size) cs.length with
        | false => simp [h1, h2] at h
        | true =>
          cases h3 : D.ones d.cellsOf with
          | false => simp [h1, h2, h3] at h
          | true =>
            simp only [h1, h2, h3] at h
            have h1' := Nat.eq_of_beq_eq_true h1
            have h2' := Nat.le_of_ble_eq_true h2
            obtain ⟨us, q1, q2, q3⟩ := (hV 0 (i, d) v rfl rfl).cells h3
            dsimp only at q2 q3
            obtain ⟨c', e1, e2⟩ := fill_cons (place := place) (cells := cells) (rest := (ds.map (·.1)).zip vs) (hp i fd hfd) q1 (by rw [q2, h1']) (by rw [hs]; exact h2')
            have hcs : cells.toList.length = cs.length := by simpa using hs
            have hc' : c'.size = (splice cs fd.off d.cellsOf).length := by
              rw [← Array.length_toList, e2]; simp [splice, q2, h1', hs]
            obtain ⟨out, o1, o2, o3⟩ := fill_build hp ds vs (splice cs fd.off d.cellsOf) cs' c' h (by simpa using hl) (fun j p v hp hv => hV (j + 1) p v (by simpa using hp) (by simpa using hv)) hc' (fun j c u hc hu => by
              have hu : (cells.toList.take fd.off ++ (us ++ cells.toList.drop (fd.off + fd.size)))[j]? = some u := by rw [← e2]; simpa using hu
              simp only [splice] at hc
              rcases Nat.lt_or_ge j fd.off with hj | hj
              · rw [List.getElem?_append_left (by simp; omega), List.getElem?_take, if_pos hj] at hc hu
                exact hv j c u hc (by simpa using hu)
              · rw [List.getElem?_append_right (by simp; omega)] at hc hu
                simp only [List.length_take, hcs, Nat.min_eq_left (show fd.off ≤ cs.length by omega)] at hc hu
                rcases Nat.lt_or_ge (j - fd.off) us.length with hj2 | hj2
                · rw [List.getElem?_append_left (by omega)] at hc
                  rw [List.getElem?_append_left hj2] at hu
                  exact q3 _ c u hc hu
                · rw [List.getElem?_append_right (by omega), List.getElem?_drop] at hc
                  rw [List.getElem?_append_right hj2, List.getElem?_drop] at hu
                  rw [q2] at hu
                  rw [h1'] at hc hu
                  exact hv _ c u hc (by simpa using hu))
            exact ⟨out, by rw [List.map_cons, List.zip_cons_cons, e1, o1], o2, o3⟩
  | [], _ :: _, _, _, _, _, hl, _, _, _ => by simp at hl
  | _ :: _, [], _, _, _, _, hl, _, _, _ => by simp at hl
theorem AL_build (hT : chk P T = true) {st : Nat} {parts : Array (Nat × Operand)} {ds : List (Nat × D)} {cs cs' : List D} {ti : Ti} {fs : List Fd} (ht : tl T st = some ti) (hk : ti.kd = .struct fs)
    (hds : parts.toList.map (fun p => (p.1, ev tm p.2)) = ds) (hb : buildD fs (ti.zero.map ZK.d) ds = some cs) (hn : nfs cs = some cs') (htd : Nat.blt t n = true)
    (k : AL P ops rest ⟨n, (t, .agg cs') :: tm, bx, fr, ee⟩ Q) : AL P ops (⟨some t, .build st parts, ty, pos, after, none⟩ :: rest) ⟨n, tm, bx, fr, ee⟩ Q :=
  AL_val _ htd (fun g a w hi => by
    have hti := tl_ok hT ht
    obtain ⟨z, hz1, hz2⟩ := hti.zero w
    obtain ⟨z3, z4⟩ := zks_ok (w := w) (g := g) (fr := fr) hz2
    obtain ⟨fields, f1, f2, f3⟩ := hti.struct' hk
    have hplaces : (fields.mapM (fun f => do pure (f.offset, ← sizeOf f.type)) : Sem (Array (Nat × Nat))).run P w = .ok (fs.map fun fd => (fd.off, fd.size)).toArray w := by
      have hl : ∀ l : List Field, (∀ f ∈ l, (Go.Av.tSize P f.type).isSome = true ∧ (Go.Av.tAgg P f.type).isSome = true) → (l.mapM (fun f => do pure (f.offset, ← sizeOf f.type)) : Sem (List (Nat × Nat))).run P w = .ok ((l.map fun f => (⟨f.offset, (Go.Av.tSize P f.type).getD 0, (Go.Av.tAgg P f.type).getD false, f.type⟩ : Fd)).map fun fd => (fd.off, fd.size)) w := by
        intro l
        induction l with
        | nil => intro _; rfl
        | cons f l ih =>
          intro h
          obtain ⟨s, hs⟩ := Option.isSome_iff_exists.1 (h f (by simp)).1
          have := ih fun f hf => h f (by simp [hf])
          simp only [List.mapM_cons, Sem.run_bind, run_sizeOf hs, Result.andThen_ok, Sem.run_pure, this, List.map_cons, hs, Option.getD_some]
      have h1 := hl fields.toList f3
      rw [← f2] at h1
      have e : fields = fields.toList.toArray := by simp
      rw [e, List.mapM_toArray, show (List.toArray <$> fields.toList.mapM (fun f => do pure (f.offset, ← sizeOf f.type)) : Sem (Array (Nat × Nat))) = (fields.toList.mapM (fun f => do pure (f.offset, ← sizeOf f.type)) >>= fun l => pure l.toArray) from rfl, Sem.run_bind, h1]
      rfl
    obtain ⟨out, o1, o2, o3⟩ := fill_build (w := w) (g := g) (fr := fr) (place := fun i => ((fs.map fun fd => (fd.off, fd.size)).toArray)[i]?) (fs := fs) (fun i fd h => by simp [h]) ds (parts.toList.map fun p => a.eval p.2) (ti.zero.map ZK.d) cs z.cells hb (by rw [← hds]; simp) (fun j p v hp hv => by
      rw [← hds, List.getElem?_map] at hp
      rw [List.getElem?_map] at hv
      cases hj : parts.toList[j]? with
      | none => simp only [hj, Option.map_none] at hp; cases hp
      | some x => simp only [hj, Option.map_some, Option.some.injEq] at hp hv; subst hp hv; exact hi.ev x.2) (by rw [← Array.length_toList, z3]; simp) (fun j d v hd hv => (z4 j d v hd (by simpa using hv)).1)
    refine ⟨.agg out, ?_, ?_⟩
    · have hzip : (ds.map (·.1)).zip (parts.toList.map fun p => a.eval p.2) = (parts.map fun p => (p.1, a.eval p.2)).toList := by
        rw [← hds]; simp [List.zip_map', Function.comp_def]
      rw [hzip] at o1
      have hrun : (Instr.build st (parts.map fun p => (p.1, a.eval p.2))).run P w = .ok (.agg out) w := by
        simp only [Instr.build, Sem.run_bind, hz1, Result.andThen_ok, run_underlying f1, hplaces]
        rw [o1]
        rfl
      simp only [execOp, Sem.run_bind]
      rw [show (fun (x : Nat × Operand) => match x with | (i, x) => (i, a.eval x)) = fun (p : Nat × Operand) => (p.1, a.eval p.2) from rfl, hrun]
      rfl
    · have := V.agg (w := w) (g := g) (fr := fr) cs out.toList (by simpa using o2) (fun j d v hd hv => o3 j d v hd (by simpa using hv))
      rw [nfs_eq hn] at this
      simpa using this) k
theorem AL_makeIface (hT : chk P T = true) {x : Operand} {xt : Nat} {d : D} {ti : Ti} (hx : nf (ev tm x) = some d) (ht : tl T xt = some ti) (hk : (match ti.kd with | .iface => false | _ => true) = true) (htd : Nat.blt t n = true)
    (k : AL P ops rest ⟨n, (t, .iface xt d) :: tm, bx, fr, ee⟩ Q) : AL P ops (⟨some t, .makeInterface xt x, ty, pos, after, none⟩ :: rest) ⟨n, tm, bx, fr, ee⟩ Q :=
  AL_val _ htd (fun g a w hi => by
    have h1 : V w g fr (ev tm x) (a.eval x) := hi.ev x
    rw [nf_eq hx] at h1
    obtain ⟨u, hu, hku⟩ := (tl_ok hT ht).under
    refine ⟨.iface xt (a.eval x), ?_, .iface _ _ _ h1⟩
    cases u <;> simp [kdOf] at hku <;> simp [hku] at hk <;> simp [execOp, Instr.makeInterface, Sem.run_bind, run_underlying hu]) k
theorem AL_makeFunc {f : FuncId} {caps : Array Operand} {ds : List D} (hds : nfs (caps.toList.map (ev tm)) = some ds) (htd : Nat.blt t n = true)
    (k : AL P ops rest ⟨n, (t, .fn f ds) :: tm, bx, fr, ee⟩ Q) : AL P ops (⟨some t, .makeFunc (.func f) #[] caps, ty, pos, after, none⟩ :: rest) ⟨n, tm, bx, fr, ee⟩ Q :=
  AL_val _ htd (fun g a w hi => by
    have e := nfs_eq hds
    refine ⟨.func (.func f) #[] (caps.toList.map a.eval).toArray, by have e2 : caps.map a.eval = (caps.toList.map a.eval).toArray := by { rw [← Array.toList_map, Array.toArray_toList] }; simp only [execOp, Instr.makeFunc, e2, Sem.run_bind, Sem.run_pure, Result.andThen_ok]; simp, .fn _ _ _ (by rw [← e]; simp) fun j d v hd hv => ?_⟩
    rw [← e] at hd
    exact evs hi caps j d v hd hv) k
theorem AL_pick {c x y : Operand} {b : Bool} {d : D} (hc : ev tm c = .bool b) (hd : nf (match b with | true => ev tm x | false => ev tm y) = some d) (htd : Nat.blt t n = true)
    (k : AL P ops rest ⟨n, (t, d) :: tm, bx, fr, ee⟩ Q) : AL P ops (⟨some t, .pick c x y, ty, pos, after, none⟩ :: rest) ⟨n, tm, bx, fr, ee⟩ Q :=
  AL_val _ htd (fun g a w hi => by
    have h1 : V w g fr (ev tm c) (a.eval c) := hi.ev c
    rw [hc] at h1
    have h1 := h1.bool_inv
    rw [← nf_eq hd]
    cases b with
    | true => exact ⟨a.eval x, by simp [execOp, h1, asBool, Sem.run_bind], hi.ev x⟩
    | false => exact ⟨a.eval y, by simp [execOp, h1, asBool, Sem.run_bind], hi.ev y⟩) k
/-! texts -/
def strBin (op : BinOp) (x y : List UInt8) : D :=
  match op with
  | .add => .str (x ++ y)
  | .eql => .bool (x == y)
  | .neq => .bool (x != y)
  | .lss => .bool (Op.bytesLess x y)
  | .leq => .bool (Op.bytesLess x y || x == y)
  | .gtr => .bool (!(Op.bytesLess x y || x == y))
  | .geq => .bool (!Op.bytesLess x y)
  | _ => .junk
theorem ba_toList (s : List UInt8) : (⟨s.toArray⟩ : ByteArray).toList = s := by simp
theorem AL_str {op : BinOp} {x y : Operand} {xt yt : Nat} {p q : List UInt8} {d : D} (hx : ev tm x = .str p) (hy : ev tm y = .str q) (ho : (match op with | .eql | .neq | .lss | .leq | .gtr | .geq => true | _ => false) = true) (hd : nf (strBin op p q) = some d) (htd : Nat.blt t n = true)
    (k : AL P ops rest ⟨n, (t, d) :: tm, bx, fr, ee⟩ Q) : AL P ops (⟨some t, .binOp op xt x y yt, ty, pos, after, none⟩ :: rest) ⟨n, tm, bx, fr, ee⟩ Q :=
  AL_val _ htd (fun g a w hi => by
    have h1 : V w g fr (ev tm x) (a.eval x) := hi.ev x
    rw [hx] at h1
    have h2 : V w g fr (ev tm y) (a.eval y) := hi.ev y
    rw [hy] at h2
    have h1 := h1.str_inv.1
    have h2 := h2.str_inv.1
    have hd := nf_eq hd
    subst hd
    have hrun : ∃ b, (Op.stringOp op ⟨p.toArray⟩ ⟨q.toArray⟩).run P w = .ok (.bool b) w ∧ strBin op p q = .bool b := by
      unfold Op.stringOp
      simp only [ba_toList]
      cases op <;> simp at ho <;> exact ⟨_, rfl, rfl⟩
    obtain ⟨b, hb, e⟩ := hrun
    rw [e]
    have hbin : binOp op xt (.string ⟨p.toArray⟩) (.string ⟨q.toArray⟩) = Op.stringOp op ⟨p.toArray⟩ ⟨q.toArray⟩ := by cases op <;> simp at ho <;> rfl
    exact ⟨.bool b, by simp only [execOp, h1, h2, Sem.run_bind, hbin]; cases op <;> simp at ho <;> simp [eqGuard, hb], .bool _⟩) k
theorem AL_cat {x y : Operand} {xt yt : Nat} {p q : List UInt8} (hx : ev tm x = .str p) (hy : ev tm y = .str q) (hl : p.length + q.length ≤ maxLen) (htd : Nat.blt t n = true)
    (k : AL P ops rest ⟨n, (t, .str (p ++ q)) :: tm, bx, fr, ee⟩ Q) : AL P ops (⟨some t, .binOp .add xt x y yt, ty, pos, after, none⟩ :: rest) ⟨n, tm, bx, fr, ee⟩ Q :=
  AL_val _ htd (fun g a w hi => by
    have h1 : V w g fr (ev tm x) (a.eval x) := hi.ev x
    rw [hx] at h1
    have h2 : V w g fr (ev tm y) (a.eval y) := hi.ev y
    rw [hy] at h2
    have h1 := h1.str_inv.1
    have h2 := h2.str_inv.1
    have hs : ∀ s : List UInt8, (⟨s.toArray⟩ : ByteArray).size = s.length := fun s => by show s.toArray.size = _; simp
    have hcat : (⟨p.toArray⟩ : ByteArray) ++ ⟨q.toArray⟩ = ⟨(p ++ q).toArray⟩ := by
      apply ByteArray.ext
      simp [ByteArray.data_append]
    have hle : ¬ (9223372036854775807 < (p.length : Int) + (q.length : Int)) := by simp only [maxLen] at hl; omega
    exact ⟨.string ⟨(p ++ q).toArray⟩, by simp [execOp, h1, h2, eqGuard, binOp, Op.stringOp, Sem.run_bind, hs, hle, hcat], .str _ (by simpa using hl)⟩) k
/-! tests -/
theorem AL_beq (hT : chk P T = true) {op : BinOp} {x y : Operand} {xt yt : Nat} {p q : Bool} {d : D} {ti : Ti} (hx : ev tm x = .bool p) (hy : ev tm y = .bool q) (ht : tl T xt = some ti) (hk : ti.kd = .bool) (hd : (match op with | .eql => some (D.bool (p == q)) | .neq => some (D.bool (!(p == q))) | _ => none) = some d) (htd : Nat.blt t n = true)
    (k : AL P ops rest ⟨n, (t, d) :: tm, bx, fr, ee⟩ Q) : AL P ops (⟨some t, .binOp op xt x y yt, ty, pos, after, none⟩ :: rest) ⟨n, tm, bx, fr, ee⟩ Q :=
  AL_val _ htd (fun g a w hi => by
    have h1 : V w g fr (ev tm x) (a.eval x) := hi.ev x
    rw [hx] at h1
    have h2 : V w g fr (ev tm y) (a.eval y) := hi.ev y
    rw [hy] at h2
    have h1 := h1.bool_inv
    have h2 := h2.bool_inv
    obtain ⟨u, hu, hku⟩ := (tl_ok hT ht).under
    rw [hk] at hku
    have hub : P.underlying xt = some .bool := by
      rw [hu]; cases u <;> simp only [kdOf] at hku <;> first | (split at hku <;> cases hku; done) | cases hku
      rfl
    have hrun : (Op.equal xt (.bool p) (.bool q)).run P w = .ok (p == q) w := run_equalIn_bool w 9999 xt p q hub
    cases op <;> simp at hd <;> subst hd <;> first | exact ⟨.bool (p == q), by simp [execOp, h1, h2, eqGuard, binOp, Sem.run_bind, hrun], .bool _⟩ | exact ⟨.bool (!(p == q)), by simp [execOp, h1, h2, eqGuard, binOp, Sem.run_bind, hrun], .bool _⟩) k
/-- is a pointer nil? -/
def nilD : D → Option Bool
  | .nilp => some true
  | .ptr _ _ => some false
  | .eptr _ _ => some false
  | _ => none
theorem AL_nilp (hT : chk P T = true) {op : BinOp} {x y : Operand} {xt yt e : Nat} {p : Bool} {d : D} {ti : Ti} (hx : nilD (ev tm x) = some p) (hy : ev tm y = .nilp) (ht : tl T xt = some ti) (hk : ti.kd = .ptr e) (hd : (match op with | .eql => some (D.bool p) | .neq => some (D.bool (!p)) | _ => none) = some d) (htd : Nat.blt t n = true)
    (k : AL P ops rest ⟨n, (t, d) :: tm, bx, fr, ee⟩ Q) : AL P ops (⟨some t, .binOp op xt x y yt, ty, pos, after, none⟩ :: rest) ⟨n, tm, bx, fr, ee⟩ Q :=
  AL_val _ htd (fun g a w hi => by
    have h1 : V w g fr (ev tm x) (a.eval x) := hi.ev x
    have h2 : V w g fr (ev tm y) (a.eval y) := hi.ev y
    rw [hy] at h2
    have h2 : a.eval y = .pointer none := by
      generalize a.eval y = v at h2
      cases h2 with | nilp => rfl
    obtain ⟨u, hu, hku⟩ := (tl_ok hT ht).under
    rw [hk] at hku
    have hub : P.underlying xt = some (.pointer e) := by
      rw [hu]; cases u <;> simp only [kdOf] at hku <;> first | (split at hku <;> cases hku; done) | cases hku
      rfl
    obtain ⟨v, hv⟩ : ∃ v, v = a.eval x := ⟨_, rfl⟩
    rw [← hv] at h1
    have hp : ∃ A, v = .pointer A ∧ A.isNone = p := by
      cases hd' : ev tm x <;> rw [hd'] at hx h1 <;> simp [nilD] at hx <;> subst hx <;> cases h1 <;> exact ⟨_, rfl, rfl⟩
    obtain ⟨A, rfl, hA⟩ := hp
    have hrun : (Op.equal xt (.pointer A) (.pointer none)).run P w = .ok p w := by
      rw [← hA]
      exact run_equal_pointer_nil w xt A (by rw [hub]; simp [Program.pointee, hub])
    cases op <;> simp at hd <;> subst hd <;> first | exact ⟨.bool p, by simp [execOp, ← hv, h2, eqGuard, binOp, Sem.run_bind, hrun], .bool _⟩ | exact ⟨.bool (!p), by simp [execOp, ← hv, h2, eqGuard, binOp, Sem.run_bind, hrun], .bool _⟩) k
/-! bytes and texts -/
theorem bytes_inv {l : List E} {bs : List UInt8} {A : Option Addr} {m cap : Nat} (hl : l = bs.map E.byte) (h : VE w g.C (.sl l) (.slice A m cap)) : m = bs.length ∧ (bs = [] ∨ ∃ b off, A = some ⟨b, off, none⟩ ∧ ∀ j (hj : j < bs.length), w.cell? ⟨b, off + j, none⟩ = some (.int .u8 (bs[j].toNat : Int))) := by
  have hf : ∀ l : List UInt8, flat (l.map E.byte) = l.map E.byte := fun l => by induction l with | nil => rfl | cons x l ih => simp [E.cells, ih]
  generalize hq : E.sl l = q at h
  generalize hs : Value.slice A m cap = s at h
  cases h with
  | slC l' b off cap us h1 h2 hc hw hv =>
    injection hq with hq; subst hq
    injection hs with e1 e2 e3
    subst hl
    refine ⟨by rw [e2]; simp, .inr ⟨b, off, e1, fun j hj => ?_⟩⟩
    have hj' : j < (flat (bs.map E.byte)).length := by rw [hf]; simpa using hj
    rw [hw j hj']
    have hx : (flat (bs.map E.byte))[j]? = some (E.byte bs[j]) := by rw [hf]; simp [hj]
    have := hv j _ hx
    generalize us j = u at this
    cases this
    rfl
  | slE A cap h =>
    injection hq with hq; subst hq
    injection hs with _ e2 _
    have : bs = [] := by cases bs <;> simp at hl; rfl
    exact ⟨by rw [e2, this]; rfl, .inl this⟩
  | _ => cases hq
theorem AL_b2s (hT : chk P T = true) {x : Operand} {src dst e : Nat} {tk : Tok} {l : List E} {bs : List UInt8} {ti td te : Ti} (hx : ev tm x = .sl tk l) (hl : l = bs.map E.byte) (ht : tl T src = some ti) (hk : ti.kd = .slice e) (hte : tl T e = some te) (hke : te.kd = .int .u8) (htds : tl T dst = some td) (hkd : td.kd = .str) (htd : Nat.blt t n = true)
    (k : AL P ops rest ⟨n, (t, .str bs) :: tm, bx, fr, ee⟩ Q) : AL P ops (⟨some t, .convert src dst x, ty, pos, after, none⟩ :: rest) ⟨n, tm, bx, fr, ee⟩ Q :=
  AL_val _ htd (fun g a w hi => by
    have h1 : V w g fr (ev tm x) (a.eval x) := hi.ev x
    rw [hx] at h1
    obtain ⟨a1, _⟩ := sl_inv h1
    obtain ⟨A, m, cap, hv, hcm, hmc⟩ : ∃ A m cap, a.eval x = .slice A m cap ∧ cap ≤ maxLen ∧ m ≤ cap := by
      generalize hq : E.sl l = q at a1
      generalize a.eval x = v at a1
      cases a1 with
      | slC l' b off cap us h1 h2 _ _ _ => exact ⟨_, _, cap, rfl, h2, h1⟩
      | slE A cap h => exact ⟨A, 0, cap, rfl, h, Nat.zero_le _⟩
      | _ => cases hq
    rw [hv] at a1
    obtain ⟨hm, hc⟩ := bytes_inv hl a1
    subst hm
    refine ⟨.string ⟨bs.toArray⟩, ?_, .str _ (by omega)⟩
    have hrun := run_str (P := P) (w := w) (S := fun _ => True) (v := .slice A bs.length cap) (l := bs) src dst e ((tl_ok hT ht).slice hk) ((tl_ok hT hte).int hke) ((tl_ok hT htds).str hkd) (SlB.mk rfl (by omega) hcm fun hne => by
      rcases hc with hc | ⟨b, off, hA, hc⟩
      · exact (hne hc).elim
      · exact ⟨b, off, hA, trivial, hc⟩)
    simp [execOp, hv, Sem.run_bind, hrun]) k
theorem AL_s2s (hT : chk P T = true) {x : Operand} {src dst : Nat} {s : List UInt8} {ti td : Ti} (hx : ev tm x = .str s) (ht : tl T src = some ti) (hk : ti.kd = .str) (htds : tl T dst = some td) (hkd : td.kd = .str) (htd : Nat.blt t n = true)
    (k : AL P ops rest ⟨n, (t, .str s) :: tm, bx, fr, ee⟩ Q) : AL P ops (⟨some t, .convert src dst x, ty, pos, after, none⟩ :: rest) ⟨n, tm, bx, fr, ee⟩ Q :=
  AL_val _ htd (fun g a w hi => by
    have h1 : V w g fr (ev tm x) (a.eval x) := hi.ev x
    rw [hx] at h1
    refine ⟨a.eval x, ?_, h1⟩
    have h1 := h1.str_inv.1
    simp [execOp, h1, convert, Sem.run_bind, run_underlying ((tl_ok hT ht).str hk), run_underlying ((tl_ok hT htds).str hkd)]) k
/-! guards, panics -/
theorem AL_guard {o : Op} {td : Option Nat} {j : Nat} {want b : Bool} {gt : Nat} (hj : ((ops[j]?).bind (·.dst)) = some gt) (hb : look tm gt = .bool b) (htd : (match td with | some t => Nat.blt t n | none => true) = true)
    (h1 : b = want → AL P ops (⟨td, o, ty, pos, after, none⟩ :: rest) ⟨n, tm, bx, fr, ee⟩ Q)
    (h2 : b = !want → AL P ops rest ⟨n, match td with | some t => (t, .tup []) :: tm | none => tm, bx, fr, ee⟩ Q) : AL P ops (⟨td, o, ty, pos, after, some (j, want)⟩ :: rest) ⟨n, tm, bx, fr, ee⟩ Q := ⟨fun b0 g a w hi => by
  have hv : V w g fr (look tm gt) (a.tmps.getD gt undef) := hi.tm gt
  rw [hb] at hv
  have hv := hv.bool_inv
  have hy : yielded ops a.tmps j = some b := by
    have hlt : gt < a.tmps.size := by
      rcases Nat.lt_or_ge gt a.tmps.size with h | h
      · exact h
      · have : a.tmps.getD gt undef = undef := by simp [Nat.not_lt.2 h]
        rw [this] at hv; cases hv
    have he : a.tmps[gt]? = some (.bool b) := by
      rw [Array.getElem?_eq_getElem hlt, ← hv]
      simp [hlt]
    unfold yielded
    rw [hj]
    show (match (some gt).bind (a.tmps[·]?) with | some (.bool b) => some b | _ => none) = some b
    simp only [Option.bind_some, he]
  by_cases e : b = want
  · have := (h1 e).run b0 g a w hi
    unfold wpList at this ⊢
    have hw : Region.wanted ⟨td, o, ty, pos, after, some (j, want)⟩ (yielded ops a.tmps) = true := by simp [Region.wanted, hy, e]
    have hw' : Region.wanted ⟨td, o, ty, pos, after, none⟩ (yielded ops a.tmps) = true := rfl
    rw [if_pos hw]
    rw [if_pos hw'] at this
    exact this
  · have e' : b = !want := by cases b <;> cases want <;> simp_all
    have := h2 e'
    unfold wpList
    have hw : Region.wanted ⟨td, o, ty, pos, after, some (j, want)⟩ (yielded ops a.tmps) = false := by simp [Region.wanted, hy, e]
    rw [if_neg (by rw [hw]; simp)]
    cases td with
    | none => exact this.run b0 g a w hi
    | some t => exact this.run b0 g _ w (hi.put htd (.tup [] [] rfl fun j d v h => by simp at h))⟩
/-- what hangs on a skipped operation is skipped -/
theorem AL_guardU {o : Op} {t : Nat} {j : Nat} {want : Bool} {gt : Nat} (hj : ((ops[j]?).bind (·.dst)) = some gt) (hb : look tm gt = .tup []) (htd : Nat.blt t n = true)
    (h2 : AL P ops rest ⟨n, (t, .tup []) :: tm, bx, fr, ee⟩ Q) : AL P ops (⟨some t, o, ty, pos, after, some (j, want)⟩ :: rest) ⟨n, tm, bx, fr, ee⟩ Q := ⟨fun b0 g a w hi => by
  have hv : V w g fr (look tm gt) (a.tmps.getD gt undef) := hi.tm gt
  rw [hb] at hv
  obtain ⟨vs, hv, hl, _⟩ := tup_inv hv
  obtain rfl : vs = [] := List.length_eq_zero_iff.1 hl
  have hy : yielded ops a.tmps j = none := by
    unfold yielded
    rw [hj]
    show (match (some gt).bind (a.tmps[·]?) with | some (.bool b) => some b | _ => none) = none
    rw [Option.bind_some]
    cases hg : a.tmps[gt]? with
    | none => rfl
    | some v =>
      have : a.tmps.getD gt undef = v := by simp [Array.getD_getElem?, hg]
      rw [this] at hv
      subst hv
      rfl
  unfold wpList
  have hw : Region.wanted ⟨some t, o, ty, pos, after, some (j, want)⟩ (yielded ops a.tmps) = false := by simp [Region.wanted, hy]
  rw [if_neg (by rw [hw]; simp)]
  exact h2.run b0 g _ w (hi.put htd (.tup [] [] rfl fun j d v h => by simp at h))⟩
theorem AL_panic {x : Operand} {d : D} {td : Option Nat} (hx : nf (ev tm x) = some d) (hn : (match d with | .iface _ _ => true | _ => false) = true) (k : Q (.pan d) ⟨n, tm, bx, fr, ee⟩) : AL P ops (⟨td, .panic x, ty, pos, after, none⟩ :: rest) ⟨n, tm, bx, fr, ee⟩ Q := ⟨fun b0 g a w hi =>
  wpList_plain rfl fun K hK => by
    have h1 : V w g fr (ev tm x) (a.eval x) := hi.ev x
    rw [nf_eq hx] at h1
    obtain ⟨v, hv⟩ : ∃ v, v = a.eval x := ⟨_, rfl⟩
    rw [← hv] at h1
    unfold Oper.wp
    have hrun : (execOp a.eval ⟨td, .panic x, ty, pos, after, none⟩).run P w = .halt (.panic v) w := by
      cases d <;> simp at hn
      cases h1
      simp [execOp, ← hv, Instr.panic, Sem.run_bind, goPanic]
    rw [hrun]
    exact ⟨_, g, v, d, hi, rfl, h1, k⟩⟩
/-- whole numbers converted -/
theorem AL_convT (hT : chk P T = true) {x : Operand} {src dst : Nat} {k k' : IntKind} {q : Int} {ti td : Ti} (hx : ev tm x = .int k q) (hs : tl T src = some ti) (hd : tl T dst = some td) (hk : td.kd = .int k') (htd : Nat.blt t n = true)
    (kk : AL P ops rest ⟨n, (t, .int k' (k'.wrap q)) :: tm, bx, fr, ee⟩ Q) : AL P ops (⟨some t, .convert src dst x, ty, pos, after, none⟩ :: rest) ⟨n, tm, bx, fr, ee⟩ Q := by
  obtain ⟨u, hu, _⟩ := (tl_ok hT hs).under
  exact AL_conv hx (by rw [hu]) (by rw [(tl_ok hT hd).int hk]) htd kk
theorem AL_guardT {o : Op} {td : Option Nat} {j : Nat} {want b : Bool} {gt : Nat} (hj : ((ops[j]?).bind (·.dst)) = some gt) (hb : look tm gt = .bool b) (htd : (match td with | some t => Nat.blt t n | none => true) = true) (hw : b = want)
    (h1 : AL P ops (⟨td, o, ty, pos, after, none⟩ :: rest) ⟨n, tm, bx, fr, ee⟩ Q) : AL P ops (⟨td, o, ty, pos, after, some (j, want)⟩ :: rest) ⟨n, tm, bx, fr, ee⟩ Q :=
  AL_guard hj hb htd (fun _ => h1) (fun h => by subst hw; cases b <;> cases h)
theorem AL_guardF {o : Op} {t : Nat} {j : Nat} {want b b' : Bool} {gt : Nat} (hj : ((ops[j]?).bind (·.dst)) = some gt) (hb : look tm gt = .bool b) (htd : Nat.blt t n = true) (hw : b = b') (hne : (b' != want) = true)
    (h1 : AL P ops rest ⟨n, (t, .tup []) :: tm, bx, fr, ee⟩ Q) : AL P ops (⟨some t, o, ty, pos, after, some (j, want)⟩ :: rest) ⟨n, tm, bx, fr, ee⟩ Q :=
  AL_guard hj hb htd (fun h => by subst hw; subst h; simp at hne) (fun _ => h1)
theorem AL_guardFt {o : Op} {t : Nat} {j : Nat} {b : Bool} {gt : Nat} (hj : ((ops[j]?).bind (·.dst)) = some gt) (hb : look tm gt = .bool b) (htd : Nat.blt t n = true) (hw : b = false)
    (h1 : AL P ops rest ⟨n, (t, .tup []) :: tm, bx, fr, ee⟩ Q) : AL P ops (⟨some t, o, ty, pos, after, some (j, true)⟩ :: rest) ⟨n, tm, bx, fr, ee⟩ Q := AL_guardF hj hb htd hw rfl h1
theorem AL_guardFf {o : Op} {t : Nat} {j : Nat} {b : Bool} {gt : Nat} (hj : ((ops[j]?).bind (·.dst)) = some gt) (hb : look tm gt = .bool b) (htd : Nat.blt t n = true) (hw : b = true)
    (h1 : AL P ops rest ⟨n, (t, .tup []) :: tm, bx, fr, ee⟩ Q) : AL P ops (⟨some t, o, ty, pos, after, some (j, false)⟩ :: rest) ⟨n, tm, bx, fr, ee⟩ Q := AL_guardF hj hb htd hw rfl h1
theorem AL_guardS {o : Op} {td : Option Nat} {j : Nat} {want b : Bool} {gt : Nat} (hj : ((ops[j]?).bind (·.dst)) = some gt) (hb : look tm gt = .bool b)
    (h1 : b = true → AL P ops (⟨td, o, ty, pos, after, some (j, want)⟩ :: rest) ⟨n, tm, bx, fr, ee⟩ Q) (h2 : b = false → AL P ops (⟨td, o, ty, pos, after, some (j, want)⟩ :: rest) ⟨n, tm, bx, fr, ee⟩ Q) :
    AL P ops (⟨td, o, ty, pos, after, some (j, want)⟩ :: rest) ⟨n, tm, bx, fr, ee⟩ Q := by
  cases b with
  | true => exact h1 rfl
  | false => exact h2 rfl
theorem AL_pickT {c x y : Operand} {b : Bool} {d : D} (hc : ev tm c = .bool b) (hb : b = true) (hd : nf (ev tm x) = some d) (htd : Nat.blt t n = true)
    (k : AL P ops rest ⟨n, (t, d) :: tm, bx, fr, ee⟩ Q) : AL P ops (⟨some t, .pick c x y, ty, pos, after, none⟩ :: rest) ⟨n, tm, bx, fr, ee⟩ Q := by
  subst hb; exact AL_pick hc hd htd k
theorem AL_pickF {c x y : Operand} {b : Bool} {d : D} (hc : ev tm c = .bool b) (hb : b = false) (hd : nf (ev tm y) = some d) (htd : Nat.blt t n = true)
    (k : AL P ops rest ⟨n, (t, d) :: tm, bx, fr, ee⟩ Q) : AL P ops (⟨some t, .pick c x y, ty, pos, after, none⟩ :: rest) ⟨n, tm, bx, fr, ee⟩ Q := by
  subst hb; exact AL_pick hc hd htd k
end
theorem AW_condA {P : Program} {Q : X → St → Prop} {n : Nat} {ee : Nat × Nat} {tm : List (Nat × D)} {bx : List (List D)} {fr : List Fr} {x y : Code} {b : Bool} {t : Nat} (hd : look tm t = .bool b) (hb : b = true) (h1 : AW P x ⟨n, tm, bx, fr, ee⟩ Q) : AW P (.cond (.tmp t) x y) ⟨n, tm, bx, fr, ee⟩ Q := AW_condT (hb ▸ hd) h1
theorem AW_condB {P : Program} {Q : X → St → Prop} {n : Nat} {ee : Nat × Nat} {tm : List (Nat × D)} {bx : List (List D)} {fr : List Fr} {x y : Code} {b : Bool} {t : Nat} (hd : look tm t = .bool b) (hb : b = false) (h1 : AW P y ⟨n, tm, bx, fr, ee⟩ Q) : AW P (.cond (.tmp t) x y) ⟨n, tm, bx, fr, ee⟩ Q := AW_condF (hb ▸ hd) h1
end Go.Av

/- The operations on memory, said of abstract states. -/
import Derived.Test.YtnihobjehelagaaDoorG01
section
open Go.RowKit Go.Pl
namespace Go.Av
set_option linter.unusedSimpArgs false
set_option linter.unusedVariables false

/-! ### types: a table -/
inductive ZK where
  | b | i (k : IntKind) | s | p | l | f | n
  deriving DecidableEq, Repr
def ZK.d : ZK → D
  | .b => .bool false
  | .i k => .int k 0
  | .s => .str []
  | .p => .nilp
  | .l => .sl .nil []
  | .f => .nilf
  | .n => .nili
def zk : Value → Option ZK
  | .bool false => some .b
  | .int k n => if n = 0 then some (.i k) else none
  | .string s => if s.size = 0 then some .s else none
  | .pointer none => some .p
  | .slice none 0 0 => some .l
  | .nilFunc => some .f
  | .nilIface => some .n
  | _ => none
theorem zk_ok {w : World} {g : G} {fr : List Fr} {v : Value} {z : ZK} (h : zk v = some z) : V w g fr z.d v ∧ v.oneCell' = true := by
  unfold zk at h
  split at h
  · cases h; exact ⟨.bool _, rfl⟩
  · split at h
    · cases h; rename_i k n h0; subst h0; exact ⟨.int _ _, rfl⟩
    · cases h
  · split at h
    · cases h
      rename_i s h0
      have e : s = ⟨([] : List UInt8).toArray⟩ := by
        obtain ⟨a⟩ := s
        have : a = #[] := Array.eq_empty_of_size_eq_zero h0
        rw [this]
      rw [e]
      exact ⟨.str [] (Nat.zero_le _), rfl⟩
    · cases h
  · cases h; exact ⟨.nilp, rfl⟩
  · cases h; exact ⟨.sl .nil [] _ (.slE _ _ (Nat.zero_le _)) rfl, rfl⟩
  · cases h; exact ⟨.nilf, rfl⟩
  · cases h; exact ⟨.nili, rfl⟩
  · cases h
def zks : List Value → Option (List ZK)
  | [] => some []
  | v :: l => match zk v, zks l with
    | some z, some zs => some (z :: zs)
    | _, _ => none
theorem zks_ok {w : World} {g : G} {fr : List Fr} : ∀ {l : List Value} {zs : List ZK}, zks l = some zs → l.length = zs.length ∧ ∀ (j : Nat) (d : D) (v : Value), (zs.map ZK.d)[j]? = some d → l[j]? = some v → V w g fr d v ∧ v.oneCell' = true
  | [], zs, h => by simp [zks] at h; subst h; simp
  | v :: l, zs, h => by
    cases hv : zk v with
    | none => simp [zks, hv] at h
    | some z =>
      cases hl : zks l with
      | none => simp [zks, hv, hl] at h
      | some zs' =>
        simp [zks, hv, hl] at h; subst h
        obtain ⟨h1, h2⟩ := zks_ok (w := w) (g := g) (fr := fr) hl
        refine ⟨by simp [h1], fun j d u hd hu => ?_⟩
        cases j with
        | zero => simp at hd hu; subst hd hu; exact zk_ok hv
        | succ j => simp only [List.map_cons, List.getElem?_cons_succ] at hd hu; exact h2 j d u hd hu
structure Fd where
  off : Nat
  size : Nat
  agg : Bool
  ty : Nat
  deriving DecidableEq, Repr
inductive Kd where
  | bool | int (k : IntKind) | str | ptr (e : Nat) | slice (e : Nat) | struct (fs : List Fd) | array (n e : Nat) | iface | func | other
  deriving DecidableEq, Repr
structure Ti where
  kd : Kd
  size : Nat
  bytes : Nat
  zero : List ZK
  deriving DecidableEq, Repr
def isAggD : TypeDesc → Bool
  | .struct _ | .array _ _ => true
  | _ => false
def kdOf (P : Program) : TypeDesc → Kd
  | .bool => .bool
  | .int k => .int k
  | .string => .str
  | .pointer e => .ptr e
  | .slice e => .slice e
  | .struct fs => if fs.toList.all (fun f => (tSize P f.type).isSome && (tAgg P f.type).isSome) then .struct (fs.toList.map fun f => ⟨f.offset, (tSize P f.type).getD 0, (tAgg P f.type).getD false, f.type⟩) else .other
  | .array n e => .array n e
  | .interface _ => .iface
  | .func .. => .func
  | _ => .other
def tinfo (P : Program) (t : TypeId) : Option Ti :=
  match P.info? t, P.underlying t with
  | some i, some u => match i.zero with
    | some z => match zks z.cells.toList with
      | some zs => if zs.length = i.size ∧ kdOf P u ≠ .other then some ⟨kdOf P u, i.size, i.bytes, zs⟩ else none
      | none => none
    | none => none
  | _, _ => none
abbrev Tab := List (Nat × Ti)
def tl : Tab → Nat → Option Ti
  | [], _ => none
  | (k, i) :: l, t => match Nat.beq k t with
    | true => some i
    | false => tl l t
def chk (P : Program) (T : Tab) : Bool := T.all fun p => decide (tinfo P p.1 = some p.2)
structure TiOk (P : Program) (t : TypeId) (ti : Ti) : Prop where
  out : ∃ i u z, P.info? t = some i ∧ P.underlying t = some u ∧ i.zero = some z ∧ ti.kd = kdOf P u ∧ ti.size = i.size ∧ ti.bytes = i.bytes ∧ zks z.cells.toList = some ti.zero
  len : ti.zero.length = ti.size
  ne : ti.kd ≠ .other
theorem tl_ok {P : Program} {T : Tab} (hT : chk P T = true) {t : Nat} {ti : Ti} (h : tl T t = some ti) : TiOk P t ti := by
  have key : ∀ T : Tab, chk P T = true → tl T t = some ti → tinfo P t = some ti := by
    intro T
    induction T with
    | nil => intro _ h; simp [tl] at h
    | cons p l ih =>
      obtain ⟨k, i⟩ := p
      intro hT h
      simp only [chk, List.all_cons, Bool.and_eq_true, decide_eq_true_eq] at hT
      simp only [tl] at h
      cases hb : Nat.beq k t with
      | true =>
        have := Nat.eq_of_beq_eq_true hb
        subst this
        simp only [hb, Option.some.injEq] at h
        subst h
        exact hT.1
      | false => simp only [hb] at h; exact ih hT.2 h
  have h := key T hT h
  unfold tinfo at h
  cases hi : P.info? t with
  | none => simp [hi] at h
  | some i =>
    cases hu : P.underlying t with
    | none => simp [hi, hu] at h
    | some u =>
      cases hz : i.zero with
      | none => simp [hi, hu, hz] at h
      | some z =>
        cases hzs : zks z.cells.toList with
        | none => simp only [hi, hu, hz, hzs] at h; cases h
        | some zs =>
          simp only [hi, hu, hz, hzs] at h
          split at h
          · injection h with h
            subst h
            exact ⟨⟨i, u, z, hi, hu, hz, rfl, rfl, rfl, hzs⟩, ‹_ ∧ _›.1, ‹_ ∧ _›.2⟩
          · cases h
theorem tl_zero {P : Program} {T : Tab} (hT : chk P T = true) {t : Nat} {ti : Ti} (h : tl T t = some ti) : ti.size = ti.zero.length := (tl_ok hT h).len.symm
section
variable {P : Program} {t : TypeId} {ti : Ti}
def Kd.agg : Kd → Bool
  | .struct _ | .array _ _ => true
  | _ => false
theorem TiOk.tAgg (h : TiOk P t ti) : tAgg P t = some ti.kd.agg := by
  obtain ⟨i, u, z, h1, h2, h3, h4, h5, h6, h7⟩ := h.out
  unfold Go.Av.tAgg
  rw [h2, h4]
  have hne := h.ne
  rw [h4] at hne
  cases u <;> first | rfl | skip
  rename_i fs
  simp only [kdOf] at hne ⊢
  split
  · rfl
  · rename_i hh; rw [if_neg hh] at hne; exact (hne rfl).elim
theorem TiOk.tSize (h : TiOk P t ti) : tSize P t = some ti.size := by
  obtain ⟨i, u, z, h1, h2, h3, h4, h5, h6, h7⟩ := h.out
  simp [Go.Av.tSize, h1, h5]
theorem TiOk.slice (h : TiOk P t ti) {e : Nat} (hk : ti.kd = .slice e) : P.underlying t = some (.slice e) := by
  obtain ⟨i, u, z, h1, h2, h3, h4, h5, h6, h7⟩ := h.out
  rw [h2]; rw [hk] at h4
  cases u <;> simp only [kdOf] at h4 <;> first | (split at h4 <;> cases h4; done) | cases h4
  rfl
theorem TiOk.str (h : TiOk P t ti) (hk : ti.kd = .str) : P.underlying t = some .string := by
  obtain ⟨i, u, z, h1, h2, h3, h4, h5, h6, h7⟩ := h.out
  rw [h2]; rw [hk] at h4
  cases u <;> simp only [kdOf] at h4 <;> first | (split at h4 <;> cases h4; done) | cases h4
  rfl
theorem TiOk.int (h : TiOk P t ti) {k : IntKind} (hk : ti.kd = .int k) : P.underlying t = some (.int k) := by
  obtain ⟨i, u, z, h1, h2, h3, h4, h5, h6, h7⟩ := h.out
  rw [h2]; rw [hk] at h4
  cases u <;> simp only [kdOf] at h4 <;> first | (split at h4 <;> cases h4; done) | cases h4
  rfl
theorem TiOk.struct' (h : TiOk P t ti) {fs : List Fd} (hk : ti.kd = .struct fs) : ∃ fields, P.underlying t = some (.struct fields) ∧ (fs = fields.toList.map fun f => ⟨f.offset, (Go.Av.tSize P f.type).getD 0, (Go.Av.tAgg P f.type).getD false, f.type⟩) ∧ ∀ f ∈ fields.toList, (Go.Av.tSize P f.type).isSome = true ∧ (Go.Av.tAgg P f.type).isSome = true := by
  obtain ⟨i, u, z, h1, h2, h3, h4, h5, h6, h7⟩ := h.out
  rw [hk] at h4
  cases u <;> simp only [kdOf] at h4 <;> first | cases h4 | skip
  split at h4
  · rename_i fs' hall
    injection h4 with h4
    refine ⟨_, h2, h4, fun f hf => ?_⟩
    have := List.all_eq_true.1 hall f hf
    simpa using this
  · cases h4
theorem TiOk.struct (h : TiOk P t ti) {fs : List Fd} (hk : ti.kd = .struct fs) : ∃ fields, P.underlying t = some (.struct fields) ∧ fs = fields.toList.map fun f => ⟨f.offset, (Go.Av.tSize P f.type).getD 0, (Go.Av.tAgg P f.type).getD false, f.type⟩ := by
  obtain ⟨fields, h1, h2, _⟩ := h.struct' hk
  exact ⟨fields, h1, h2⟩
theorem TiOk.under (h : TiOk P t ti) : ∃ u, P.underlying t = some u ∧ ti.kd = kdOf P u := by
  obtain ⟨i, u, z, h1, h2, h3, h4, h5, h6, h7⟩ := h.out
  exact ⟨u, h2, h4⟩
theorem TiOk.zero (h : TiOk P t ti) (w : World) : ∃ z, (zeroValue t).run P w = .ok z w ∧ zks z.cells.toList = some ti.zero := by
  obtain ⟨i, u, z, h1, h2, h3, h4, h5, h6, h7⟩ := h.out
  exact ⟨z, by simp [zeroValue, typeInfo, Sem.run_bind, h1, h3], h7⟩
end

/-! ### reading -/
section
variable {P : Program} {Q : X → St → Prop} {n : Nat} {ee : Nat × Nat} {tm : List (Nat × D)} {bx : List (List D)} {fr : List Fr} {b0 : Bs} {g : G} {w : World} {a : Act} {T : Tab}
variable {ops : Array Oper} {rest : List Oper} {t ty : Nat} {pos : String} {after : Array Edge}
theorem AL_load1 [Known] [Dfr] (hT : chk P T = true) {x : Operand} {lt b o : Nat} {cs : List D} {d : D} {ti : Ti} (hx : ev tm x = .ptr b o) (ht : tl T lt = some ti) (ha : ti.kd.agg = false) (hb : bx[b]? = some cs) (hd : cs[o]? = some d) (htd : Nat.blt t n = true)
    (k : AL P ops rest ⟨n, (t, d) :: tm, bx, fr, ee⟩ Q) : AL P ops (⟨some t, .load lt x, ty, pos, after, none⟩ :: rest) ⟨n, tm, bx, fr, ee⟩ Q :=
  AL_val d htd (fun g a w hi => by
    have h1 : V w g fr (ev tm x) (a.eval x) := hi.ev x
    rw [hx] at h1
    obtain ⟨u, h2, h3⟩ := load_ptr1 (P := P) hi.mem (by rw [(tl_ok hT ht).tAgg, ha]) h1 hb hd
    exact ⟨u, by simp [execOp, Sem.run_bind, h2], h3⟩) k
theorem AL_loadn [Known] [Dfr] (hT : chk P T = true) {x : Operand} {lt b o : Nat} {cs cs' : List D} {ti : Ti} (hx : ev tm x = .ptr b o) (ht : tl T lt = some ti) (ha : ti.kd.agg = true) (hb : bx[b]? = some cs) (ho : Nat.ble (o + ti.size) cs.length = true) (hd : nfs ((cs.drop o).take ti.size) = some cs') (htd : Nat.blt t n = true)
    (k : AL P ops rest ⟨n, (t, .agg cs') :: tm, bx, fr, ee⟩ Q) : AL P ops (⟨some t, .load lt x, ty, pos, after, none⟩ :: rest) ⟨n, tm, bx, fr, ee⟩ Q :=
  AL_val _ htd (fun g a w hi => by
    have h1 : V w g fr (ev tm x) (a.eval x) := hi.ev x
    rw [hx] at h1
    have ti := tl_ok hT ht
    obtain ⟨u, h2, h3⟩ := load_ptrn (P := P) hi.mem (by rw [ti.tAgg, ha]) ti.tSize h1 hb (Nat.le_of_ble_eq_true ho)
    rw [nfs_eq hd] at h3
    exact ⟨u, by simp [execOp, Sem.run_bind, h2], h3⟩) k
theorem AL_eload1 [Known] [Dfr] (hT : chk P T = true) {x : Operand} {lt o : Nat} {cs : List E} {e : E} {d : D} {ti : Ti} (hx : ev tm x = .eptr cs o) (ht : tl T lt = some ti) (ha : ti.kd.agg = false) (he : cs[o]? = some e) (hd : nf (.ofE e) = some d) (htd : Nat.blt t n = true)
    (k : AL P ops rest ⟨n, (t, d) :: tm, bx, fr, ee⟩ Q) : AL P ops (⟨some t, .load lt x, ty, pos, after, none⟩ :: rest) ⟨n, tm, bx, fr, ee⟩ Q :=
  AL_val d htd (fun g a w hi => by
    have h1 : V w g fr (ev tm x) (a.eval x) := hi.ev x
    rw [hx] at h1
    obtain ⟨u, h2, h3⟩ := load_eptr1 (P := P) (by rw [(tl_ok hT ht).tAgg, ha]) h1 he
    rw [nf_eq hd] at h3
    exact ⟨u, by simp [execOp, Sem.run_bind, h2], h3⟩) k
theorem AL_eloadn [Known] [Dfr] (hT : chk P T = true) {x : Operand} {lt o : Nat} {cs : List E} {cs' : List D} {ti : Ti} (hx : ev tm x = .eptr cs o) (ht : tl T lt = some ti) (ha : ti.kd.agg = true) (ho : Nat.ble (o + ti.size) cs.length = true) (hd : nfs (((cs.drop o).take ti.size).map .ofE) = some cs') (htd : Nat.blt t n = true)
    (k : AL P ops rest ⟨n, (t, .agg cs') :: tm, bx, fr, ee⟩ Q) : AL P ops (⟨some t, .load lt x, ty, pos, after, none⟩ :: rest) ⟨n, tm, bx, fr, ee⟩ Q :=
  AL_val _ htd (fun g a w hi => by
    have h1 : V w g fr (ev tm x) (a.eval x) := hi.ev x
    rw [hx] at h1
    have ti := tl_ok hT ht
    obtain ⟨u, h2, h3⟩ := load_eptrn (P := P) (by rw [ti.tAgg, ha]) ti.tSize h1 (Nat.le_of_ble_eq_true ho)
    rw [nfs_eq hd] at h3
    exact ⟨u, by simp [execOp, Sem.run_bind, h2], h3⟩) k
theorem run_fieldAt {st : TypeId} {f : Nat} {ti : Ti} {fs : List Fd} {fd : Fd} (hti : TiOk P st ti) (hk : ti.kd = .struct fs) (hf : fs[f]? = some fd) (hs : Nat.beq fd.size 0 = false) (w : World) (b o : Nat) :
    (Instr.fieldAt st (.pointer (some ⟨b, o, none⟩)) f).run P w = .ok (.pointer (some ⟨b, o + fd.off, none⟩)) w := by
  obtain ⟨fields, h1, rfl⟩ := hti.struct hk
  rw [List.getElem?_map] at hf
  cases hff : fields[f]? with
  | none => simp [hff] at hf
  | some fl =>
    have hff' : fields.toList[f]? = some fl := by simpa using hff
    rw [hff'] at hf
    simp only [Option.map_some, Option.some.injEq] at hf
    subst hf
    cases hsz : Go.Av.tSize P fl.type with
    | none => simp [hsz] at hs
    | some k =>
      have hk0 : k ≠ 0 := fun e => by simp [hsz, e] at hs
      have hadd : (⟨b, o, none⟩ : Addr).add fl.offset = ⟨b, o + fl.offset, none⟩ := by unfold Addr.add; split <;> simp_all
      simp [Instr.fieldAt, Instr.sureAddr, fieldPlace, Sem.run_bind, run_underlying h1, hff, run_sizeOf hsz, hk0, hadd]
theorem AL_fieldAddr [Known] [Dfr] (hT : chk P T = true) {x : Operand} {st f b o o' : Nat} {ti : Ti} {fs : List Fd} {fd : Fd} (hx : ev tm x = .ptr b o) (ht : tl T st = some ti) (hk : ti.kd = .struct fs) (hf : fs[f]? = some fd) (hs : Nat.beq fd.size 0 = false) (ho : o + fd.off = o') (htd : Nat.blt t n = true)
    (k : AL P ops rest ⟨n, (t, .ptr b o') :: tm, bx, fr, ee⟩ Q) : AL P ops (⟨some t, .fieldAddr st x f, ty, pos, after, none⟩ :: rest) ⟨n, tm, bx, fr, ee⟩ Q :=
  AL_val _ htd (fun g a w hi => by
    have h1 : V w g fr (ev tm x) (a.eval x) := hi.ev x
    rw [hx] at h1
    obtain ⟨blk, h2, h3⟩ := ptr_inv h1
    subst ho
    exact ⟨.pointer (some ⟨blk, o + fd.off, none⟩), by simp [execOp, Sem.run_bind, h3, run_fieldAt (tl_ok hT ht) hk hf hs], .ptr _ _ blk h2⟩) k
theorem AL_efieldAddr [Known] [Dfr] (hT : chk P T = true) {x : Operand} {st f o o' : Nat} {cs : List E} {ti : Ti} {fs : List Fd} {fd : Fd} (hx : ev tm x = .eptr cs o) (ht : tl T st = some ti) (hk : ti.kd = .struct fs) (hf : fs[f]? = some fd) (hs : Nat.beq fd.size 0 = false) (ho : o + fd.off = o') (htd : Nat.blt t n = true)
    (k : AL P ops rest ⟨n, (t, .eptr cs o') :: tm, bx, fr, ee⟩ Q) : AL P ops (⟨some t, .fieldAddr st x f, ty, pos, after, none⟩ :: rest) ⟨n, tm, bx, fr, ee⟩ Q :=
  AL_val _ htd (fun g a w hi => by
    have h1 : V w g fr (ev tm x) (a.eval x) := hi.ev x
    rw [hx] at h1
    subst ho
    obtain ⟨p, hp⟩ : ∃ p, p = a.eval x := ⟨_, rfl⟩
    rw [← hp] at h1
    cases h1 with
    | eptr _ _ blk off us hc hw he =>
      exact ⟨.pointer (some ⟨blk, off + (o + fd.off), none⟩), by simp [execOp, Sem.run_bind, ← hp, run_fieldAt (tl_ok hT ht) hk hf hs, Nat.add_assoc], .eptr _ _ blk off us hc hw he⟩) k
theorem AL_nilCheck [Known] [Dfr] {x : Operand} {b o : Nat} (hx : ev tm x = .ptr b o) (htd : Nat.blt t n = true)
    (k : AL P ops rest ⟨n, (t, .ptr b o) :: tm, bx, fr, ee⟩ Q) : AL P ops (⟨some t, .nilCheck x, ty, pos, after, none⟩ :: rest) ⟨n, tm, bx, fr, ee⟩ Q :=
  AL_val _ htd (fun g a w hi => by
    have h1 : V w g fr (ev tm x) (a.eval x) := hi.ev x
    rw [hx] at h1
    obtain ⟨blk, h2, h3⟩ := ptr_inv h1
    exact ⟨.pointer (some ⟨blk, o, none⟩), by simp [execOp, h3], .ptr _ _ blk h2⟩) k
theorem AL_enilCheck [Known] [Dfr] {x : Operand} {cs : List E} {o : Nat} (hx : ev tm x = .eptr cs o) (htd : Nat.blt t n = true)
    (k : AL P ops rest ⟨n, (t, .eptr cs o) :: tm, bx, fr, ee⟩ Q) : AL P ops (⟨some t, .nilCheck x, ty, pos, after, none⟩ :: rest) ⟨n, tm, bx, fr, ee⟩ Q :=
  AL_val _ htd (fun g a w hi => by
    have h1 : V w g fr (ev tm x) (a.eval x) := hi.ev x
    rw [hx] at h1
    obtain ⟨p, hp⟩ : ∃ p, p = a.eval x := ⟨_, rfl⟩
    rw [← hp] at h1
    refine ⟨p, ?_, h1⟩
    cases h1
    simp [execOp, ← hp]) k
theorem agg_inv {l : List D} {v : Value} (h : V w g fr (.agg l) v) : ∃ vs : List Value, v = .agg vs.toArray ∧ vs.length = l.length ∧ ∀ (j : Nat) (d : D) (v : Value), l[j]? = some d → vs[j]? = some v → V w g fr d v := by
  cases h; exact ⟨_, rfl, ‹_›, ‹_›⟩
theorem tup_inv {l : List D} {v : Value} (h : V w g fr (.tup l) v) : ∃ vs : List Value, v = .tuple vs.toArray ∧ vs.length = l.length ∧ ∀ (j : Nat) (d : D) (v : Value), l[j]? = some d → vs[j]? = some v → V w g fr d v := by
  cases h; exact ⟨_, rfl, ‹_›, ‹_›⟩
theorem AL_extract [Known] [Dfr] {x : Operand} {i : Nat} {l : List D} {d : D} (hx : ev tm x = .tup l) (hd : l[i]? = some d) (htd : Nat.blt t n = true)
    (k : AL P ops rest ⟨n, (t, d) :: tm, bx, fr, ee⟩ Q) : AL P ops (⟨some t, .extract x i, ty, pos, after, none⟩ :: rest) ⟨n, tm, bx, fr, ee⟩ Q :=
  AL_val _ htd (fun g a w hi => by
    have h1 : V w g fr (ev tm x) (a.eval x) := hi.ev x
    rw [hx] at h1
    obtain ⟨vs, h2, h3, h4⟩ := tup_inv h1
    have hlt : i < vs.length := by rw [h3]; exact (List.getElem?_eq_some_iff.1 hd).1
    exact ⟨vs[i], by simp [execOp, h2, Instr.extract, hlt], h4 i d _ hd (List.getElem?_eq_getElem hlt)⟩) k
theorem field_get {st : TypeId} {f : Nat} {ti : Ti} {fs : List Fd} {fd : Fd} (hti : TiOk P st ti) (hk : ti.kd = .struct fs) (hf : fs[f]? = some fd) (hs : Nat.beq fd.size 0 = false) :
    ∃ fields fl, P.underlying st = some (.struct fields) ∧ fields[f]? = some fl ∧ fd = ⟨fl.offset, (Go.Av.tSize P fl.type).getD 0, (Go.Av.tAgg P fl.type).getD false, fl.type⟩ ∧ Go.Av.tSize P fl.type = some fd.size := by
  obtain ⟨fields, h1, rfl⟩ := hti.struct hk
  rw [List.getElem?_map] at hf
  cases hff : fields[f]? with
  | none => simp [hff] at hf
  | some fl =>
    have hff' : fields.toList[f]? = some fl := by simpa using hff
    rw [hff'] at hf
    simp only [Option.map_some, Option.some.injEq] at hf
    subst hf
    refine ⟨fields, fl, h1, hff, rfl, ?_⟩
    cases hsz : Go.Av.tSize P fl.type with
    | none => simp [hsz] at hs
    | some k => rfl
theorem AL_field1 [Known] [Dfr] (hT : chk P T = true) {x : Operand} {st f : Nat} {l : List D} {d : D} {ti ti' : Ti} {fs : List Fd} {fd : Fd} (hx : ev tm x = .agg l) (ht : tl T st = some ti) (hk : ti.kd = .struct fs) (hf : fs[f]? = some fd) (hs : Nat.beq fd.size 0 = false) (ht2 : tl T fd.ty = some ti') (ha : ti'.kd.agg = false) (hd : l[fd.off]? = some d) (htd : Nat.blt t n = true)
    (k : AL P ops rest ⟨n, (t, d) :: tm, bx, fr, ee⟩ Q) : AL P ops (⟨some t, .field st x f, ty, pos, after, none⟩ :: rest) ⟨n, tm, bx, fr, ee⟩ Q :=
  AL_val _ htd (fun g a w hi => by
    have h1 : V w g fr (ev tm x) (a.eval x) := hi.ev x
    rw [hx] at h1
    obtain ⟨vs, h2, h3, h4⟩ := agg_inv h1
    obtain ⟨fields, fl, k1, k2, k3, k4⟩ := field_get (tl_ok hT ht) hk hf hs
    have hfo : fd.off = fl.offset := by rw [k3]
    have hft : fd.ty = fl.type := by rw [k3]
    have hlt : fl.offset < vs.length := by rw [h3, ← hfo]; exact (List.getElem?_eq_some_iff.1 hd).1
    have hagg := run_isAgg (P := P) (t := fl.type) (b := false) (by rw [← hft, (tl_ok hT ht2).tAgg, ha]) w
    refine ⟨vs[fl.offset], ?_, h4 _ d _ (hfo ▸ hd) (List.getElem?_eq_getElem hlt)⟩
    simp [execOp, h2, Instr.field, Sem.run_bind, run_underlying k1, k2, part, asAgg, hagg, hlt]) k
end
end Go.Av
end
/- Operations that make or change memory, said of abstract states. -/
section
open Go.RowKit Go.Pl
namespace Go.Av
set_option linter.unusedSimpArgs false
set_option linter.unusedVariables false
section
variable {P : Program} {Q : X → St → Prop} {n : Nat} {ee : Nat × Nat} {tm : List (Nat × D)} {bx bx' : List (List D)} {fr fr' : List Fr} {b0 : Bs} {g : G} {w : World} {a : Act} {T : Tab}
variable {ops : Array Oper} {rest : List Oper} {t ty : Nat} {pos : String} {after : Array Edge}
theorem AL_mem [Known] [Dfr] {o : Op} (d : D) (htd : Nat.blt t n = true)
    (h : ∀ g a w, Inv ⟨g, fr, w⟩ ⟨n, tm, bx, fr, (g.ρ.length, fr.length)⟩ g a w → ∃ v w' g', (execOp a.eval ⟨some t, o, ty, pos, after, none⟩).run P w = .ok (.value v) w' ∧ Evo ⟨g, fr, w⟩ ⟨g', fr', w'⟩ ∧ Mem g' bx' fr' w' ∧ V w' g' fr' d v)
    (k : AL P ops rest ⟨n, (t, d) :: tm, bx', fr', ee⟩ Q) : AL P ops (⟨some t, o, ty, pos, after, none⟩ :: rest) ⟨n, tm, bx, fr, ee⟩ Q := ⟨fun b0 g a w hi =>
  wpList_plain rfl fun K hK => by
    obtain ⟨v, w', g', hr, he, hm, hv⟩ := h g a w ⟨hi.size, hi.defers, hi.mem, hi.tm, Evo.refl _, Nat.le_refl _, Nat.le_refl _⟩
    unfold Oper.wp
    rw [hr]
    have hi2 : Inv b0 ⟨n, tm, bx', fr', ee⟩ g' a w' := ⟨hi.size, hi.defers, hm, fun t => (hi.tm t).evo he, hi.evo.trans he, hi.bd⟩
    exact hK _ _ (k.run b0 g' _ w' (hi2.put htd hv))⟩
theorem AL_skip [Known] [Dfr] {o : Op}
    (h : ∀ g a w, Inv ⟨g, fr, w⟩ ⟨n, tm, bx, fr, (g.ρ.length, fr.length)⟩ g a w → ∃ w' g', (execOp a.eval ⟨none, o, ty, pos, after, none⟩).run P w = .ok .skip w' ∧ Evo ⟨g, fr, w⟩ ⟨g', fr', w'⟩ ∧ Mem g' bx' fr' w')
    (k : AL P ops rest ⟨n, tm, bx', fr', ee⟩ Q) : AL P ops (⟨none, o, ty, pos, after, none⟩ :: rest) ⟨n, tm, bx, fr, ee⟩ Q := ⟨fun b0 g a w hi =>
  wpList_plain rfl fun K hK => by
    obtain ⟨w', g', hr, he, hm⟩ := h g a w ⟨hi.size, hi.defers, hi.mem, hi.tm, Evo.refl _, Nat.le_refl _, Nat.le_refl _⟩
    unfold Oper.wp
    rw [hr]
    exact hK _ _ (k.run b0 g' _ w' ⟨hi.size, hi.defers, hm, fun t => (hi.tm t).evo he, hi.evo.trans he, hi.bd⟩)⟩
theorem Mem.lt [Known] (hm : Mem g bx fr w) {k : Nat} (h : M g k) : k < w.heap.size := by
  rcases h with hk | ⟨c, hk⟩
  · obtain ⟨i, hi⟩ := List.getElem?_of_mem hk
    have hlt : i < bx.length := by rw [← hm.bl]; exact (List.getElem?_eq_some_iff.1 hi).1
    obtain ⟨vs, ty, h1, _⟩ := hm.bat i k _ hi (List.getElem?_eq_getElem hlt)
    exact (Array.getElem?_eq_some_iff.1 h1).1
  · obtain ⟨i, hi⟩ := List.getElem?_of_mem hk
    have hlt : i < fr.length := by rw [← hm.tl]; exact (List.getElem?_eq_some_iff.1 hi).1
    obtain ⟨cur, h1, _⟩ := (hm.tat i k c _ hi (List.getElem?_eq_getElem hlt)).row
    exact (Array.getElem?_eq_some_iff.1 h1).1
theorem cell_alloc (w : World) (o : Obj) {b : Nat} (h : b < w.heap.size) (p : Nat) : (w.alloc o).cell? ⟨b, p, none⟩ = w.cell? ⟨b, p, none⟩ :=
  World.cell?_of_block (w := w) (Below.heap_alloc w o b h)
/-- a new variable -/
theorem Mem.box [Known] (hm : Mem g bx fr w) (vs : List Value) (cs : List D) (e : TypeId) (hl : vs.length = cs.length) (hv : ∀ (j : Nat) (d : D) (v : Value), cs[j]? = some d → vs[j]? = some v → V w g fr d v) :
    Evo ⟨g, fr, w⟩ ⟨⟨g.C, g.ρ ++ [w.heap.size], g.τ⟩, fr, w.alloc (.cells vs.toArray e)⟩ ∧ Mem ⟨g.C, g.ρ ++ [w.heap.size], g.τ⟩ (bx ++ [cs]) fr (w.alloc (.cells vs.toArray e)) := by
  have hevo : Evo ⟨g, fr, w⟩ ⟨⟨g.C, g.ρ ++ [w.heap.size], g.τ⟩, fr, w.alloc (.cells vs.toArray e)⟩ := by
    refine ⟨rfl, rfl, rfl, by simp, fun k hk _ => Below.heap_alloc w _ k hk, fun _ _ h => h, fun k o h => cell_alloc w _ (hm.Clt k o h) o, fun _ _ h => .inl h, fun i k h => ?_, fun k h => ?_, fun k c h => .inl ⟨c, h⟩, TokOn.refl _ _⟩
    · exact (List.getElem?_append_left (List.getElem?_eq_some_iff.1 h).1).trans h
    · rcases List.mem_append.1 h with h | h
      · exact .inl h
      · simp at h; exact .inr (by simp [h])
  refine ⟨hevo, ?_⟩
  have hget : ∀ (i k : Nat), (g.ρ ++ [w.heap.size])[i]? = some k → g.ρ[i]? = some k ∨ (i = g.ρ.length ∧ k = w.heap.size) := fun i k h => by
    rcases Nat.lt_or_ge i g.ρ.length with hlt | hge
    · rw [List.getElem?_append_left hlt] at h; exact .inl h
    · rw [List.getElem?_append_right hge] at h
      have h0 : i - g.ρ.length = 0 := by have := (List.getElem?_eq_some_iff.1 h).1; simp at this; omega
      simp [h0] at h
      exact .inr ⟨by omega, h.symm⟩
  constructor
  · simp [hm.bl]
  · intro i k cs' h1 h2
    rcases hget i k h1 with h3 | ⟨rfl, rfl⟩
    · have hlt : i < bx.length := by rw [← hm.bl]; exact (List.getElem?_eq_some_iff.1 h3).1
      rw [List.getElem?_append_left hlt] at h2
      obtain ⟨us, ty, k1, k2, k3⟩ := hm.bat i k cs' h3 h2
      exact ⟨us, ty, (Below.heap_alloc w _ k (Array.getElem?_eq_some_iff.1 k1).1).trans k1, k2, fun j d v hd hv => (k3 j d v hd hv).evo hevo⟩
    · rw [List.getElem?_append_right (by rw [hm.bl]; exact Nat.le_refl _), hm.bl] at h2
      simp at h2; subst h2
      exact ⟨vs.toArray, e, heap_alloc_new w _, by simpa using hl, fun j d v hd hv' => (hv j d v hd (by simpa using hv')).evo hevo⟩
  · intro k o hk hC
    rcases List.mem_append.1 hk with h | h
    · exact hm.bC k o h hC
    · simp at h; subst h
      have := hm.Clt _ o hC; omega
  · intro i j k h1 h2
    have cross : ∀ i : Nat, g.ρ[i]? = some k → k = w.heap.size → False := fun i h3 e => by
      have := hm.lt (.inl (List.mem_of_getElem? h3)); omega
    rcases hget i k h1 with h3 | ⟨e3, h3⟩ <;> rcases hget j k h2 with h4 | ⟨e4, h4⟩
    · exact hm.bN i j k h3 h4
    · exact (cross i h3 h4).elim
    · exact (cross j h4 h3).elim
    · omega
  · exact hm.tl
  · intro i k c f h1 h2
    have hT := hm.tat i k c f h1 h2
    obtain ⟨cur, r1, r2⟩ := hT.row
    exact ⟨⟨cur, (Below.heap_alloc w _ k (Array.getElem?_eq_some_iff.1 r1).1).trans r1, r2⟩, hT.le, hT.max, hT.pos, hT.far⟩
  · exact hm.tN
  · intro k c hk hr
    rcases List.mem_append.1 hr with h | h
    · exact hm.tρ k c hk h
    · simp at h; subst h
      have := hm.lt (.inr ⟨c, hk⟩); omega
  · intro k o hC
    have := hm.Clt k o hC
    simp; omega
  · exact hm.gl.evo hevo
def D.cellsOf : D → List D
  | .agg l => l
  | d => [d]
/-- one cell each -/
def D.one : D → Bool
  | .agg _ | .tup _ | .junk => false
  | _ => true
def D.ones : List D → Bool
  | [] => true
  | d :: l => match d.one with
    | true => D.ones l
    | false => false
theorem V.one {d : D} {v : Value} (h : V w g fr d v) (ho : d.one = true) : v.oneCell' = true := by
  cases h <;> first | rfl | simp [D.one] at ho | skip
  exact VE.one ‹_›
theorem ones_get : ∀ {l : List D} {j : Nat} {d : D}, D.ones l = true → l[j]? = some d → d.one = true
  | [], j, d, _, h => by simp at h
  | x :: l, j, d, ho, h => by
    simp only [D.ones] at ho
    cases hx : x.one with
    | false => simp [hx] at ho
    | true =>
      simp only [hx] at ho
      cases j with
      | zero => simp at h; subst h; exact hx
      | succ j => simp at h; exact ones_get ho h
/-- a value's cells -/
theorem V.cells {d : D} {v : Value} (h : V w g fr d v) (hne : D.ones d.cellsOf = true) : ∃ vs : List Value, v.cells = vs.toArray ∧ vs.length = d.cellsOf.length ∧ ∀ (j : Nat) (c : D) (u : Value), d.cellsOf[j]? = some c → vs[j]? = some u → V w g fr c u := by
  by_cases hd : ∃ l, d = .agg l
  · obtain ⟨l, rfl⟩ := hd
    obtain ⟨vs, rfl, h2, h3⟩ := agg_inv h
    exact ⟨vs, rfl, h2, h3⟩
  · have hc : d.cellsOf = [d] := by cases d <;> first | rfl | exact (hd ⟨_, rfl⟩).elim
    rw [hc] at hne ⊢
    have h1 : d.one = true := ones_get hne (j := 0) rfl
    have hv := h.one h1
    refine ⟨[v], ?_, rfl, fun j c u hc hu => ?_⟩
    · cases v <;> first | rfl | simp [Value.oneCell'] at hv
    · cases j with
      | zero => simp at hc hu; subst hc hu; exact h
      | succ j => simp at hc
/-- lists of lists laid open -/
def nfb : List (List D) → Option (List (List D))
  | [] => some []
  | x :: l => match nfs x, nfb l with
    | some x', some l' => some (x' :: l')
    | _, _ => none
theorem nfb_eq : ∀ {l l' : List (List D)}, nfb l = some l' → l = l'
  | [], l', h => by simpa [nfb] using h
  | x :: l, l', h => by
    cases hx : nfs x with
    | none => simp [nfb, hx] at h
    | some x' =>
      cases hl : nfb l with
      | none => simp [nfb, hx, hl] at h
      | some l'' => simp [nfb, hx, hl] at h; rw [← h, nfs_eq hx, nfb_eq hl]
theorem AL_box [Known] [Dfr] {x : Operand} {e : TypeId} {d : D} {m : Nat} (hx : nf (ev tm x) = some d) (ho : D.ones d.cellsOf = true) (hb : nfb (bx ++ [d.cellsOf]) = some bx') (hm : bx.length = m) (htd : Nat.blt t n = true)
    (k : AL P ops rest ⟨n, (t, .ptr m 0) :: tm, bx', fr, ee⟩ Q) : AL P ops (⟨some t, .box e x, ty, pos, after, none⟩ :: rest) ⟨n, tm, bx, fr, ee⟩ Q :=
  AL_mem _ htd (fun g a w hi => by
    have h1 : V w g fr (ev tm x) (a.eval x) := hi.ev x
    rw [nf_eq hx] at h1
    obtain ⟨vs, h2, h3, h4⟩ := h1.cells ho
    obtain ⟨k1, k2⟩ := hi.mem.box vs d.cellsOf e h3 h4
    refine ⟨.pointer (some ⟨w.heap.size, 0, none⟩), _, _, by simp [execOp, Instr.box, newVar, newRow, Sem.run_bind, h2], k1, (nfb_eq hb) ▸ k2, .ptr _ _ _ ?_⟩
    subst hm
    have := hi.mem.bl
    simp at this
    simp [this]) k
theorem AL_alloc [Known] [Dfr] (hT : chk P T = true) {e : TypeId} {ti : Ti} {m : Nat} (ht : tl T e = some ti) (hb : nfb (bx ++ [ti.zero.map ZK.d]) = some bx') (hm : bx.length = m) (htd : Nat.blt t n = true)
    (k : AL P ops rest ⟨n, (t, .ptr m 0) :: tm, bx', fr, ee⟩ Q) : AL P ops (⟨some t, .alloc e, ty, pos, after, none⟩ :: rest) ⟨n, tm, bx, fr, ee⟩ Q :=
  AL_mem _ htd (fun g a w hi => by
    obtain ⟨z, h1, h2⟩ := (tl_ok hT ht).zero w
    obtain ⟨h3, h4⟩ := zks_ok (w := w) (g := g) (fr := fr) h2
    obtain ⟨k1, k2⟩ := hi.mem.box z.cells.toList (ti.zero.map ZK.d) e (by simpa using h3) (fun j d v hd hv => (h4 j d v hd hv).1)
    refine ⟨.pointer (some ⟨w.heap.size, 0, none⟩), _, _, ?_, k1, (nfb_eq hb) ▸ k2, .ptr _ _ _ ?_⟩
    · simp [execOp, Instr.alloc, newVar, newRow, Sem.run_bind, h1]
    · subst hm
      have := hi.mem.bl
      simp at this
      simp [this]) k
/-- cells replaced -/
def splice (cs : List D) (o : Nat) (l : List D) : List D := cs.take o ++ (l ++ cs.drop (o + l.length))
theorem AL_store [Known] [Dfr] (hT : chk P T = true) {x y : Operand} {lt b o : Nat} {cs : List D} {d : D} {ti : Ti} (hx : ev tm x = .ptr b o) (hy : nf (ev tm y) = some d) (ho : D.ones d.cellsOf = true) (ht : tl T lt = some ti) (hs : Nat.beq d.cellsOf.length ti.size = true) (hb : bx[b]? = some cs)
    (hle : Nat.ble (o + d.cellsOf.length) cs.length = true) (hb' : nfb (bx.set b (splice cs o d.cellsOf)) = some bx')
    (k : AL P ops rest ⟨n, tm, bx', fr, ee⟩ Q) : AL P ops (⟨none, .store lt x y, ty, pos, after, none⟩ :: rest) ⟨n, tm, bx, fr, ee⟩ Q :=
  AL_skip (fun g a w hi => by
    have h1 : V w g fr (ev tm x) (a.eval x) := hi.ev x
    rw [hx] at h1
    obtain ⟨blk, h2, h3⟩ := ptr_inv h1
    have hv : V w g fr (ev tm y) (a.eval y) := hi.ev y
    rw [nf_eq hy] at hv
    obtain ⟨vs, q2, q3, q4⟩ := hv.cells ho
    have hm := hi.mem
    obtain ⟨us, ut, r1, r2, r3⟩ := hm.bat b blk cs h2 hb
    have hle' := Nat.le_of_ble_eq_true hle
    have hs' := Nat.eq_of_beq_eq_true hs
    have hvs1 : ∀ v ∈ vs, v.oneCell' = true := fun v hv => by
      obtain ⟨j, hj⟩ := List.getElem?_of_mem hv
      have hlt : j < d.cellsOf.length := by rw [← q3]; exact (List.getElem?_eq_some_iff.1 hj).1
      exact (q4 j _ v (List.getElem?_eq_getElem hlt) hj).one (ones_get ho (List.getElem?_eq_getElem hlt))
    have hrun := run_storeCells_at (P := P) blk o ut vs 0 us w r1 (by omega) hvs1
    have hag := (tl_ok hT ht)
    obtain ⟨w', hw'⟩ : ∃ w', w' = w.setRow blk (us.toList.take (o + 0) ++ vs ++ us.toList.drop (o + 0 + vs.length)).toArray := ⟨_, rfl⟩
    have hheap : w'.heap[blk]? = some (.cells (us.toList.take (o + 0) ++ vs ++ us.toList.drop (o + 0 + vs.length)).toArray ut (0, 0)) := by
      rw [hw']; exact setRow_heap w blk us _ ut _ r1
    have hfar : ∀ k, k ≠ blk → w'.heap[k]? = w.heap[k]? := fun k hk => by
      rw [hw']; simp only [World.setRow, Array.getElem?_modify]; rw [if_neg (fun e => hk e.symm)]
    have hsize : w'.heap.size = w.heap.size := by rw [hw']; simp [World.setRow]
    have hcell : ∀ k p, g.C k p → w'.cell? ⟨k, p, none⟩ = w.cell? ⟨k, p, none⟩ := fun k p hC => World.cell?_of_block (w := w) (hfar k fun e => by
      subst e; exact hm.bC k p (List.mem_of_getElem? h2) hC)
    have hevo : Evo ⟨g, fr, w⟩ ⟨g, fr, w'⟩ := ⟨by rw [hw']; rfl, by rw [hw']; rfl, by rw [hw']; rfl, by rw [hsize]; exact Nat.le_refl _, fun k hk hn => hfar k fun e => hn (.inl (e ▸ List.mem_of_getElem? h2)), fun _ _ h => h, hcell, fun _ _ h => .inl h, fun _ _ h => h, fun _ h => .inl h, fun _ c h => .inl ⟨c, h⟩, TokOn.refl _ _⟩
    refine ⟨w', g, ?_, hevo, ?_⟩
    · rw [← hw'] at hrun
      have hsz : (sizeOf lt).run P w = .ok vs.length w := run_sizeOf (by rw [hag.tSize, q3, hs']) w
      simp [execOp, h3, Instr.storeAt, Instr.sureAddr, storeVar, Sem.run_bind, q2, hsz, hrun]
    · rw [← nfb_eq hb']
      constructor
      · simp [hm.bl]
      · intro i k cs' e1 e2
        by_cases hib : i = b
        · subst hib
          rw [h2] at e1
          injection e1 with e1
          subst e1
          have hlt : i < bx.length := (List.getElem?_eq_some_iff.1 hb).1
          rw [List.getElem?_set_self hlt] at e2
          injection e2 with e2
          subst e2
          refine ⟨_, ut, hheap, by simp [splice, r2, q3] <;> omega, fun j c u hc hu => ?_⟩
          simp only [splice] at hc
          have hu : (us.toList.take o ++ vs ++ us.toList.drop (o + vs.length))[j]? = some u := by simpa using hu
          rw [List.append_assoc] at hu
          have hus : us.toList.length = cs.length := by simpa using r2
          rcases Nat.lt_or_ge j o with hjo | hjo
          · rw [List.getElem?_append_left (by simp; omega), List.getElem?_take, if_pos hjo] at hc hu
            exact (r3 j c u hc (by simpa using hu)).evo hevo
          · rw [List.getElem?_append_right (by simp; omega)] at hc hu
            simp only [List.length_take, hus, Nat.min_eq_left (show o ≤ cs.length by omega)] at hc hu
            rcases Nat.lt_or_ge (j - o) vs.length with hj2 | hj2
            · rw [List.getElem?_append_left (by omega)] at hc
              rw [List.getElem?_append_left hj2] at hu
              exact (q4 (j - o) c u hc hu).evo hevo
            · rw [List.getElem?_append_right (by omega), List.getElem?_drop] at hc
              rw [List.getElem?_append_right hj2, List.getElem?_drop] at hu
              rw [q3] at hu
              exact (r3 _ c u hc (by simpa using hu)).evo hevo
        · rw [List.getElem?_set_ne (Ne.symm hib)] at e2
          obtain ⟨us', ut', t1, t2, t3⟩ := hm.bat i k cs' e1 e2
          have hne : k ≠ blk := fun e => by
            subst e
            exact hib (hm.bN i b k e1 h2)
          exact ⟨us', ut', (hfar k hne).trans t1, t2, fun j c u hc hu => (t3 j c u hc hu).evo hevo⟩
      · exact hm.bC
      · exact hm.bN
      · exact hm.tl
      · intro i k c f e1 e2
        have hTk := hm.tat i k c f e1 e2
        obtain ⟨cur, s1, s2⟩ := hTk.row
        have hne : k ≠ blk := fun e => by
          subst e
          exact hm.tρ k c (List.mem_of_getElem? e1) (List.mem_of_getElem? h2)
        exact ⟨⟨cur, (hfar k hne).trans s1, s2⟩, hTk.le, hTk.max, hTk.pos, hTk.far⟩
      · exact hm.tN
      · exact hm.tρ
      · intro k p hC
        rw [hsize]; exact hm.Clt k p hC
      · exact hm.gl.evo hevo) k
end
end Go.Av
end
/- Rows of memory that settle: slices built and appended to; structs built. -/
section
open Go.RowKit Go.Pl
namespace Go.Av
set_option linter.unusedSimpArgs false
set_option linter.unusedVariables false
/-- elements of so many cells each -/
def Uni (sz : Nat) (l : List E) : Prop := ∀ e ∈ l, e.cells.length = sz
theorem Uni.nil (sz : Nat) : Uni sz [] := fun e h => by cases h
theorem Uni.cons {sz : Nat} {e : E} {l : List E} (h : e.cells.length = sz) (t : Uni sz l) : Uni sz (e :: l) := fun x hx => by
  rcases List.mem_cons.1 hx with rfl | hx
  · exact h
  · exact t x hx
theorem Uni.append {sz : Nat} {l l' : List E} (h : Uni sz l) (h' : Uni sz l') : Uni sz (l ++ l') := fun x hx => (List.mem_append.1 hx).elim (h x) (h' x)
theorem Uni.map {α : Type} {sz : Nat} {f : α → E} (h : ∀ x, (f x).cells.length = sz) (l : List α) : Uni sz (l.map f) := fun x hx => by
  obtain ⟨y, _, rfl⟩ := List.mem_map.1 hx
  exact h y
theorem Uni.sub {sz : Nat} {l l' : List E} (h : Uni sz l) (hs : ∀ e ∈ l', e ∈ l) : Uni sz l' := fun x hx => h x (hs x hx)
theorem Uni.flat {sz : Nat} {l : List E} (h : Uni sz l) : (flat l).length = l.length * sz := by
  induction l with
  | nil => simp
  | cons e l ih =>
    simp only [flat_cons, List.length_append, List.length_cons]
    rw [h e (by simp), ih fun x hx => h x (by simp [hx]), Nat.add_mul]
    omega
/-- element i's cells -/
theorem Uni.at_ {sz : Nat} : ∀ {l : List E} {i : Nat} {e : E}, Uni sz l → l[i]? = some e → ∀ j, j < sz → (Go.Av.flat l)[i * sz + j]? = e.cells[j]?
  | [], i, e, _, hi, j, hj => by simp at hi
  | x :: l, 0, e, h, hi, j, hj => by
    simp at hi; subst hi
    simp only [flat_cons, Nat.zero_mul, Nat.zero_add]
    rw [List.getElem?_append_left (by rw [h x (by simp)]; exact hj)]
  | x :: l, i + 1, e, h, hi, j, hj => by
    simp at hi
    have := Uni.at_ (l := l) (fun x hx => h x (by simp [hx])) hi j hj
    rw [flat_cons, List.getElem?_append_right (by rw [h x (by simp), Nat.add_mul]; omega), h x (by simp), Nat.add_mul]
    rw [← this]; congr 1; omega
theorem Uni.drop_flat {sz : Nat} : ∀ {l : List E} (k : Nat), Uni sz l → Go.Av.flat (l.drop k) = (Go.Av.flat l).drop (k * sz)
  | l, 0, h => by simp
  | [], k + 1, h => by simp
  | x :: l, k + 1, h => by
    rw [List.drop_succ_cons, flat_cons, Uni.drop_flat k (fun x hx => h x (by simp [hx])), Nat.add_mul, Nat.one_mul, Nat.add_comm, ← List.drop_drop]
    congr 1
    rw [List.drop_append_of_le_length (by rw [h x (by simp)]; exact Nat.le_refl _), List.drop_of_length_le (by rw [h x (by simp)]; exact Nat.le_refl _), List.nil_append]
theorem Uni.take_flat {sz : Nat} : ∀ {l : List E} (k : Nat), Uni sz l → Go.Av.flat (l.take k) = (Go.Av.flat l).take (k * sz)
  | l, 0, h => by simp
  | [], k + 1, h => by simp
  | x :: l, k + 1, h => by
    have hx := h x (by simp)
    rw [List.take_succ_cons, flat_cons, flat_cons, Uni.take_flat k (fun x hx => h x (by simp [hx])), Nat.add_mul, Nat.one_mul, List.take_append, hx, List.take_of_length_le (l := x.cells) (by rw [hx]; omega), show k * sz + sz - sz = k * sz from by omega]

section
variable {P : Program} {Q : X → St → Prop} {n : Nat} {ee : Nat × Nat} {tm : List (Nat × D)} {bx bx' : List (List D)} {fr fr' : List Fr} {b0 : Bs} {g : G} {w : World} {a : Act} {T : Tab}
variable {ops : Array Oper} {rest : List Oper} {t ty : Nat} {pos : String} {after : Array Edge}
def G.row (g : G) (w : World) (m cap : Nat) : G := ⟨fun b o => g.C b o ∨ (b = w.heap.size ∧ o < m), g.ρ, g.τ ++ [(w.heap.size, cap)]⟩
/-- a new row of which the first cells settle -/
theorem Mem.row [Known] (hm : Mem g bx fr w) (cur : List Value) (l : List E) (cap sz : Nat) (e : TypeId) (hsz : 0 < sz) (hcur : cur.length = cap * sz) (hl : l.length ≤ cap) (hcap : cap ≤ maxLen) (hU : Uni sz l)
    (hv : ∀ (j : Nat) (x : E) (u : Value), (flat l)[j]? = some x → cur[j]? = some u → VE w g.C x u) :
    Evo ⟨g, fr, w⟩ ⟨g.row w (l.length * sz) cap, fr ++ [⟨l.length, sz, e⟩], w.alloc (.cells cur.toArray e)⟩ ∧ Mem (g.row w (l.length * sz) cap) bx (fr ++ [⟨l.length, sz, e⟩]) (w.alloc (.cells cur.toArray e)) ∧
      V (w.alloc (.cells cur.toArray e)) (g.row w (l.length * sz) cap) (fr ++ [⟨l.length, sz, e⟩]) (.sl (.own fr.length) l) (.slice (some ⟨w.heap.size, 0, none⟩) l.length cap) := by
  have hevo : Evo ⟨g, fr, w⟩ ⟨g.row w (l.length * sz) cap, fr ++ [⟨l.length, sz, e⟩], w.alloc (.cells cur.toArray e)⟩ := by
    refine ⟨rfl, rfl, rfl, by simp, fun k hk _ => Below.heap_alloc w _ k hk, fun _ _ h => .inl h, fun k o h => cell_alloc w _ (hm.Clt k o h) o, fun k o h => ?_, fun _ _ h => h, fun _ h => .inl h, fun k c h => ?_, fun i f hf => ?_⟩
    · rcases h with h | ⟨h, _⟩
      · exact .inl h
      · exact .inr (.inl (by simp [h]))
    · rcases List.mem_append.1 h with h | h
      · exact .inl ⟨c, h⟩
      · simp at h; exact .inr (by simp [h.1])
    · have hlt := (List.getElem?_eq_some_iff.1 hf).1
      refine ⟨f, by rw [List.getElem?_append_left hlt]; exact hf, Nat.le_refl _, fun _ => ?_⟩
      show (g.τ ++ [(w.heap.size, cap)])[i]? = g.τ[i]?
      rw [List.getElem?_append_left (by rw [hm.tl]; exact hlt)]
  have hflat := hU.flat
  have hle : l.length * sz ≤ cap * sz := Nat.mul_le_mul_right _ hl
  have hnew : (w.alloc (.cells cur.toArray e)).heap[w.heap.size]? = some (.cells cur.toArray e (0, 0)) := heap_alloc_new w _
  have hτ : (g.τ ++ [(w.heap.size, cap)])[fr.length]? = some (w.heap.size, cap) := by
    rw [List.getElem?_append_right (by rw [hm.tl]; exact Nat.le_refl _), hm.tl]; simp
  refine ⟨hevo, ?_, ?_⟩
  · constructor
    · exact hm.bl
    · intro i k cs h1 h2
      obtain ⟨us, ut, k1, k2, k3⟩ := hm.bat i k cs h1 h2
      exact ⟨us, ut, (Below.heap_alloc w _ k (Array.getElem?_eq_some_iff.1 k1).1).trans k1, k2, fun j d v hd hv => (k3 j d v hd hv).evo hevo⟩
    · intro k o hk hC
      rcases hC with hC | ⟨hC, _⟩
      · exact hm.bC k o hk hC
      · have := hm.lt (.inl hk); omega
    · exact hm.bN
    · simp [G.row, hm.tl]
    · intro i k c f h1 h2
      rcases Nat.lt_or_ge i fr.length with hlt | hge
      · have h1 : g.τ[i]? = some (k, c) := by
          have := h1; simp only [G.row] at this
          rwa [List.getElem?_append_left (by rw [hm.tl]; exact hlt)] at this
        rw [List.getElem?_append_left hlt] at h2
        have hTk := hm.tat i k c f h1 h2
        obtain ⟨cur', s1, s2⟩ := hTk.row
        have hklt := (Array.getElem?_eq_some_iff.1 s1).1
        refine ⟨⟨cur', (Below.heap_alloc w _ k hklt).trans s1, s2⟩, hTk.le, hTk.max, hTk.pos, fun o ho hC => ?_⟩
        rcases hC with hC | ⟨hC, _⟩
        · exact hTk.far o ho hC
        · omega
      · have hi : i = fr.length := by
          have := (List.getElem?_eq_some_iff.1 h2).1; simp at this; omega
        subst hi
        simp only [G.row] at h1
        rw [hτ] at h1
        injection h1 with h1
        injection h1 with h1 h3
        subst h1 h3
        rw [List.getElem?_append_right (Nat.le_refl _)] at h2
        simp at h2; subst h2
        refine ⟨⟨cur.toArray, hnew, by simpa using hcur⟩, hl, hcap, hsz, fun o ho hC => ?_⟩
        rcases hC with hC | ⟨_, hC⟩
        · have := hm.Clt _ o hC; omega
        · have ho : l.length * sz ≤ o := ho
          omega
    · intro i j k c c' h1 h2
      have hget : ∀ (i : Nat) (c : Nat), (g.row w (l.length * sz) cap).τ[i]? = some (k, c) → g.τ[i]? = some (k, c) ∨ (i = g.τ.length ∧ k = w.heap.size) := fun i c h => by
        simp only [G.row] at h
        rcases Nat.lt_or_ge i g.τ.length with hlt | hge
        · rw [List.getElem?_append_left hlt] at h; exact .inl h
        · have := (List.getElem?_eq_some_iff.1 h).1
          simp at this
          have hi : i = g.τ.length := by omega
          subst hi
          rw [List.getElem?_append_right (Nat.le_refl _)] at h
          simp at h
          exact .inr ⟨rfl, h.1.symm⟩
      have cross : ∀ (i c : Nat), g.τ[i]? = some (k, c) → k = w.heap.size → False := fun i c h3 e => by
        have := hm.lt (.inr ⟨c, List.mem_of_getElem? h3⟩); omega
      rcases hget i c h1 with h3 | ⟨e3, h3⟩ <;> rcases hget j c' h2 with h4 | ⟨e4, h4⟩
      · exact hm.tN i j k c c' h3 h4
      · exact (cross i c h3 h4).elim
      · exact (cross j c' h4 h3).elim
      · omega
    · intro k c hk hr
      rcases List.mem_append.1 hk with h | h
      · exact hm.tρ k c h hr
      · simp at h
        have := hm.lt (.inl hr); omega
    · intro k o hC
      rcases hC with hC | ⟨hC, _⟩
      · have := hm.Clt k o hC; simp; omega
      · simp [hC]
    · exact hm.gl.evo hevo
  · have hVE : VE (w.alloc (.cells cur.toArray e)) (g.row w (l.length * sz) cap).C (.sl l) (.slice (some ⟨w.heap.size, 0, none⟩) l.length cap) := by
      refine .slC l w.heap.size 0 cap (fun j => cur.getD j undef) hl hcap (fun j hj => .inr ⟨rfl, by rw [hflat] at hj; omega⟩) (fun j hj => ?_) (fun j x hx => ?_)
      · rw [cell_of_row _ _ _ _ _ _ hnew]
        have : j < cur.length := by omega
        simp [List.getD, this]
      · have hj := (List.getElem?_eq_some_iff.1 hx).1
        have hlt : j < cur.length := by omega
        refine (hv j x _ hx (by rw [List.getElem?_eq_getElem hlt]; simp [List.getD, hlt])).mono (fun _ _ h => .inl h) fun k o h => cell_alloc w _ (hm.Clt k o h) o
    refine .sl _ _ _ hVE ?_
    refine ⟨⟨l.length, sz, e⟩, by simp, Nat.le_refl _, fun _ => ⟨w.heap.size, cap, rfl, hτ⟩⟩
end
end Go.Av
end
/- More operations: slices built, read, cut; structs built. -/
section
open Go.RowKit Go.Pl
namespace Go.Av
set_option linter.unusedSimpArgs false
set_option linter.unusedVariables false
theorem foldl_set : ∀ (l : List Value) (k off : Nat) (cs : Array Value), off + k + l.length ≤ cs.size →
    ((l.zipIdx k).foldl (fun (cs : Array Value) (p : Value × Nat) => cs.setIfInBounds (off + p.2) p.1) cs).toList = cs.toList.take (off + k) ++ (l ++ cs.toList.drop (off + k + l.length))
  | [], k, off, cs, _ => by simp
  | v :: l, k, off, cs, h => by
    have h' : off + k < cs.size := by simp at h; omega
    have hl : off + (k + 1) + l.length ≤ (cs.setIfInBounds (off + k) v).size := by simp at h ⊢; omega
    have ih := foldl_set l (k + 1) off (cs.setIfInBounds (off + k) v) hl
    rw [List.zipIdx_cons, List.foldl_cons, ih]
    simp only [Array.toList_setIfInBounds, List.length_cons]
    rw [List.drop_set_of_lt (by omega), List.take_set, show off + (k + 1) = off + k + 1 from by omega, List.take_succ_eq_append_getElem (by simpa using h')]
    rw [List.set_append_right _ _ (by simp; omega)]
    simp only [List.length_take, Array.length_toList, Nat.min_eq_left (Nat.le_of_lt h'), Nat.sub_self, List.set_cons_zero, List.append_assoc, List.cons_append, List.nil_append]
    rw [show off + k + (l.length + 1) = off + k + 1 + l.length from by omega]
/-- one part laid -/
theorem fill_cons {place : Nat → Option (Nat × Nat)} {cells : Array Value} {i off size : Nat} {v : Value} {rest : List (Nat × Value)} {vs : List Value} (hp : place i = some (off, size)) (hv : v.cells = vs.toArray) (hs : vs.length = size) (hle : off + size ≤ cells.size) :
    ∃ cells' : Array Value, Instr.fill place cells ((i, v) :: rest) = Instr.fill place cells' rest ∧ cells'.toList = cells.toList.take off ++ (vs ++ cells.toList.drop (off + size)) := by
  refine ⟨_, ?_, foldl_set vs 0 off cells (by omega) |>.trans (by rw [hs]; rfl)⟩
  simp only [Instr.fill, hp, hv, List.size_toArray, hs]
  rw [if_neg (by simp; omega)]
  congr 1
  rw [← Array.foldl_toList]
  simp
/-- the parts of a slice, one behind the other -/
theorem fill_seq {sz : Nat} : ∀ (vs : List (List Value × Value)) (i : Nat) (cells : Array Value), (∀ p ∈ vs, p.2.cells = p.1.toArray ∧ p.1.length = sz) → cells.size = (i + vs.length) * sz →
    ∃ out : Array Value, Instr.fill (fun i => some (i * sz, sz)) cells ((vs.zipIdx i).map fun q => (q.2, q.1.2)) = some out ∧ out.toList = cells.toList.take (i * sz) ++ vs.flatMap (·.1)
  | [], i, cells, _, hs => ⟨cells, rfl, by simp at hs; rw [List.take_of_length_le (by simp; omega)]; simp⟩
  | p :: vs, i, cells, h, hs => by
    obtain ⟨h1, h2⟩ := h p (by simp)
    have hs' : cells.size = i * sz + sz + vs.length * sz := by rw [hs]; simp [Nat.add_mul]; omega
    obtain ⟨c', e1, e2⟩ := fill_cons (place := fun i => some (i * sz, sz)) (cells := cells) (i := i) (rest := (vs.zipIdx (i + 1)).map fun q => (q.2, q.1.2)) rfl h1 h2 (by omega)
    have hc' : c'.size = cells.size := by
      rw [← Array.length_toList, e2]; simp [h2]; omega
    obtain ⟨out, e3, e4⟩ := fill_seq vs (i + 1) c' (fun q hq => h q (by simp [hq])) (by rw [hc', hs', Nat.add_mul, Nat.add_mul]; omega)
    refine ⟨out, by rw [List.zipIdx_cons, List.map_cons, e1, e3], ?_⟩
    rw [e4, e2, List.flatMap_cons, Nat.add_mul, Nat.one_mul]
    rw [List.take_append, List.take_take, Nat.min_eq_right (by omega)]
    simp only [List.length_take, Array.length_toList, Nat.min_eq_left (show i * sz ≤ cells.size by omega), Nat.add_sub_cancel_left]
    rw [List.take_append, h2, List.take_of_length_le (l := p.1) (by omega), Nat.sub_self]
    simp
def D.toEl : List D → Option (List E)
  | [] => some []
  | d :: l => match d.toE, D.toEl l with
    | some e, some l' => some (e :: l')
    | _, _ => none
def uniB (sz : Nat) : List E → Bool
  | [] => true
  | e :: l => match Nat.beq e.cells.length sz with
    | true => uniB sz l
    | false => false
theorem uniB_ok {sz : Nat} : ∀ {l : List E}, uniB sz l = true → Uni sz l
  | [], _ => Uni.nil sz
  | e :: l, h => by
    simp only [uniB] at h
    cases hb : Nat.beq e.cells.length sz with
    | true => simp only [hb] at h; exact Uni.cons (Nat.eq_of_beq_eq_true hb) (uniB_ok h)
    | false => simp [hb] at h
section
variable {P : Program} {Q : X → St → Prop} {n : Nat} {ee : Nat × Nat} {tm : List (Nat × D)} {bx bx' : List (List D)} {fr fr' : List Fr} {b0 : Bs} {g : G} {w : World} {a : Act} {T : Tab}
variable {ops : Array Oper} {rest : List Oper} {t ty : Nat} {pos : String} {after : Array Edge}
theorem toEs_get : ∀ {l : List D} {es : List E}, D.toEs l = some es → l.length = es.length ∧ ∀ (j : Nat) (x : E), es[j]? = some x → ∃ d, l[j]? = some d ∧ d.toE1 = some x
  | [], es, h => by simp [D.toEs] at h; subst h; simp
  | d :: l, es, h => by
    cases hd : d.toE1 with
    | none => simp [D.toEs, hd] at h
    | some e =>
      cases hl : D.toEs l with
      | none => simp [D.toEs, hd, hl] at h
      | some es' =>
        simp [D.toEs, hd, hl] at h; subst h
        obtain ⟨h1, h2⟩ := toEs_get hl
        refine ⟨by simp [h1], fun j x hx => ?_⟩
        cases j with
        | zero => simp at hx; subst hx; exact ⟨d, rfl, hd⟩
        | succ j => simp at hx; simpa using h2 j x hx
/-- what lies down: cell by cell -/
theorem V.toE {d : D} {e : E} {v : Value} (h : V w g fr d v) (he : d.toE = some e) : ∃ vs : List Value, v.cells = vs.toArray ∧ vs.length = e.cells.length ∧ ∀ (j : Nat) (x : E) (u : Value), e.cells[j]? = some x → vs[j]? = some u → VE w g.C x u := by
  by_cases hd : ∃ l, d = .agg l
  · obtain ⟨l, rfl⟩ := hd
    obtain ⟨vs, rfl, h2, h3⟩ := agg_inv h
    simp only [D.toE, Option.map_eq_some_iff] at he
    obtain ⟨es, he, rfl⟩ := he
    obtain ⟨q1, q2⟩ := toEs_get he
    refine ⟨vs, rfl, by rw [h2, q1]; rfl, fun j x u hx hu => ?_⟩
    obtain ⟨d, hd, hx⟩ := q2 j x hx
    exact (h3 j d u hd hu).toE1 hx
  · have he1 : d.toE1 = some e := by cases d <;> first | exact he | exact (hd ⟨_, rfl⟩).elim
    have hv := h.toE1 he1
    have hc : e.cells = [e] := by cases e <;> first | rfl | exact hv.notAgg.elim
    rw [hc]
    refine ⟨[v], ?_, rfl, fun j x u hx hu => ?_⟩
    · cases hv <;> rfl
    · cases j with
      | zero => simp at hx hu; subst hx hu; exact hv
      | succ j => simp at hx
theorem toEl_get : ∀ {l : List D} {es : List E}, D.toEl l = some es → l.length = es.length ∧ ∀ (j : Nat) (d : D), l[j]? = some d → ∃ x, es[j]? = some x ∧ d.toE = some x
  | [], es, h => by simp [D.toEl] at h; subst h; simp
  | d :: l, es, h => by
    cases hd : d.toE with
    | none => simp [D.toEl, hd] at h
    | some e =>
      cases hl : D.toEl l with
      | none => simp [D.toEl, hd, hl] at h
      | some es' =>
        simp [D.toEl, hd, hl] at h; subst h
        obtain ⟨h1, h2⟩ := toEl_get hl
        refine ⟨by simp [h1], fun j x hx => ?_⟩
        cases j with
        | zero => simp at hx; subst hx; exact ⟨e, rfl, hd⟩
        | succ j => simp at hx; simpa using h2 j x hx
/-- the cells of many values, one behind the other -/
theorem rows_of {sz : Nat} : ∀ {ds : List D} {vs : List Value} {es : List E}, D.toEl ds = some es → vs.length = ds.length → (∀ (j : Nat) (d : D) (v : Value), ds[j]? = some d → vs[j]? = some v → V w g fr d v) → Uni sz es →
    ∃ rs : List (List Value × Value), rs.map (·.2) = vs ∧ (∀ p ∈ rs, p.2.cells = p.1.toArray ∧ p.1.length = sz) ∧ (rs.flatMap (·.1)).length = es.length * sz ∧ ∀ (j : Nat) (x : E) (u : Value), (flat es)[j]? = some x → (rs.flatMap (·.1))[j]? = some u → VE w g.C x u
  | [], [], es, h, _, _, _ => ⟨[], rfl, by simp, by simp [D.toEl] at h; subst h; simp, by simp⟩
  | d :: ds, v :: vs, es, h, hl, hv, hU => by
    cases hd : d.toE with
    | none => simp [D.toEl, hd] at h
    | some e =>
      cases hl' : D.toEl ds with
      | none => simp [D.toEl, hd, hl'] at h
      | some es' =>
        simp [D.toEl, hd, hl'] at h; subst h
        obtain ⟨us, q1, q2, q3⟩ := (hv 0 d v rfl rfl).toE hd
        have hsz : e.cells.length = sz := hU e (by simp)
        obtain ⟨rs, p1, p2, p3, p4⟩ := rows_of (sz := sz) hl' (by simpa using hl) (fun j d v h1 h2 => hv (j + 1) d v (by simpa using h1) (by simpa using h2)) (fun x hx => hU x (by simp [hx]))
        refine ⟨(us, v) :: rs, by simp [p1], fun p hp => ?_, ?_, fun j x u hx hu => ?_⟩
        · rcases List.mem_cons.1 hp with rfl | hp
          · exact ⟨q1, by rw [← hsz]; exact q2⟩
          · exact p2 p hp
        · simp only [List.flatMap_cons, List.length_append, List.length_cons, p3, q2, hsz, Nat.add_mul]; omega
        · simp only [flat_cons, List.flatMap_cons] at hx hu
          rcases Nat.lt_or_ge j sz with hj | hj
          · rw [List.getElem?_append_left (by rw [hsz]; exact hj)] at hx
            rw [List.getElem?_append_left (by rw [q2, hsz]; exact hj)] at hu
            exact q3 j x u hx hu
          · rw [List.getElem?_append_right (by rw [hsz]; exact hj), hsz] at hx
            rw [List.getElem?_append_right (by rw [q2, hsz]; exact hj), q2, hsz] at hu
            exact p4 _ x u hx hu
  | [], _ :: _, _, _, hl, _, _ => by simp at hl
  | _ :: _, [], _, _, hl, _, _ => by simp at hl
/-- a slice built: its row's cells -/
theorem bs_run [Known] [Dfr] (hT : chk P T = true) {st len e : Nat} {xs : List Operand} {ds : List D} {es : List E} {ti te : Ti} (ht : tl T st = some ti) (hk : ti.kd = .slice e) (hte : tl T e = some te) {parts : Array (Nat × Operand)} (hp : parts = ((xs.zipIdx 0).map fun q => (q.2, q.1)).toArray) (hlen : Nat.beq xs.length len = true)
    (hds : nfs (xs.map (ev tm)) = some ds) (hes : D.toEl ds = some es) (hU : uniB te.size es = true) (hpos : Nat.blt 0 te.size = true) (hsm : Nat.ble (len * te.size) 16777216 = true) (hi : Inv b0 ⟨n, tm, bx, fr, ee⟩ g a w) :
    ∃ cs : List Value, cs.length = len * te.size ∧ es.length = len ∧ len ≤ maxLen ∧ (∀ (j : Nat) (x : E) (u : Value), (flat es)[j]? = some x → cs[j]? = some u → VE w g.C x u) ∧
      (execOp a.eval ⟨some t, .buildSlice st len parts, ty, pos, after, none⟩).run P w = .ok (.value (.slice (some ⟨w.heap.size, 0, none⟩) len len)) (w.alloc (.cells cs.toArray e)) := by
  have hl := Nat.eq_of_beq_eq_true hlen
  have hsm := Nat.le_of_ble_eq_true hsm
  have hpos : 0 < te.size := by simpa [Nat.blt_eq] using hpos
  have hu := (tl_ok hT ht).slice hk
  have hds' := nfs_eq hds
  obtain ⟨hel, _⟩ := toEl_get hes
  have hdl : ds.length = xs.length := by rw [← hds']; simp
  obtain ⟨rs, r1, r2, r3, r4⟩ := rows_of (w := w) (g := g) (fr := fr) (sz := te.size) (vs := xs.map a.eval) hes (by rw [hdl]; simp) (fun j d v h1 h2 => by
    rw [← hds', List.getElem?_map] at h1
    rw [List.getElem?_map] at h2
    cases hx : xs[j]? with
    | none => simp [hx] at h1
    | some x => simp [hx] at h1 h2; subst h1 h2; exact hi.ev x) (uniB_ok hU)
  have hrl : rs.length = len := by rw [← hl]; have := congrArg List.length r1; simpa using this
  obtain ⟨z, hz1, hz2⟩ := (tl_ok hT hte).zero w
  obtain ⟨hzl, _⟩ := zks_ok (w := w) (g := g) (fr := fr) hz2
  have hparts : (parts.map fun (p : Nat × Operand) => (p.1, a.eval p.2)).toList = (rs.zipIdx 0).map fun q => (q.2, q.1.2) := by
    subst hp
    apply List.ext_getElem?
    intro j
    simp only [List.map_toArray, List.map_map, List.getElem?_map, List.getElem?_zipIdx, Nat.zero_add]
    have hj : (rs.map (·.2))[j]? = (xs.map a.eval)[j]? := by rw [r1]
    rw [List.getElem?_map, List.getElem?_map] at hj
    cases h1 : xs[j]? <;> cases h2 : rs[j]? <;> simp_all
  -- whatever stood there ahead is covered
  have key : ∀ cells : Array Value, cells.size = len * te.size → ∃ out : Array Value, Instr.fill (fun i => some (i * te.size, te.size)) cells (parts.map fun (p : Nat × Operand) => (p.1, a.eval p.2)).toList = some out ∧ out.toList = rs.flatMap (·.1) := fun cells hc => by
    obtain ⟨out, e1, e2⟩ := fill_seq rs 0 cells r2 (by rw [hc, hrl]; simp)
    exact ⟨out, by rw [hparts]; exact e1, by rw [e2]; simp⟩
  have hmul : (rs.flatMap (·.1)).length = len * te.size := by rw [r3, ← hel, hdl, hl]
  have hesl : es.length = len := by rw [← hel, hdl, hl]
  have hrun : (Instr.buildSlice st len (parts.map fun (p : Nat × Operand) => (p.1, a.eval p.2))).run P w = .ok (.slice (some ⟨w.heap.size, 0, none⟩) len len) (w.alloc (.cells (rs.flatMap (·.1)).toArray e)) := by
    have hsz := run_sizeOf (P := P) (t := e) (tl_ok hT hte).tSize w
    by_cases h0 : len * te.size = 0
    · obtain ⟨out, e1, e2⟩ := key #[] (by simp [h0])
      have : out = (rs.flatMap (·.1)).toArray := by rw [← e2]
      have hnil : (Array.range (len * te.size)).map (fun i => (#[] : Array Value)[i % (#[] : Array Value).size]!) = #[] := by rw [h0]; simp
      simp only [Instr.buildSlice, Sem.run_bind, run_underlying hu, Result.andThen_ok, hsz, if_neg (show ¬ len * te.size > 2 ^ 24 by omega), if_pos h0, Sem.run_pure, hnil, e1, this]
      rfl
    · obtain ⟨out, e1, e2⟩ := key ((Array.range (len * te.size)).map (z.cells[· % z.cells.size]!)) (by simp)
      have : out = (rs.flatMap (·.1)).toArray := by rw [← e2]
      simp only [Instr.buildSlice, Sem.run_bind, run_underlying hu, Result.andThen_ok, hsz, if_neg (show ¬ len * te.size > 2 ^ 24 by omega), if_neg h0, hz1, Sem.run_pure, e1, this]
      rfl
  refine ⟨rs.flatMap (·.1), hmul, hesl, by simp only [maxLen]; have := Nat.le_mul_of_pos_right len hpos; omega, r4, ?_⟩
  simp only [execOp, Sem.run_bind]
  rw [show (fun (x : Nat × Operand) => match x with | (i, x) => (i, a.eval x)) = fun (p : Nat × Operand) => (p.1, a.eval p.2) from rfl, hrun]
  rfl
theorem AL_buildSlice [Known] [Dfr] (hT : chk P T = true) {st len e : Nat} {xs : List Operand} {ds : List D} {es : List E} {ti te : Ti} {m : Nat} (ht : tl T st = some ti) (hk : ti.kd = .slice e) (hte : tl T e = some te) {parts : Array (Nat × Operand)} (hp : parts = ((xs.zipIdx 0).map fun q => (q.2, q.1)).toArray) (hlen : Nat.beq xs.length len = true)
    (hds : nfs (xs.map (ev tm)) = some ds) (hes : D.toEl ds = some es) (hU : uniB te.size es = true) (hpos : Nat.blt 0 te.size = true) (hsm : Nat.ble (len * te.size) 16777216 = true) (hm : fr.length = m) (hf : nfl (fr ++ [⟨len, te.size, e⟩]) = some fr') (htd : Nat.blt t n = true)
    (k : AL P ops rest ⟨n, (t, .sl (.own m) es) :: tm, bx, fr', ee⟩ Q) : AL P ops (⟨some t, .buildSlice st len parts, ty, pos, after, none⟩ :: rest) ⟨n, tm, bx, fr, ee⟩ Q :=
  AL_mem _ htd (fun g a w hi => by
    obtain ⟨cs, c1, c2, c3, c4, c5⟩ := bs_run (t := t) (ty := ty) (pos := pos) (after := after) hT ht hk hte hp hlen hds hes hU hpos hsm hi
    have hpos' : 0 < te.size := by simpa [Nat.blt_eq] using hpos
    obtain ⟨k1, k2, k3⟩ := hi.mem.row cs es len te.size e hpos' c1 (by omega) c3 (uniB_ok hU) c4
    rw [c2] at k1 k2 k3
    have e1 := nfl_eq hf
    subst e1 hm
    exact ⟨.slice (some ⟨w.heap.size, 0, none⟩) len len, _, _, c5, k1, k2, k3⟩) k
end
end Go.Av
end
/- Appends, said of abstract states. -/
section
open Go.RowKit Go.Pl
namespace Go.Av
set_option linter.unusedSimpArgs false
set_option linter.unusedVariables false
section
variable {P : Program} {Q : X → St → Prop} {n : Nat} {ee : Nat × Nat} {tm : List (Nat × D)} {bx bx' : List (List D)} {fr fr' : List Fr} {b0 : Bs} {g : G} {w : World} {a : Act} {T : Tab}
variable {ops : Array Oper} {rest : List Oper} {t ty : Nat} {pos : String} {after : Array Edge}
theorem VE.drew {C : Nat → Nat → Prop} {e : E} {v : Value} (h : VE w C e v) : VE w.drew C e v := h.mono (fun _ _ h => h) fun _ _ _ => rfl
theorem V.drew {d : D} {v : Value} (h : V w g fr d v) : V w.drew g fr d v := h.mono (fun _ _ h => h) (fun _ _ _ => rfl) (fun _ _ h => h) (TokOn.refl _ _)
theorem Mem.drew [Known] (hm : Mem g bx fr w) : Mem g bx fr w.drew where
  bl := hm.bl
  bat i k cs h1 h2 := by
    obtain ⟨vs, ty, q1, q2, q3⟩ := hm.bat i k cs h1 h2
    exact ⟨vs, ty, q1, q2, fun j d v hd hv => (q3 j d v hd hv).drew⟩
  bC := hm.bC
  bN := hm.bN
  tl := hm.tl
  tat i k c f h1 h2 := by
    have h := hm.tat i k c f h1 h2
    exact ⟨h.row, h.le, h.max, h.pos, h.far⟩
  tN := hm.tN
  tρ := hm.tρ
  Clt := hm.Clt
  gl := hm.gl
theorem Evo.drew : Evo ⟨g, fr, w⟩ ⟨g, fr, w.drew⟩ := ⟨rfl, rfl, rfl, Nat.le_refl _, fun _ _ _ => rfl, fun _ _ h => h, fun _ _ _ => rfl, fun _ _ h => .inl h, fun _ _ h => h, fun _ h => .inl h, fun _ c h => .inl ⟨c, h⟩, TokOn.refl _ _⟩
theorem mem_set {α : Type} {l : List α} {i : Nat} {x y : α} (h : y ∈ l.set i x) : y = x ∨ ∃ j, j ≠ i ∧ l[j]? = some y := by
  obtain ⟨j, hj⟩ := List.getElem?_of_mem h
  by_cases e : i = j
  · subst e
    have hlt : i < l.length := by have := (List.getElem?_eq_some_iff.1 hj).1; simpa using this
    rw [List.getElem?_set_self hlt] at hj
    injection hj with hj
    exact .inl hj.symm
  · rw [List.getElem?_set_ne e] at hj
    exact .inr ⟨j, fun h => e h.symm, hj⟩
/-- a token's row goes on at another block, or in its own: what both have in common -/
theorem Mem.retok [Known] (hm : Mem g bx fr w) {i blk cap blk' cap' : Nat} {f f' : Fr} {C' : Nat → Nat → Prop} {w' : World} (hτ : g.τ[i]? = some (blk, cap)) (hf : fr[i]? = some f) (hn : f.n < f'.n)
    (hb : blk' = blk ∨ blk' = w.heap.size) (hos : w'.os = w.os) (htape : w'.tape = w.tape) (hout : w'.output = w.output) (hsize : w.heap.size ≤ w'.heap.size) (hlt' : blk' < w'.heap.size)
    (hfar : ∀ k, k < w.heap.size → k ≠ blk' → w'.heap[k]? = w.heap[k]?)
    (hC : ∀ k o, C' k o ↔ (g.C k o ∨ (k = blk' ∧ o < f'.n * f'.sz)))
    (hold : ∀ o, g.C blk' o → w'.cell? ⟨blk', o, none⟩ = w.cell? ⟨blk', o, none⟩)
    (hT : ∃ cur, w'.heap[blk']? = some (.cells cur f'.e (0, 0)) ∧ cur.size = cap' * f'.sz) (hle : f'.n ≤ cap') (hmax : cap' ≤ maxLen) (hpos : 0 < f'.sz) (hfarC : ∀ o, f'.n * f'.sz ≤ o → ¬ g.C blk' o) :
    Evo ⟨g, fr, w⟩ ⟨⟨C', g.ρ, g.τ.set i (blk', cap')⟩, fr.set i f', w'⟩ ∧ Mem ⟨C', g.ρ, g.τ.set i (blk', cap')⟩ bx (fr.set i f') w' := by
  have hlt : i < g.τ.length := (List.getElem?_eq_some_iff.1 hτ).1
  have hltf : i < fr.length := (List.getElem?_eq_some_iff.1 hf).1
  have hMb : M g blk' ∨ w.heap.size ≤ blk' := by
    rcases hb with rfl | rfl
    · exact .inl (.inr ⟨cap, List.mem_of_getElem? hτ⟩)
    · exact .inr (Nat.le_refl _)
  have hcell : ∀ k o, g.C k o → w'.cell? ⟨k, o, none⟩ = w.cell? ⟨k, o, none⟩ := fun k o h => by
    by_cases e : k = blk'
    · subst e; exact hold o h
    · exact World.cell?_of_block (w := w) (hfar k (hm.Clt k o h) e)
  have hevo : Evo ⟨g, fr, w⟩ ⟨⟨C', g.ρ, g.τ.set i (blk', cap')⟩, fr.set i f', w'⟩ := by
    refine ⟨hos, htape, hout, hsize, fun k hk hn => hfar k hk fun e => ?_, fun k o h => (hC k o).2 (.inl h), hcell, fun k o h => ?_, fun _ _ h => h, fun _ h => .inl h, fun k c h => ?_, fun j fj hj => ?_⟩
    · subst e
      rcases hMb with h | h
      · exact hn h
      · have : w.heap.size ≤ k := h
        have hk : k < w.heap.size := hk
        omega
    · rcases (hC k o).1 h with h | ⟨rfl, _⟩
      · exact .inl h
      · rcases hMb with h | h
        · exact .inr (.inr h)
        · exact .inr (.inl h)
    · rcases mem_set h with h | ⟨j, _, h⟩
      · injection h with h1 h2
        subst h1
        rcases hb with rfl | rfl
        · exact .inl ⟨cap, List.mem_of_getElem? hτ⟩
        · exact .inr (Nat.le_refl _)
      · exact .inl ⟨c, List.mem_of_getElem? h⟩
    · by_cases e : i = j
      · subst e
        rw [hf] at hj; injection hj with hj; subst hj
        exact ⟨f', List.getElem?_set_self hltf, Nat.le_of_lt hn, fun e => by omega⟩
      · exact ⟨fj, by rw [List.getElem?_set_ne e]; exact hj, Nat.le_refl _, fun _ => List.getElem?_set_ne e⟩
  refine ⟨hevo, ?_⟩
  have hρ : blk' ∉ g.ρ := fun h => by
    rcases hb with rfl | rfl
    · exact hm.tρ _ _ (List.mem_of_getElem? hτ) h
    · have := hm.lt (.inl h); omega
  have hτn : ∀ (j c : Nat), j ≠ i → g.τ[j]? = some (blk', c) → False := fun j c hji hj => by
    rcases hb with rfl | rfl
    · exact hji (hm.tN j i _ c cap hj hτ)
    · have := hm.lt (.inr ⟨c, List.mem_of_getElem? hj⟩); omega
  constructor
  · exact hm.bl
  · intro j k cs h1 h2
    obtain ⟨vs, ty, q1, q2, q3⟩ := hm.bat j k cs h1 h2
    have hne : k ≠ blk' := fun e => hρ (e ▸ List.mem_of_getElem? h1)
    exact ⟨vs, ty, (hfar k (Array.getElem?_eq_some_iff.1 q1).1 hne).trans q1, q2, fun j d v hd hv => (q3 j d v hd hv).evo hevo⟩
  · intro k o hk h
    rcases (hC k o).1 h with h | ⟨rfl, _⟩
    · exact hm.bC k o hk h
    · exact hρ hk
  · exact hm.bN
  · simp [hm.tl]
  · intro j k c fj h1 h2
    by_cases e : i = j
    · subst e
      have h1 : (g.τ.set i (blk', cap'))[i]? = some (k, c) := h1
      rw [List.getElem?_set_self hlt] at h1
      injection h1 with h1
      injection h1 with h1 h3
      subst h1 h3
      rw [List.getElem?_set_self hltf] at h2
      injection h2 with h2
      subst h2
      refine ⟨hT, hle, hmax, hpos, fun o ho h => ?_⟩
      rcases (hC _ o).1 h with h | ⟨_, h⟩
      · exact hfarC o ho h
      · omega
    · have h1x : (g.τ.set i (blk', cap'))[j]? = some (k, c) := h1
      clear h1
      rw [List.getElem?_set_ne e] at h1x h2
      have hTk := hm.tat j k c fj h1x h2
      obtain ⟨cur, s1, s2⟩ := hTk.row
      have hne : k ≠ blk' := fun e' => by subst e'; exact hτn j c (Ne.symm e) h1x
      refine ⟨⟨cur, (hfar k (Array.getElem?_eq_some_iff.1 s1).1 hne).trans s1, s2⟩, hTk.le, hTk.max, hTk.pos, fun o ho h => ?_⟩
      rcases (hC k o).1 h with h | ⟨h, _⟩
      · exact hTk.far o ho h
      · exact hne h
  · intro x y k c c' h1 h2
    have hget : ∀ (x c : Nat), (g.τ.set i (blk', cap'))[x]? = some (k, c) → (x = i ∧ k = blk') ∨ (x ≠ i ∧ g.τ[x]? = some (k, c)) := fun x c h => by
      by_cases e : i = x
      · subst e
        rw [List.getElem?_set_self hlt] at h
        injection h with h
        injection h with h
        exact .inl ⟨rfl, h.symm⟩
      · rw [List.getElem?_set_ne e] at h
        exact .inr ⟨Ne.symm e, h⟩
    rcases hget x c h1 with ⟨rfl, h3⟩ | ⟨hx, h3⟩ <;> rcases hget y c' h2 with ⟨rfl, h4⟩ | ⟨hy, h4⟩
    · rfl
    · subst h3; exact (hτn y c' hy h4).elim
    · subst h4; exact (hτn x c hx h3).elim
    · exact hm.tN x y k c c' h3 h4
  · intro k c hk hr
    rcases mem_set hk with h | ⟨j, _, h⟩
    · injection h with h1 h2
      subst h1
      exact hρ hr
    · exact hm.tρ k c (List.mem_of_getElem? h) hr
  · intro k o h
    rcases (hC k o).1 h with h | ⟨rfl, _⟩
    · have := hm.Clt k o h
      omega
    · exact hlt'
  · exact hm.gl.evo hevo
/-- what is appended -/
theorem news_of {l : List E} {sz : Nat} {v : Value} (h : VE w g.C (.sl l) v) (hU : Uni sz l) (hne : l ≠ []) : ∃ (ad : Addr) (c : Nat) (news : List Value), v = .slice (some ad) l.length c ∧ news.length = l.length * sz ∧ (∀ j u, news[j]? = some u → w.cell? (ad.add j) = some u) ∧ (∀ u ∈ news, u.oneCell' = true) ∧
    ∀ (j : Nat) (x : E) (u : Value), (flat l)[j]? = some x → news[j]? = some u → VE w g.C x u := by
  generalize hq : E.sl l = q at h
  cases h with
  | slC l' b off cap us h1 h2 hc hw hv =>
    injection hq with hq; subst hq
    have hfl := hU.flat
    have hnj : ∀ (j : Nat) (u : Value), ((List.range (l.length * sz)).map us)[j]? = some u → j < l.length * sz ∧ u = us j := fun j u hu => by
      rw [List.getElem?_map] at hu
      cases hj : (List.range (l.length * sz))[j]? with
      | none => simp [hj] at hu
      | some j' =>
        obtain ⟨q1, q2⟩ := List.getElem?_eq_some_iff.1 hj
        simp at q1 q2
        subst q2
        simp [hj] at hu
        exact ⟨q1, hu.symm⟩
    refine ⟨⟨b, off, none⟩, cap, (List.range (l.length * sz)).map us, rfl, by simp, fun j u hu => ?_, fun u hu => ?_, fun j x u hx hu => ?_⟩
    · obtain ⟨q1, rfl⟩ := hnj j u hu
      rw [Addr.add_mid]
      exact hw j (by omega)
    · obtain ⟨j, hj⟩ := List.getElem?_of_mem hu
      obtain ⟨q1, rfl⟩ := hnj j u hj
      have : j < (flat l).length := by omega
      exact (hv j _ (List.getElem?_eq_getElem this)).one
    · obtain ⟨q1, rfl⟩ := hnj j u hu
      exact hv j x hx
  | slE A cap h => injection hq with hq; exact (hne hq).elim
  | _ => cases hq
theorem sl_inv {tk : Tok} {l : List E} {v : Value} (h : V w g fr (.sl tk l) v) : VE w g.C (.sl l) v ∧ TokOk g fr tk l.length v := by cases h; exact ⟨‹_›, ‹_›⟩
/-- what an old row read as, cell by cell -/
theorem VE.old {l : List E} {sz blk cap : Nat} (h : VE w g.C (.sl l) (.slice (some ⟨blk, 0, none⟩) l.length cap)) (hU : Uni sz l) : (∀ o, o < l.length * sz → g.C blk o) ∧ ∀ (j : Nat) (x : E) (u : Value), (flat l)[j]? = some x → w.cell? ⟨blk, j, none⟩ = some u → VE w g.C x u := by
  have hfl := hU.flat
  generalize hq : E.sl l = q at h
  generalize hs : Value.slice (some ⟨blk, 0, none⟩) l.length cap = s at h
  cases h with
  | slC l' b off cap us h1 h2 hc hw hv =>
    injection hq with hq; subst hq
    injection hs with e1 e2 e3
    injection e1 with e1
    injection e1 with e1 e4
    subst e1 e4
    refine ⟨fun o ho => by have := hc o (by omega); simpa using this, fun j x u hx hu => ?_⟩
    have hj := (List.getElem?_eq_some_iff.1 hx).1
    have := hw j hj
    rw [Nat.zero_add, hu] at this
    injection this with this
    rw [this]
    exact hv j x hx
  | slE A cap h =>
    injection hq with hq; subst hq
    exact ⟨fun o ho => by simp at ho, fun j x u hx => by simp at hx⟩
  | _ => cases hq
theorem AL_append [Known] [Dfr] (hT : chk P T = true) {x y : Operand} {st e i : Nat} {l l' : List E} {tk : Tok} {ti te : Ti} {f : Fr} (ht : tl T st = some ti) (hk : ti.kd = .slice e) (hte : tl T e = some te) (hx : ev tm x = .sl (.own i) l) (hy : ev tm y = .sl tk l')
    (hf : fr[i]? = some f) (hfn : f.n = l.length) (hfs : f.sz = te.size) (hfe : f.e = e) (hU : Uni te.size l) (hU' : Uni te.size l') (hne : l' ≠ []) (hlen : l.length + l'.length ≤ maxLen) (hby : (l.length + l'.length) * te.bytes ≤ 140737488355328)
    (hfr : nfl (fr.set i ⟨l.length + l'.length, te.size, e⟩) = some fr') (htd : Nat.blt t n = true)
    (k : AL P ops rest ⟨n, (t, .sl (.own i) (l ++ l')) :: tm, bx, fr', ee⟩ Q) : AL P ops (⟨some t, .call { callee := .builtin .append, args := #[x, y], argTypes := #[st, st] }, ty, pos, after, none⟩ :: rest) ⟨n, tm, bx, fr, ee⟩ Q :=
  AL_mem _ htd (fun g a w hi => by
    have h1 : V w g fr (ev tm x) (a.eval x) := hi.ev x
    have h2 : V w g fr (ev tm y) (a.eval y) := hi.ev y
    rw [hx] at h1
    rw [hy] at h2
    obtain ⟨a1, a2⟩ := sl_inv h1
    obtain ⟨b1, _⟩ := sl_inv h2
    obtain ⟨ad, c, news, hyv, n1, n2, n3, n4⟩ := news_of b1 hU' hne
    have hpos' : 0 < l'.length := List.length_pos_iff.2 hne
    obtain ⟨f', hf', _, hfv⟩ := a2
    rw [hf] at hf'; injection hf' with hf'; subst hf'
    obtain ⟨blk, cap, hxv, hτ⟩ := hfv hfn
    have hm := hi.mem
    have hTk := hm.tat i blk cap f hτ hf
    obtain ⟨cur, s1, s2⟩ := hTk.row
    rw [hfe] at s1
    rw [hfs] at s2
    have hle := hTk.le
    rw [hfn] at hle
    have hpos := hTk.pos
    rw [hfs] at hpos
    have hmax := hTk.max
    have hblk : blk < w.heap.size := (Array.getElem?_eq_some_iff.1 s1).1
    have hu := (tl_ok hT ht).slice hk
    obtain ⟨ie, ue, z, i1, i2, i3, i4, i5, i6, i7⟩ := (tl_ok hT hte).out
    rw [hxv] at a1
    obtain ⟨o1, o2⟩ := a1.old hU
    have hz := (zks_ok (w := w) (g := g) (fr := fr) i7).1
    -- the cells of old
    have hcurle : l.length * te.size ≤ cur.size := by rw [s2]; exact Nat.mul_le_mul_right _ hle
    have olds : (cur.toList.take (l.length * te.size)).length = l.length * ie.size := by rw [← i5]; simp; omega
    have oget : ∀ (j : Nat) (u : Value), (cur.toList.take (l.length * te.size))[j]? = some u → w.cell? ⟨blk, j, none⟩ = some u := fun j u hu => by
      rw [cell_of_row w blk j cur e (0, 0) s1]
      have : j < l.length * te.size ∧ cur[j]? = some u := by simpa [List.getElem?_take] using hu
      exact this.2
    have hflat := hU.flat
    have hnew : ∀ (j : Nat) (x : E) (u : Value), (flat (l ++ l'))[j]? = some x → (cur.toList.take (l.length * te.size) ++ news)[j]? = some u → VE w g.C x u := fun j x u hx hu => by
      rw [flat_append] at hx
      have hl2 : (cur.toList.take (l.length * te.size)).length = l.length * te.size := by simp; omega
      rcases Nat.lt_or_ge j (l.length * te.size) with hj | hj
      · rw [List.getElem?_append_left (by omega)] at hx
        rw [List.getElem?_append_left (by omega)] at hu
        exact o2 j x u hx (oget j u hu)
      · rw [List.getElem?_append_right (by omega), hflat] at hx
        rw [List.getElem?_append_right (by omega), hl2] at hu
        exact n4 _ x u hx hu
    have hll : (l ++ l').length = l.length + l'.length := List.length_append
    have hUU := hU.append hU'
    have hmul : (l.length + l'.length) * te.size = l.length * te.size + l'.length * te.size := Nat.add_mul _ _ _
    have hltr : i < fr.length := (List.getElem?_eq_some_iff.1 hf).1
    have hltτ : i < g.τ.length := by rw [hm.tl]; exact hltr
    rw [← nfl_eq hfr]
    by_cases hroom : l.length + l'.length ≤ cap
    · -- in place
      have hfit : l.length * ie.size + news.length ≤ cur.size := by rw [n1, ← i5, s2, ← Nat.add_mul]; exact Nat.mul_le_mul_right _ hroom
      have hr := run_append_room (P := P) w st ty e ie hu i1 blk l.length cap cur s1 ad l'.length c news (by rw [← i5]; exact n1) n2 n3 hroom hfit
      obtain ⟨w', hw'⟩ : ∃ w', w' = w.setRow blk (cur.toList.take (l.length * ie.size) ++ news ++ cur.toList.drop (l.length * ie.size + news.length)).toArray := ⟨_, rfl⟩
      rw [← hw'] at hr
      rw [← i5] at hw' hfit
      have hheap : w'.heap[blk]? = some (.cells (cur.toList.take (l.length * te.size) ++ news ++ cur.toList.drop (l.length * te.size + news.length)).toArray e (0, 0)) := by
        rw [hw']; exact setRow_heap w blk cur _ e _ s1
      have hsz : w'.heap.size = w.heap.size := by rw [hw']; simp [World.setRow]
      have hl2 : (cur.toList.take (l.length * te.size)).length = l.length * te.size := by simp; omega
      have hcl : ∀ j, j < l.length * te.size + news.length → w'.cell? ⟨blk, j, none⟩ = (cur.toList.take (l.length * te.size) ++ news)[j]? := fun j hj => by
        rw [cell_of_row w' blk j _ _ _ hheap]
        simp only [List.getElem?_toArray]
        rw [List.getElem?_append_left (by simp only [List.length_append, hl2]; exact hj)]
      obtain ⟨k1, k2⟩ := hm.retok (i := i) (blk' := blk) (cap' := cap) (f := f) (f' := ⟨l.length + l'.length, te.size, e⟩) (C' := fun k o => g.C k o ∨ (k = blk ∧ o < (l.length + l'.length) * te.size)) (w' := w') hτ hf (by dsimp only; omega) (.inl rfl)
        (by rw [hw']; rfl) (by rw [hw']; rfl) (by rw [hw']; rfl) (by rw [hsz]; exact Nat.le_refl _) (by rw [hsz]; exact hblk)
        (fun k hk hne => by rw [hw']; simp only [World.setRow, Array.getElem?_modify]; rw [if_neg (fun e => hne e.symm)])
        (fun k o => Iff.rfl)
        (fun o ho => by
          have hlt : o < l.length * te.size := by
            rcases Nat.lt_or_ge o (l.length * te.size) with h | h
            · exact h
            · exact (hTk.far o (by rw [hfn, hfs]; exact h) ho).elim
          rw [hcl o (by omega), List.getElem?_append_left (by omega), List.getElem?_take, if_pos hlt, cell_of_row w blk o cur e (0, 0) s1]
          simp)
        ⟨_, hheap, by simp only [List.size_toArray, List.length_append, hl2, List.length_drop, Array.length_toList, n1]; rw [n1] at hfit; omega⟩ hroom hmax hpos
        (fun o ho hC => hTk.far o (by rw [hfn, hfs]; dsimp only at ho; omega) hC)
      refine ⟨.slice (some ⟨blk, 0, none⟩) (l.length + l'.length) cap, w', _, by simp only [execOp, resolve, invoke, builtin, Sem.run_bind, Sem.run_pure, Result.andThen_ok, List.map_toArray, List.map_cons, List.map_nil, hxv, hyv, hr], k1, k2, ?_⟩
      refine .sl _ _ _ ?_ ⟨⟨l.length + l'.length, te.size, e⟩, List.getElem?_set_self hltr, by rw [hll]; exact Nat.le_refl _, fun _ => ⟨blk, cap, by rw [hll], List.getElem?_set_self hltτ⟩⟩
      have hfl2 : (flat (l ++ l')).length = l.length * te.size + news.length := by rw [hUU.flat, hll, n1, hmul]
      suffices hVE : VE w' (fun k o => g.C k o ∨ (k = blk ∧ o < (l.length + l'.length) * te.size)) (.sl (l ++ l')) (.slice (some ⟨blk, 0, none⟩) (l ++ l').length cap) by rw [hll] at hVE; exact hVE
      refine .slC _ blk 0 cap (fun j => (cur.toList.take (l.length * te.size) ++ news).getD j undef) (by rw [hll]; exact hroom) hmax (fun j hj => .inr ⟨rfl, by rw [hfl2, n1] at hj; rw [hmul]; omega⟩) (fun j hj => ?_) (fun j x hx => ?_)
      · rw [hfl2] at hj
        rw [Nat.zero_add, hcl j hj]
        exact getD_some (by simp only [List.length_append, hl2]; exact hj)
      · have hj := (List.getElem?_eq_some_iff.1 hx).1
        rw [hfl2] at hj
        exact (hnew j x _ hx (getD_some (by simp only [List.length_append, hl2]; exact hj))).mono k1.C k1.cell
    · -- copied
      have hr := run_append_grow (P := P) w st ty e ie z hu i1 i3 ⟨blk, 0, none⟩ l.length cap (cur.toList.take (l.length * te.size)) olds (fun j u hu => by rw [Addr.add_mid, Nat.zero_add]; exact oget j u hu) ad l'.length c news (by rw [← i5]; exact n1) n2 (by omega) (by simp only [maxLen] at hlen; omega) (growslice_fits (by omega) (by rw [← i6]; exact hby))
      have hge := grownCap_ge w (l.length + l'.length) cap e
      have hcm := grownCap_le_maxLen w (l.length + l'.length) cap e hlen
      obtain ⟨C2, hC2⟩ : ∃ C2, C2 = grownCap w (l.length + l'.length) cap e := ⟨_, rfl⟩
      rw [← hC2] at hr hge hcm
      have hl2 : (cur.toList.take (l.length * te.size)).length = l.length * te.size := by simp; omega
      have hcurr : (cur.toList.take (l.length * te.size)).toArray ++ news.toArray ++ Builtin.zeroCells z.cells (C2 - (l.length + l'.length)) = (cur.toList.take (l.length * te.size) ++ news ++ (Builtin.zeroCells z.cells (C2 - (l.length + l'.length))).toList).toArray := by simp
      rw [hcurr] at hr
      obtain ⟨rest', hrest⟩ : ∃ rest', rest' = (Builtin.zeroCells z.cells (C2 - (l.length + l'.length))).toList := ⟨_, rfl⟩
      have hzc : z.cells.size = ie.size := by
        have := i7; rw [← Array.length_toList, hz, ← i5]
        exact (tl_zero hT hte).symm
      have hrl : rest'.length = (C2 - (l.length + l'.length)) * te.size := by rw [hrest, Array.length_toList, size_zeroCells, hzc, ← i5]
      rw [← hrest] at hr
      have hheap : (w.drew.alloc (.cells (cur.toList.take (l.length * te.size) ++ news ++ rest').toArray e)).heap[w.heap.size]? = some (.cells (cur.toList.take (l.length * te.size) ++ news ++ rest').toArray e (0, 0)) := heap_alloc_new w.drew _
      have hcl : ∀ j, j < l.length * te.size + news.length → (w.drew.alloc (.cells (cur.toList.take (l.length * te.size) ++ news ++ rest').toArray e)).cell? ⟨w.heap.size, j, none⟩ = (cur.toList.take (l.length * te.size) ++ news)[j]? := fun j hj => by
        rw [cell_of_row _ w.heap.size j _ _ _ hheap]
        simp only [List.getElem?_toArray]
        rw [List.getElem?_append_left (by simp only [List.length_append, hl2]; exact hj)]
      obtain ⟨k1, k2⟩ := hm.retok (i := i) (blk' := w.heap.size) (cap' := C2) (f := f) (f' := ⟨l.length + l'.length, te.size, e⟩) (C' := fun k o => g.C k o ∨ (k = w.heap.size ∧ o < (l.length + l'.length) * te.size)) (w' := w.drew.alloc (.cells (cur.toList.take (l.length * te.size) ++ news ++ rest').toArray e)) hτ hf (by dsimp only; omega) (.inr rfl)
        rfl rfl rfl (by simp) (by simp) (fun k hk _ => Below.heap_alloc w.drew _ k hk) (fun k o => Iff.rfl) (fun o ho => by have := hm.Clt _ o ho; omega)
        ⟨_, hheap, by simp only [List.size_toArray, List.length_append, hl2, n1, hrl, ← Nat.add_mul]; congr 1; omega⟩ hge hcm hpos (fun o _ hC => by have := hm.Clt _ o hC; omega)
      refine ⟨.slice (some ⟨w.heap.size, 0, none⟩) (l.length + l'.length) C2, _, _, by simp only [execOp, resolve, invoke, builtin, Sem.run_bind, Sem.run_pure, Result.andThen_ok, List.map_toArray, List.map_cons, List.map_nil, hxv, hyv, hr], k1, k2, ?_⟩
      refine .sl _ _ _ ?_ ⟨⟨l.length + l'.length, te.size, e⟩, List.getElem?_set_self hltr, by rw [hll]; exact Nat.le_refl _, fun _ => ⟨w.heap.size, C2, by rw [hll], List.getElem?_set_self hltτ⟩⟩
      have hfl2 : (flat (l ++ l')).length = l.length * te.size + news.length := by rw [hUU.flat, hll, n1, hmul]
      suffices hVE : VE (w.drew.alloc (.cells (cur.toList.take (l.length * te.size) ++ news ++ rest').toArray e)) (fun k o => g.C k o ∨ (k = w.heap.size ∧ o < (l.length + l'.length) * te.size)) (.sl (l ++ l')) (.slice (some ⟨w.heap.size, 0, none⟩) (l ++ l').length C2) by rw [hll] at hVE; exact hVE
      refine .slC _ w.heap.size 0 C2 (fun j => (cur.toList.take (l.length * te.size) ++ news).getD j undef) (by rw [hll]; exact hge) hcm (fun j hj => .inr ⟨rfl, by rw [hfl2, n1] at hj; rw [hmul]; omega⟩) (fun j hj => ?_) (fun j x hx => ?_)
      · rw [hfl2] at hj
        rw [Nat.zero_add, hcl j hj]
        exact getD_some (by simp only [List.length_append, hl2]; exact hj)
      · have hj := (List.getElem?_eq_some_iff.1 hx).1
        rw [hfl2] at hj
        exact (hnew j x _ hx (getD_some (by simp only [List.length_append, hl2]; exact hj))).mono k1.C k1.cell) k
/-- the first append to nil -/
theorem AL_append_nil [Known] [Dfr] (hT : chk P T = true) {x y : Operand} {st e m : Nat} {l' : List E} {tk : Tok} {ti te : Ti} (ht : tl T st = some ti) (hk : ti.kd = .slice e) (hte : tl T e = some te) (hx : ev tm x = .sl .nil []) (hy : ev tm y = .sl tk l')
    (hpos : Nat.blt 0 te.size = true) (hU' : Uni te.size l') (hne : l' ≠ []) (hlen : l'.length ≤ maxLen) (hby : l'.length * te.bytes ≤ 140737488355328)
    (hm : fr.length = m) (hfr : nfl (fr ++ [⟨l'.length, te.size, e⟩]) = some fr') (htd : Nat.blt t n = true)
    (k : AL P ops rest ⟨n, (t, .sl (.own m) l') :: tm, bx, fr', ee⟩ Q) : AL P ops (⟨some t, .call { callee := .builtin .append, args := #[x, y], argTypes := #[st, st] }, ty, pos, after, none⟩ :: rest) ⟨n, tm, bx, fr, ee⟩ Q :=
  AL_mem _ htd (fun g a w hi => by
    have h1 : V w g fr (ev tm x) (a.eval x) := hi.ev x
    have h2 : V w g fr (ev tm y) (a.eval y) := hi.ev y
    rw [hx] at h1
    rw [hy] at h2
    obtain ⟨a1, a2⟩ := sl_inv h1
    obtain ⟨b1, _⟩ := sl_inv h2
    have hxv : a.eval x = .slice none 0 0 := a2
    obtain ⟨ad, c, news, hyv, n1, n2, n3, n4⟩ := news_of b1 hU' hne
    have hpos' : 0 < l'.length := List.length_pos_iff.2 hne
    have hpos : 0 < te.size := by simpa [Nat.blt_eq] using hpos
    have hu := (tl_ok hT ht).slice hk
    obtain ⟨ie, ue, z, i1, i2, i3, i4, i5, i6, i7⟩ := (tl_ok hT hte).out
    have hr := run_append_nil (P := P) w st ty e ie z hu i1 i3 ad l'.length c news (by rw [← i5]; exact n1) n2 hpos' (by simp only [maxLen] at hlen; omega) (by rw [← i6]; omega)
    have hge := grownCap_ge w l'.length 0 e
    have hcm := grownCap_le_maxLen w l'.length 0 e hlen
    obtain ⟨C2, hC2⟩ : ∃ C2, C2 = grownCap w l'.length 0 e := ⟨_, rfl⟩
    rw [← hC2] at hr hge hcm
    have hcurr : news.toArray ++ Builtin.zeroCells z.cells (C2 - l'.length) = (news ++ (Builtin.zeroCells z.cells (C2 - l'.length)).toList).toArray := by simp
    rw [hcurr] at hr
    have hz := (zks_ok (w := w) (g := g) (fr := fr) i7).1
    have hzc : z.cells.size = ie.size := by
      rw [← Array.length_toList, hz, ← i5]
      exact (tl_zero hT hte).symm
    have hfl := hU'.flat
    have hd : Mem g bx fr w.drew := hi.mem.drew
    have hzl : (Builtin.zeroCells z.cells (C2 - l'.length)).toList.length = (C2 - l'.length) * te.size := by rw [Array.length_toList, size_zeroCells, hzc, ← i5]
    obtain ⟨k1, k2, k3⟩ := hd.row (news ++ (Builtin.zeroCells z.cells (C2 - l'.length)).toList) l' C2 te.size e hpos (by
      rw [List.length_append, hzl, n1, ← Nat.add_mul]
      congr 1; omega) hge hcm hU' (fun j x u hx hu => by
        have hj := (List.getElem?_eq_some_iff.1 hx).1
        rw [List.getElem?_append_left (by omega)] at hu
        exact (n4 j x u hx hu).drew)
    have e1 := nfl_eq hfr
    subst e1 hm
    exact ⟨.slice (some ⟨w.heap.size, 0, none⟩) l'.length C2, _, _, by simp only [execOp, resolve, invoke, builtin, Sem.run_bind, Sem.run_pure, Result.andThen_ok, List.map_toArray, List.map_cons, List.map_nil, hxv, hyv, hr], Evo.drew.trans k1, k2, k3⟩) k
/-- nothing appended -/
theorem AL_append_none [Known] [Dfr] (hT : chk P T = true) {x y : Operand} {st e : Nat} {l : List E} {tk tk' : Tok} {ti te : Ti} (ht : tl T st = some ti) (hk : ti.kd = .slice e) (hte : tl T e = some te) (hx : ev tm x = .sl tk l) (hy : ev tm y = .sl tk' []) (htd : Nat.blt t n = true)
    (k : AL P ops rest ⟨n, (t, .sl tk l) :: tm, bx, fr, ee⟩ Q) : AL P ops (⟨some t, .call { callee := .builtin .append, args := #[x, y], argTypes := #[st, st] }, ty, pos, after, none⟩ :: rest) ⟨n, tm, bx, fr, ee⟩ Q :=
  AL_val _ htd (fun g a w hi => by
    have h1 : V w g fr (ev tm x) (a.eval x) := hi.ev x
    have h2 : V w g fr (ev tm y) (a.eval y) := hi.ev y
    rw [hx] at h1
    rw [hy] at h2
    obtain ⟨b1, _⟩ := sl_inv h2
    refine ⟨a.eval x, ?_, h1⟩
    obtain ⟨a1, _⟩ := sl_inv h1
    have hu := (tl_ok hT ht).slice hk
    obtain ⟨ie, ue, z, i1, i2, i3, i4, i5, i6, i7⟩ := (tl_ok hT hte).out
    obtain ⟨A, cap, hyv⟩ : ∃ A cap, a.eval y = .slice A 0 cap := by
      generalize hq : E.sl [] = q at b1
      generalize a.eval y = v at b1
      cases b1 with
      | slE A cap h => exact ⟨A, cap, rfl⟩
      | slC l' b off cap us _ _ _ _ _ => injection hq with hq; subst hq; exact ⟨_, cap, rfl⟩
      | _ => cases hq
    obtain ⟨A', m, cap', hxv, hle⟩ : ∃ A m cap, a.eval x = .slice A m cap ∧ m ≤ cap := by
      generalize hq : E.sl l = q at a1
      generalize a.eval x = v at a1
      cases a1 with
      | slE A cap h => exact ⟨A, 0, cap, rfl, Nat.zero_le _⟩
      | slC l' b off cap us h1 _ _ _ _ => exact ⟨_, _, cap, rfl, h1⟩
      | _ => cases hq
    rw [hxv]
    have hrun : (Builtin.append_ #[st, st] ty #[.slice A' m cap', .slice A 0 cap]).run P w = .ok (.slice A' m cap') w := by
      cases A' <;> cases A <;> simp [Builtin.append_, run_underlying hu, sizeOf, typeInfo, i1, Builtin.lenOf, Builtin.firstCells, loadCells, loadCellsFrom, storeCells, hle]
    simp only [execOp, resolve, invoke, builtin, Sem.run_bind, Sem.run_pure, Result.andThen_ok, List.map_toArray, List.map_cons, List.map_nil, hxv, hyv, hrun]) k
end
end Go.Av
end
/- More operations: slices read and cut, texts, conversions, structs built, tests. -/
section
open Go.RowKit Go.Pl
namespace Go.Av
set_option linter.unusedSimpArgs false
set_option linter.unusedVariables false
section
variable {P : Program} {Q : X → St → Prop} {n : Nat} {ee : Nat × Nat} {tm : List (Nat × D)} {bx bx' : List (List D)} {fr fr' : List Fr} {b0 : Bs} {g : G} {w : World} {a : Act} {T : Tab}
variable {ops : Array Oper} {rest : List Oper} {t ty : Nat} {pos : String} {after : Array Edge}
theorem AL_idx [Known] [Dfr] (hT : chk P T = true) {x y : Operand} {st e : Nat} {k : IntKind} {i : Int} {tk : Tok} {l : List E} {ti te : Ti} {v : E} (hx : ev tm x = .sl tk l) (hy : ev tm y = .int k i) (ht : tl T st = some ti) (hk : ti.kd = .slice e) (hte : tl T e = some te) (htd : Nat.blt t n = true)
    (h0 : 0 ≤ i) (hv : l[i.toNat]? = some v) (hU : Uni te.size l)
    (kk : AL P ops rest ⟨n, (t, .eptr v.cells 0) :: tm, bx, fr, ee⟩ Q) : AL P ops (⟨some t, .indexAddr st x y, ty, pos, after, none⟩ :: rest) ⟨n, tm, bx, fr, ee⟩ Q :=
  AL_val _ htd (fun g a w hi => by
    have h1 : V w g fr (ev tm x) (a.eval x) := hi.ev x
    rw [hx] at h1
    have h2 : V w g fr (ev tm y) (a.eval y) := hi.ev y
    rw [hy] at h2
    have h2 := h2.int_inv
    obtain ⟨a1, _⟩ := sl_inv h1
    have hlt : i.toNat < l.length := (List.getElem?_eq_some_iff.1 hv).1
    have hu := (tl_ok hT ht).slice hk
    have hsz := run_sizeOf (P := P) (t := e) (tl_ok hT hte).tSize w
    have hvs : v.cells.length = te.size := hU v (List.mem_of_getElem? hv)
    have hfl := hU.flat
    have hle : i.toNat * te.size + te.size ≤ l.length * te.size := by
      have := Nat.mul_le_mul_right te.size (show i.toNat + 1 ≤ l.length by omega)
      rw [Nat.add_mul] at this; omega
    generalize hq : E.sl l = q at a1
    obtain ⟨p, hp⟩ : ∃ p, p = a.eval x := ⟨_, rfl⟩
    rw [← hp] at a1
    cases a1 with
    | slC l' b off cap us q1 q2 hc hw hvv =>
      injection hq with hq; subst hq
      have hadd : (⟨b, off, none⟩ : Addr).add (i.toNat * te.size) = ⟨b, off + i.toNat * te.size, none⟩ := by unfold Addr.add; split <;> simp_all
      refine ⟨.pointer (some ⟨b, off + i.toNat * te.size, none⟩), ?_, ?_⟩
      · have hb : 0 ≤ i ∧ i < (l.length : Int) := ⟨h0, by omega⟩
        have hrun : (Instr.indexAt st (.slice (some ⟨b, off, none⟩) l.length cap) (.int k i)).run P w = .ok (.pointer (some ⟨b, off + i.toNat * te.size, none⟩)) w := by
          simp [Instr.indexAt, asIntOf, Sem.run_bind, run_underlying hu, hb, hsz, hadd]
        simp [execOp, ← hp, h2, Sem.run_bind, hrun]
      · have := V.eptr (w := w) (g := g) (fr := fr) v.cells 0 b (off + i.toNat * te.size) (fun j => us (i.toNat * te.size + j)) (fun j hj => by rw [Nat.add_assoc]; exact hc _ (by omega)) (fun j hj => by rw [Nat.add_assoc]; exact hw _ (by omega)) (fun j x hx => by
          have hj := (List.getElem?_eq_some_iff.1 hx).1
          exact hvv _ x ((hU.at_ hv j (by omega)).trans hx))
        simpa using this
    | slE A cap h => injection hq with hq; subst hq; simp at hlt
    | _ => cases hq) kk
theorem AL_idxs [Known] [Dfr] {x y : Operand} {st : Nat} {k : IntKind} {i : Int} {s : List UInt8} {ti : Ti} {c : UInt8} (hT : chk P T = true) (hx : ev tm x = .str s) (hy : ev tm y = .int k i) (ht : tl T st = some ti) (hk : ti.kd = .str) (htd : Nat.blt t n = true)
    (h0 : 0 ≤ i) (hv : s[i.toNat]? = some c)
    (kk : AL P ops rest ⟨n, (t, .int .u8 (c.toNat : Int)) :: tm, bx, fr, ee⟩ Q) : AL P ops (⟨some t, .index st x y, ty, pos, after, none⟩ :: rest) ⟨n, tm, bx, fr, ee⟩ Q :=
  AL_val _ htd (fun g a w hi => by
    have h1 : V w g fr (ev tm x) (a.eval x) := hi.ev x
    rw [hx] at h1
    have h1 := h1.str_inv.1
    have h2 : V w g fr (ev tm y) (a.eval y) := hi.ev y
    rw [hy] at h2
    have h2 := h2.int_inv
    have hlt : i.toNat < s.length := (List.getElem?_eq_some_iff.1 hv).1
    have hc := (List.getElem?_eq_some_iff.1 hv).2
    refine ⟨.int .u8 (c.toNat : Int), ?_, .int _ _⟩
    have hg : (⟨s.toArray⟩ : ByteArray)[i.toNat]? = some c := by
      have hlt' : i.toNat < (⟨s.toArray⟩ : ByteArray).size := by show _ < s.toArray.size; simpa using hlt
      rw [show ((⟨s.toArray⟩ : ByteArray)[i.toNat]?) = if h : i.toNat < (⟨s.toArray⟩ : ByteArray).size then some ((⟨s.toArray⟩ : ByteArray)[i.toNat]) else none from rfl, dif_pos hlt']
      congr 1
    have hrun : (Instr.index st (.string ⟨s.toArray⟩) (.int k i)).run P w = .ok (.int .u8 (c.toNat : Int)) w := by
      simp [Instr.index, asIntOf, Sem.run_bind, run_underlying ((tl_ok hT ht).str hk), h0, hg]
    simp [execOp, h1, h2, Sem.run_bind, hrun]) kk
theorem AL_len [Known] [Dfr] {x : Operand} {st : Nat} {tk : Tok} {l : List E} {ti : Ti} {e : Nat} (hT : chk P T = true) (hx : ev tm x = .sl tk l) (ht : tl T st = some ti) (hk : ti.kd = .slice e) (htd : Nat.blt t n = true)
    (kk : AL P ops rest ⟨n, (t, .int .i64 (l.length : Int)) :: tm, bx, fr, ee⟩ Q) : AL P ops (⟨some t, .call { callee := .builtin .len, args := #[x], argTypes := #[st] }, ty, pos, after, none⟩ :: rest) ⟨n, tm, bx, fr, ee⟩ Q :=
  AL_val _ htd (fun g a w hi => by
    have h1 : V w g fr (ev tm x) (a.eval x) := hi.ev x
    rw [hx] at h1
    obtain ⟨a1, _⟩ := sl_inv h1
    obtain ⟨A, cap, hv⟩ : ∃ A cap, a.eval x = .slice A l.length cap := by
      generalize hq : E.sl l = q at a1
      generalize a.eval x = v at a1
      cases a1 with
      | slC l' b off cap us _ _ _ _ _ => injection hq with hq; subst hq; exact ⟨_, cap, rfl⟩
      | slE A cap h => injection hq with hq; subst hq; exact ⟨A, cap, rfl⟩
      | _ => cases hq
    refine ⟨.int .i64 (l.length : Int), ?_, .int _ _⟩
    simp [execOp, resolve, invoke, builtin, Builtin.len_, Sem.run_bind, hv, run_underlying ((tl_ok hT ht).slice hk), goInt]) kk
theorem AL_lens [Known] [Dfr] {x : Operand} {st : Nat} {s : List UInt8} {ti : Ti} (hT : chk P T = true) (hx : ev tm x = .str s) (ht : tl T st = some ti) (hk : ti.kd = .str) (htd : Nat.blt t n = true)
    (kk : AL P ops rest ⟨n, (t, .int .i64 (s.length : Int)) :: tm, bx, fr, ee⟩ Q) : AL P ops (⟨some t, .call { callee := .builtin .len, args := #[x], argTypes := #[st] }, ty, pos, after, none⟩ :: rest) ⟨n, tm, bx, fr, ee⟩ Q :=
  AL_val _ htd (fun g a w hi => by
    have h1 : V w g fr (ev tm x) (a.eval x) := hi.ev x
    rw [hx] at h1
    have h1 := h1.str_inv.1
    refine ⟨.int .i64 (s.length : Int), ?_, .int _ _⟩
    have hs : (⟨s.toArray⟩ : ByteArray).size = s.length := by show s.toArray.size = _; simp
    simp [execOp, resolve, invoke, builtin, Builtin.len_, Sem.run_bind, h1, run_underlying ((tl_ok hT ht).str hk), goInt, hs]) kk
/-- a bound of a slice expression -/
inductive Bnd (tm : List (Nat × D)) : Option Operand → Nat → Nat → Prop
  | dft (d : Nat) : Bnd tm none d d
  | lit (x : Operand) (d : Nat) (k : IntKind) (i : Int) (h : ev tm x = .int k i) (h0 : 0 ≤ i) : Bnd tm (some x) d i.toNat
theorem Bnd.val [Known] [Dfr] {S : St} {x : Operand} {k : IntKind} {i : Int} (hi : Inv b0 S g a w) (h : ev S.tm x = .int k i) : a.eval x = .int k i := by
  have h1 : V w g S.fr (ev S.tm x) (a.eval x) := hi.ev x
  rw [h] at h1
  exact h1.int_inv
theorem Bnd.runs [Known] [Dfr] {S : St} {lo hi' : Option Operand} {p q len cap : Nat} (hlo : Bnd S.tm lo 0 p) (hhi : Bnd S.tm hi' len q) (hi : Inv b0 S g a w) (hpq : p ≤ q) (hq : q ≤ cap) (b : Bool) :
    (Instr.sliceBounds b len cap (lo.map a.eval) (hi'.map a.eval) none).run P w = .ok (p, q, cap) w := by
  cases hlo with
  | dft =>
    cases hhi with
    | dft => rfl
    | lit y _ k' j h' h0' =>
      have hb : 0 ≤ j ∧ j ≤ (cap : Int) := ⟨h0', by omega⟩
      simp [Instr.sliceBounds, Bnd.val hi h', Instr.sliceBound, asIntOf, Sem.run_bind, hb]
  | lit x _ k i h h0 =>
    cases hhi with
    | dft =>
      have hb : 0 ≤ i ∧ i ≤ (q : Int) := ⟨h0, by omega⟩
      simp [Instr.sliceBounds, Bnd.val hi h, Instr.sliceBound, asIntOf, Sem.run_bind, hb]
    | lit y _ k' j h' h0' =>
      have hb : 0 ≤ j ∧ j ≤ (cap : Int) := ⟨h0', by omega⟩
      have hb2 : 0 ≤ i ∧ i ≤ ((j.toNat : Nat) : Int) := ⟨h0, by omega⟩
      simp only [Instr.sliceBounds, Option.map_some, Bnd.val hi h, Bnd.val hi h', Instr.sliceBound, asIntOf, Sem.run_bind, Sem.run_pure, Result.andThen_ok, if_pos hb, if_pos hb2]
theorem AL_slice [Known] [Dfr] (hT : chk P T = true) {x : Operand} {st e : Nat} {tk : Tok} {l l2 : List E} {lo hi' : Option Operand} {p q : Nat} {ti te : Ti} (hx : ev tm x = .sl tk l) (ht : tl T st = some ti) (hk : ti.kd = .slice e) (hte : tl T e = some te) (htd : Nat.blt t n = true)
    (hlo : Bnd tm lo 0 p) (hhi : Bnd tm hi' l.length q) (hpq : p ≤ q) (hq : q ≤ l.length) (hU : Uni te.size l) (hl2 : (l.take q).drop p = l2)
    (kk : AL P ops rest ⟨n, (t, .sl .ext l2) :: tm, bx, fr, ee⟩ Q) : AL P ops (⟨some t, .slice st x lo hi' none, ty, pos, after, none⟩ :: rest) ⟨n, tm, bx, fr, ee⟩ Q :=
  AL_val _ htd (fun g a w hi => by
    have h1 : V w g fr (ev tm x) (a.eval x) := hi.ev x
    rw [hx] at h1
    obtain ⟨a1, _⟩ := sl_inv h1
    have hu := (tl_ok hT ht).slice hk
    have hsz := run_sizeOf (P := P) (t := e) (tl_ok hT hte).tSize w
    obtain ⟨A, cap, hv, hcap⟩ : ∃ A cap, a.eval x = .slice A l.length cap ∧ l.length ≤ cap := by
      generalize hq : E.sl l = q at a1
      generalize a.eval x = v at a1
      cases a1 with
      | slC l' b off cap us h1 _ _ _ _ => injection hq with hq; subst hq; exact ⟨_, cap, rfl, h1⟩
      | slE A cap h => injection hq with hq; subst hq; exact ⟨A, cap, rfl, Nat.zero_le _⟩
      | _ => cases hq
    have hb := Bnd.runs (S := ⟨n, tm, bx, fr, _⟩) (P := P) (cap := cap) hlo hhi hi hpq (by omega) true
    refine ⟨.slice (if cap = p then A else A.map (·.add (p * te.size))) (q - p) (cap - p), ?_, ?_⟩
    · have hrun : (Instr.sliceAt st (.slice A l.length cap) (lo.map a.eval) (hi'.map a.eval) none).run P w = .ok (.slice (if cap = p then A else A.map (·.add (p * te.size))) (q - p) (cap - p)) w := by
        simp [Instr.sliceAt, Instr.slice, Sem.run_bind, run_underlying hu, hb, hsz]
      simp only [execOp, hv, Sem.run_bind, Option.map_none, hrun, Result.andThen_ok]
      rfl
    · subst hl2
      have hlen : ((l.take q).drop p).length = q - p := by simp; omega
      refine .sl _ _ _ ?_ trivial
      by_cases he : q - p = 0
      · have hnil : (l.take q).drop p = [] := List.eq_nil_of_length_eq_zero (by rw [hlen]; exact he)
        rw [hnil, he]
        refine .slE _ _ ?_
        generalize hq' : E.sl l = qq at a1
        rw [hv] at a1
        generalize hs : Value.slice A l.length cap = s at a1
        cases a1 with
        | slC l' b off cap us h1 h2 _ _ _ => injection hs with _ _ e; omega
        | slE A cap h => injection hs with _ _ e; omega
        | _ => cases hq'
      · have hpc : ¬ cap = p := by omega
        rw [if_neg hpc, ← hlen]
        generalize hq' : E.sl l = qq at a1
        rw [hv] at a1
        generalize hs : Value.slice A l.length cap = s at a1
        cases a1 with
        | slC l' b off cap' us h1 h2 hc hw hvv =>
          injection hq' with hq'; subst hq'
          injection hs with e1 _ e3
          subst e1 e3
          have hadd : (⟨b, off, none⟩ : Addr).add (p * te.size) = ⟨b, off + p * te.size, none⟩ := by unfold Addr.add; split <;> simp_all
          simp only [Option.map_some, hadd]
          have hU2 : Uni te.size (l.take q) := hU.sub fun e h => List.mem_of_mem_take h
          have hf : flat ((l.take q).drop p) = ((flat l).take (q * te.size)).drop (p * te.size) := by rw [hU2.drop_flat, hU.take_flat]
          have hfl := hU.flat
          have hql : q * te.size ≤ l.length * te.size := Nat.mul_le_mul_right _ hq
          have hfl2 : (flat ((l.take q).drop p)).length = q * te.size - p * te.size := by rw [hf]; simp; omega
          refine .slC _ b (off + p * te.size) (cap - p) (fun j => us (p * te.size + j)) (by omega) (by omega) (fun j hj => by rw [Nat.add_assoc]; exact hc _ (by omega)) (fun j hj => by rw [Nat.add_assoc]; exact hw _ (by omega)) (fun j x hx => hvv _ x ?_)
          have hj := (List.getElem?_eq_some_iff.1 hx).1
          rw [hf, List.getElem?_drop, List.getElem?_take, if_pos (by omega)] at hx
          exact hx
        | slE A cap' h => injection hs with _ e; omega
        | _ => cases hq') kk
end
end Go.Av
end
/- More operations: structs built, texts, conversions, tests, guards, panics, calls of function values. -/
section
open Go.RowKit Go.Pl
namespace Go.Av
set_option linter.unusedSimpArgs false
set_option linter.unusedVariables false
def buildD (fs : List Fd) : List D → List (Nat × D) → Option (List D)
  | cs, [] => some cs
  | cs, (i, d) :: rest => match fs[i]? with
    | some fd => match Nat.beq d.cellsOf.length fd.size, Nat.ble (fd.off + fd.size) cs.length, D.ones d.cellsOf with
      | true, true, true => buildD fs (splice cs fd.off d.cellsOf) rest
      | _, _, _ => none
    | none => none
section
variable {P : Program} {Q : X → St → Prop} {n : Nat} {ee : Nat × Nat} {tm : List (Nat × D)} {bx bx' : List (List D)} {fr fr' : List Fr} {b0 : Bs} {g : G} {w : World} {a : Act} {T : Tab}
variable {ops : Array Oper} {rest : List Oper} {t ty : Nat} {pos : String} {after : Array Edge}
theorem fill_build {place : Nat → Option (Nat × Nat)} {fs : List Fd} (hp : ∀ (i : Nat) (fd : Fd), fs[i]? = some fd → place i = some (fd.off, fd.size)) :
    ∀ (ds : List (Nat × D)) (vs : List Value) (cs cs' : List D) (cells : Array Value), buildD fs cs ds = some cs' → vs.length = ds.length → (∀ (j : Nat) (p : Nat × D) (v : Value), ds[j]? = some p → vs[j]? = some v → V w g fr p.2 v) →
      cells.size = cs.length → (∀ (j : Nat) (d : D) (v : Value), cs[j]? = some d → cells[j]? = some v → V w g fr d v) →
      ∃ out : Array Value, Instr.fill place cells ((ds.map (·.1)).zip vs) = some out ∧ out.size = cs'.length ∧ ∀ (j : Nat) (d : D) (v : Value), cs'[j]? = some d → out[j]? = some v → V w g fr d v
  | [], [], cs, cs', cells, h, _, _, hs, hv => by simp [buildD] at h; subst h; exact ⟨cells, rfl, hs, hv⟩
  | (i, d) :: ds, v :: vs, cs, cs', cells, h, hl, hV, hs, hv => by
    simp only [buildD] at h
    cases hfd : fs[i]? with
    | none => simp [hfd] at h
    | some fd =>
      simp only [hfd] at h
      cases h1 : Nat.beq d.cellsOf.length fd.size with
      | false => simp [h1] at h
      | true =>
        cases h2 : Nat.ble (fd.off + fd.size) cs.length with
        | false => simp [h1, h2] at h
        | true =>
          cases h3 : D.ones d.cellsOf with
          | false => simp [h1, h2, h3] at h
          | true =>
            simp only [h1, h2, h3] at h
            have h1' := Nat.eq_of_beq_eq_true h1
            have h2' := Nat.le_of_ble_eq_true h2
            obtain ⟨us, q1, q2, q3⟩ := (hV 0 (i, d) v rfl rfl).cells h3
            dsimp only at q2 q3
            obtain ⟨c', e1, e2⟩ := fill_cons (place := place) (cells := cells) (rest := (ds.map (·.1)).zip vs) (hp i fd hfd) q1 (by rw [q2, h1']) (by rw [hs]; exact h2')
            have hcs : cells.toList.length = cs.length := by simpa using hs
            have hc' : c'.size = (splice cs fd.off d.cellsOf).length := by
              rw [← Array.length_toList, e2]; simp [splice, q2, h1', hs]
            obtain ⟨out, o1, o2, o3⟩ := fill_build hp ds vs (splice cs fd.off d.cellsOf) cs' c' h (by simpa using hl) (fun j p v hp hv => hV (j + 1) p v (by simpa using hp) (by simpa using hv)) hc' (fun j c u hc hu => by
              have hu : (cells.toList.take fd.off ++ (us ++ cells.toList.drop (fd.off + fd.size)))[j]? = some u := by rw [← e2]; simpa using hu
              simp only [splice] at hc
              rcases Nat.lt_or_ge j fd.off with hj | hj
              · rw [List.getElem?_append_left (by simp; omega), List.getElem?_take, if_pos hj] at hc hu
                exact hv j c u hc (by simpa using hu)
              · rw [List.getElem?_append_right (by simp; omega)] at hc hu
                simp only [List.length_take, hcs, Nat.min_eq_left (show fd.off ≤ cs.length by omega)] at hc hu
                rcases Nat.lt_or_ge (j - fd.off) us.length with hj2 | hj2
                · rw [List.getElem?_append_left (by omega)] at hc
                  rw [List.getElem?_append_left hj2] at hu
                  exact q3 _ c u hc hu
                · rw [List.getElem?_append_right (by omega), List.getElem?_drop] at hc
                  rw [List.getElem?_append_right hj2, List.getElem?_drop] at hu
                  rw [q2] at hu
                  rw [h1'] at hc hu
                  exact hv _ c u hc (by simpa using hu))
            exact ⟨out, by rw [List.map_cons, List.zip_cons_cons, e1, o1], o2, o3⟩
  | [], _ :: _, _, _, _, _, hl, _, _, _ => by simp at hl
  | _ :: _, [], _, _, _, _, hl, _, _, _ => by simp at hl
theorem AL_build [Known] [Dfr] (hT : chk P T = true) {st : Nat} {parts : Array (Nat × Operand)} {ds : List (Nat × D)} {cs cs' : List D} {ti : Ti} {fs : List Fd} (ht : tl T st = some ti) (hk : ti.kd = .struct fs)
    (hds : parts.toList.map (fun p => (p.1, ev tm p.2)) = ds) (hb : buildD fs (ti.zero.map ZK.d) ds = some cs) (hn : nfs cs = some cs') (htd : Nat.blt t n = true)
    (k : AL P ops rest ⟨n, (t, .agg cs') :: tm, bx, fr, ee⟩ Q) : AL P ops (⟨some t, .build st parts, ty, pos, after, none⟩ :: rest) ⟨n, tm, bx, fr, ee⟩ Q :=
  AL_val _ htd (fun g a w hi => by
    have hti := tl_ok hT ht
    obtain ⟨z, hz1, hz2⟩ := hti.zero w
    obtain ⟨z3, z4⟩ := zks_ok (w := w) (g := g) (fr := fr) hz2
    obtain ⟨fields, f1, f2, f3⟩ := hti.struct' hk
    have hplaces : (fields.mapM (fun f => do pure (f.offset, ← sizeOf f.type)) : Sem (Array (Nat × Nat))).run P w = .ok (fs.map fun fd => (fd.off, fd.size)).toArray w := by
      have hl : ∀ l : List Field, (∀ f ∈ l, (Go.Av.tSize P f.type).isSome = true ∧ (Go.Av.tAgg P f.type).isSome = true) → (l.mapM (fun f => do pure (f.offset, ← sizeOf f.type)) : Sem (List (Nat × Nat))).run P w = .ok ((l.map fun f => (⟨f.offset, (Go.Av.tSize P f.type).getD 0, (Go.Av.tAgg P f.type).getD false, f.type⟩ : Fd)).map fun fd => (fd.off, fd.size)) w := by
        intro l
        induction l with
        | nil => intro _; rfl
        | cons f l ih =>
          intro h
          obtain ⟨s, hs⟩ := Option.isSome_iff_exists.1 (h f (by simp)).1
          have := ih fun f hf => h f (by simp [hf])
          simp only [List.mapM_cons, Sem.run_bind, run_sizeOf hs, Result.andThen_ok, Sem.run_pure, this, List.map_cons, hs, Option.getD_some]
      have h1 := hl fields.toList f3
      rw [← f2] at h1
      have e : fields = fields.toList.toArray := by simp
      rw [e, List.mapM_toArray, show (List.toArray <$> fields.toList.mapM (fun f => do pure (f.offset, ← sizeOf f.type)) : Sem (Array (Nat × Nat))) = (fields.toList.mapM (fun f => do pure (f.offset, ← sizeOf f.type)) >>= fun l => pure l.toArray) from rfl, Sem.run_bind, h1]
      rfl
    obtain ⟨out, o1, o2, o3⟩ := fill_build (w := w) (g := g) (fr := fr) (place := fun i => ((fs.map fun fd => (fd.off, fd.size)).toArray)[i]?) (fs := fs) (fun i fd h => by simp [h]) ds (parts.toList.map fun p => a.eval p.2) (ti.zero.map ZK.d) cs z.cells hb (by rw [← hds]; simp) (fun j p v hp hv => by
      rw [← hds, List.getElem?_map] at hp
      rw [List.getElem?_map] at hv
      cases hj : parts.toList[j]? with
      | none => simp only [hj, Option.map_none] at hp; cases hp
      | some x => simp only [hj, Option.map_some, Option.some.injEq] at hp hv; subst hp hv; exact hi.ev x.2) (by rw [← Array.length_toList, z3]; simp) (fun j d v hd hv => (z4 j d v hd (by simpa using hv)).1)
    refine ⟨.agg out, ?_, ?_⟩
    · have hzip : (ds.map (·.1)).zip (parts.toList.map fun p => a.eval p.2) = (parts.map fun p => (p.1, a.eval p.2)).toList := by
        rw [← hds]; simp [List.zip_map', Function.comp_def]
      rw [hzip] at o1
      have hrun : (Instr.build st (parts.map fun p => (p.1, a.eval p.2))).run P w = .ok (.agg out) w := by
        simp only [Instr.build, Sem.run_bind, hz1, Result.andThen_ok, run_underlying f1, hplaces]
        rw [o1]
        rfl
      simp only [execOp, Sem.run_bind]
      rw [show (fun (x : Nat × Operand) => match x with | (i, x) => (i, a.eval x)) = fun (p : Nat × Operand) => (p.1, a.eval p.2) from rfl, hrun]
      rfl
    · have := V.agg (w := w) (g := g) (fr := fr) cs out.toList (by simpa using o2) (fun j d v hd hv => o3 j d v hd (by simpa using hv))
      rw [nfs_eq hn] at this
      simpa using this) k
theorem AL_makeIface [Known] [Dfr] (hT : chk P T = true) {x : Operand} {xt : Nat} {d : D} {ti : Ti} (hx : nf (ev tm x) = some d) (ht : tl T xt = some ti) (hk : (match ti.kd with | .iface => false | _ => true) = true) (htd : Nat.blt t n = true)
    (k : AL P ops rest ⟨n, (t, .iface xt d) :: tm, bx, fr, ee⟩ Q) : AL P ops (⟨some t, .makeInterface xt x, ty, pos, after, none⟩ :: rest) ⟨n, tm, bx, fr, ee⟩ Q :=
  AL_val _ htd (fun g a w hi => by
    have h1 : V w g fr (ev tm x) (a.eval x) := hi.ev x
    rw [nf_eq hx] at h1
    obtain ⟨u, hu, hku⟩ := (tl_ok hT ht).under
    refine ⟨.iface xt (a.eval x), ?_, .iface _ _ _ h1⟩
    cases u <;> simp [kdOf] at hku <;> simp [hku] at hk <;> simp [execOp, Instr.makeInterface, Sem.run_bind, run_underlying hu]) k
theorem AL_makeFunc [Known] [Dfr] {f : FuncId} {caps : Array Operand} {ds : List D} (hds : nfs (caps.toList.map (ev tm)) = some ds) (htd : Nat.blt t n = true)
    (k : AL P ops rest ⟨n, (t, .fn f ds) :: tm, bx, fr, ee⟩ Q) : AL P ops (⟨some t, .makeFunc (.func f) #[] caps, ty, pos, after, none⟩ :: rest) ⟨n, tm, bx, fr, ee⟩ Q :=
  AL_val _ htd (fun g a w hi => by
    have e := nfs_eq hds
    refine ⟨.func (.func f) #[] (caps.toList.map a.eval).toArray, by have e2 : caps.map a.eval = (caps.toList.map a.eval).toArray := by { rw [← Array.toList_map, Array.toArray_toList] }; simp only [execOp, Instr.makeFunc, e2, Sem.run_bind, Sem.run_pure, Result.andThen_ok]; simp, .fn _ _ _ (by rw [← e]; simp) fun j d v hd hv => ?_⟩
    rw [← e] at hd
    exact evs hi caps j d v hd hv) k
theorem AL_pick [Known] [Dfr] {c x y : Operand} {b : Bool} {d : D} (hc : ev tm c = .bool b) (hd : nf (match b with | true => ev tm x | false => ev tm y) = some d) (htd : Nat.blt t n = true)
    (k : AL P ops rest ⟨n, (t, d) :: tm, bx, fr, ee⟩ Q) : AL P ops (⟨some t, .pick c x y, ty, pos, after, none⟩ :: rest) ⟨n, tm, bx, fr, ee⟩ Q :=
  AL_val _ htd (fun g a w hi => by
    have h1 : V w g fr (ev tm c) (a.eval c) := hi.ev c
    rw [hc] at h1
    have h1 := h1.bool_inv
    rw [← nf_eq hd]
    cases b with
    | true => exact ⟨a.eval x, by simp [execOp, h1, asBool, Sem.run_bind], hi.ev x⟩
    | false => exact ⟨a.eval y, by simp [execOp, h1, asBool, Sem.run_bind], hi.ev y⟩) k
/-! texts -/
def strBin (op : BinOp) (x y : List UInt8) : D :=
  match op with
  | .add => .str (x ++ y)
  | .eql => .bool (x == y)
  | .neq => .bool (x != y)
  | .lss => .bool (Op.bytesLess x y)
  | .leq => .bool (Op.bytesLess x y || x == y)
  | .gtr => .bool (!(Op.bytesLess x y || x == y))
  | .geq => .bool (!Op.bytesLess x y)
  | _ => .junk
theorem ba_toList (s : List UInt8) : (⟨s.toArray⟩ : ByteArray).toList = s := by simp
theorem AL_str [Known] [Dfr] {op : BinOp} {x y : Operand} {xt yt : Nat} {p q : List UInt8} {d : D} (hx : ev tm x = .str p) (hy : ev tm y = .str q) (ho : (match op with | .eql | .neq | .lss | .leq | .gtr | .geq => true | _ => false) = true) (hd : nf (strBin op p q) = some d) (htd : Nat.blt t n = true)
    (k : AL P ops rest ⟨n, (t, d) :: tm, bx, fr, ee⟩ Q) : AL P ops (⟨some t, .binOp op xt x y yt, ty, pos, after, none⟩ :: rest) ⟨n, tm, bx, fr, ee⟩ Q :=
  AL_val _ htd (fun g a w hi => by
    have h1 : V w g fr (ev tm x) (a.eval x) := hi.ev x
    rw [hx] at h1
    have h2 : V w g fr (ev tm y) (a.eval y) := hi.ev y
    rw [hy] at h2
    have h1 := h1.str_inv.1
    have h2 := h2.str_inv.1
    have hd := nf_eq hd
    subst hd
    have hrun : ∃ b, (Op.stringOp op ⟨p.toArray⟩ ⟨q.toArray⟩).run P w = .ok (.bool b) w ∧ strBin op p q = .bool b := by
      unfold Op.stringOp
      simp only [ba_toList]
      cases op <;> simp at ho <;> exact ⟨_, rfl, rfl⟩
    obtain ⟨b, hb, e⟩ := hrun
    rw [e]
    have hbin : binOp op xt (.string ⟨p.toArray⟩) (.string ⟨q.toArray⟩) = Op.stringOp op ⟨p.toArray⟩ ⟨q.toArray⟩ := by cases op <;> simp at ho <;> rfl
    exact ⟨.bool b, by simp only [execOp, h1, h2, Sem.run_bind, hbin]; cases op <;> simp at ho <;> simp [eqGuard, hb], .bool _⟩) k
theorem AL_cat [Known] [Dfr] {x y : Operand} {xt yt : Nat} {p q : List UInt8} (hx : ev tm x = .str p) (hy : ev tm y = .str q) (hl : p.length + q.length ≤ maxLen) (htd : Nat.blt t n = true)
    (k : AL P ops rest ⟨n, (t, .str (p ++ q)) :: tm, bx, fr, ee⟩ Q) : AL P ops (⟨some t, .binOp .add xt x y yt, ty, pos, after, none⟩ :: rest) ⟨n, tm, bx, fr, ee⟩ Q :=
  AL_val _ htd (fun g a w hi => by
    have h1 : V w g fr (ev tm x) (a.eval x) := hi.ev x
    rw [hx] at h1
    have h2 : V w g fr (ev tm y) (a.eval y) := hi.ev y
    rw [hy] at h2
    have h1 := h1.str_inv.1
    have h2 := h2.str_inv.1
    have hs : ∀ s : List UInt8, (⟨s.toArray⟩ : ByteArray).size = s.length := fun s => by show s.toArray.size = _; simp
    have hcat : (⟨p.toArray⟩ : ByteArray) ++ ⟨q.toArray⟩ = ⟨(p ++ q).toArray⟩ := by
      apply ByteArray.ext
      simp [ByteArray.data_append]
    have hle : ¬ (9223372036854775807 < (p.length : Int) + (q.length : Int)) := by simp only [maxLen] at hl; omega
    exact ⟨.string ⟨(p ++ q).toArray⟩, by simp [execOp, h1, h2, eqGuard, binOp, Op.stringOp, Sem.run_bind, hs, hle, hcat], .str _ (by simpa using hl)⟩) k
/-! tests -/
theorem AL_beq [Known] [Dfr] (hT : chk P T = true) {op : BinOp} {x y : Operand} {xt yt : Nat} {p q : Bool} {d : D} {ti : Ti} (hx : ev tm x = .bool p) (hy : ev tm y = .bool q) (ht : tl T xt = some ti) (hk : ti.kd = .bool) (hd : (match op with | .eql => some (D.bool (p == q)) | .neq => some (D.bool (!(p == q))) | _ => none) = some d) (htd : Nat.blt t n = true)
    (k : AL P ops rest ⟨n, (t, d) :: tm, bx, fr, ee⟩ Q) : AL P ops (⟨some t, .binOp op xt x y yt, ty, pos, after, none⟩ :: rest) ⟨n, tm, bx, fr, ee⟩ Q :=
  AL_val _ htd (fun g a w hi => by
    have h1 : V w g fr (ev tm x) (a.eval x) := hi.ev x
    rw [hx] at h1
    have h2 : V w g fr (ev tm y) (a.eval y) := hi.ev y
    rw [hy] at h2
    have h1 := h1.bool_inv
    have h2 := h2.bool_inv
    obtain ⟨u, hu, hku⟩ := (tl_ok hT ht).under
    rw [hk] at hku
    have hub : P.underlying xt = some .bool := by
      rw [hu]; cases u <;> simp only [kdOf] at hku <;> first | (split at hku <;> cases hku; done) | cases hku
      rfl
    have hrun : (Op.equal xt (.bool p) (.bool q)).run P w = .ok (p == q) w := run_equalIn_bool w 9999 xt p q hub
    cases op <;> simp at hd <;> subst hd <;> first | exact ⟨.bool (p == q), by simp [execOp, h1, h2, eqGuard, binOp, Sem.run_bind, hrun], .bool _⟩ | exact ⟨.bool (!(p == q)), by simp [execOp, h1, h2, eqGuard, binOp, Sem.run_bind, hrun], .bool _⟩) k
/-- is a pointer nil? -/
def nilD : D → Option Bool
  | .nilp => some true
  | .ptr _ _ => some false
  | .eptr _ _ => some false
  | .gptr _ _ => some false
  | _ => none
theorem AL_nilp [Known] [Dfr] (hT : chk P T = true) {op : BinOp} {x y : Operand} {xt yt e : Nat} {p : Bool} {d : D} {ti : Ti} (hx : nilD (ev tm x) = some p) (hy : ev tm y = .nilp) (ht : tl T xt = some ti) (hk : ti.kd = .ptr e) (hd : (match op with | .eql => some (D.bool p) | .neq => some (D.bool (!p)) | _ => none) = some d) (htd : Nat.blt t n = true)
    (k : AL P ops rest ⟨n, (t, d) :: tm, bx, fr, ee⟩ Q) : AL P ops (⟨some t, .binOp op xt x y yt, ty, pos, after, none⟩ :: rest) ⟨n, tm, bx, fr, ee⟩ Q :=
  AL_val _ htd (fun g a w hi => by
    have h1 : V w g fr (ev tm x) (a.eval x) := hi.ev x
    have h2 : V w g fr (ev tm y) (a.eval y) := hi.ev y
    rw [hy] at h2
    have h2 : a.eval y = .pointer none := by
      generalize a.eval y = v at h2
      cases h2 with | nilp => rfl
    obtain ⟨u, hu, hku⟩ := (tl_ok hT ht).under
    rw [hk] at hku
    have hub : P.underlying xt = some (.pointer e) := by
      rw [hu]; cases u <;> simp only [kdOf] at hku <;> first | (split at hku <;> cases hku; done) | cases hku
      rfl
    obtain ⟨v, hv⟩ : ∃ v, v = a.eval x := ⟨_, rfl⟩
    rw [← hv] at h1
    have hp : ∃ A, v = .pointer A ∧ A.isNone = p := by
      cases hd' : ev tm x <;> rw [hd'] at hx h1 <;> simp [nilD] at hx <;> subst hx <;> cases h1 <;> exact ⟨_, rfl, rfl⟩
    obtain ⟨A, rfl, hA⟩ := hp
    have hrun : (Op.equal xt (.pointer A) (.pointer none)).run P w = .ok p w := by
      rw [← hA]
      exact run_equal_pointer_nil w xt A (by rw [hub]; simp [Program.pointee, hub])
    cases op <;> simp at hd <;> subst hd <;> first | exact ⟨.bool p, by simp [execOp, ← hv, h2, eqGuard, binOp, Sem.run_bind, hrun], .bool _⟩ | exact ⟨.bool (!p), by simp [execOp, ← hv, h2, eqGuard, binOp, Sem.run_bind, hrun], .bool _⟩) k
/-! bytes and texts -/
theorem bytes_inv {l : List E} {bs : List UInt8} {A : Option Addr} {m cap : Nat} (hl : l = bs.map E.byte) (h : VE w g.C (.sl l) (.slice A m cap)) : m = bs.length ∧ (bs = [] ∨ ∃ b off, A = some ⟨b, off, none⟩ ∧ ∀ j (hj : j < bs.length), w.cell? ⟨b, off + j, none⟩ = some (.int .u8 (bs[j].toNat : Int))) := by
  have hf : ∀ l : List UInt8, flat (l.map E.byte) = l.map E.byte := fun l => by induction l with | nil => rfl | cons x l ih => simp [E.cells, ih]
  generalize hq : E.sl l = q at h
  generalize hs : Value.slice A m cap = s at h
  cases h with
  | slC l' b off cap us h1 h2 hc hw hv =>
    injection hq with hq; subst hq
    injection hs with e1 e2 e3
    subst hl
    refine ⟨by rw [e2]; simp, .inr ⟨b, off, e1, fun j hj => ?_⟩⟩
    have hj' : j < (flat (bs.map E.byte)).length := by rw [hf]; simpa using hj
    rw [hw j hj']
    have hx : (flat (bs.map E.byte))[j]? = some (E.byte bs[j]) := by rw [hf]; simp [hj]
    have := hv j _ hx
    generalize us j = u at this
    cases this
    rfl
  | slE A cap h =>
    injection hq with hq; subst hq
    injection hs with _ e2 _
    have : bs = [] := by cases bs <;> simp at hl; rfl
    exact ⟨by rw [e2, this]; rfl, .inl this⟩
  | _ => cases hq
theorem AL_b2s [Known] [Dfr] (hT : chk P T = true) {x : Operand} {src dst e : Nat} {tk : Tok} {l : List E} {bs : List UInt8} {ti td te : Ti} (hx : ev tm x = .sl tk l) (hl : l = bs.map E.byte) (ht : tl T src = some ti) (hk : ti.kd = .slice e) (hte : tl T e = some te) (hke : te.kd = .int .u8) (htds : tl T dst = some td) (hkd : td.kd = .str) (htd : Nat.blt t n = true)
    (k : AL P ops rest ⟨n, (t, .str bs) :: tm, bx, fr, ee⟩ Q) : AL P ops (⟨some t, .convert src dst x, ty, pos, after, none⟩ :: rest) ⟨n, tm, bx, fr, ee⟩ Q :=
  AL_val _ htd (fun g a w hi => by
    have h1 : V w g fr (ev tm x) (a.eval x) := hi.ev x
    rw [hx] at h1
    obtain ⟨a1, _⟩ := sl_inv h1
    obtain ⟨A, m, cap, hv, hcm, hmc⟩ : ∃ A m cap, a.eval x = .slice A m cap ∧ cap ≤ maxLen ∧ m ≤ cap := by
      generalize hq : E.sl l = q at a1
      generalize a.eval x = v at a1
      cases a1 with
      | slC l' b off cap us h1 h2 _ _ _ => exact ⟨_, _, cap, rfl, h2, h1⟩
      | slE A cap h => exact ⟨A, 0, cap, rfl, h, Nat.zero_le _⟩
      | _ => cases hq
    rw [hv] at a1
    obtain ⟨hm, hc⟩ := bytes_inv hl a1
    subst hm
    refine ⟨.string ⟨bs.toArray⟩, ?_, .str _ (by omega)⟩
    have hrun := run_str (P := P) (w := w) (S := fun _ => True) (v := .slice A bs.length cap) (l := bs) src dst e ((tl_ok hT ht).slice hk) ((tl_ok hT hte).int hke) ((tl_ok hT htds).str hkd) (SlB.mk rfl (by omega) hcm fun hne => by
      rcases hc with hc | ⟨b, off, hA, hc⟩
      · exact (hne hc).elim
      · exact ⟨b, off, hA, trivial, hc⟩)
    simp [execOp, hv, Sem.run_bind, hrun]) k
theorem AL_s2s [Known] [Dfr] (hT : chk P T = true) {x : Operand} {src dst : Nat} {s : List UInt8} {ti td : Ti} (hx : ev tm x = .str s) (ht : tl T src = some ti) (hk : ti.kd = .str) (htds : tl T dst = some td) (hkd : td.kd = .str) (htd : Nat.blt t n = true)
    (k : AL P ops rest ⟨n, (t, .str s) :: tm, bx, fr, ee⟩ Q) : AL P ops (⟨some t, .convert src dst x, ty, pos, after, none⟩ :: rest) ⟨n, tm, bx, fr, ee⟩ Q :=
  AL_val _ htd (fun g a w hi => by
    have h1 : V w g fr (ev tm x) (a.eval x) := hi.ev x
    rw [hx] at h1
    refine ⟨a.eval x, ?_, h1⟩
    have h1 := h1.str_inv.1
    simp [execOp, h1, convert, Sem.run_bind, run_underlying ((tl_ok hT ht).str hk), run_underlying ((tl_ok hT htds).str hkd)]) k
/-! guards, panics -/
theorem AL_guard [Known] [Dfr] {o : Op} {td : Option Nat} {j : Nat} {want b : Bool} {gt : Nat} (hj : ((ops[j]?).bind (·.dst)) = some gt) (hb : look tm gt = .bool b) (htd : (match td with | some t => Nat.blt t n | none => true) = true)
    (h1 : b = want → AL P ops (⟨td, o, ty, pos, after, none⟩ :: rest) ⟨n, tm, bx, fr, ee⟩ Q)
    (h2 : b = !want → AL P ops rest ⟨n, match td with | some t => (t, .tup []) :: tm | none => tm, bx, fr, ee⟩ Q) : AL P ops (⟨td, o, ty, pos, after, some (j, want)⟩ :: rest) ⟨n, tm, bx, fr, ee⟩ Q := ⟨fun b0 g a w hi => by
  have hv : V w g fr (look tm gt) (a.tmps.getD gt undef) := hi.tm gt
  rw [hb] at hv
  have hv := hv.bool_inv
  have hy : yielded ops a.tmps j = some b := by
    have hlt : gt < a.tmps.size := by
      rcases Nat.lt_or_ge gt a.tmps.size with h | h
      · exact h
      · have : a.tmps.getD gt undef = undef := by simp [Nat.not_lt.2 h]
        rw [this] at hv; cases hv
    have he : a.tmps[gt]? = some (.bool b) := by
      rw [Array.getElem?_eq_getElem hlt, ← hv]
      simp [hlt]
    unfold yielded
    rw [hj]
    show (match (some gt).bind (a.tmps[·]?) with | some (.bool b) => some b | _ => none) = some b
    simp only [Option.bind_some, he]
  by_cases e : b = want
  · have := (h1 e).run b0 g a w hi
    unfold wpList at this ⊢
    have hw : Region.wanted ⟨td, o, ty, pos, after, some (j, want)⟩ (yielded ops a.tmps) = true := by simp [Region.wanted, hy, e]
    have hw' : Region.wanted ⟨td, o, ty, pos, after, none⟩ (yielded ops a.tmps) = true := rfl
    rw [if_pos hw]
    rw [if_pos hw'] at this
    exact this
  · have e' : b = !want := by cases b <;> cases want <;> simp_all
    have := h2 e'
    unfold wpList
    have hw : Region.wanted ⟨td, o, ty, pos, after, some (j, want)⟩ (yielded ops a.tmps) = false := by simp [Region.wanted, hy, e]
    rw [if_neg (by rw [hw]; simp)]
    cases td with
    | none => exact this.run b0 g a w hi
    | some t => exact this.run b0 g _ w (hi.put htd (.tup [] [] rfl fun j d v h => by simp at h))⟩
/-- what hangs on a skipped operation is skipped -/
theorem AL_guardU [Known] [Dfr] {o : Op} {t : Nat} {j : Nat} {want : Bool} {gt : Nat} (hj : ((ops[j]?).bind (·.dst)) = some gt) (hb : look tm gt = .tup []) (htd : Nat.blt t n = true)
    (h2 : AL P ops rest ⟨n, (t, .tup []) :: tm, bx, fr, ee⟩ Q) : AL P ops (⟨some t, o, ty, pos, after, some (j, want)⟩ :: rest) ⟨n, tm, bx, fr, ee⟩ Q := ⟨fun b0 g a w hi => by
  have hv : V w g fr (look tm gt) (a.tmps.getD gt undef) := hi.tm gt
  rw [hb] at hv
  obtain ⟨vs, hv, hl, _⟩ := tup_inv hv
  obtain rfl : vs = [] := List.length_eq_zero_iff.1 hl
  have hy : yielded ops a.tmps j = none := by
    unfold yielded
    rw [hj]
    show (match (some gt).bind (a.tmps[·]?) with | some (.bool b) => some b | _ => none) = none
    rw [Option.bind_some]
    cases hg : a.tmps[gt]? with
    | none => rfl
    | some v =>
      have : a.tmps.getD gt undef = v := by simp [Array.getD_getElem?, hg]
      rw [this] at hv
      subst hv
      rfl
  unfold wpList
  have hw : Region.wanted ⟨some t, o, ty, pos, after, some (j, want)⟩ (yielded ops a.tmps) = false := by simp [Region.wanted, hy]
  rw [if_neg (by rw [hw]; simp)]
  exact h2.run b0 g _ w (hi.put htd (.tup [] [] rfl fun j d v h => by simp at h))⟩
theorem AL_panic [Known] [Dfr] {x : Operand} {d : D} {td : Option Nat} (hx : nf (ev tm x) = some d) (hn : (match d with | .iface _ _ => true | _ => false) = true) (k : Q (.pan d) ⟨n, tm, bx, fr, ee⟩) : AL P ops (⟨td, .panic x, ty, pos, after, none⟩ :: rest) ⟨n, tm, bx, fr, ee⟩ Q := ⟨fun b0 g a w hi =>
  wpList_plain rfl fun K hK => by
    have h1 : V w g fr (ev tm x) (a.eval x) := hi.ev x
    rw [nf_eq hx] at h1
    obtain ⟨v, hv⟩ : ∃ v, v = a.eval x := ⟨_, rfl⟩
    rw [← hv] at h1
    unfold Oper.wp
    have hrun : (execOp a.eval ⟨td, .panic x, ty, pos, after, none⟩).run P w = .halt (.panic v) w := by
      cases d <;> simp at hn
      cases h1
      simp [execOp, ← hv, Instr.panic, Sem.run_bind, goPanic]
    rw [hrun]
    exact ⟨_, g, v, d, hi, rfl, h1, k⟩⟩
/-- whole numbers converted -/
theorem AL_convT [Known] [Dfr] (hT : chk P T = true) {x : Operand} {src dst : Nat} {k k' : IntKind} {q : Int} {ti td : Ti} (hx : ev tm x = .int k q) (hs : tl T src = some ti) (hd : tl T dst = some td) (hk : td.kd = .int k') (htd : Nat.blt t n = true)
    (kk : AL P ops rest ⟨n, (t, .int k' (k'.wrap q)) :: tm, bx, fr, ee⟩ Q) : AL P ops (⟨some t, .convert src dst x, ty, pos, after, none⟩ :: rest) ⟨n, tm, bx, fr, ee⟩ Q := by
  obtain ⟨u, hu, _⟩ := (tl_ok hT hs).under
  exact AL_conv hx (by rw [hu]) (by rw [(tl_ok hT hd).int hk]) htd kk
theorem AL_guardT [Known] [Dfr] {o : Op} {td : Option Nat} {j : Nat} {want b : Bool} {gt : Nat} (hj : ((ops[j]?).bind (·.dst)) = some gt) (hb : look tm gt = .bool b) (htd : (match td with | some t => Nat.blt t n | none => true) = true) (hw : b = want)
    (h1 : AL P ops (⟨td, o, ty, pos, after, none⟩ :: rest) ⟨n, tm, bx, fr, ee⟩ Q) : AL P ops (⟨td, o, ty, pos, after, some (j, want)⟩ :: rest) ⟨n, tm, bx, fr, ee⟩ Q :=
  AL_guard hj hb htd (fun _ => h1) (fun h => by subst hw; cases b <;> cases h)
theorem AL_guardF [Known] [Dfr] {o : Op} {t : Nat} {j : Nat} {want b b' : Bool} {gt : Nat} (hj : ((ops[j]?).bind (·.dst)) = some gt) (hb : look tm gt = .bool b) (htd : Nat.blt t n = true) (hw : b = b') (hne : (b' != want) = true)
    (h1 : AL P ops rest ⟨n, (t, .tup []) :: tm, bx, fr, ee⟩ Q) : AL P ops (⟨some t, o, ty, pos, after, some (j, want)⟩ :: rest) ⟨n, tm, bx, fr, ee⟩ Q :=
  AL_guard hj hb htd (fun h => by subst hw; subst h; simp at hne) (fun _ => h1)
theorem AL_guardFt [Known] [Dfr] {o : Op} {t : Nat} {j : Nat} {b : Bool} {gt : Nat} (hj : ((ops[j]?).bind (·.dst)) = some gt) (hb : look tm gt = .bool b) (htd : Nat.blt t n = true) (hw : b = false)
    (h1 : AL P ops rest ⟨n, (t, .tup []) :: tm, bx, fr, ee⟩ Q) : AL P ops (⟨some t, o, ty, pos, after, some (j, true)⟩ :: rest) ⟨n, tm, bx, fr, ee⟩ Q := AL_guardF hj hb htd hw rfl h1
theorem AL_guardFf [Known] [Dfr] {o : Op} {t : Nat} {j : Nat} {b : Bool} {gt : Nat} (hj : ((ops[j]?).bind (·.dst)) = some gt) (hb : look tm gt = .bool b) (htd : Nat.blt t n = true) (hw : b = true)
    (h1 : AL P ops rest ⟨n, (t, .tup []) :: tm, bx, fr, ee⟩ Q) : AL P ops (⟨some t, o, ty, pos, after, some (j, false)⟩ :: rest) ⟨n, tm, bx, fr, ee⟩ Q := AL_guardF hj hb htd hw rfl h1
theorem AL_guardS [Known] [Dfr] {o : Op} {td : Option Nat} {j : Nat} {want b : Bool} {gt : Nat} (hj : ((ops[j]?).bind (·.dst)) = some gt) (hb : look tm gt = .bool b)
    (h1 : b = true → AL P ops (⟨td, o, ty, pos, after, some (j, want)⟩ :: rest) ⟨n, tm, bx, fr, ee⟩ Q) (h2 : b = false → AL P ops (⟨td, o, ty, pos, after, some (j, want)⟩ :: rest) ⟨n, tm, bx, fr, ee⟩ Q) :
    AL P ops (⟨td, o, ty, pos, after, some (j, want)⟩ :: rest) ⟨n, tm, bx, fr, ee⟩ Q := by
  cases b with
  | true => exact h1 rfl
  | false => exact h2 rfl
theorem AL_pickT [Known] [Dfr] {c x y : Operand} {b : Bool} {d : D} (hc : ev tm c = .bool b) (hb : b = true) (hd : nf (ev tm x) = some d) (htd : Nat.blt t n = true)
    (k : AL P ops rest ⟨n, (t, d) :: tm, bx, fr, ee⟩ Q) : AL P ops (⟨some t, .pick c x y, ty, pos, after, none⟩ :: rest) ⟨n, tm, bx, fr, ee⟩ Q := by
  subst hb; exact AL_pick hc hd htd k
theorem AL_pickF [Known] [Dfr] {c x y : Operand} {b : Bool} {d : D} (hc : ev tm c = .bool b) (hb : b = false) (hd : nf (ev tm y) = some d) (htd : Nat.blt t n = true)
    (k : AL P ops rest ⟨n, (t, d) :: tm, bx, fr, ee⟩ Q) : AL P ops (⟨some t, .pick c x y, ty, pos, after, none⟩ :: rest) ⟨n, tm, bx, fr, ee⟩ Q := by
  subst hb; exact AL_pick hc hd htd k
end
theorem AW_condA [Known] [Dfr] {P : Program} {Q : X → St → Prop} {n : Nat} {ee : Nat × Nat} {tm : List (Nat × D)} {bx : List (List D)} {fr : List Fr} {x y : Code} {b : Bool} {t : Nat} (hd : look tm t = .bool b) (hb : b = true) (h1 : AW P x ⟨n, tm, bx, fr, ee⟩ Q) : AW P (.cond (.tmp t) x y) ⟨n, tm, bx, fr, ee⟩ Q := AW_condT (hb ▸ hd) h1
theorem AW_condB [Known] [Dfr] {P : Program} {Q : X → St → Prop} {n : Nat} {ee : Nat × Nat} {tm : List (Nat × D)} {bx : List (List D)} {fr : List Fr} {x y : Code} {b : Bool} {t : Nat} (hd : look tm t = .bool b) (hb : b = false) (h1 : AW P y ⟨n, tm, bx, fr, ee⟩ Q) : AW P (.cond (.tmp t) x y) ⟨n, tm, bx, fr, ee⟩ Q := AW_condF (hb ▸ hd) h1
end Go.Av
end
/- Structs compared, said of abstract states. -/
section
open Go.RowKit Go.Pl
namespace Go.Av
set_option linter.unusedSimpArgs false
set_option linter.unusedVariables false
/-- one cell against another -/
def eq1 : ZK → D → D → Option Bool
  | .b, .bool a, .bool b => some (a == b)
  | .i k, .int k1 a, .int k2 b => if k1 = k then if k2 = k then some (a == b) else none else none
  | .s, .str a, .str b => some (a == b)
  | _, _, _ => none
def eqL : List ZK → List D → List D → Option Bool
  | [], [], [] => some true
  | k :: ks, a :: l, b :: l' => match eq1 k a b, eqL ks l l' with
    | some p, some q => some (p && q)
    | _, _ => none
  | _, _, _ => none
/-- which cells a type's values have, if they are compared cell by cell -/
def kgo (P : Program) (kd : TypeId → Option (List ZK)) : List ZK → List Field → Option (List ZK)
  | acc, [] => some acc
  | acc, f :: fs => if f.name ≠ "_" ∧ f.offset = acc.length then match kd f.type with
      | some ks => if tSize P f.type = some ks.length then kgo P kd (acc ++ ks) fs else none
      | none => none
    else none
def kinds (P : Program) : Nat → TypeId → Option (List ZK)
  | 0, _ => none
  | d + 1, t => match P.underlying t with
    | some .bool => some [.b]
    | some (.int k) => some [.i k]
    | some .string => some [.s]
    | some (.struct fs) => if P.stoodInHeld t = true then none else kgo P (kinds P d) [] fs.toList
    | _ => none
theorem kgo_pre {P : Program} {kd : TypeId → Option (List ZK)} : ∀ {fs : List Field} {acc full : List ZK}, kgo P kd acc fs = some full → ∃ rest, full = acc ++ rest
  | [], acc, full, h => ⟨[], by simp [kgo] at h; simp [h]⟩
  | f :: fs, acc, full, h => by
    simp only [kgo] at h
    split at h
    · cases hk : kd f.type with
      | none => simp [hk] at h
      | some ks =>
        simp only [hk] at h
        split at h
        · obtain ⟨rest, hr⟩ := kgo_pre h
          exact ⟨ks ++ rest, by rw [hr, List.append_assoc]⟩
        · cases h
    · cases h
theorem eqL_app : ∀ {ks ks' : List ZK} {a b : List D} {r : Bool}, eqL (ks ++ ks') a b = some r → ∃ p q, eqL ks (a.take ks.length) (b.take ks.length) = some p ∧ eqL ks' (a.drop ks.length) (b.drop ks.length) = some q ∧ r = (p && q)
  | [], ks', a, b, r, h => ⟨true, r, by simp [eqL], by simpa using h, by simp⟩
  | k :: ks, ks', x :: a, y :: b, r, h => by
    simp only [List.cons_append, eqL] at h
    cases h1 : eq1 k x y with
    | none => simp [h1] at h
    | some p =>
      cases h2 : eqL (ks ++ ks') a b with
      | none => simp [h1, h2] at h
      | some q =>
        simp [h1, h2] at h
        subst h
        obtain ⟨p', q', e1, e2, e3⟩ := eqL_app h2
        exact ⟨p && p', q', by simp [eqL, h1, e1], by simpa using e2, by rw [e3, Bool.and_assoc]⟩
  | k :: ks, ks', [], b, r, h => by simp [eqL] at h
  | k :: ks, ks', x :: a, [], r, h => by simp [eqL] at h
theorem eqL_len : ∀ {ks : List ZK} {a b : List D} {r : Bool}, eqL ks a b = some r → a.length = ks.length ∧ b.length = ks.length
  | [], [], [], r, h => ⟨rfl, rfl⟩
  | k :: ks, x :: a, y :: b, r, h => by
    simp only [eqL] at h
    cases h1 : eq1 k x y with
    | none => simp [h1] at h
    | some p =>
      cases h2 : eqL ks a b with
      | none => simp [h1, h2] at h
      | some q =>
        obtain ⟨h3, h4⟩ := eqL_len h2
        exact ⟨by simp [h3], by simp [h4]⟩
  | [], _ :: _, _, r, h => by simp [eqL] at h
  | [], [], _ :: _, r, h => by simp [eqL] at h
  | k :: ks, [], b, r, h => by simp [eqL] at h
  | k :: ks, x :: a, [], r, h => by simp [eqL] at h
section
variable {P : Program} {Q : X → St → Prop} {n : Nat} {ee : Nat × Nat} {tm : List (Nat × D)} {bx bx' : List (List D)} {fr fr' : List Fr} {b0 : Bs} {g : G} {w : World} {a : Act} {T : Tab}
variable {ops : Array Oper} {rest : List Oper} {t ty : Nat} {pos : String} {after : Array Edge}
/-- cells that hold so -/
def Holds (w : World) (g : G) (fr : List Fr) (l : List D) (vs : List Value) : Prop := vs.length = l.length ∧ ∀ (j : Nat) (d : D) (v : Value), l[j]? = some d → vs[j]? = some v → V w g fr d v
theorem Holds.sub {l : List D} {vs : List Value} (h : Holds w g fr l vs) (o k : Nat) : Holds w g fr ((l.drop o).take k) ((vs.drop o).take k) := by
  refine ⟨by simp [h.1], fun j d v hd hv => ?_⟩
  have hd' : j < k ∧ l[o + j]? = some d := by simpa [List.getElem?_take] using hd
  have hv' : j < k ∧ vs[o + j]? = some v := by simpa [List.getElem?_take] using hv
  exact h.2 _ d v hd'.2 hv'.2
theorem run_kinds : ∀ (d : Nat) (t : TypeId) (dd : Nat) (ks : List ZK) (l l' : List D) (vs vs' : List Value) (x y : Value) (r : Bool), kinds P d t = some ks → d ≤ dd → Holds w g fr l vs → Holds w g fr l' vs' → eqL ks l l' = some r →
    (tAgg P t = some true → x = .agg vs.toArray ∧ y = .agg vs'.toArray) → (tAgg P t = some false → vs = [x] ∧ vs' = [y]) → (Op.equalIn dd t x y).run P w = .ok r w := by
  intro d
  induction d with
  | zero => intro t dd ks l l' vs vs' x y r h; simp [kinds] at h
  | succ d ih =>
    intro t dd ks l l' vs vs' x y r h hdd hl hl' he hA hS
    obtain ⟨dd, rfl⟩ : ∃ k, dd = k + 1 := ⟨dd - 1, by omega⟩
    have sc : ∀ k, ks = [k] → tAgg P t = some false → ∃ p q, V w g fr p x ∧ V w g fr q y ∧ eq1 k p q = some r := fun k hk hAf => by
      subst hk
      obtain ⟨rfl, rfl⟩ := hS hAf
      obtain ⟨h1, h2⟩ := eqL_len he
      match l, l', h1, h2 with
      | [p], [q], _, _ =>
        refine ⟨p, q, hl.2 0 p x rfl rfl, hl'.2 0 q y rfl rfl, ?_⟩
        cases h5 : eq1 k p q with
        | none => simp [eqL, h5] at he
        | some b => simp [eqL, h5] at he; rw [he]
    unfold kinds at h
    cases hu : P.underlying t with
    | none => simp [hu] at h
    | some u =>
      cases u <;> simp [hu] at h
      case bool =>
        obtain ⟨p, q, hp, hq, he⟩ := sc .b h.symm (by simp [Go.Av.tAgg, hu])
        cases p <;> cases q <;> simp [eq1] at he
        cases hp; cases hq; subst he
        exact run_equalIn_bool w dd t _ _ hu
      case int k =>
        obtain ⟨p, q, hp, hq, he⟩ := sc (.i k) h.symm (by simp [Go.Av.tAgg, hu])
        cases p <;> cases q <;> simp [eq1] at he
        obtain ⟨rfl, rfl, he⟩ := he
        cases hp; cases hq; subst he
        exact run_equalIn_int w dd t _ _ _ _ hu
      case string =>
        obtain ⟨p, q, hp, hq, he⟩ := sc .s h.symm (by simp [Go.Av.tAgg, hu])
        cases p <;> cases q <;> simp [eq1] at he
        have h1 := hp.str_inv.1
        have h2 := hq.str_inv.1
        subst h1 h2 he
        rw [run_equalIn_string w dd t _ _ hu, ba_toList, ba_toList]
      case struct fs =>
        obtain ⟨hst, h⟩ := h
        obtain ⟨rfl, rfl⟩ := hA (by simp [Go.Av.tAgg, hu])
        have hfs : P.fieldsOf t = fs := by simp [Program.fieldsOf, hu]
        rw [run_equalIn_struct w dd t _ _ (by rw [hfs]; exact hu) hst, hfs]
        -- field by field
        obtain ⟨hL, hL'⟩ := eqL_len he
        have key : ∀ (fl : List Field) (acc : List ZK) (r : Bool), kgo P (kinds P d) acc fl = some ks → eqL (ks.drop acc.length) (l.drop acc.length) (l'.drop acc.length) = some r → (Op.eqFields dd vs.toArray vs'.toArray fl).run P w = .ok r w := by
          intro fl
          induction fl with
          | nil =>
            intro acc r h he
            simp [kgo] at h
            subst h
            have : eqL [] (l.drop acc.length) (l'.drop acc.length) = some r := by simpa using he
            obtain ⟨h1, h2⟩ := eqL_len this
            have e1 : l.drop acc.length = [] := List.eq_nil_of_length_eq_zero h1
            have e2 : l'.drop acc.length = [] := List.eq_nil_of_length_eq_zero h2
            rw [e1, e2] at this
            simp [eqL] at this
            subst this
            rfl
          | cons f fl ihf =>
            intro acc r h he
            simp only [kgo] at h
            split at h
            · rename_i hn
              cases hk : kinds P d f.type with
              | none => simp [hk] at h
              | some kf =>
                simp only [hk] at h
                split at h
                · rename_i hsz
                  obtain ⟨rest, hr⟩ := kgo_pre h
                  have hd : ks.drop acc.length = kf ++ rest := by rw [hr]; simp
                  rw [hd] at he
                  obtain ⟨p, q, e1, e2, e3⟩ := eqL_app he
                  obtain ⟨q1, q2⟩ := eqL_len e1
                  have hks : ks.length = acc.length + kf.length + rest.length := by rw [hr]; simp; omega
                  have hlen : acc.length + kf.length ≤ l.length := by omega
                  have hlen' : acc.length + kf.length ≤ l'.length := by omega
                  have hvl := hl.1
                  have hvl' := hl'.1
                  -- the parts
                  have hpart : ∃ x y, (part f.type vs.toArray f.offset).run P w = .ok x w ∧ (part f.type vs'.toArray f.offset).run P w = .ok y w ∧ (tAgg P f.type = some true → x = .agg ((vs.drop acc.length).take kf.length).toArray ∧ y = .agg ((vs'.drop acc.length).take kf.length).toArray) ∧ (tAgg P f.type = some false → (vs.drop acc.length).take kf.length = [x] ∧ (vs'.drop acc.length).take kf.length = [y]) := by
                    cases hag : tAgg P f.type with
                    | none =>
                      exfalso
                      cases d with
                      | zero => simp [kinds] at hk
                      | succ d =>
                        unfold kinds at hk
                        unfold Go.Av.tAgg at hag
                        cases hu2 : P.underlying f.type with
                        | none => simp [hu2] at hk
                        | some u2 => cases u2 <;> simp [hu2] at hag
                    | some b =>
                      rw [hn.2]
                      cases b with
                      | true =>
                        refine ⟨.agg (vs.toArray.extract acc.length (acc.length + kf.length)), .agg (vs'.toArray.extract acc.length (acc.length + kf.length)), by simp [part, Sem.run_bind, run_isAgg hag, run_sizeOf hsz], by simp [part, Sem.run_bind, run_isAgg hag, run_sizeOf hsz], fun _ => ⟨?_, ?_⟩, fun h => by cases h⟩
                        · congr 1; apply Array.ext'; simp [List.drop_take, Nat.add_sub_cancel_left]
                        · congr 1; apply Array.ext'; simp [List.drop_take, Nat.add_sub_cancel_left]
                      | false =>
                        have hk1 : kf.length = 1 := by
                          cases d with
                          | zero => simp [kinds] at hk
                          | succ d =>
                            unfold kinds at hk
                            unfold Go.Av.tAgg at hag
                            cases hu2 : P.underlying f.type with
                            | none => simp [hu2] at hk
                            | some u2 => cases u2 <;> simp [hu2] at hag hk <;> subst hk <;> rfl
                        have h1 : acc.length < vs.length := by omega
                        have h2 : acc.length < vs'.length := by omega
                        refine ⟨vs[acc.length], vs'[acc.length], by simp [part, Sem.run_bind, run_isAgg hag, h1], by simp [part, Sem.run_bind, run_isAgg hag, h2], (fun h => by cases h), fun _ => ⟨?_, ?_⟩⟩
                        · rw [hk1, List.drop_eq_getElem_cons h1]; rfl
                        · rw [hk1, List.drop_eq_getElem_cons h2]; rfl
                  obtain ⟨x, y, p1, p2, p3, p4⟩ := hpart
                  have hrec := ih f.type dd kf _ _ _ _ x y p hk (by omega) (hl.sub acc.length kf.length) (hl'.sub acc.length kf.length) e1 p3 p4
                  have hnext := ihf (acc ++ kf) q h (by
                    rw [List.length_append, ← List.drop_drop, hd, ← List.drop_drop, ← List.drop_drop]
                    simpa using e2)
                  simp only [Op.eqFields, Sem.run_bind, Sem.run_ite, if_pos hn.1, p1, p2, Result.andThen_ok, hrec]
                  subst e3
                  cases p with
                  | true => simpa using hnext
                  | false => simp
                · cases h
            · cases h
        exact key fs.toList [] r h (by simpa using he)
theorem AL_eqS [Known] [Dfr] {op : BinOp} {x y : Operand} {xt yt : Nat} {l l' : List D} {ti : Ti} {d : D} {r : Bool} (hT : chk P T = true) (hx : ev tm x = .agg l) (hy : ev tm y = .agg l') (ht : tl T xt = some ti) (ha : ti.kd.agg = true) (hk : kinds P 9 xt = some ti.zero) (hg : P.eqGuardType P.depth xt = false) (he : eqL ti.zero l l' = some r)
    (hd : (match op with | .eql => some (D.bool r) | .neq => some (D.bool (!r)) | _ => none) = some d) (htd : Nat.blt t n = true)
    (k : AL P ops rest ⟨n, (t, d) :: tm, bx, fr, ee⟩ Q) : AL P ops (⟨some t, .binOp op xt x y yt, ty, pos, after, none⟩ :: rest) ⟨n, tm, bx, fr, ee⟩ Q :=
  AL_val _ htd (fun g a w hi => by
    have h1 : V w g fr (ev tm x) (a.eval x) := hi.ev x
    rw [hx] at h1
    have h2 : V w g fr (ev tm y) (a.eval y) := hi.ev y
    rw [hy] at h2
    obtain ⟨vs, v1, v2, v3⟩ := agg_inv h1
    obtain ⟨vs', u1, u2, u3⟩ := agg_inv h2
    have hrun : (Op.equal xt (.agg vs.toArray) (.agg vs'.toArray)).run P w = .ok r w :=
      run_kinds 9 xt 10000 ti.zero l l' vs vs' _ _ r hk (by omega) ⟨v2, v3⟩ ⟨u2, u3⟩ he (fun _ => ⟨rfl, rfl⟩) (fun h => by rw [(tl_ok hT ht).tAgg, ha] at h; cases h)
    have hguard := fun op => run_eqGuard_agg (P := P) w op xt x y vs.toArray vs'.toArray hg
    cases op <;> simp at hd <;> subst hd
    · exact ⟨.bool r, by simp [execOp, v1, u1, binOp, Sem.run_bind, hguard, hrun], .bool _⟩
    · exact ⟨.bool (!r), by simp [execOp, v1, u1, binOp, Sem.run_bind, hguard, hrun], .bool _⟩) k
end
end Go.Av
end

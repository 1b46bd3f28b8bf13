/- The operations on memory, said of abstract states. -/
import Derived.Test.YteijmldnfjcipaaGreatDoorAv6
open Go.RowKit Go.Pl
namespace Go.Av
set_option linter.unusedSimpArgs false
set_option linter.unusedVariables false

/-! ### types: a table -/
inductive ZK where
  | b | i (k : IntKind) | s | p | l | f | n
  deriving DecidableEq, Repr
def ZK.d : ZK → D
  | .b => .bool false
  | .i k => .int k 0
  | .s => .str []
  | .p => .nilp
  | .l => .sl .nil []
  | .f => .nilf
  | .n => .nili
def zk : Value → Option ZK
  | .bool false => some .b
  | .int k n => if n = 0 then some (.i k) else none
  | .string s => if s.size = 0 then some .s else none
  | .pointer none => some .p
  | .slice none 0 0 => some .l
  | .nilFunc => some .f
  | .nilIface => some .n
  | _ => none
theorem zk_ok {w : World} {g : G} {fr : List Fr} {v : Value} {z : ZK} (h : zk v = some z) : V w g fr z.d v ∧ v.oneCell' = true := by
  unfold zk at h
  split at h
  · cases h; exact ⟨.bool _, rfl⟩
  · split at h
    · cases h; rename_i k n h0; subst h0; exact ⟨.int _ _, rfl⟩
    · cases h
  · split at h
    · cases h
      rename_i s h0
      have e : s = ⟨([] : List UInt8).toArray⟩ := by
        obtain ⟨a⟩ := s
        have : a = #[] := Array.eq_empty_of_size_eq_zero h0
        rw [this]
      rw [e]
      exact ⟨.str [] (Nat.zero_le _), rfl⟩
    · cases h
  · cases h; exact ⟨.nilp, rfl⟩
  · cases h; exact ⟨.sl .nil [] _ (.slE _ _ (Nat.zero_le _)) rfl, rfl⟩
  · cases h; exact ⟨.nilf, rfl⟩
  · cases h; exact ⟨.nili, rfl⟩
  · cases h
def zks : List Value → Option (List ZK)
  | [] => some []
  | v :: l => match zk v, zks l with
    | some z, some zs => some (z :: zs)
    | _, _ => none
theorem zks_ok {w : World} {g : G} {fr : List Fr} : ∀ {l : List Value} {zs : List ZK}, zks l = some zs → l.length = zs.length ∧ ∀ (j : Nat) (d : D) (v : Value), (zs.map ZK.d)[j]? = some d → l[j]? = some v → V w g fr d v ∧ v.oneCell' = true
  | [], zs, h => by simp [zks] at h; subst h; simp
  | v :: l, zs, h => by
    cases hv : zk v with
    | none => simp [zks, hv] at h
    | some z =>
      cases hl : zks l with
      | none => simp [zks, hv, hl] at h
      | some zs' =>
        simp [zks, hv, hl] at h; subst h
        obtain ⟨h1, h2⟩ := zks_ok (w := w) (g := g) (fr := fr) hl
        refine ⟨by simp [h1], fun j d u hd hu => ?_⟩
        cases j with
        | zero => simp at hd hu; subst hd hu; exact zk_ok hv
        | succ j => simp only [List.map_cons, List.getElem?_cons_succ] at hd hu; exact h2 j d u hd hu
structure Fd where
  off : Nat
  size : Nat
  agg : Bool
  ty : Nat
  deriving DecidableEq, Repr
inductive Kd where
  | bool | int (k : IntKind) | str | ptr (e : Nat) | slice (e : Nat) | struct (fs : List Fd) | array (n e : Nat) | iface | func | other
  deriving DecidableEq, Repr
structure Ti where
  kd : Kd
  size : Nat
  bytes : Nat
  zero : List ZK
  deriving DecidableEq, Repr
def isAggD : TypeDesc → Bool
  | .struct _ | .array _ _ => true
  | _ => false
def kdOf (P : Program) : TypeDesc → Kd
  | .bool => .bool
  | .int k => .int k
  | .string => .str
  | .pointer e => .ptr e
  | .slice e => .slice e
  | .struct fs => if fs.toList.all (fun f => (tSize P f.type).isSome && (tAgg P f.type).isSome) then .struct (fs.toList.map fun f => ⟨f.offset, (tSize P f.type).getD 0, (tAgg P f.type).getD false, f.type⟩) else .other
  | .array n e => .array n e
  | .interface _ => .iface
  | .func .. => .func
  | _ => .other
def tinfo (P : Program) (t : TypeId) : Option Ti :=
  match P.info? t, P.underlying t with
  | some i, some u => match i.zero with
    | some z => match zks z.cells.toList with
      | some zs => if zs.length = i.size ∧ kdOf P u ≠ .other then some ⟨kdOf P u, i.size, i.bytes, zs⟩ else none
      | none => none
    | none => none
  | _, _ => none
abbrev Tab := List (Nat × Ti)
def tl : Tab → Nat → Option Ti
  | [], _ => none
  | (k, i) :: l, t => match Nat.beq k t with
    | true => some i
    | false => tl l t
def chk (P : Program) (T : Tab) : Bool := T.all fun p => decide (tinfo P p.1 = some p.2)
structure TiOk (P : Program) (t : TypeId) (ti : Ti) : Prop where
  out : ∃ i u z, P.info? t = some i ∧ P.underlying t = some u ∧ i.zero = some z ∧ ti.kd = kdOf P u ∧ ti.size = i.size ∧ ti.bytes = i.bytes ∧ zks z.cells.toList = some ti.zero
  len : ti.zero.length = ti.size
  ne : ti.kd ≠ .other
theorem tl_ok {P : Program} {T : Tab} (hT : chk P T = true) {t : Nat} {ti : Ti} (h : tl T t = some ti) : TiOk P t ti := by
  have key : ∀ T : Tab, chk P T = true → tl T t = some ti → tinfo P t = some ti := by
    intro T
    induction T with
    | nil => intro _ h; simp [tl] at h
    | cons p l ih =>
      obtain ⟨k, i⟩ := p
      intro hT h
      simp only [chk, List.all_cons, Bool.and_eq_true, decide_eq_true_eq] at hT
      simp only [tl] at h
      cases hb : Nat.beq k t with
      | true =>
        have := Nat.eq_of_beq_eq_true hb
        subst this
        simp only [hb, Option.some.injEq] at h
        subst h
        exact hT.1
      | false => simp only [hb] at h; exact ih hT.2 h
  have h := key T hT h
  unfold tinfo at h
  cases hi : P.info? t with
  | none => simp [hi] at h
  | some i =>
    cases hu : P.underlying t with
    | none => simp [hi, hu] at h
    | some u =>
      cases hz : i.zero with
      | none => simp [hi, hu, hz] at h
      | some z =>
        cases hzs : zks z.cells.toList with
        | none => simp only [hi, hu, hz, hzs] at h; cases h
        | some zs =>
          simp only [hi, hu, hz, hzs] at h
          split at h
          · injection h with h
            subst h
            exact ⟨⟨i, u, z, hi, hu, hz, rfl, rfl, rfl, hzs⟩, ‹_ ∧ _›.1, ‹_ ∧ _›.2⟩
          · cases h
theorem tl_zero {P : Program} {T : Tab} (hT : chk P T = true) {t : Nat} {ti : Ti} (h : tl T t = some ti) : ti.size = ti.zero.length := (tl_ok hT h).len.symm
section
variable {P : Program} {t : TypeId} {ti : Ti}
def Kd.agg : Kd → Bool
  | .struct _ | .array _ _ => true
  | _ => false
theorem TiOk.tAgg (h : TiOk P t ti) : tAgg P t = some ti.kd.agg := by
  obtain ⟨i, u, z, h1, h2, h3, h4, h5, h6, h7⟩ := h.out
  unfold Go.Av.tAgg
  rw [h2, h4]
  have hne := h.ne
  rw [h4] at hne
  cases u <;> first | rfl | skip
  rename_i fs
  simp only [kdOf] at hne ⊢
  split
  · rfl
  · rename_i hh; rw [if_neg hh] at hne; exact (hne rfl).elim
theorem TiOk.tSize (h : TiOk P t ti) : tSize P t = some ti.size := by
  obtain ⟨i, u, z, h1, h2, h3, h4, h5, h6, h7⟩ := h.out
  simp [Go.Av.tSize, h1, h5]
theorem TiOk.slice (h : TiOk P t ti) {e : Nat} (hk : ti.kd = .slice e) : P.underlying t = some (.slice e) := by
  obtain ⟨i, u, z, h1, h2, h3, h4, h5, h6, h7⟩ := h.out
  rw [h2]; rw [hk] at h4
  cases u <;> simp only [kdOf] at h4 <;> first | (split at h4 <;> cases h4; done) | cases h4
  rfl
theorem TiOk.str (h : TiOk P t ti) (hk : ti.kd = .str) : P.underlying t = some .string := by
  obtain ⟨i, u, z, h1, h2, h3, h4, h5, h6, h7⟩ := h.out
  rw [h2]; rw [hk] at h4
  cases u <;> simp only [kdOf] at h4 <;> first | (split at h4 <;> cases h4; done) | cases h4
  rfl
theorem TiOk.int (h : TiOk P t ti) {k : IntKind} (hk : ti.kd = .int k) : P.underlying t = some (.int k) := by
  obtain ⟨i, u, z, h1, h2, h3, h4, h5, h6, h7⟩ := h.out
  rw [h2]; rw [hk] at h4
  cases u <;> simp only [kdOf] at h4 <;> first | (split at h4 <;> cases h4; done) | cases h4
  rfl
theorem TiOk.struct' (h : TiOk P t ti) {fs : List Fd} (hk : ti.kd = .struct fs) : ∃ fields, P.underlying t = some (.struct fields) ∧ (fs = fields.toList.map fun f => ⟨f.offset, (Go.Av.tSize P f.type).getD 0, (Go.Av.tAgg P f.type).getD false, f.type⟩) ∧ ∀ f ∈ fields.toList, (Go.Av.tSize P f.type).isSome = true ∧ (Go.Av.tAgg P f.type).isSome = true := by
  obtain ⟨i, u, z, h1, h2, h3, h4, h5, h6, h7⟩ := h.out
  rw [hk] at h4
  cases u <;> simp only [kdOf] at h4 <;> first | cases h4 | skip
  split at h4
  · rename_i fs' hall
    injection h4 with h4
    refine ⟨_, h2, h4, fun f hf => ?_⟩
    have := List.all_eq_true.1 hall f hf
    simpa using this
  · cases h4
theorem TiOk.struct (h : TiOk P t ti) {fs : List Fd} (hk : ti.kd = .struct fs) : ∃ fields, P.underlying t = some (.struct fields) ∧ fs = fields.toList.map fun f => ⟨f.offset, (Go.Av.tSize P f.type).getD 0, (Go.Av.tAgg P f.type).getD false, f.type⟩ := by
  obtain ⟨fields, h1, h2, _⟩ := h.struct' hk
  exact ⟨fields, h1, h2⟩
theorem TiOk.under (h : TiOk P t ti) : ∃ u, P.underlying t = some u ∧ ti.kd = kdOf P u := by
  obtain ⟨i, u, z, h1, h2, h3, h4, h5, h6, h7⟩ := h.out
  exact ⟨u, h2, h4⟩
theorem TiOk.zero (h : TiOk P t ti) (w : World) : ∃ z, (zeroValue t).run P w = .ok z w ∧ zks z.cells.toList = some ti.zero := by
  obtain ⟨i, u, z, h1, h2, h3, h4, h5, h6, h7⟩ := h.out
  exact ⟨z, by simp [zeroValue, typeInfo, Sem.run_bind, h1, h3], h7⟩
end

/-! ### reading -/
section
variable {P : Program} {Q : X → St → Prop} {n : Nat} {ee : Nat × Nat} {tm : List (Nat × D)} {bx : List (List D)} {fr : List Fr} {b0 : Bs} {g : G} {w : World} {a : Act} {T : Tab}
variable {ops : Array Oper} {rest : List Oper} {t ty : Nat} {pos : String} {after : Array Edge}
theorem AL_load1 (hT : chk P T = true) {x : Operand} {lt b o : Nat} {cs : List D} {d : D} {ti : Ti} (hx : ev tm x = .ptr b o) (ht : tl T lt = some ti) (ha : ti.kd.agg = false) (hb : bx[b]? = some cs) (hd : cs[o]? = some d) (htd : Nat.blt t n = true)
    (k : AL P ops rest ⟨n, (t, d) :: tm, bx, fr, ee⟩ Q) : AL P ops (⟨some t, .load lt x, ty, pos, after, none⟩ :: rest) ⟨n, tm, bx, fr, ee⟩ Q :=
  AL_val d htd (fun g a w hi => by
    have h1 : V w g fr (ev tm x) (a.eval x) := hi.ev x
    rw [hx] at h1
    obtain ⟨u, h2, h3⟩ := load_ptr1 (P := P) hi.mem (by rw [(tl_ok hT ht).tAgg, ha]) h1 hb hd
    exact ⟨u, by simp [execOp, Sem.run_bind, h2], h3⟩) k
theorem AL_loadn (hT : chk P T = true) {x : Operand} {lt b o : Nat} {cs cs' : List D} {ti : Ti} (hx : ev tm x = .ptr b o) (ht : tl T lt = some ti) (ha : ti.kd.agg = true) (hb : bx[b]? = some cs) (ho : Nat.ble (o + ti.size) cs.length = true) (hd : nfs ((cs.drop o).take ti.size) = some cs') (htd : Nat.blt t n = true)
    (k : AL P ops rest ⟨n, (t, .agg cs') :: tm, bx, fr, ee⟩ Q) : AL P ops (⟨some t, .load lt x, ty, pos, after, none⟩ :: rest) ⟨n, tm, bx, fr, ee⟩ Q :=
  AL_val _ htd (fun g a w hi => by
    have h1 : V w g fr (ev tm x) (a.eval x) := hi.ev x
    rw [hx] at h1
    have ti := tl_ok hT ht
    obtain ⟨u, h2, h3⟩ := load_ptrn (P := P) hi.mem (by rw [ti.tAgg, ha]) ti.tSize h1 hb (Nat.le_of_ble_eq_true ho)
    rw [nfs_eq hd] at h3
    exact ⟨u, by simp [execOp, Sem.run_bind, h2], h3⟩) k
theorem AL_eload1 (hT : chk P T = true) {x : Operand} {lt o : Nat} {cs : List E} {e : E} {d : D} {ti : Ti} (hx : ev tm x = .eptr cs o) (ht : tl T lt = some ti) (ha : ti.kd.agg = false) (he : cs[o]? = some e) (hd : nf (.ofE e) = some d) (htd : Nat.blt t n = true)
    (k : AL P ops rest ⟨n, (t, d) :: tm, bx, fr, ee⟩ Q) : AL P ops (⟨some t, .load lt x, ty, pos, after, none⟩ :: rest) ⟨n, tm, bx, fr, ee⟩ Q :=
  AL_val d htd (fun g a w hi => by
    have h1 : V w g fr (ev tm x) (a.eval x) := hi.ev x
    rw [hx] at h1
    obtain ⟨u, h2, h3⟩ := load_eptr1 (P := P) (by rw [(tl_ok hT ht).tAgg, ha]) h1 he
    rw [nf_eq hd] at h3
    exact ⟨u, by simp [execOp, Sem.run_bind, h2], h3⟩) k
theorem AL_eloadn (hT : chk P T = true) {x : Operand} {lt o : Nat} {cs : List E} {cs' : List D} {ti : Ti} (hx : ev tm x = .eptr cs o) (ht : tl T lt = some ti) (ha : ti.kd.agg = true) (ho : Nat.ble (o + ti.size) cs.length = true) (hd : nfs (((cs.drop o).take ti.size).map .ofE) = some cs') (htd : Nat.blt t n = true)
    (k : AL P ops rest ⟨n, (t, .agg cs') :: tm, bx, fr, ee⟩ Q) : AL P ops (⟨some t, .load lt x, ty, pos, after, none⟩ :: rest) ⟨n, tm, bx, fr, ee⟩ Q :=
  AL_val _ htd (fun g a w hi => by
    have h1 : V w g fr (ev tm x) (a.eval x) := hi.ev x
    rw [hx] at h1
    have ti := tl_ok hT ht
    obtain ⟨u, h2, h3⟩ := load_eptrn (P := P) (by rw [ti.tAgg, ha]) ti.tSize h1 (Nat.le_of_ble_eq_true ho)
    rw [nfs_eq hd] at h3
    exact ⟨u, by simp [execOp, Sem.run_bind, h2], h3⟩) k
theorem run_fieldAt {st : TypeId} {f : Nat} {ti : Ti} {fs : List Fd} {fd : Fd} (hti : TiOk P st ti) (hk : ti.kd = .struct fs) (hf : fs[f]? = some fd) (hs : Nat.beq fd.size 0 = false) (w : World) (b o : Nat) :
    (Instr.fieldAt st (.pointer (some ⟨b, o, none⟩)) f).run P w = .ok (.pointer (some ⟨b, o + fd.off, none⟩)) w := by
  obtain ⟨fields, h1, rfl⟩ := hti.struct hk
  rw [List.getElem?_map] at hf
  cases hff : fields[f]? with
  | none => simp [hff] at hf
  | some fl =>
    have hff' : fields.toList[f]? = some fl := by simpa using hff
    rw [hff'] at hf
    simp only [Option.map_some, Option.some.injEq] at hf
    subst hf
    cases hsz : Go.Av.tSize P fl.type with
    | none => simp [hsz] at hs
    | some k =>
      have hk0 : k ≠ 0 := fun e => by simp [hsz, e] at hs
      have hadd : (⟨b, o, none⟩ : Addr).add fl.offset = ⟨b, o + fl.offset, none⟩ := by unfold Addr.add; split <;> simp_all
      simp [Instr.fieldAt, Instr.sureAddr, fieldPlace, Sem.run_bind, run_underlying h1, hff, run_sizeOf hsz, hk0, hadd]
theorem AL_fieldAddr (hT : chk P T = true) {x : Operand} {st f b o o' : Nat} {ti : Ti} {fs : List Fd} {fd : Fd} (hx : ev tm x = .ptr b o) (ht : tl T st = some ti) (hk : ti.kd = .struct fs) (hf : fs[f]? = some fd) (hs : Nat.beq fd.size 0 = false) (ho : o + fd.off = o') (htd : Nat.blt t n = true)
    (k : AL P ops rest ⟨n, (t, .ptr b o') :: tm, bx, fr, ee⟩ Q) : AL P ops (⟨some t, .fieldAddr st x f, ty, pos, after, none⟩ :: rest) ⟨n, tm, bx, fr, ee⟩ Q :=
  AL_val _ htd (fun g a w hi => by
    have h1 : V w g fr (ev tm x) (a.eval x) := hi.ev x
    rw [hx] at h1
    obtain ⟨blk, h2, h3⟩ := ptr_inv h1
    subst ho
    exact ⟨.pointer (some ⟨blk, o + fd.off, none⟩), by simp [execOp, Sem.run_bind, h3, run_fieldAt (tl_ok hT ht) hk hf hs], .ptr _ _ blk h2⟩) k
theorem AL_efieldAddr (hT : chk P T = true) {x : Operand} {st f o o' : Nat} {cs : List E} {ti : Ti} {fs : List Fd} {fd : Fd} (hx : ev tm x = .eptr cs o) (ht : tl T st = some ti) (hk : ti.kd = .struct fs) (hf : fs[f]? = some fd) (hs : Nat.beq fd.size 0 = false) (ho : o + fd.off = o') (htd : Nat.blt t n = true)
    (k : AL P ops rest ⟨n, (t, .eptr cs o') :: tm, bx, fr, ee⟩ Q) : AL P ops (⟨some t, .fieldAddr st x f, ty, pos, after, none⟩ :: rest) ⟨n, tm, bx, fr, ee⟩ Q :=
  AL_val _ htd (fun g a w hi => by
    have h1 : V w g fr (ev tm x) (a.eval x) := hi.ev x
    rw [hx] at h1
    subst ho
    obtain ⟨p, hp⟩ : ∃ p, p = a.eval x := ⟨_, rfl⟩
    rw [← hp] at h1
    cases h1 with
    | eptr _ _ blk off us hc hw he =>
      exact ⟨.pointer (some ⟨blk, off + (o + fd.off), none⟩), by simp [execOp, Sem.run_bind, ← hp, run_fieldAt (tl_ok hT ht) hk hf hs, Nat.add_assoc], .eptr _ _ blk off us hc hw he⟩) k
theorem AL_nilCheck {x : Operand} {b o : Nat} (hx : ev tm x = .ptr b o) (htd : Nat.blt t n = true)
    (k : AL P ops rest ⟨n, (t, .ptr b o) :: tm, bx, fr, ee⟩ Q) : AL P ops (⟨some t, .nilCheck x, ty, pos, after, none⟩ :: rest) ⟨n, tm, bx, fr, ee⟩ Q :=
  AL_val _ htd (fun g a w hi => by
    have h1 : V w g fr (ev tm x) (a.eval x) := hi.ev x
    rw [hx] at h1
    obtain ⟨blk, h2, h3⟩ := ptr_inv h1
    exact ⟨.pointer (some ⟨blk, o, none⟩), by simp [execOp, h3], .ptr _ _ blk h2⟩) k
theorem AL_enilCheck {x : Operand} {cs : List E} {o : Nat} (hx : ev tm x = .eptr cs o) (htd : Nat.blt t n = true)
    (k : AL P ops rest ⟨n, (t, .eptr cs o) :: tm, bx, fr, ee⟩ Q) : AL P ops (⟨some t, .nilCheck x, ty, pos, after, none⟩ :: rest) ⟨n, tm, bx, fr, ee⟩ Q :=
  AL_val _ htd (fun g a w hi => by
    have h1 : V w g fr (ev tm x) (a.eval x) := hi.ev x
    rw [hx] at h1
    obtain ⟨p, hp⟩ : ∃ p, p = a.eval x := ⟨_, rfl⟩
    rw [← hp] at h1
    refine ⟨p, ?_, h1⟩
    cases h1
    simp [execOp, ← hp]) k
theorem agg_inv {l : List D} {v : Value} (h : V w g fr (.agg l) v) : ∃ vs : List Value, v = .agg vs.toArray ∧ vs.length = l.length ∧ ∀ (j : Nat) (d : D) (v : Value), l[j]? = some d → vs[j]? = some v → V w g fr d v := by
  cases h; exact ⟨_, rfl, ‹_›, ‹_›⟩
theorem tup_inv {l : List D} {v : Value} (h : V w g fr (.tup l) v) : ∃ vs : List Value, v = .tuple vs.toArray ∧ vs.length = l.length ∧ ∀ (j : Nat) (d : D) (v : Value), l[j]? = some d → vs[j]? = some v → V w g fr d v := by
  cases h; exact ⟨_, rfl, ‹_›, ‹_›⟩
theorem AL_extract {x : Operand} {i : Nat} {l : List D} {d : D} (hx : ev tm x = .tup l) (hd : l[i]? = some d) (htd : Nat.blt t n = true)
    (k : AL P ops rest ⟨n, (t, d) :: tm, bx, fr, ee⟩ Q) : AL P ops (⟨some t, .extract x i, ty, pos, after, none⟩ :: rest) ⟨n, tm, bx, fr, ee⟩ Q :=
  AL_val _ htd (fun g a w hi => by
    have h1 : V w g fr (ev tm x) (a.eval x) := hi.ev x
    rw [hx] at h1
    obtain ⟨vs, h2, h3, h4⟩ := tup_inv h1
    have hlt : i < vs.length := by rw [h3]; exact (List.getElem?_eq_some_iff.1 hd).1
    exact ⟨vs[i], by simp [execOp, h2, Instr.extract, hlt], h4 i d _ hd (List.getElem?_eq_getElem hlt)⟩) k
theorem field_get {st : TypeId} {f : Nat} {ti : Ti} {fs : List Fd} {fd : Fd} (hti : TiOk P st ti) (hk : ti.kd = .struct fs) (hf : fs[f]? = some fd) (hs : Nat.beq fd.size 0 = false) :
    ∃ fields fl, P.underlying st = some (.struct fields) ∧ fields[f]? = some fl ∧ fd = ⟨fl.offset, (Go.Av.tSize P fl.type).getD 0, (Go.Av.tAgg P fl.type).getD false, fl.type⟩ ∧ Go.Av.tSize P fl.type = some fd.size := by
  obtain ⟨fields, h1, rfl⟩ := hti.struct hk
  rw [List.getElem?_map] at hf
  cases hff : fields[f]? with
  | none => simp [hff] at hf
  | some fl =>
    have hff' : fields.toList[f]? = some fl := by simpa using hff
    rw [hff'] at hf
    simp only [Option.map_some, Option.some.injEq] at hf
    subst hf
    refine ⟨fields, fl, h1, hff, rfl, ?_⟩
    cases hsz : Go.Av.tSize P fl.type with
    | none => simp [hsz] at hs
    | some k => rfl
theorem AL_field1 (hT : chk P T = true) {x : Operand} {st f : Nat} {l : List D} {d : D} {ti ti' : Ti} {fs : List Fd} {fd : Fd} (hx : ev tm x = .agg l) (ht : tl T st = some ti) (hk : ti.kd = .struct fs) (hf : fs[f]? = some fd) (hs : Nat.beq fd.size 0 = false) (ht2 : tl T fd.ty = some ti') (ha : ti'.kd.agg = false) (hd : l[fd.off]? = some d) (htd : Nat.blt t n = true)
    (k : AL P ops rest ⟨n, (t, d) :: tm, bx, fr, ee⟩ Q) : AL P ops (⟨some t, .field st x f, ty, pos, after, none⟩ :: rest) ⟨n, tm, bx, fr, ee⟩ Q :=
  AL_val _ htd (fun g a w hi => by
    have h1 : V w g fr (ev tm x) (a.eval x) := hi.ev x
    rw [hx] at h1
    obtain ⟨vs, h2, h3, h4⟩ := agg_inv h1
    obtain ⟨fields, fl, k1, k2, k3, k4⟩ := field_get (tl_ok hT ht) hk hf hs
    have hfo : fd.off = fl.offset := by rw [k3]
    have hft : fd.ty = fl.type := by rw [k3]
    have hlt : fl.offset < vs.length := by rw [h3, ← hfo]; exact (List.getElem?_eq_some_iff.1 hd).1
    have hagg := run_isAgg (P := P) (t := fl.type) (b := false) (by rw [← hft, (tl_ok hT ht2).tAgg, ha]) w
    refine ⟨vs[fl.offset], ?_, h4 _ d _ (hfo ▸ hd) (List.getElem?_eq_getElem hlt)⟩
    simp [execOp, h2, Instr.field, Sem.run_bind, run_underlying k1, k2, part, asAgg, hagg, hlt]) k
end
end Go.Av

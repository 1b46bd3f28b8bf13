/- The operations, each said of abstract states. -/
import Derived.Test.YteijmldnfjcipaaGreatDoorAv
import Derived.Deep.MidRow
open Go.RowKit Go.Pl
namespace Go.Av
set_option linter.unusedSimpArgs false
set_option linter.unusedVariables false

def const1 : Value → D
  | .bool b => .bool b
  | .int k n => .int k n
  | .string s => if s.data.toList.length ≤ maxLen then .str s.data.toList else .junk
  | .pointer none => .nilp
  | .slice none 0 0 => .sl .nil []
  | .nilFunc => .nilf
  | .nilIface => .nili
  | _ => .junk
def constD : Value → D
  | .agg cs => .agg (cs.toList.map const1)
  | v => const1 v
theorem const1_ok (w : World) (g : G) (fr : List Fr) (v : Value) : V w g fr (const1 v) v := by
  unfold const1
  split
  · exact .bool _
  · exact .int _ _
  · split
    · exact .str _ ‹_›
    · exact .junk _
  · exact .nilp
  · exact .sl .nil [] _ (.slE _ _ (Nat.zero_le _)) rfl
  · exact .nilf
  · exact .nili
  · exact .junk _
theorem constD_ok (w : World) (g : G) (fr : List Fr) (v : Value) : V w g fr (constD v) v := by
  unfold constD
  split
  · rename_i cs
    have := V.agg (w := w) (g := g) (fr := fr) (cs.toList.map const1) cs.toList (by simp) fun j d v hd hv => by
      rw [List.getElem?_map, hv] at hd
      cases hd
      exact const1_ok w g fr v
    simpa using this
  · exact const1_ok w g fr _
/-! 'nf d = some d'': d laid open -/
mutual
def nf : D → Option D
  | .bool b => some (.bool b)
  | .int k n => some (.int k n)
  | .str s => some (.str s)
  | .sl t l => some (.sl t l)
  | .nilp => some .nilp
  | .ptr b o => some (.ptr b o)
  | .eptr l o => some (.eptr l o)
  | .agg l => match nfs l with | some l' => some (.agg l') | none => none
  | .tup l => match nfs l with | some l' => some (.tup l') | none => none
  | .fn f l => match nfs l with | some l' => some (.fn f l') | none => none
  | .nilf => some .nilf
  | .iface t d => match nf d with | some d' => some (.iface t d') | none => none
  | .nili => some .nili
  | .junk => some .junk
def nfs : List D → Option (List D)
  | [] => some []
  | d :: l => match nf d, nfs l with
    | some d', some l' => some (d' :: l')
    | _, _ => none
end
mutual
theorem nf_eq : ∀ {d d' : D}, nf d = some d' → d = d'
  | .bool b, d', h => by simpa [nf] using h
  | .int k n, d', h => by simpa [nf] using h
  | .str s, d', h => by simpa [nf] using h
  | .sl t l, d', h => by simpa [nf] using h
  | .nilp, d', h => by simpa [nf] using h
  | .ptr b o, d', h => by simpa [nf] using h
  | .eptr l o, d', h => by simpa [nf] using h
  | .agg l, d', h => by
    cases hl : nfs l with
    | none => simp [nf, hl] at h
    | some l' => simp [nf, hl] at h; rw [← h, nfs_eq hl]
  | .tup l, d', h => by
    cases hl : nfs l with
    | none => simp [nf, hl] at h
    | some l' => simp [nf, hl] at h; rw [← h, nfs_eq hl]
  | .fn f l, d', h => by
    cases hl : nfs l with
    | none => simp [nf, hl] at h
    | some l' => simp [nf, hl] at h; rw [← h, nfs_eq hl]
  | .nilf, d', h => by simpa [nf] using h
  | .iface t d, d', h => by
    cases hl : nf d with
    | none => simp [nf, hl] at h
    | some l' => simp [nf, hl] at h; rw [← h, nf_eq hl]
  | .nili, d', h => by simpa [nf] using h
  | .junk, d', h => by simpa [nf] using h
theorem nfs_eq : ∀ {l l' : List D}, nfs l = some l' → l = l'
  | [], l', h => by simpa [nfs] using h
  | d :: l, l', h => by
    cases hd : nf d with
    | none => simp [nfs, hd] at h
    | some d' =>
      cases hl : nfs l with
      | none => simp [nfs, hd, hl] at h
      | some l'' => simp [nfs, hd, hl] at h; rw [← h, nf_eq hd, nfs_eq hl]
end
/-- a list's spine laid open -/
def nfl {α : Type} : List α → Option (List α)
  | [] => some []
  | x :: l => match nfl l with | some l' => some (x :: l') | none => none
theorem nfl_eq {α : Type} : ∀ {l l' : List α}, nfl l = some l' → l = l'
  | [], l', h => by simpa [nfl] using h
  | x :: l, l', h => by
    cases hl : nfl l with
    | none => simp [nfl, hl] at h
    | some l'' => simp [nfl, hl] at h; rw [← h, nfl_eq hl]
def ev (tm : List (Nat × D)) : Operand → D
  | .tmp t => look tm t
  | .const v => constD v
  | .func f => .fn f []
  | .global _ => .junk
section
variable {P : Program} {Q : X → St → Prop} {S : St} {b0 : Bs} {g : G} {w : World} {a : Act}
theorem Inv.ev (h : Inv b0 S g a w) (x : Operand) : V w g S.fr (ev S.tm x) (a.eval x) := by
  cases x with
  | tmp t => exact h.tm t
  | const v => exact constD_ok _ _ _ v
  | func f => exact .fn f [] [] rfl (by simp)
  | global n => exact .junk _
def St.put (S : St) (t : Nat) (d : D) : St := ⟨S.n, (t, d) :: S.tm, S.bx, S.fr, S.e⟩
theorem Inv.put {t : Nat} {d : D} {v : Value} (h : Inv b0 S g a w) (ht : Nat.blt t S.n = true) (hv : V w g S.fr d v) : Inv b0 ⟨S.n, (t, d) :: S.tm, S.bx, S.fr, S.e⟩ g (a.put (some t) v) w := by
  refine ⟨by simp [Act.put, h.size], by simp [Act.put, h.defers], h.mem, fun t' => ?_, h.evo, h.bd⟩
  have hlt : t < a.tmps.size := by rw [h.size]; simpa [Nat.blt_eq] using ht
  by_cases e : t = t'
  · subst e
    simp only [look, Nat.beq_refl]
    have : (a.put (some t) v).tmps.getD t undef = v := by simp [Act.put, hlt]
    rw [this]; exact hv
  · have : (a.put (some t) v).tmps.getD t' undef = a.tmps.getD t' undef := by
      simp [Act.put, Array.getD_getElem?, Array.getElem?_setIfInBounds_ne e]
    rw [this]
    have hb : Nat.beq t t' = false := by
      cases hb : Nat.beq t t' with
      | false => rfl
      | true => exact absurd (Nat.eq_of_beq_eq_true hb) e
    simp only [look, hb]
    exact h.tm t'
theorem Inv.put0 {v : Value} (h : Inv b0 S g a w) : Inv b0 S g (a.put none v) w := h

theorem AL_nil {ops : Array Oper} (h : Q .norm S) : AL P ops [] S Q := ⟨fun _ g _ _ hi => wpList_nil ⟨S, g, hi, h⟩⟩
end
section
variable {P : Program} {Q : X → St → Prop} {n : Nat} {ee : Nat × Nat} {tm : List (Nat × D)} {bx : List (List D)} {fr : List Fr} {b0 : Bs} {g : G} {w : World} {a : Act}
/-- an operation that only computes -/
theorem AL_val {ops : Array Oper} {o : Op} {rest : List Oper} {t ty : Nat} {pos : String} {after : Array Edge} (d : D) (ht : Nat.blt t n = true)
    (h : ∀ g a w, Inv ⟨g, fr, w⟩ ⟨n, tm, bx, fr, (g.ρ.length, fr.length)⟩ g a w → ∃ v, (execOp a.eval ⟨some t, o, ty, pos, after, none⟩).run P w = .ok (.value v) w ∧ V w g fr d v)
    (k : AL P ops rest ⟨n, (t, d) :: tm, bx, fr, ee⟩ Q) : AL P ops (⟨some t, o, ty, pos, after, none⟩ :: rest) ⟨n, tm, bx, fr, ee⟩ Q := ⟨fun b0 g a w hi =>
  wpList_plain rfl fun K hK => by
    obtain ⟨v, hr, hv⟩ := h g a w ⟨hi.size, hi.defers, hi.mem, hi.tm, Evo.refl _, Nat.le_refl _, Nat.le_refl _⟩
    unfold Oper.wp
    rw [hr]
    exact hK _ _ (k.run b0 g _ w (hi.put ht hv))⟩
theorem AL_move {ops : Array Oper} {x : Operand} {rest : List Oper} {t ty : Nat} {pos : String} {after : Array Edge} {d : D} (hx : nf (ev tm x) = some d) (ht : Nat.blt t n = true)
    (k : AL P ops rest ⟨n, (t, d) :: tm, bx, fr, ee⟩ Q) : AL P ops (⟨some t, .move x, ty, pos, after, none⟩ :: rest) ⟨n, tm, bx, fr, ee⟩ Q :=
  AL_val d ht (fun g a w hi => ⟨_, by simp [execOp], (nf_eq hx) ▸ hi.ev x⟩) k
theorem AL_assign {ops : Array Oper} {x : Operand} {rest : List Oper} {t ty : Nat} {pos : String} {after : Array Edge} {d : D} (hx : nf (ev tm x) = some d) (ht : Nat.blt t n = true)
    (k : AL P ops rest ⟨n, (t, d) :: tm, bx, fr, ee⟩ Q) : AL P ops (⟨some t, .assign x, ty, pos, after, none⟩ :: rest) ⟨n, tm, bx, fr, ee⟩ Q :=
  AL_val d ht (fun g a w hi => ⟨_, by simp [execOp], (nf_eq hx) ▸ hi.ev x⟩) k

theorem V.int_inv {fr : List Fr} {k : IntKind} {n : Int} {v : Value} (h : V w g fr (.int k n) v) : v = .int k n := by cases h; rfl
theorem V.bool_inv {fr : List Fr} {b : Bool} {v : Value} (h : V w g fr (.bool b) v) : v = .bool b := by cases h; rfl
theorem V.str_inv {fr : List Fr} {s : List UInt8} {v : Value} (h : V w g fr (.str s) v) : v = .string ⟨s.toArray⟩ ∧ s.length ≤ maxLen := by cases h; exact ⟨rfl, ‹_›⟩

/-- whole numbers -/
def intBin (op : BinOp) (k : IntKind) (a b : Int) : D :=
  match op with
  | .add => .int k (k.wrap (a + b))
  | .sub => .int k (k.wrap (a - b))
  | .mul => .int k (k.wrap (a * b))
  | .and => .int k (bits .and k a b)
  | .or => .int k (bits .or k a b)
  | .xor => .int k (bits .xor k a b)
  | .andNot => .int k (bits .andNot k a b)
  | .eql => .bool (a == b)
  | .neq => .bool (a != b)
  | .lss => .bool (decide (a < b))
  | .leq => .bool (decide (a ≤ b))
  | .gtr => .bool (decide (a > b))
  | .geq => .bool (decide (a ≥ b))
  | _ => .junk
theorem AL_bin {ops : Array Oper} {op : BinOp} {x y : Operand} {rest : List Oper} {t ty xt yt : Nat} {pos : String} {after : Array Edge} {k : IntKind} {m q : Int} {d : D}
    (hx : ev tm x = .int k m) (hy : ev tm y = .int k q) (ho : (match op with | .quo | .rem | .shl | .shr => false | _ => true) = true) (hd : nf (intBin op k m q) = some d) (ht : Nat.blt t n = true)
    (kk : AL P ops rest ⟨n, (t, d) :: tm, bx, fr, ee⟩ Q) : AL P ops (⟨some t, .binOp op xt x y yt, ty, pos, after, none⟩ :: rest) ⟨n, tm, bx, fr, ee⟩ Q :=
  AL_val d ht (fun g a w hi => by
    have h1 : V w g fr (ev tm x) (a.eval x) := hi.ev x; rw [hx] at h1; have h1 := h1.int_inv
    have h2 : V w g fr (ev tm y) (a.eval y) := hi.ev y; rw [hy] at h2; have h2 := h2.int_inv
    have hd := nf_eq hd
    subst hd
    cases op <;> simp at ho <;> refine ⟨_, by simp [execOp, h1, h2, eqGuard, binOp, Op.intArith, Op.intCmp, Sem.run_bind]; rfl, ?_⟩ <;> first | exact .int _ _ | exact .bool _) kk
theorem AL_quo {ops : Array Oper} {x y : Operand} {rest : List Oper} {t ty xt yt : Nat} {pos : String} {after : Array Edge} {k : IntKind} {m q : Int}
    (hx : ev tm x = .int k m) (hy : ev tm y = .int k q) (hn : q ≠ 0) (ht : Nat.blt t n = true)
    (kk : AL P ops rest ⟨n, (t, .int k (k.wrap (m.tdiv q))) :: tm, bx, fr, ee⟩ Q) : AL P ops (⟨some t, .binOp .quo xt x y yt, ty, pos, after, none⟩ :: rest) ⟨n, tm, bx, fr, ee⟩ Q :=
  AL_val _ ht (fun g a w hi => by
    have h1 : V w g fr (ev tm x) (a.eval x) := hi.ev x; rw [hx] at h1; have h1 := h1.int_inv
    have h2 : V w g fr (ev tm y) (a.eval y) := hi.ev y; rw [hy] at h2; have h2 := h2.int_inv
    refine ⟨.int k (k.wrap (m.tdiv q)), by simp [execOp, h1, h2, eqGuard, binOp, Op.intDiv, Sem.run_bind, hn], .int _ _⟩) kk
theorem AL_rem {ops : Array Oper} {x y : Operand} {rest : List Oper} {t ty xt yt : Nat} {pos : String} {after : Array Edge} {k : IntKind} {m q : Int}
    (hx : ev tm x = .int k m) (hy : ev tm y = .int k q) (hn : q ≠ 0) (ht : Nat.blt t n = true)
    (kk : AL P ops rest ⟨n, (t, .int k (m.tmod q)) :: tm, bx, fr, ee⟩ Q) : AL P ops (⟨some t, .binOp .rem xt x y yt, ty, pos, after, none⟩ :: rest) ⟨n, tm, bx, fr, ee⟩ Q :=
  AL_val _ ht (fun g a w hi => by
    have h1 : V w g fr (ev tm x) (a.eval x) := hi.ev x; rw [hx] at h1; have h1 := h1.int_inv
    have h2 : V w g fr (ev tm y) (a.eval y) := hi.ev y; rw [hy] at h2; have h2 := h2.int_inv
    refine ⟨.int k (m.tmod q), by simp [execOp, h1, h2, eqGuard, binOp, Op.intDiv, Sem.run_bind, hn], .int _ _⟩) kk
theorem AL_shl {ops : Array Oper} {x y : Operand} {rest : List Oper} {t ty xt yt : Nat} {pos : String} {after : Array Edge} {k k' : IntKind} {m q : Int}
    (hx : ev tm x = .int k m) (hy : ev tm y = .int k' q) (hn : 0 ≤ q) (ht : Nat.blt t n = true)
    (kk : AL P ops rest ⟨n, (t, .int k (k.wrap (m * 2 ^ (min q.toNat k.bits)))) :: tm, bx, fr, ee⟩ Q) : AL P ops (⟨some t, .binOp .shl xt x y yt, ty, pos, after, none⟩ :: rest) ⟨n, tm, bx, fr, ee⟩ Q :=
  AL_val _ ht (fun g a w hi => by
    have h1 : V w g fr (ev tm x) (a.eval x) := hi.ev x; rw [hx] at h1; have h1 := h1.int_inv
    have h2 : V w g fr (ev tm y) (a.eval y) := hi.ev y; rw [hy] at h2; have h2 := h2.int_inv
    refine ⟨.int k (k.wrap (m * 2 ^ (min q.toNat k.bits))), by simp [execOp, h1, h2, eqGuard, binOp, Op.shift, Sem.run_bind, Int.not_lt.2 hn], .int _ _⟩) kk
theorem AL_shr {ops : Array Oper} {x y : Operand} {rest : List Oper} {t ty xt yt : Nat} {pos : String} {after : Array Edge} {k k' : IntKind} {m q : Int}
    (hx : ev tm x = .int k m) (hy : ev tm y = .int k' q) (hn : 0 ≤ q) (ht : Nat.blt t n = true)
    (kk : AL P ops rest ⟨n, (t, .int k (m.fdiv (2 ^ (min q.toNat k.bits)))) :: tm, bx, fr, ee⟩ Q) : AL P ops (⟨some t, .binOp .shr xt x y yt, ty, pos, after, none⟩ :: rest) ⟨n, tm, bx, fr, ee⟩ Q :=
  AL_val _ ht (fun g a w hi => by
    have h1 : V w g fr (ev tm x) (a.eval x) := hi.ev x; rw [hx] at h1; have h1 := h1.int_inv
    have h2 : V w g fr (ev tm y) (a.eval y) := hi.ev y; rw [hy] at h2; have h2 := h2.int_inv
    refine ⟨.int k (m.fdiv (2 ^ (min q.toNat k.bits))), by simp [execOp, h1, h2, eqGuard, binOp, Op.shift, Sem.run_bind, Int.not_lt.2 hn], .int _ _⟩) kk
theorem AL_not {ops : Array Oper} {x : Operand} {rest : List Oper} {t ty xt : Nat} {pos : String} {after : Array Edge} {b : Bool} (hx : ev tm x = .bool b) (ht : Nat.blt t n = true)
    (kk : AL P ops rest ⟨n, (t, .bool (!b)) :: tm, bx, fr, ee⟩ Q) : AL P ops (⟨some t, .unOp .not xt x, ty, pos, after, none⟩ :: rest) ⟨n, tm, bx, fr, ee⟩ Q :=
  AL_val _ ht (fun g a w hi => by
    have h1 : V w g fr (ev tm x) (a.eval x) := hi.ev x; rw [hx] at h1; have h1 := h1.bool_inv
    exact ⟨.bool !b, by simp [execOp, h1, Op.unary], .bool _⟩) kk
theorem AL_conv {ops : Array Oper} {x : Operand} {rest : List Oper} {t ty src dst : Nat} {pos : String} {after : Array Edge} {k k' : IntKind} {q : Int} (hx : ev tm x = .int k q)
    (hs : (match P.underlying src with | some _ => true | none => false) = true) (hd : (match P.underlying dst with | some (.int k) => some k | _ => none) = some k') (ht : Nat.blt t n = true)
    (kk : AL P ops rest ⟨n, (t, .int k' (k'.wrap q)) :: tm, bx, fr, ee⟩ Q) : AL P ops (⟨some t, .convert src dst x, ty, pos, after, none⟩ :: rest) ⟨n, tm, bx, fr, ee⟩ Q :=
  AL_val _ ht (fun g a w hi => by
    have h1 : V w g fr (ev tm x) (a.eval x) := hi.ev x; rw [hx] at h1; have h1 := h1.int_inv
    refine ⟨.int k' (k'.wrap q), ?_, .int _ _⟩
    cases hs' : P.underlying src with
    | none => simp [hs'] at hs
    | some d =>
      cases hd' : P.underlying dst with
      | none => simp [hd'] at hd
      | some d' =>
        cases d' <;> simp [hd'] at hd
        subst hd
        simp [execOp, h1, convert, Sem.run_bind, run_underlying hs', run_underlying hd', Conv.intToInt]) kk
end
end Go.Av

/- The rules once more, with lengths written as numerals: for fixed calls with large states. -/
import Derived.Test.YtdhkfbolnkikgaaGreatDoorG09
import Derived.Test.YtdhkfbolnkikgaaGreatDoorG03
import Derived.Test.YtdhkfbolnkikgaaGreatDoorProg
import Derived.Test.YtdhkfbolnkikgaaGreatDoorG08
import Derived.Laws.RangeAny
import Derived.LoopTactic
section
open Go.RowKit Go.Pl
namespace Go.Av
set_option linter.unusedSimpArgs false
set_option linter.unusedVariables false
def lits : List Nat := [0, 1, 2, 3, 4, 5, 6, 7, 8, 9, 10, 11, 12, 13, 14, 15, 16, 17, 18, 19, 20, 21, 22, 23, 24, 25, 26, 27, 28, 29, 30, 31, 32, 33, 34, 35, 36, 37, 38, 39, 40, 41, 42, 43, 44, 45, 46, 47, 48, 49, 50, 51, 52, 53, 54, 55, 56, 57, 58, 59, 60, 61, 62, 63]
def lenX {α : Type} : List α → List Nat → Option Nat
  | [], k :: _ => some k
  | _ :: l, _ :: ks => lenX l ks
  | _, [] => none
abbrev lenZ {α : Type} (l : List α) : Option Nat := lenX l lits
theorem lenX_eq {α : Type} : ∀ {l : List α} {ks : List Nat} {b k : Nat}, (∀ (i x : Nat), ks[i]? = some x → x = b + i) → lenX l ks = some k → b + l.length = k
  | [], [], b, k, h, e => by simp [lenX] at e
  | [], x :: ks, b, k, h, e => by
    simp [lenX] at e
    have := h 0 x rfl
    simp; omega
  | _ :: l, [], b, k, h, e => by simp [lenX] at e
  | _ :: l, x :: ks, b, k, h, e => by
    simp only [lenX] at e
    have := lenX_eq (b := b + 1) (fun i y hy => by have := h (i + 1) y (by simpa using hy); omega) e
    simp; omega
theorem lits_ok : ∀ (i x : Nat), lits[i]? = some x → x = 0 + i := fun i x h => by
  have hl : lits = List.range 64 := by decide
  rw [hl] at h
  obtain ⟨h1, h2⟩ := List.getElem?_eq_some_iff.1 h
  simp at h2
  omega
theorem lenZ_eq {α : Type} {l : List α} {k : Nat} (h : lenZ l = some k) : l.length = k := by have := lenX_eq lits_ok h; omega
section
variable {P : Program} {Q : X → St → Prop} {n : Nat} {ee : Nat × Nat} {tm tm' : List (Nat × D)} {bx bx' : List (List D)} {fr fr' : List Fr} {b0 : Bs} {g : G} {w : World} {a : Act} {T : Tab}
variable {ops : Array Oper} {rest : List Oper} {t ty : Nat} {pos : String} {after : Array Edge} {ys : List Y}
theorem AL_boxZ [Known] [Dfr] {x : Operand} {e : TypeId} {d : D} {m : Nat} (hx : nf (ev tm x) = some d) (ho : D.ones d.cellsOf = true) (hb : nfb (bx ++ [d.cellsOf]) = some bx') (hm : lenZ bx = some m) (htd : Nat.blt t n = true)
    (k : AL P ops rest ⟨n, (t, .ptr m 0) :: tm, bx', fr, ee⟩ Q) : AL P ops (⟨some t, .box e x, ty, pos, after, none⟩ :: rest) ⟨n, tm, bx, fr, ee⟩ Q := AL_box hx ho hb (lenZ_eq hm) htd k
theorem AL_allocZ [Known] [Dfr] (hT : chk P T = true) {e : TypeId} {ti : Ti} {m : Nat} (ht : tl T e = some ti) (hb : nfb (bx ++ [ti.zero.map ZK.d]) = some bx') (hm : lenZ bx = some m) (htd : Nat.blt t n = true)
    (k : AL P ops rest ⟨n, (t, .ptr m 0) :: tm, bx', fr, ee⟩ Q) : AL P ops (⟨some t, .alloc e, ty, pos, after, none⟩ :: rest) ⟨n, tm, bx, fr, ee⟩ Q := AL_alloc hT ht hb (lenZ_eq hm) htd k
theorem AL_bsZ [Known] [Dfr] (hT : chk P T = true) {st len e : Nat} {ds : List D} {es : List E} {ti te : Ti} {m : Nat} {parts : Array (Nat × Operand)} (ht : tl T st = some ti) (hk : ti.kd = .slice e) (hte : tl T e = some te) (hp : parts.toList.map (·.1) = List.range len)
    (hds : nfs (parts.toList.map fun p => ev tm p.2) = some ds) (hes : D.toEl ds = some es) (hU : uniB te.size es = true) (hpos : Nat.blt 0 te.size = true) (hsm : Nat.ble (len * te.size) 16777216 = true) (hm : lenZ fr = some m) (hf : nfl (fr ++ [⟨len, te.size, e⟩]) = some fr') (htd : Nat.blt t n = true)
    (k : AL P ops rest ⟨n, (t, .sl (.own m) es) :: tm, bx, fr', ee⟩ Q) : AL P ops (⟨some t, .buildSlice st len parts, ty, pos, after, none⟩ :: rest) ⟨n, tm, bx, fr, ee⟩ Q :=
  AL_bs hT ht hk hte hp hds hes hU hpos hsm (lenZ_eq hm) hf htd k
theorem AL_appendZ [Known] [Dfr] (hT : chk P T = true) {x y : Operand} {st e i k2 : Nat} {l l' l2 : List E} {tk : Tok} {ti te : Ti} {f : Fr} (ht : tl T st = some ti) (hk : ti.kd = .slice e) (hte : tl T e = some te) (hx : ev tm x = .sl (.own i) l) (hy : ev tm y = .sl tk l')
    (hl2 : nfl (l ++ l') = some l2) (hk2 : lenZ l2 = some k2) (hf : fr[i]? = some f) (hfn : f.n = l.length) (hfs : f.sz = te.size) (hfe : f.e = e) (hU : Uni te.size l) (hU' : Uni te.size l') (hne : l' ≠ []) (hlen : Nat.ble k2 maxLen = true) (hby : Nat.ble (k2 * te.bytes) 140737488355328 = true)
    (hfr : nfl (fr.set i ⟨k2, te.size, e⟩) = some fr') (htd : Nat.blt t n = true)
    (k : AL P ops rest ⟨n, (t, .sl (.own i) l2) :: tm, bx, fr', ee⟩ Q) : AL P ops (⟨some t, .call { callee := .builtin .append, args := #[x, y], argTypes := #[st, st] }, ty, pos, after, none⟩ :: rest) ⟨n, tm, bx, fr, ee⟩ Q := by
  have e2 := nfl_eq hl2
  have e3 := lenZ_eq hk2
  have e4 : l.length + l'.length = k2 := by rw [← e3, ← e2, List.length_append]
  have e5 := Nat.le_of_ble_eq_true hlen
  have e6 := Nat.le_of_ble_eq_true hby
  refine AL_append hT ht hk hte hx hy hf hfn hfs hfe hU hU' hne (by rw [e4]; exact e5) (by rw [e4]; exact e6) (by rw [e4]; exact hfr) htd (by rw [e2]; exact k)
theorem AL_append_nilZ [Known] [Dfr] (hT : chk P T = true) {x y : Operand} {st e m k2 : Nat} {l' : List E} {tk : Tok} {ti te : Ti} (ht : tl T st = some ti) (hk : ti.kd = .slice e) (hte : tl T e = some te) (hx : ev tm x = .sl .nil []) (hy : ev tm y = .sl tk l')
    (hpos : Nat.blt 0 te.size = true) (hU' : Uni te.size l') (hne : l' ≠ []) (hk2 : lenZ l' = some k2) (hlen : Nat.ble k2 maxLen = true) (hby : Nat.ble (k2 * te.bytes) 140737488355328 = true)
    (hm : lenZ fr = some m) (hfr : nfl (fr ++ [⟨k2, te.size, e⟩]) = some fr') (htd : Nat.blt t n = true)
    (k : AL P ops rest ⟨n, (t, .sl (.own m) l') :: tm, bx, fr', ee⟩ Q) : AL P ops (⟨some t, .call { callee := .builtin .append, args := #[x, y], argTypes := #[st, st] }, ty, pos, after, none⟩ :: rest) ⟨n, tm, bx, fr, ee⟩ Q := by
  have e3 := lenZ_eq hk2
  subst e3
  exact AL_append_nil hT ht hk hte hx hy hpos hU' hne (Nat.le_of_ble_eq_true hlen) (Nat.le_of_ble_eq_true hby) (lenZ_eq hm) hfr htd k
theorem AL_inZ [Known] {t : Option Nat} {ty : Nat} {pos : String} {after : Array Edge} {f : FuncId} {ars : Array Operand} {ats : Array TypeId} {fn : Func} {c : Code} {n' i j : Nat} {rs : List ResultVar} {cds : List D} {tm2 : List (Nat × D)}
    (hf : P.funcs[f]? = some fn) (hn : fn.ntmps = n') (hb : fn.body = some c) (hr : fn.results = rs.toArray) (hif : isFn P f = true) (hc : nfs (ars.toList.map (ev tm)) = some cds) (hl : Nat.ble cds.length n' = true) (ht : inOk t n = true) (hi : lenZ bx = some i) (hj : lenZ fr = some j) (htm : nfl (number 0 cds) = some tm2)
    (h : AW P c ⟨n', tm2, bx, fr, (i, j)⟩ (inPost P rs t n tm ee ops rest Q)) : AL P ops (⟨t, .call { callee := .value (.func f), args := ars, argTypes := ats }, ty, pos, after, none⟩ :: rest) ⟨n, tm, bx, fr, ee⟩ Q :=
  AL_in hf hn hb hr hif hc hl ht (by rw [lenZ_eq hi, lenZ_eq hj, nfl_eq htm]; exact h)
theorem AE_consZ [Known] [Dfr] {l : List Oper} {i p q : Nat} {o : Oper} {rest : List Oper} {y : Y} {tm2 : List (Nat × D)} (ht : dstOk n o = true) (h2 : nfl (restr l o tm) = some tm2) (hp : lenZ bx = some p) (hq : lenZ fr = some q)
    (h : AL P l.toArray [o] ⟨n, tm2, bx, fr, (p, q)⟩ (qY o bx fr y)) (k : AEk P l n i o rest y tm bx fr ys tm' bx' fr') : AE P l n i (o :: rest) tm bx fr (y :: ys) tm' bx' fr' :=
  AE_cons ht h2 (by rw [lenZ_eq hp, lenZ_eq hq]; exact h) k
theorem AOs_goZ [Known] [Dfr] {l : List Oper} {es : List Nat} {i c p q : Nat} {o : Oper} {d : D} {sts : List (Nat × List (List D) × List Fr)} {tm2 : List (Nat × D)} (h2 : nfl (restr l o tm) = some tm2) (hp : lenZ bx = some p) (hq : lenZ fr = some q) (h : AL P l.toArray [o] ⟨n, tm2, bx, fr, (p, q)⟩ (qY o bx fr (.pu d))) (k : AOs P l n es i o tm d sts) : AOs P l n es i o tm d ((c, bx, fr) :: sts) :=
  AOs_go h2 (by rw [lenZ_eq hp, lenZ_eq hq]; exact h) k
theorem AEk_puT [Known] [Dfr] {l : List Oper} {i t : Nat} {o : Oper} {rest : List Oper} {d : D} (ho : o.dst = some t) (k : AE P l n (i + 1) rest ((t, d) :: tm) bx fr ys tm' bx' fr') : AEk P l n i o rest (.pu d) tm bx fr ys tm' bx' fr' := AEk_pu (by simp [oslot, ho]) k
theorem AEk_efT [Known] [Dfr] {l : List Oper} {i t : Nat} {o : Oper} {rest : List Oper} {d : D} {b : List (List D)} {f : List Fr} (ho : o.dst = some t) (k : AE P l n (i + 1) rest ((t, d) :: tm) b f ys tm' bx' fr') : AEk P l n i o rest (.ef d b f) tm bx fr ys tm' bx' fr' := AEk_ef (by simp [oslot, ho]) k
theorem AO_efT [Known] [Dfr] {l : List Oper} {es : List Nat} {sts : List (Nat × List (List D) × List Fr)} {i t : Nat} {o : Oper} {rest : List Oper} {d : D} {b : List (List D)} {f : List Fr} (ho : o.dst = some t) (k : AO P l n es sts (i + 1) rest ys ((t, d) :: tm)) : AO P l n es sts i (o :: rest) (.ef d b f :: ys) tm := AO_ef (by simp [oslot, ho]) k
theorem AO_puT [Known] [Dfr] {l : List Oper} {es : List Nat} {sts : List (Nat × List (List D) × List Fr)} {i t : Nat} {o : Oper} {rest : List Oper} {d : D} (ho : o.dst = some t) (h : AOs P l n es i o tm d sts) (k : AO P l n es sts (i + 1) rest ys ((t, d) :: tm)) : AO P l n es sts i (o :: rest) (.pu d :: ys) tm := AO_pu (by simp [oslot, ho]) h k
end
end Go.Av
end
/- Package-level tables read; calls of function values; contracts with a panic; panics in regions that draw their order. -/
section
open Go.RowKit Go.Pl
namespace Go.Av
set_option linter.unusedSimpArgs false
set_option linter.unusedVariables false
section
variable {P : Program} {Q : X → St → Prop} {n : Nat} {ee : Nat × Nat} {tm tm' : List (Nat × D)} {bx bx' : List (List D)} {fr fr' : List Fr} {b0 : Bs} {g : G} {w : World} {a : Act} {T : Tab}
variable {ops : Array Oper} {rest : List Oper} {t ty : Nat} {pos : String} {after : Array Edge}
/-! ### slices of bytes cut, said of bytes -/
theorem AL_from [Known] [Dfr] (hT : chk P T = true) {x lo : Operand} {st e : Nat} {tk : Tok} {bs bs2 : List UInt8} {l : List E} {k0 : IntKind} {i : Int} {ti te : Ti} (hx : ev tm x = .sl tk l) (hl : l = bs.map E.byte) (ht : tl T st = some ti) (hk : ti.kd = .slice e) (hte : tl T e = some te) (hsz : Nat.beq te.size 1 = true) (htd : Nat.blt t n = true)
    (hlo : ev tm lo = .int k0 i) (h0 : 0 ≤ i) (hle : i.toNat ≤ bs.length) (hd : bs.drop i.toNat = bs2)
    (kk : AL P ops rest ⟨n, (t, .sl .ext (bs2.map E.byte)) :: tm, bx, fr, ee⟩ Q) : AL P ops (⟨some t, .slice st x (some lo) none none, ty, pos, after, none⟩ :: rest) ⟨n, tm, bx, fr, ee⟩ Q := by
  subst hd
  refine AL_slice hT hx ht hk hte htd (.lit lo _ k0 i hlo h0) (.dft _) (by rw [hl, List.length_map]; exact hle) (Nat.le_refl _) ?_ ?_ kk
  · rw [Nat.eq_of_beq_eq_true hsz, hl]; exact Uni.map (f := E.byte) (fun _ => rfl) bs
  · rw [hl, List.take_of_length_le (Nat.le_refl _), List.map_drop]
theorem AL_span [Known] [Dfr] (hT : chk P T = true) {x lo hh : Operand} {st e : Nat} {tk : Tok} {bs bs2 : List UInt8} {l : List E} {k0 k1 : IntKind} {i j : Int} {ti te : Ti} (hx : ev tm x = .sl tk l) (hl : l = bs.map E.byte) (ht : tl T st = some ti) (hk : ti.kd = .slice e) (hte : tl T e = some te) (hsz : Nat.beq te.size 1 = true) (htd : Nat.blt t n = true)
    (hlo : ev tm lo = .int k0 i) (hhi : ev tm hh = .int k1 j) (h0 : 0 ≤ i) (hij : i ≤ j) (hle : j.toNat ≤ bs.length) (hd : (bs.take j.toNat).drop i.toNat = bs2)
    (kk : AL P ops rest ⟨n, (t, .sl .ext (bs2.map E.byte)) :: tm, bx, fr, ee⟩ Q) : AL P ops (⟨some t, .slice st x (some lo) (some hh) none, ty, pos, after, none⟩ :: rest) ⟨n, tm, bx, fr, ee⟩ Q := by
  subst hd
  refine AL_slice hT hx ht hk hte htd (.lit lo _ k0 i hlo h0) (.lit hh _ k1 j hhi (by omega)) (by omega) (by rw [hl, List.length_map]; exact hle) ?_ ?_ kk
  · rw [Nat.eq_of_beq_eq_true hsz, hl]; exact Uni.map (f := E.byte) (fun _ => rfl) bs
  · rw [hl, List.map_drop, List.map_take]
theorem AL_upto [Known] [Dfr] (hT : chk P T = true) {x hh : Operand} {st e : Nat} {tk : Tok} {bs bs2 : List UInt8} {l : List E} {k1 : IntKind} {j : Int} {ti te : Ti} (hx : ev tm x = .sl tk l) (hl : l = bs.map E.byte) (ht : tl T st = some ti) (hk : ti.kd = .slice e) (hte : tl T e = some te) (hsz : Nat.beq te.size 1 = true) (htd : Nat.blt t n = true)
    (hhi : ev tm hh = .int k1 j) (h0 : 0 ≤ j) (hle : j.toNat ≤ bs.length) (hd : bs.take j.toNat = bs2)
    (kk : AL P ops rest ⟨n, (t, .sl .ext (bs2.map E.byte)) :: tm, bx, fr, ee⟩ Q) : AL P ops (⟨some t, .slice st x none (some hh) none, ty, pos, after, none⟩ :: rest) ⟨n, tm, bx, fr, ee⟩ Q := by
  subst hd
  refine AL_slice hT hx ht hk hte htd (.dft _) (.lit hh _ k1 j hhi h0) (Nat.zero_le _) (by rw [hl, List.length_map]; exact hle) ?_ ?_ kk
  · rw [Nat.eq_of_beq_eq_true hsz, hl]; exact Uni.map (f := E.byte) (fun _ => rfl) bs
  · rw [hl, List.drop_zero, List.map_take]
end
section
variable {P : Program} {Q : X → St → Prop} {n : Nat} {ee : Nat × Nat} {tm : List (Nat × D)} {bx : List (List D)} {fr : List Fr} {ops : Array Oper} {rest : List Oper} {ty : Nat} {pos : String} {after : Array Edge} {f : FuncId} {ars : Array Operand} {ats : Array TypeId}
end
/-! ### contracts with a panic -/
/-- a function that is handed variables and panics, by a constant -/
def AX [Known] (P : Program) (f : FuncId) (args : List D) (bx : List (List D)) (p : D) : Prop := AC P f args bx [] fun r b fr => r = .pan p ∧ bx.length ≤ b.length
/-- a value that names no variable and no token -/
def D.pure : D → Bool
  | .bool _ | .int _ _ | .str _ | .nilp | .nilf | .nili => true
  | .iface _ (.agg l) => l.all fun | .bool _ | .int _ _ | .str _ => true | _ => false
  | .iface _ d => match d with | .bool _ | .int _ _ | .str _ => true | _ => false
  | _ => false
/-- what comes of a function that may panic -/
def rPost (k : Nat) (o : Except D (D × List (List D))) : R → List (List D) → List Fr → Prop := fun r b fr => match o with
  | .ok (d, bx') => ∃ d0, r = .ret d0 ∧ d0.wk = d ∧ b.map D.wks = bx' ∧ fr = []
  | .error p => r = .pan p ∧ k ≤ b.length
def AR [Known] (P : Program) (f : FuncId) (args : List D) (bx : List (List D)) (o : Except D (D × List (List D))) : Prop := AC P f args bx [] (rPost bx.length o)
theorem AR.q [Known] {P : Program} {f : FuncId} {args : List D} {bx bx' : List (List D)} {d : D} {o : Except D (D × List (List D))} (h : AR P f args bx o) (e : o = .ok (d, bx')) : AQ P f args bx d bx' := by
  subst e
  exact AQ.weak h
theorem AR.x [Known] {P : Program} {f : FuncId} {args : List D} {bx : List (List D)} {p : D} {o : Except D (D × List (List D))} (h : AR P f args bx o) (e : o = .error p) : AX P f args bx p := by
  subst e
  exact h
theorem AR.p [Known] {P : Program} {f : FuncId} {args : List D} {d : D} {o : Except D (D × List (List D))} (h : AR P f args [] o) (e : o = .ok (d, [])) : AP P f args d [] := h.q e
section
variable {P : Program} {Q : X → St → Prop} {n : Nat} {ee : Nat × Nat} {tm : List (Nat × D)} {bx : List (List D)} {fr : List Fr} {ops : Array Oper} {rest : List Oper} {ty : Nat} {pos : String} {after : Array Edge} {f : FuncId} {ars : Array Operand} {ats : Array TypeId}
end
end Go.Av
end
/- Regions that draw their order, in which one operation panics. -/
section
open Go.RowKit Go.Pl
namespace Go.Av
set_option linter.unusedSimpArgs false
set_option linter.unusedVariables false
section
variable {P : Program} {Q : X → St → Prop} {n : Nat} {ee : Nat × Nat} {tm tm' : List (Nat × D)} {bx bx' : List (List D)} {fr fr' : List Fr} {b0 : Bs} {g : G} {w : World} {a : Act}
/-- what an operation that panics leaves -/
def qx (p : D) (bx : List (List D)) : X → St → Prop
  | .pan d, S => d = p ∧ bx.length ≤ S.bx.length
  | _, _ => False
/-- the operations of a region in which the j-th one panics: those that only compute; those that hang on it -/
inductive ADX [Known] [Dfr] (P : Program) (l : List Oper) (n : Nat) (bx : List (List D)) (fr : List Fr) (j : Nat) (p : D) : Nat → List Oper → List (Nat × D) → Prop
  | nil (i : Nat) (tm : List (Nat × D)) : ADX P l n bx fr j p i [] tm
  | pu (i : Nat) (o : Oper) (rest : List Oper) (t : Nat) (d : D) (tm : List (Nat × D)) (hd : o.dst = some t) (ht : Nat.blt t n = true) (hne : Nat.beq i j = false) (h : AL P l.toArray [o] ⟨n, restr l o tm, bx, fr, (bx.length, fr.length)⟩ (qp t d bx fr)) (k : ADX P l n bx fr j p (i + 1) rest ((t, d) :: tm)) : ADX P l n bx fr j p i (o :: rest) tm
  | dead (i : Nat) (o : Oper) (rest : List Oper) (t : Nat) (tm : List (Nat × D)) (hd : o.dst = some t) (hu : up (masks [] l) i j = true) (k : ADX P l n bx fr j p (i + 1) rest ((t, .junk) :: tm)) : ADX P l n bx fr j p i (o :: rest) tm
  | pan (o : Oper) (rest : List Oper) (t : Nat) (tm : List (Nat × D)) (hd : o.dst = some t) (h : AL P l.toArray [o] ⟨n, restr l o tm, bx, fr, (bx.length, fr.length)⟩ (qx p bx)) (k : ADX P l n bx fr j p (j + 1) rest ((t, .junk) :: tm)) : ADX P l n bx fr j p j (o :: rest) tm
theorem ADX.steps [Known] [Dfr] {l : List Oper} {j : Nat} {p : D} {i0 : Nat} {rest : List Oper} (h : ADX P l n bx fr j p i0 rest tm) : ∃ ds : List (Nat × D), ds.length = rest.length ∧ ∀ (i : Nat) (o : Oper), rest[i]? = some o → ∃ t d, ds[i]? = some (t, d) ∧ o.dst = some t ∧
    ((i0 + i ≠ j ∧ Nat.blt t n = true ∧ AL P l.toArray [o] ⟨n, restr l o ((ds.take i).reverse ++ tm), bx, fr, (bx.length, fr.length)⟩ (qp t d bx fr)) ∨ up (masks [] l) (i0 + i) j = true ∨ (i0 + i = j ∧ AL P l.toArray [o] ⟨n, restr l o ((ds.take i).reverse ++ tm), bx, fr, (bx.length, fr.length)⟩ (qx p bx))) := by
  induction h with
  | nil i tm => exact ⟨[], rfl, fun i o h => by simp at h⟩
  | pu i o rest t d tm hd ht hne h k ih =>
    obtain ⟨ds, h1, h2⟩ := ih
    refine ⟨(t, d) :: ds, by simp [h1], fun x o' hx => ?_⟩
    cases x with
    | zero =>
      simp at hx; subst hx
      exact ⟨t, d, rfl, hd, .inl ⟨fun e => by rw [Nat.add_zero] at e; subst e; simp at hne, ht, h⟩⟩
    | succ x =>
      obtain ⟨t', d', q1, q2, q3⟩ := h2 x o' (by simpa using hx)
      refine ⟨t', d', by simpa using q1, q2, ?_⟩
      rw [show i + (x + 1) = i + 1 + x by omega]
      simpa using q3
  | dead i o rest t tm hd hu k ih =>
    obtain ⟨ds, h1, h2⟩ := ih
    refine ⟨(t, .junk) :: ds, by simp [h1], fun x o' hx => ?_⟩
    cases x with
    | zero => simp at hx; subst hx; exact ⟨t, _, rfl, hd, .inr (.inl hu)⟩
    | succ x =>
      obtain ⟨t', d', q1, q2, q3⟩ := h2 x o' (by simpa using hx)
      refine ⟨t', d', by simpa using q1, q2, ?_⟩
      rw [show i + (x + 1) = i + 1 + x by omega]
      simpa using q3
  | pan o rest t tm hd h k ih =>
    obtain ⟨ds, h1, h2⟩ := ih
    refine ⟨(t, .junk) :: ds, by simp [h1], fun x o' hx => ?_⟩
    cases x with
    | zero => simp at hx; subst hx; exact ⟨t, _, rfl, hd, .inr (.inr ⟨rfl, h⟩)⟩
    | succ x =>
      obtain ⟨t', d', q1, q2, q3⟩ := h2 x o' (by simpa using hx)
      refine ⟨t', d', by simpa using q1, q2, ?_⟩
      rw [show j + (x + 1) = j + 1 + x by omega]
      simpa using q3
end
end Go.Av
end
/- The types of this seat's program, laid open: which kind each is of, its size, its zero. -/
section
open Go.RowKit Go.Pl Go.Av
namespace Go.Proofs.YtdhkfbolnkikgaaGreatDoor
def tt : Tab := [(1, Ti.mk Kd.func 1 8 [ZK.f]) ,
  (2, Ti.mk (Kd.int IntKind.i64) 1 8 [ZK.i IntKind.i64]) ,
  (3, Ti.mk (Kd.int IntKind.i64) 1 8 [ZK.i IntKind.i64]) ,
  (4, Ti.mk Kd.bool 1 1 [ZK.b]) ,
  (5, Ti.mk (Kd.int IntKind.u8) 1 1 [ZK.i IntKind.u8]) ,
  (6, Ti.mk (Kd.int IntKind.u8) 1 1 [ZK.i IntKind.u8]) ,
  (7, Ti.mk (Kd.struct [Av.Fd.mk 0 1 Bool.false 2, Av.Fd.mk 1 1 Bool.false 3, Av.Fd.mk 2 1 Bool.false 4, Av.Fd.mk 3 1 Bool.false 6]) 4 24 [ZK.i IntKind.i64, ZK.i IntKind.i64, ZK.b, ZK.i IntKind.u8]) ,
  (8, Ti.mk (Kd.struct [Av.Fd.mk 0 1 Bool.false 2, Av.Fd.mk 1 1 Bool.false 3, Av.Fd.mk 2 1 Bool.false 4, Av.Fd.mk 3 1 Bool.false 6]) 4 24 [ZK.i IntKind.i64, ZK.i IntKind.i64, ZK.b, ZK.i IntKind.u8]) ,
  (9, Ti.mk Kd.str 1 16 [ZK.s]) ,
  (10, Ti.mk Kd.str 1 16 [ZK.s]) ,
  (11, Ti.mk Kd.str 1 16 [ZK.s]) ,
  (12, Ti.mk (Kd.int IntKind.u64) 1 8 [ZK.i IntKind.u64]) ,
  (13, Ti.mk (Kd.struct [Av.Fd.mk 0 1 Bool.false 9, Av.Fd.mk 1 1 Bool.false 12]) 2 24 [ZK.s, ZK.i IntKind.u64]) ,
  (14, Ti.mk (Kd.struct [Av.Fd.mk 0 1 Bool.false 9, Av.Fd.mk 1 1 Bool.false 12]) 2 24 [ZK.s, ZK.i IntKind.u64]) ,
  (15, Ti.mk (Kd.ptr 149) 1 8 [ZK.p]) ,
  (16, Ti.mk (Kd.ptr 152) 1 8 [ZK.p]) ,
  (17, Ti.mk (Kd.ptr 159) 1 8 [ZK.p]) ,
  (18, Ti.mk (Kd.struct [Av.Fd.mk 0 1 Bool.false 17]) 1 8 [ZK.p]) ,
  (19, Ti.mk (Kd.struct [Av.Fd.mk 0 1 Bool.false 17]) 1 8 [ZK.p]) ,
  (20, Ti.mk Kd.iface 1 16 [ZK.n]) ,
  (21, Ti.mk (Kd.int IntKind.i32) 1 4 [ZK.i IntKind.i32]) ,
  (22, Ti.mk (Kd.int IntKind.u64) 1 8 [ZK.i IntKind.u64]) ,
  (23, Ti.mk (Kd.struct [Av.Fd.mk 0 1 Bool.false 4, Av.Fd.mk 1 1 Bool.false 22, Av.Fd.mk 2 1 Bool.false 22, Av.Fd.mk 3 1 Bool.false 9, Av.Fd.mk 4 1 Bool.false 9]) 5 56 [ZK.b, ZK.i IntKind.u64, ZK.i IntKind.u64, ZK.s, ZK.s]) ,
  (24, Ti.mk (Kd.struct [Av.Fd.mk 0 1 Bool.false 4, Av.Fd.mk 1 1 Bool.false 22, Av.Fd.mk 2 1 Bool.false 22, Av.Fd.mk 3 1 Bool.false 9, Av.Fd.mk 4 1 Bool.false 9]) 5 56 [ZK.b, ZK.i IntKind.u64, ZK.i IntKind.u64, ZK.s, ZK.s]) ,
  (25, Ti.mk (Kd.slice 5) 1 24 [ZK.l]) ,
  (26, Ti.mk (Kd.struct [Av.Fd.mk 0 1 Bool.false 22, Av.Fd.mk 1 1 Bool.false 3, Av.Fd.mk 2 5 Bool.true 24, Av.Fd.mk 7 5 Bool.true 24, Av.Fd.mk 12 1 Bool.false 3, Av.Fd.mk 13 1 Bool.false 3, Av.Fd.mk 14 1 Bool.false 3, Av.Fd.mk 15 1 Bool.false 25, Av.Fd.mk 16 1 Bool.false 22, Av.Fd.mk 17 1 Bool.false 22, Av.Fd.mk 18 1 Bool.false 4]) 19 200 [ZK.i IntKind.u64, ZK.i IntKind.i64, ZK.b, ZK.i IntKind.u64, ZK.i IntKind.u64, ZK.s, ZK.s, ZK.b, ZK.i IntKind.u64, ZK.i IntKind.u64, ZK.s, ZK.s, ZK.i IntKind.i64, ZK.i IntKind.i64, ZK.i IntKind.i64, ZK.l, ZK.i IntKind.u64, ZK.i IntKind.u64, ZK.b]) ,
  (27, Ti.mk (Kd.struct [Av.Fd.mk 0 1 Bool.false 22, Av.Fd.mk 1 1 Bool.false 3, Av.Fd.mk 2 5 Bool.true 24, Av.Fd.mk 7 5 Bool.true 24, Av.Fd.mk 12 1 Bool.false 3, Av.Fd.mk 13 1 Bool.false 3, Av.Fd.mk 14 1 Bool.false 3, Av.Fd.mk 15 1 Bool.false 25, Av.Fd.mk 16 1 Bool.false 22, Av.Fd.mk 17 1 Bool.false 22, Av.Fd.mk 18 1 Bool.false 4]) 19 200 [ZK.i IntKind.u64, ZK.i IntKind.i64, ZK.b, ZK.i IntKind.u64, ZK.i IntKind.u64, ZK.s, ZK.s, ZK.b, ZK.i IntKind.u64, ZK.i IntKind.u64, ZK.s, ZK.s, ZK.i IntKind.i64, ZK.i IntKind.i64, ZK.i IntKind.i64, ZK.l, ZK.i IntKind.u64, ZK.i IntKind.u64, ZK.b]) ,
  (28, Ti.mk Kd.func 1 8 [ZK.f]) ,
  (29, Ti.mk Kd.func 1 8 [ZK.f]) ,
  (30, Ti.mk (Kd.struct [Av.Fd.mk 0 1 Bool.false 4, Av.Fd.mk 1 1 Bool.false 22, Av.Fd.mk 2 1 Bool.false 22, Av.Fd.mk 3 1 Bool.false 9, Av.Fd.mk 4 1 Bool.false 9]) 5 56 [ZK.b, ZK.i IntKind.u64, ZK.i IntKind.u64, ZK.s, ZK.s]) ,
  (31, Ti.mk (Kd.struct [Av.Fd.mk 0 1 Bool.false 22, Av.Fd.mk 1 1 Bool.false 3, Av.Fd.mk 2 5 Bool.true 30, Av.Fd.mk 7 5 Bool.true 30, Av.Fd.mk 12 1 Bool.false 3, Av.Fd.mk 13 1 Bool.false 3, Av.Fd.mk 14 1 Bool.false 3, Av.Fd.mk 15 1 Bool.false 25, Av.Fd.mk 16 1 Bool.false 22, Av.Fd.mk 17 1 Bool.false 22, Av.Fd.mk 18 1 Bool.false 4]) 19 200 [ZK.i IntKind.u64, ZK.i IntKind.i64, ZK.b, ZK.i IntKind.u64, ZK.i IntKind.u64, ZK.s, ZK.s, ZK.b, ZK.i IntKind.u64, ZK.i IntKind.u64, ZK.s, ZK.s, ZK.i IntKind.i64, ZK.i IntKind.i64, ZK.i IntKind.i64, ZK.l, ZK.i IntKind.u64, ZK.i IntKind.u64, ZK.b]) ,
  (32, Ti.mk (Kd.struct [Av.Fd.mk 0 1 Bool.false 22, Av.Fd.mk 1 1 Bool.false 3, Av.Fd.mk 2 5 Bool.true 30, Av.Fd.mk 7 5 Bool.true 30, Av.Fd.mk 12 1 Bool.false 3, Av.Fd.mk 13 1 Bool.false 3, Av.Fd.mk 14 1 Bool.false 3, Av.Fd.mk 15 1 Bool.false 25, Av.Fd.mk 16 1 Bool.false 22, Av.Fd.mk 17 1 Bool.false 22, Av.Fd.mk 18 1 Bool.false 4]) 19 200 [ZK.i IntKind.u64, ZK.i IntKind.i64, ZK.b, ZK.i IntKind.u64, ZK.i IntKind.u64, ZK.s, ZK.s, ZK.b, ZK.i IntKind.u64, ZK.i IntKind.u64, ZK.s, ZK.s, ZK.i IntKind.i64, ZK.i IntKind.i64, ZK.i IntKind.i64, ZK.l, ZK.i IntKind.u64, ZK.i IntKind.u64, ZK.b]) ,
  (33, Ti.mk Kd.func 1 8 [ZK.f]) ,
  (34, Ti.mk (Kd.int IntKind.i64) 1 8 [ZK.i IntKind.i64]) ,
  (36, Ti.mk Kd.func 1 8 [ZK.f]) ,
  (38, Ti.mk Kd.func 1 8 [ZK.f]) ,
  (40, Ti.mk Kd.func 1 8 [ZK.f]) ,
  (41, Ti.mk (Kd.slice 9) 1 24 [ZK.l]) ,
  (42, Ti.mk Kd.func 1 8 [ZK.f]) ,
  (43, Ti.mk Kd.func 1 8 [ZK.f]) ,
  (44, Ti.mk Kd.func 1 8 [ZK.f]) ,
  (45, Ti.mk Kd.func 1 8 [ZK.f]) ,
  (46, Ti.mk Kd.func 1 8 [ZK.f]) ,
  (47, Ti.mk Kd.func 1 8 [ZK.f]) ,
  (48, Ti.mk Kd.func 1 8 [ZK.f]) ,
  (49, Ti.mk Kd.func 1 8 [ZK.f]) ,
  (50, Ti.mk (Kd.ptr 78) 1 8 [ZK.p]) ,
  (51, Ti.mk Kd.func 1 8 [ZK.f]) ,
  (52, Ti.mk Kd.func 1 8 [ZK.f]) ,
  (53, Ti.mk Kd.func 1 8 [ZK.f]) ,
  (54, Ti.mk Kd.func 1 8 [ZK.f]) ,
  (55, Ti.mk Kd.func 1 8 [ZK.f]) ,
  (56, Ti.mk Kd.func 1 8 [ZK.f]) ,
  (57, Ti.mk Kd.func 1 8 [ZK.f]) ,
  (58, Ti.mk (Kd.ptr 86) 1 8 [ZK.p]) ,
  (59, Ti.mk Kd.func 1 8 [ZK.f]) ,
  (60, Ti.mk Kd.func 1 8 [ZK.f]) ,
  (61, Ti.mk Kd.func 1 8 [ZK.f]) ,
  (62, Ti.mk Kd.func 1 8 [ZK.f]) ,
  (63, Ti.mk Kd.func 1 8 [ZK.f]) ,
  (64, Ti.mk Kd.func 1 8 [ZK.f]) ,
  (65, Ti.mk (Kd.ptr 67) 1 8 [ZK.p]) ,
  (66, Ti.mk (Kd.struct [Av.Fd.mk 0 1 Bool.false 25, Av.Fd.mk 1 1 Bool.false 3, Av.Fd.mk 2 1 Bool.false 34]) 3 40 [ZK.l, ZK.i IntKind.i64, ZK.i IntKind.i64]) ,
  (67, Ti.mk (Kd.struct [Av.Fd.mk 0 1 Bool.false 25, Av.Fd.mk 1 1 Bool.false 3, Av.Fd.mk 2 1 Bool.false 34]) 3 40 [ZK.l, ZK.i IntKind.i64, ZK.i IntKind.i64]) ,
  (68, Ti.mk Kd.func 1 8 [ZK.f]) ,
  (70, Ti.mk Kd.func 1 8 [ZK.f]) ,
  (71, Ti.mk Kd.func 1 8 [ZK.f]) ,
  (72, Ti.mk Kd.func 1 8 [ZK.f]) ,
  (73, Ti.mk Kd.func 1 8 [ZK.f]) ,
  (74, Ti.mk Kd.func 1 8 [ZK.f]) ,
  (75, Ti.mk Kd.func 1 8 [ZK.f]) ,
  (76, Ti.mk Kd.func 1 8 [ZK.f]) ,
  (77, Ti.mk (Kd.struct [Av.Fd.mk 0 1 Bool.false 4, Av.Fd.mk 1 1 Bool.false 25]) 2 32 [ZK.b, ZK.l]) ,
  (78, Ti.mk (Kd.struct [Av.Fd.mk 0 1 Bool.false 4, Av.Fd.mk 1 1 Bool.false 25]) 2 32 [ZK.b, ZK.l]) ,
  (79, Ti.mk (Kd.int IntKind.u64) 1 8 [ZK.i IntKind.u64]) ,
  (81, Ti.mk Kd.func 1 8 [ZK.f]) ,
  (82, Ti.mk Kd.func 1 8 [ZK.f]) ,
  (83, Ti.mk (Kd.struct [Av.Fd.mk 0 1 Bool.false 34]) 1 8 [ZK.i IntKind.i64]) ,
  (84, Ti.mk (Kd.struct [Av.Fd.mk 0 1 Bool.false 34]) 1 8 [ZK.i IntKind.i64]) ,
  (85, Ti.mk (Kd.struct [Av.Fd.mk 0 1 Bool.true 84, Av.Fd.mk 1 1 Bool.false 4, Av.Fd.mk 2 1 Bool.false 25]) 3 40 [ZK.i IntKind.i64, ZK.b, ZK.l]) ,
  (86, Ti.mk (Kd.struct [Av.Fd.mk 0 1 Bool.true 84, Av.Fd.mk 1 1 Bool.false 4, Av.Fd.mk 2 1 Bool.false 25]) 3 40 [ZK.i IntKind.i64, ZK.b, ZK.l]) ,
  (87, Ti.mk Kd.func 1 8 [ZK.f]) ,
  (89, Ti.mk Kd.func 1 8 [ZK.f]) ,
  (90, Ti.mk Kd.func 1 8 [ZK.f]) ,
  (92, Ti.mk Kd.func 1 8 [ZK.f]) ,
  (93, Ti.mk Kd.func 1 8 [ZK.f]) ,
  (94, Ti.mk Kd.func 1 8 [ZK.f]) ,
  (95, Ti.mk Kd.func 1 8 [ZK.f]) ,
  (96, Ti.mk Kd.func 1 8 [ZK.f]) ,
  (97, Ti.mk Kd.func 1 8 [ZK.f]) ,
  (98, Ti.mk (Kd.ptr 84) 1 8 [ZK.p]) ,
  (100, Ti.mk Kd.func 1 8 [ZK.f]) ,
  (102, Ti.mk Kd.func 1 8 [ZK.f]) ,
  (103, Ti.mk Kd.func 1 8 [ZK.f]) ,
  (104, Ti.mk Kd.func 1 8 [ZK.f]) ,
  (106, Ti.mk Kd.func 1 8 [ZK.f]) ,
  (107, Ti.mk Kd.iface 1 16 [ZK.n]) ,
  (108, Ti.mk Kd.iface 1 16 [ZK.n]) ,
  (110, Ti.mk Kd.func 1 8 [ZK.f]) ,
  (111, Ti.mk (Kd.array 24 5) 24 24 [ZK.i IntKind.u8, ZK.i IntKind.u8, ZK.i IntKind.u8, ZK.i IntKind.u8, ZK.i IntKind.u8, ZK.i IntKind.u8, ZK.i IntKind.u8, ZK.i IntKind.u8, ZK.i IntKind.u8, ZK.i IntKind.u8, ZK.i IntKind.u8, ZK.i IntKind.u8, ZK.i IntKind.u8, ZK.i IntKind.u8, ZK.i IntKind.u8, ZK.i IntKind.u8, ZK.i IntKind.u8, ZK.i IntKind.u8, ZK.i IntKind.u8, ZK.i IntKind.u8, ZK.i IntKind.u8, ZK.i IntKind.u8, ZK.i IntKind.u8, ZK.i IntKind.u8]) ,
  (112, Ti.mk Kd.func 1 8 [ZK.f]) ,
  (113, Ti.mk Kd.func 1 8 [ZK.f]) ,
  (115, Ti.mk Kd.func 1 8 [ZK.f]) ,
  (116, Ti.mk Kd.func 1 8 [ZK.f]) ,
  (117, Ti.mk Kd.func 1 8 [ZK.f]) ,
  (118, Ti.mk Kd.func 1 8 [ZK.f]) ,
  (119, Ti.mk Kd.func 1 8 [ZK.f]) ,
  (120, Ti.mk (Kd.array 20 22) 20 160 [ZK.i IntKind.u64, ZK.i IntKind.u64, ZK.i IntKind.u64, ZK.i IntKind.u64, ZK.i IntKind.u64, ZK.i IntKind.u64, ZK.i IntKind.u64, ZK.i IntKind.u64, ZK.i IntKind.u64, ZK.i IntKind.u64, ZK.i IntKind.u64, ZK.i IntKind.u64, ZK.i IntKind.u64, ZK.i IntKind.u64, ZK.i IntKind.u64, ZK.i IntKind.u64, ZK.i IntKind.u64, ZK.i IntKind.u64, ZK.i IntKind.u64, ZK.i IntKind.u64]) ,
  (121, Ti.mk (Kd.int IntKind.u32) 1 4 [ZK.i IntKind.u32]) ,
  (122, Ti.mk (Kd.array 65 5) 65 65 [ZK.i IntKind.u8, ZK.i IntKind.u8, ZK.i IntKind.u8, ZK.i IntKind.u8, ZK.i IntKind.u8, ZK.i IntKind.u8, ZK.i IntKind.u8, ZK.i IntKind.u8, ZK.i IntKind.u8, ZK.i IntKind.u8, ZK.i IntKind.u8, ZK.i IntKind.u8, ZK.i IntKind.u8, ZK.i IntKind.u8, ZK.i IntKind.u8, ZK.i IntKind.u8, ZK.i IntKind.u8, ZK.i IntKind.u8, ZK.i IntKind.u8, ZK.i IntKind.u8, ZK.i IntKind.u8, ZK.i IntKind.u8, ZK.i IntKind.u8, ZK.i IntKind.u8, ZK.i IntKind.u8, ZK.i IntKind.u8, ZK.i IntKind.u8, ZK.i IntKind.u8, ZK.i IntKind.u8, ZK.i IntKind.u8, ZK.i IntKind.u8, ZK.i IntKind.u8, ZK.i IntKind.u8, ZK.i IntKind.u8, ZK.i IntKind.u8, ZK.i IntKind.u8, ZK.i IntKind.u8, ZK.i IntKind.u8, ZK.i IntKind.u8, ZK.i IntKind.u8, ZK.i IntKind.u8, ZK.i IntKind.u8, ZK.i IntKind.u8, ZK.i IntKind.u8, ZK.i IntKind.u8, ZK.i IntKind.u8, ZK.i IntKind.u8, ZK.i IntKind.u8, ZK.i IntKind.u8, ZK.i IntKind.u8, ZK.i IntKind.u8, ZK.i IntKind.u8, ZK.i IntKind.u8, ZK.i IntKind.u8, ZK.i IntKind.u8, ZK.i IntKind.u8, ZK.i IntKind.u8, ZK.i IntKind.u8, ZK.i IntKind.u8, ZK.i IntKind.u8, ZK.i IntKind.u8, ZK.i IntKind.u8, ZK.i IntKind.u8, ZK.i IntKind.u8, ZK.i IntKind.u8]) ,
  (123, Ti.mk Kd.func 1 8 [ZK.f]) ,
  (124, Ti.mk Kd.func 1 8 [ZK.f]) ,
  (125, Ti.mk Kd.func 1 8 [ZK.f]) ,
  (126, Ti.mk (Kd.int IntKind.i64) 1 8 [ZK.i IntKind.i64]) ,
  (127, Ti.mk Kd.func 1 8 [ZK.f]) ,
  (128, Ti.mk Kd.func 1 8 [ZK.f]) ,
  (129, Ti.mk (Kd.ptr 136) 1 8 [ZK.p]) ,
  (130, Ti.mk Kd.func 1 8 [ZK.f]) ,
  (131, Ti.mk Kd.func 1 8 [ZK.f]) ,
  (132, Ti.mk Kd.func 1 8 [ZK.f]) ,
  (133, Ti.mk Kd.func 1 8 [ZK.f]) ,
  (134, Ti.mk Kd.func 1 8 [ZK.f]) ,
  (135, Ti.mk (Kd.struct [Av.Fd.mk 0 1 Bool.false 9, Av.Fd.mk 1 1 Bool.false 9, Av.Fd.mk 2 1 Bool.false 108]) 3 48 [ZK.s, ZK.s, ZK.n]) ,
  (136, Ti.mk (Kd.struct [Av.Fd.mk 0 1 Bool.false 9, Av.Fd.mk 1 1 Bool.false 9, Av.Fd.mk 2 1 Bool.false 108]) 3 48 [ZK.s, ZK.s, ZK.n]) ,
  (137, Ti.mk Kd.func 1 8 [ZK.f]) ,
  (138, Ti.mk (Kd.array 32 5) 32 32 [ZK.i IntKind.u8, ZK.i IntKind.u8, ZK.i IntKind.u8, ZK.i IntKind.u8, ZK.i IntKind.u8, ZK.i IntKind.u8, ZK.i IntKind.u8, ZK.i IntKind.u8, ZK.i IntKind.u8, ZK.i IntKind.u8, ZK.i IntKind.u8, ZK.i IntKind.u8, ZK.i IntKind.u8, ZK.i IntKind.u8, ZK.i IntKind.u8, ZK.i IntKind.u8, ZK.i IntKind.u8, ZK.i IntKind.u8, ZK.i IntKind.u8, ZK.i IntKind.u8, ZK.i IntKind.u8, ZK.i IntKind.u8, ZK.i IntKind.u8, ZK.i IntKind.u8, ZK.i IntKind.u8, ZK.i IntKind.u8, ZK.i IntKind.u8, ZK.i IntKind.u8, ZK.i IntKind.u8, ZK.i IntKind.u8, ZK.i IntKind.u8, ZK.i IntKind.u8]) ,
  (139, Ti.mk (Kd.array 64 5) 64 64 [ZK.i IntKind.u8, ZK.i IntKind.u8, ZK.i IntKind.u8, ZK.i IntKind.u8, ZK.i IntKind.u8, ZK.i IntKind.u8, ZK.i IntKind.u8, ZK.i IntKind.u8, ZK.i IntKind.u8, ZK.i IntKind.u8, ZK.i IntKind.u8, ZK.i IntKind.u8, ZK.i IntKind.u8, ZK.i IntKind.u8, ZK.i IntKind.u8, ZK.i IntKind.u8, ZK.i IntKind.u8, ZK.i IntKind.u8, ZK.i IntKind.u8, ZK.i IntKind.u8, ZK.i IntKind.u8, ZK.i IntKind.u8, ZK.i IntKind.u8, ZK.i IntKind.u8, ZK.i IntKind.u8, ZK.i IntKind.u8, ZK.i IntKind.u8, ZK.i IntKind.u8, ZK.i IntKind.u8, ZK.i IntKind.u8, ZK.i IntKind.u8, ZK.i IntKind.u8, ZK.i IntKind.u8, ZK.i IntKind.u8, ZK.i IntKind.u8, ZK.i IntKind.u8, ZK.i IntKind.u8, ZK.i IntKind.u8, ZK.i IntKind.u8, ZK.i IntKind.u8, ZK.i IntKind.u8, ZK.i IntKind.u8, ZK.i IntKind.u8, ZK.i IntKind.u8, ZK.i IntKind.u8, ZK.i IntKind.u8, ZK.i IntKind.u8, ZK.i IntKind.u8, ZK.i IntKind.u8, ZK.i IntKind.u8, ZK.i IntKind.u8, ZK.i IntKind.u8, ZK.i IntKind.u8, ZK.i IntKind.u8, ZK.i IntKind.u8, ZK.i IntKind.u8, ZK.i IntKind.u8, ZK.i IntKind.u8, ZK.i IntKind.u8, ZK.i IntKind.u8, ZK.i IntKind.u8, ZK.i IntKind.u8, ZK.i IntKind.u8, ZK.i IntKind.u8]) ,
  (141, Ti.mk Kd.func 1 8 [ZK.f]) ,
  (142, Ti.mk (Kd.ptr 5) 1 8 [ZK.p]) ,
  (143, Ti.mk (Kd.ptr 145) 1 8 [ZK.p]) ,
  (144, Ti.mk (Kd.struct [Av.Fd.mk 0 1 Bool.false 9]) 1 16 [ZK.s]) ,
  (145, Ti.mk (Kd.struct [Av.Fd.mk 0 1 Bool.false 9]) 1 16 [ZK.s]) ,
  (146, Ti.mk Kd.func 1 8 [ZK.f]) ,
  (147, Ti.mk Kd.func 1 8 [ZK.f]) ,
  (148, Ti.mk (Kd.struct [Av.Fd.mk 0 1 Bool.false 17, Av.Fd.mk 1 1 Bool.false 17, Av.Fd.mk 2 1 Bool.false 17, Av.Fd.mk 3 1 Bool.false 9]) 4 40 [ZK.p, ZK.p, ZK.p, ZK.s]) ,
  (149, Ti.mk (Kd.struct [Av.Fd.mk 0 1 Bool.false 17, Av.Fd.mk 1 1 Bool.false 17, Av.Fd.mk 2 1 Bool.false 17, Av.Fd.mk 3 1 Bool.false 9]) 4 40 [ZK.p, ZK.p, ZK.p, ZK.s]) ,
  (150, Ti.mk (Kd.array 0 16) 0 0 []) ,
  (151, Ti.mk (Kd.struct [Av.Fd.mk 0 0 Bool.true 150]) 0 0 []) ,
  (152, Ti.mk (Kd.struct [Av.Fd.mk 0 0 Bool.true 150]) 0 0 []) ,
  (153, Ti.mk (Kd.int IntKind.u8) 1 1 [ZK.i IntKind.u8]) ,
  (154, Ti.mk (Kd.int IntKind.u8) 1 1 [ZK.i IntKind.u8]) ,
  (155, Ti.mk Kd.func 1 8 [ZK.f]) ,
  (156, Ti.mk (Kd.int IntKind.i32) 1 4 [ZK.i IntKind.i32]) ,
  (157, Ti.mk (Kd.int IntKind.i32) 1 4 [ZK.i IntKind.i32]) ,
  (158, Ti.mk (Kd.struct [Av.Fd.mk 0 1 Bool.false 12, Av.Fd.mk 1 1 Bool.false 12, Av.Fd.mk 2 1 Bool.false 121, Av.Fd.mk 3 1 Bool.false 153, Av.Fd.mk 4 1 Bool.false 5, Av.Fd.mk 5 1 Bool.false 5, Av.Fd.mk 6 1 Bool.false 154, Av.Fd.mk 7 1 Bool.false 155, Av.Fd.mk 8 1 Bool.false 142, Av.Fd.mk 9 1 Bool.false 156, Av.Fd.mk 10 1 Bool.false 157]) 11 48 [ZK.i IntKind.u64, ZK.i IntKind.u64, ZK.i IntKind.u32, ZK.i IntKind.u8, ZK.i IntKind.u8, ZK.i IntKind.u8, ZK.i IntKind.u8, ZK.f, ZK.p, ZK.i IntKind.i32, ZK.i IntKind.i32]) ,
  (159, Ti.mk (Kd.struct [Av.Fd.mk 0 1 Bool.false 12, Av.Fd.mk 1 1 Bool.false 12, Av.Fd.mk 2 1 Bool.false 121, Av.Fd.mk 3 1 Bool.false 153, Av.Fd.mk 4 1 Bool.false 5, Av.Fd.mk 5 1 Bool.false 5, Av.Fd.mk 6 1 Bool.false 154, Av.Fd.mk 7 1 Bool.false 155, Av.Fd.mk 8 1 Bool.false 142, Av.Fd.mk 9 1 Bool.false 156, Av.Fd.mk 10 1 Bool.false 157]) 11 48 [ZK.i IntKind.u64, ZK.i IntKind.u64, ZK.i IntKind.u32, ZK.i IntKind.u8, ZK.i IntKind.u8, ZK.i IntKind.u8, ZK.i IntKind.u8, ZK.f, ZK.p, ZK.i IntKind.i32, ZK.i IntKind.i32])]
theorem ttok : chk Tryz.prog tt = true := by kernel_rfl
end Go.Proofs.YtdhkfbolnkikgaaGreatDoor
end
/- What every text of this seat uses: bytes as trees, and the seat's table. -/
section
open Go.RowKit Go.Pl Go.Av
namespace Go.Proofs.YtdhkfbolnkikgaaGreatDoor
set_option linter.unusedVariables false
set_option linter.unusedSimpArgs false
theorem hmix : Tryz.prog.follows .mixedOrders = true := by kernel_rfl
abbrev byE (l : List UInt8) : D := .sl .ext (l.map E.byte)
theorem uniB1 (l : List UInt8) : Uni 1 (l.map E.byte) := Uni.map (f := E.byte) (fun _ => rfl) l
end Go.Proofs.YtdhkfbolnkikgaaGreatDoor
end
/- Slices of bytes: copied, held against each other. -/
section
open Go.RowKit Go.Pl Go.Av
namespace Go.Proofs.YtdhkfbolnkikgaaGreatDoor
set_option linter.unusedVariables false
set_option linter.unusedSimpArgs false
set_option maxHeartbeats 4000000
theorem av_cloneB [Known] (b : List UInt8) (hb : b.length ≤ 140737488351232) : AP Tryz.prog 46 [byE b] (byE b) [] := by
  have hU := uniB1 b
  cases b with
  | nil =>
    refine AP.ofA ?_
    refine AC_of Tryz.func46 rfl Tryz.ntmps46 rfl rfl ?_
    repeat' (first | (apply AL_snil ttok; (iterate 5 exact rfl); intro b hbn) | (apply AL_move; exact rfl; exact rfl) | (apply AL_assign; exact rfl; exact rfl) | refine AL_nil ?_ | refine AW_region ?_ | refine AW_seq' ?_ | (apply AW_cond'; exact rfl; all_goals intro hb) | refine then_norm ?_ | refine AW_ret ?_ | refine then_ret ?_ | (apply AL_bs ttok; (iterate 12 exact rfl)) | refine AW_skip ?_ | (apply AL_append_none ttok; (iterate 6 exact rfl)))
    all_goals (apply endQ []; (repeat (first | exact ResL.nil | (apply ResL.cons; first | exact .tmp _ _ rfl | (apply res_n ttok; (iterate 6 exact rfl)) | (apply res_1 ttok; (iterate 5 exact rfl))))); (iterate 4 exact rfl))
    all_goals rfl
  | cons c b =>
    refine AP.ofA ?_
    refine AC_of Tryz.func46 rfl Tryz.ntmps46 rfl rfl ?_
    repeat' (first | (apply AL_snil ttok; (iterate 5 exact rfl); intro b hbn; (have hbn2 := hbn (List.cons_ne_nil _ _)); subst hbn2; clear hbn) | (apply AL_move; exact rfl; exact rfl) | (apply AL_assign; exact rfl; exact rfl) | refine AL_nil ?_ | refine AW_region ?_ | refine AW_seq' ?_ | (apply AW_condB; exact rfl; (first | with_reducible assumption | (guard_target =ₛ true = true; rfl) | (guard_target =ₛ false = false; rfl) | (guard_target =ₛ (!true) = false; rfl) | (guard_target =ₛ (!false) = true; rfl))) | refine then_norm ?_ | refine AW_ret ?_ | (apply AL_bs ttok; (iterate 12 exact rfl)) | refine AW_skip ?_ | (apply AL_append ttok; (iterate 6 exact rfl); (first | with_reducible assumption | exact rfl | rotate_left); exact rfl; exact rfl; (first | exact uniB_ok rfl | with_reducible assumption | rotate_left); (first | exact uniB_ok rfl | with_reducible assumption | rotate_left); (first | exact List.cons_ne_nil _ _ | with_reducible assumption | rotate_left); (first | with_reducible assumption | rotate_left); (first | with_reducible assumption | rotate_left); exact rfl; exact rfl))
    all_goals first | (apply endQ []; (repeat (first | exact ResL.nil | (apply ResL.cons; first | exact .tmp _ _ rfl | (apply res_n ttok; (iterate 6 exact rfl)) | (apply res_1 ttok; (iterate 5 exact rfl))))); (iterate 4 exact rfl)) | skip
    all_goals first | rfl | (simp at hb ⊢; (try unfold maxLen); omega)
theorem av_bEq [Known] (a b : List UInt8) : AP Tryz.prog 32 [byE a, byE b] (.bool (a == b)) [] := by
  refine AP.ofA ?_
  refine AC_of Tryz.func32 rfl Tryz.ntmps32 rfl rfl ?_
  repeat' (first | (apply AL_move; exact rfl; exact rfl) | (apply AL_assign; exact rfl; exact rfl) | refine AL_nil ?_ | refine AW_region ?_ | refine AW_seq' ?_ | refine then_norm ?_ | refine AW_ret ?_ | (apply AL_str; (iterate 5 exact rfl)) | (apply AL_b2s ttok; (iterate 9 exact rfl)))
  all_goals (apply endQ []; (repeat (first | exact ResL.nil | (apply ResL.cons; first | exact .tmp _ _ rfl | (apply res_n ttok; (iterate 6 exact rfl)) | (apply res_1 ttok; (iterate 5 exact rfl))))); (iterate 4 exact rfl))
  all_goals rfl
end Go.Proofs.YtdhkfbolnkikgaaGreatDoor
end
/- Package eid: is a text plain? -/
section
open Go.RowKit Go.Pl Go.Av
namespace Go.Proofs.YtdhkfbolnkikgaaGreatDoor
set_option linter.unusedVariables false
set_option linter.unusedSimpArgs false
set_option maxHeartbeats 1000000
/-- may a byte be, beside m? -/
def okB (m : Nat) (c : UInt8) : Bool := (97 ≤ c.toNat && c.toNat ≤ 122) || (48 ≤ c.toNat && c.toNat ≤ 57) || c.toNat == 45 || c.toNat == m
theorem okB_true {m : Nat} {c : UInt8} : okB m c = true ↔ (97 ≤ (c.toNat : Int) ∧ (c.toNat : Int) ≤ 122) ∨ (48 ≤ (c.toNat : Int) ∧ (c.toNat : Int) ≤ 57) ∨ (c.toNat : Int) = 45 ∨ (c.toNat : Int) = (m : Int) := by
  simp only [okB, Bool.or_eq_true, Bool.and_eq_true, decide_eq_true_eq, beq_iff_eq]
  omega
theorem plain_walk (s : ByteArray) (m : Nat) (hm : m < 128) (w : World) (B : Bool) (hB : s.data.toList.all (okB m) = B) :
    Calls Tryz.prog 64 #[.string s, .int .i32 (m : Int)] w fun e w' => e = .returned (.bool B) ∧ Below w.heap.size w w' := by
  have hT : (∀ j, j < s.size → ∀ c, s.data.toList[j]? = some c → okB m c = true) → B = true := fun h => by
    rw [← hB, List.all_eq_true]
    intro x hx
    obtain ⟨j, hj⟩ := List.getElem?_of_mem hx
    have hlt := (List.getElem?_eq_some_iff.1 hj).1
    exact h j (by simpa using hlt) x hj
  have hF : ∀ (j : Nat) (c : UInt8), s.data.toList[j]? = some c → ¬ okB m c = true → B = false := fun j c hj hc => by
    rw [← hB, List.all_eq_false]
    exact ⟨c, List.mem_of_getElem? hj, hc⟩
  clear hB
  go_enter Tryz.func64, Tryz.ntmps64
  go_wp2
  go_loopw [] (fun w' => ∃ pos, w' = w.iter s pos ∧ pos ≤ s.size ∧ Hid (∀ j, j < pos → ∀ c, s.data.toList[j]? = some c → okB m c = true)) (fun w' => s.size - w'.iterPos w.heap.size)
  case atStart => exact ⟨0, rfl, Nat.zero_le _, fun j hj => by omega⟩
  case round =>
    obtain ⟨pos, rfl, hps, hall⟩ := hrel
    have hb : ∀ p, Below w.heap.size w (w.iter s p) := fun p => (Below.refl _ _).alloc (Nat.le_refl _) _
    by_cases hp : pos < s.size
    · have hget : s.data.toList[pos]? = some (s[pos]'hp) := by
        have hlt : pos < s.data.toList.length := by simpa using hp
        rw [List.getElem?_eq_getElem hlt]; rfl
      by_cases ha : (s[pos]'hp).toNat < 128
      · obtain ⟨c, hc⟩ : ∃ c, c = s[pos]'hp := ⟨_, rfl⟩
        have hnx : ∀ ty, (Instr.next (.pointer (some ⟨w.heap.size, 0, none⟩)) true ty).run Tryz.prog (w.iter s pos) = .ok (.tuple #[.bool true, .int .i64 pos, .int .i32 (c.toNat : Int)]) (w.iter s (pos + 1)) := fun ty => by
          rw [hc]; exact run_next_ascii w s pos ty hp ha
        rw [← hc] at hget ha
        clear hc
        have hbad := hid (hF pos c hget)
        have hstep : Hid (okB m c = true → ∀ j, j < pos + 1 → ∀ c, s.data.toList[j]? = some c → okB m c = true) := fun hc j hj c' hj' => by
          rcases Nat.lt_or_ge j pos with h | h
          · exact hall j h c' hj'
          · have : j = pos := by omega
            subst this
            rw [hget] at hj'
            injection hj' with hj'
            subst hj'
            exact hc
        clear hT hF hget
        go_wp2
        all_goals first
          | (go_ret
             have hBf := hbad (fun h => by rw [okB_true] at h; clear hbad hstep hnx; (try simp only [bne_iff_ne, ne_eq, bne_eq_false_iff_eq] at *); omega)
             subst hBf
             exact ⟨rfl, hb _⟩)
          | (refine ⟨⟨pos + 1, rfl, by omega, hstep ?_⟩, ?_⟩
             · rw [okB_true]
               clear hbad hstep hnx
               try simp only [bne_iff_ne, ne_eq, bne_eq_false_iff_eq] at *
               omega
             · simp; omega)
      · obtain ⟨hd1, hd2⟩ := decode_high s pos hp (by omega)
        have hle := decode_le s pos
        have hnx : ∀ ty, (Instr.next (.pointer (some ⟨w.heap.size, 0, none⟩)) true ty).run Tryz.prog (w.iter s pos) = _ := fun ty => run_next_any w s pos ty hp
        have hBf := hF pos _ hget (fun h => by rw [okB_true] at h; omega)
        clear hT hF hget
        subst hBf
        generalize Utf8.decode s pos = dd at hd1 hd2 hle hnx
        have n1 : ¬ ((dd.1 : Int) < 97) := by omega
        have n2 : ((dd.1 : Int) > 122) := by omega
        have n3 : ¬ ((dd.1 : Int) < 48) := by omega
        have n4 : ((dd.1 : Int) > 57) := by omega
        have n5 : ¬ ((dd.1 : Int) = 45) := by omega
        have n6 : ¬ ((dd.1 : Int) = (m : Int)) := by omega
        go_wp2
        all_goals first
          | (go_ret; exact ⟨rfl, hb _⟩)
          | (exfalso; clear hnx hb hall; (try simp only [bne_iff_ne, ne_eq, bne_eq_false_iff_eq] at *); omega)
    · have hnx : ∀ ty, (Instr.next (.pointer (some ⟨w.heap.size, 0, none⟩)) true ty).run Tryz.prog (w.iter s pos) = _ := fun ty => run_next_end w s pos ty hp
      have hBt := hT (fun j hj => hall j (by omega))
      subst hBt
      go_wp2
      go_ret
      exact ⟨rfl, hb _⟩
end Go.Proofs.YtdhkfbolnkikgaaGreatDoor
end
/- Package eid, package ident: names and numbers, and which is ahead. -/
section
open Go.RowKit Go.Pl Go.Av
namespace Go.Proofs.YtdhkfbolnkikgaaGreatDoor
set_option linter.unusedVariables false
set_option linter.unusedSimpArgs false
set_option maxHeartbeats 1000000
theorem av_plain [Known] (s : List UInt8) (m : Nat) (hm : m < 128) : AP Tryz.prog 64 [.str s, .int .i32 (m : Int)] (.bool (s.all (okB m))) [] := by
  refine ⟨fun g w vs hmem hl hv => ?_⟩
  obtain ⟨v0, v1, rfl⟩ : ∃ v0 v1, vs = [v0, v1] := by
    match vs, hl with
    | [v0, v1], _ => exact ⟨v0, v1, rfl⟩
  have h0 := (hv 0 _ _ rfl rfl).str_inv.1
  have h1 := (hv 1 _ _ rfl rfl).int_inv
  subst h0 h1
  exact (plain_walk ⟨s.toArray⟩ m hm w _ rfl).mono fun e w' ⟨he, hb⟩ => endBelow hmem hb he (.bool _)
structure EidV where
  i : Bool
  n : Nat
  s : Nat
  h : List UInt8
  d : List UInt8
  deriving DecidableEq
abbrev eC (x : EidV) : List D := [.bool x.i, .int .u64 (x.n : Int), .int .u64 (x.s : Int), .str x.h, .str x.d]
def eidZ : EidV := ⟨false, 0, 0, [], []⟩
/-- no name -/
def isZ (x : EidV) : Bool := x.i == false && ((x.n : Int) == 0 && ((x.s : Int) == 0 && (x.h == [] && (x.d == [] && true))))
/-- may a name be? -/
def eRight (x : EidV) : Bool :=
  if isZ x then true
  else if x.i then (x.i == true && ((x.n : Int) == (x.n : Int) && ((x.s : Int) == (x.s : Int) && (x.h == [] && (x.d == [] && true))))) && decide ((x.n : Int) ≥ 1) && decide ((x.n : Int) ≤ 4294967295) && decide ((x.s : Int) ≤ 4294967295)
  else (x.i == false && ((x.n : Int) == 0 && ((x.s : Int) == 0 && (x.h == x.h && (x.d == x.d && true))))) && decide ((x.h.length : Int) ≥ 1) && decide ((x.h.length : Int) ≤ 16) && decide ((x.d.length : Int) ≤ 24) && x.h.all (okB 45) && x.d.all (okB 47)
theorem eRight_Z {x : EidV} (h : isZ x = true) : eRight x = true := by unfold eRight; rw [if_pos h]
theorem eRight_I {x : EidV} (h : isZ x = false) (hi : x.i = true) : eRight x = ((x.i == true && ((x.n : Int) == (x.n : Int) && ((x.s : Int) == (x.s : Int) && (x.h == [] && (x.d == [] && true))))) && decide ((x.n : Int) ≥ 1) && decide ((x.n : Int) ≤ 4294967295) && decide ((x.s : Int) ≤ 4294967295)) := by
  unfold eRight; rw [if_neg (by rw [h]; decide), if_pos hi]
theorem eRight_T {x : EidV} (h : isZ x = false) (hi : x.i = false) : eRight x = ((x.i == false && ((x.n : Int) == 0 && ((x.s : Int) == 0 && (x.h == x.h && (x.d == x.d && true))))) && decide ((x.h.length : Int) ≥ 1) && decide ((x.h.length : Int) ≤ 16) && decide ((x.d.length : Int) ≤ 24) && x.h.all (okB 45) && x.d.all (okB 47)) := by
  unfold eRight; rw [if_neg (by rw [h]; decide), if_neg (by rw [hi]; decide)]
theorem av_eRight [Known] (x : EidV) : AP Tryz.prog 57 [.agg (eC x)] (.bool (eRight x)) [] := by
  refine AP.ofA ?_
  refine AC_of Tryz.func57 rfl Tryz.ntmps57 rfl rfl ?_
  cases hz : isZ x with
  | true =>
    rw [eRight_Z hz]
    unfold isZ at hz
    repeat' (first | (apply AL_assign; exact rfl; exact rfl) | (apply AL_loadn ttok; (iterate 7 exact rfl)) | (apply AL_box; (iterate 5 exact rfl)) | refine AL_nil ?_ | refine AW_region ?_ | refine AW_seq' ?_ | (apply AW_condA; exact rfl; (first | with_reducible assumption | (guard_target =ₛ true = true; rfl) | (guard_target =ₛ false = false; rfl) | (guard_target =ₛ (!true) = false; rfl) | (guard_target =ₛ (!false) = true; rfl))) | refine then_norm ?_ | refine AW_block ?_ | refine AW_ret ?_ | refine then_ret ?_ | refine blk_ret ?_ | (apply AL_build ttok; (iterate 6 exact rfl)) | (apply AL_eqS ttok; (iterate 4 exact rfl); (kernel_rfl); (kernel_rfl); (iterate 3 exact rfl)))
    (apply endQ []; (repeat (first | exact ResL.nil | (apply ResL.cons; first | exact .tmp _ _ rfl | (apply res_n ttok; (iterate 6 exact rfl)) | (apply res_1 ttok; (iterate 5 exact rfl))))); (iterate 4 exact rfl))
    all_goals rfl
  | false =>
    cases hi : x.i with
    | true =>
      rw [eRight_I hz hi]
      unfold isZ at hz
      repeat' (first | (apply AL_move; exact rfl; exact rfl) | (apply AL_assign; exact rfl; exact rfl) | (apply AL_bin; (iterate 5 exact rfl)) | (apply AL_load1 ttok; (iterate 6 exact rfl)) | (apply AL_loadn ttok; (iterate 7 exact rfl)) | (apply AL_fieldAddr ttok; (iterate 7 exact rfl)) | (apply AL_box; (iterate 5 exact rfl)) | refine AL_nil ?_ | (apply AL_guardT; (iterate 3 exact rfl); (first | with_reducible assumption | (guard_target =ₛ true = true; rfl) | (guard_target =ₛ false = false; rfl) | (guard_target =ₛ (!true) = false; rfl) | (guard_target =ₛ (!false) = true; rfl))) | (apply AL_guardFt; (iterate 3 exact rfl); (first | with_reducible assumption | (guard_target =ₛ true = true; rfl) | (guard_target =ₛ false = false; rfl) | (guard_target =ₛ (!true) = false; rfl) | (guard_target =ₛ (!false) = true; rfl))) | (apply AL_guardS; exact rfl; exact rfl; all_goals intro hb) | (apply AL_pickT; exact rfl; (first | with_reducible assumption | (guard_target =ₛ true = true; rfl) | (guard_target =ₛ false = false; rfl) | (guard_target =ₛ (!true) = false; rfl) | (guard_target =ₛ (!false) = true; rfl)); exact rfl; exact rfl) | (apply AL_pickF; exact rfl; (first | with_reducible assumption | (guard_target =ₛ true = true; rfl) | (guard_target =ₛ false = false; rfl) | (guard_target =ₛ (!true) = false; rfl) | (guard_target =ₛ (!false) = true; rfl)); exact rfl; exact rfl) | refine AW_region ?_ | refine AW_seq' ?_ | (apply AW_condA; exact rfl; (first | with_reducible assumption | (guard_target =ₛ true = true; rfl) | (guard_target =ₛ false = false; rfl) | (guard_target =ₛ (!true) = false; rfl) | (guard_target =ₛ (!false) = true; rfl))) | (apply AW_condB; exact rfl; (first | with_reducible assumption | (guard_target =ₛ true = true; rfl) | (guard_target =ₛ false = false; rfl) | (guard_target =ₛ (!true) = false; rfl) | (guard_target =ₛ (!false) = true; rfl))) | refine then_norm ?_ | refine AW_block ?_ | refine AW_ret ?_ | refine then_ret ?_ | refine blk_ret ?_ | (apply AL_build ttok; (iterate 6 exact rfl)) | (apply AL_eqS ttok; (iterate 4 exact rfl); (kernel_rfl); (kernel_rfl); (iterate 3 exact rfl)))
      all_goals (apply endQ []; (repeat (first | exact ResL.nil | (apply ResL.cons; first | exact .tmp _ _ rfl | (apply res_n ttok; (iterate 6 exact rfl)) | (apply res_1 ttok; (iterate 5 exact rfl))))); (iterate 4 exact rfl))
      all_goals first | rfl | (clear hi hz; simp only [*]; done) | (clear hi hz; simp only [*]; simp only [Bool.and_true, Bool.true_and, Bool.and_false, Bool.false_and]; done)
    | false =>
      rw [eRight_T hz hi]
      unfold isZ at hz
      repeat' (first | (apply AL_callPw (av_plain x.h 45 (by decide)); kernel_rfl; (iterate 4 exact rfl)) | (apply AL_callPw (av_plain x.d 47 (by decide)); kernel_rfl; (iterate 4 exact rfl)) | (apply AL_move; exact rfl; exact rfl) | (apply AL_assign; exact rfl; exact rfl) | (apply AL_bin; (iterate 5 exact rfl)) | (apply AL_load1 ttok; (iterate 6 exact rfl)) | (apply AL_loadn ttok; (iterate 7 exact rfl)) | (apply AL_fieldAddr ttok; (iterate 7 exact rfl)) | (apply AL_box; (iterate 5 exact rfl)) | refine AL_nil ?_ | (apply AL_guardT; (iterate 3 exact rfl); (first | with_reducible assumption | (guard_target =ₛ true = true; rfl) | (guard_target =ₛ false = false; rfl) | (guard_target =ₛ (!true) = false; rfl) | (guard_target =ₛ (!false) = true; rfl))) | (apply AL_guardFt; (iterate 3 exact rfl); (first | with_reducible assumption | (guard_target =ₛ true = true; rfl) | (guard_target =ₛ false = false; rfl) | (guard_target =ₛ (!true) = false; rfl) | (guard_target =ₛ (!false) = true; rfl))) | (apply AL_guardS; exact rfl; exact rfl; all_goals intro hb) | (apply AL_pickT; exact rfl; (first | with_reducible assumption | (guard_target =ₛ true = true; rfl) | (guard_target =ₛ false = false; rfl) | (guard_target =ₛ (!true) = false; rfl) | (guard_target =ₛ (!false) = true; rfl)); exact rfl; exact rfl) | (apply AL_pickF; exact rfl; (first | with_reducible assumption | (guard_target =ₛ true = true; rfl) | (guard_target =ₛ false = false; rfl) | (guard_target =ₛ (!true) = false; rfl) | (guard_target =ₛ (!false) = true; rfl)); exact rfl; exact rfl) | refine AW_region ?_ | refine AW_seq' ?_ | (apply AW_condB; exact rfl; (first | with_reducible assumption | (guard_target =ₛ true = true; rfl) | (guard_target =ₛ false = false; rfl) | (guard_target =ₛ (!true) = false; rfl) | (guard_target =ₛ (!false) = true; rfl))) | refine then_norm ?_ | refine AW_block ?_ | refine AW_ret ?_ | (apply AL_lens ttok; (iterate 4 exact rfl)) | (apply AL_build ttok; (iterate 6 exact rfl)) | (apply AL_eqS ttok; (iterate 4 exact rfl); (kernel_rfl); (kernel_rfl); (iterate 3 exact rfl)) | refine AW_skip ?_)
      all_goals (apply endQ []; (repeat (first | exact ResL.nil | (apply ResL.cons; first | exact .tmp _ _ rfl | (apply res_n ttok; (iterate 6 exact rfl)) | (apply res_1 ttok; (iterate 5 exact rfl))))); (iterate 4 exact rfl))
      all_goals first | rfl | (clear hi hz; simp only [*]; done) | (clear hi hz; simp only [*]; simp only [Bool.and_true, Bool.true_and, Bool.and_false, Bool.false_and]; done)
end Go.Proofs.YtdhkfbolnkikgaaGreatDoor
end

/- The rules once more, with lengths written as numerals: for fixed calls with large states. -/
import Derived.Test.YteijmldnfjcipaaGreatDoorAv26
open Go.RowKit Go.Pl
namespace Go.Av
set_option linter.unusedSimpArgs false
set_option linter.unusedVariables false
def lits : List Nat := [0, 1, 2, 3, 4, 5, 6, 7, 8, 9, 10, 11, 12, 13, 14, 15, 16, 17, 18, 19, 20, 21, 22, 23, 24, 25, 26, 27, 28, 29, 30, 31, 32, 33, 34, 35, 36, 37, 38, 39, 40, 41, 42, 43, 44, 45, 46, 47, 48, 49, 50, 51, 52, 53, 54, 55, 56, 57, 58, 59, 60, 61, 62, 63]
def lenX {α : Type} : List α → List Nat → Option Nat
  | [], k :: _ => some k
  | _ :: l, _ :: ks => lenX l ks
  | _, [] => none
abbrev lenZ {α : Type} (l : List α) : Option Nat := lenX l lits
theorem lenX_eq {α : Type} : ∀ {l : List α} {ks : List Nat} {b k : Nat}, (∀ (i x : Nat), ks[i]? = some x → x = b + i) → lenX l ks = some k → b + l.length = k
  | [], [], b, k, h, e => by simp [lenX] at e
  | [], x :: ks, b, k, h, e => by
    simp [lenX] at e
    have := h 0 x rfl
    simp; omega
  | _ :: l, [], b, k, h, e => by simp [lenX] at e
  | _ :: l, x :: ks, b, k, h, e => by
    simp only [lenX] at e
    have := lenX_eq (b := b + 1) (fun i y hy => by have := h (i + 1) y (by simpa using hy); omega) e
    simp; omega
theorem lits_ok : ∀ (i x : Nat), lits[i]? = some x → x = 0 + i := fun i x h => by
  have hl : lits = List.range 64 := by decide
  rw [hl] at h
  obtain ⟨h1, h2⟩ := List.getElem?_eq_some_iff.1 h
  simp at h2
  omega
theorem lenZ_eq {α : Type} {l : List α} {k : Nat} (h : lenZ l = some k) : l.length = k := by have := lenX_eq lits_ok h; omega
section
variable {P : Program} {Q : X → St → Prop} {n : Nat} {ee : Nat × Nat} {tm tm' : List (Nat × D)} {bx bx' : List (List D)} {fr fr' : List Fr} {b0 : Bs} {g : G} {w : World} {a : Act} {T : Tab}
variable {ops : Array Oper} {rest : List Oper} {t ty : Nat} {pos : String} {after : Array Edge} {ys : List Y}
theorem AL_boxZ {x : Operand} {e : TypeId} {d : D} {m : Nat} (hx : nf (ev tm x) = some d) (ho : D.ones d.cellsOf = true) (hb : nfb (bx ++ [d.cellsOf]) = some bx') (hm : lenZ bx = some m) (htd : Nat.blt t n = true)
    (k : AL P ops rest ⟨n, (t, .ptr m 0) :: tm, bx', fr, ee⟩ Q) : AL P ops (⟨some t, .box e x, ty, pos, after, none⟩ :: rest) ⟨n, tm, bx, fr, ee⟩ Q := AL_box hx ho hb (lenZ_eq hm) htd k
theorem AL_allocZ (hT : chk P T = true) {e : TypeId} {ti : Ti} {m : Nat} (ht : tl T e = some ti) (hb : nfb (bx ++ [ti.zero.map ZK.d]) = some bx') (hm : lenZ bx = some m) (htd : Nat.blt t n = true)
    (k : AL P ops rest ⟨n, (t, .ptr m 0) :: tm, bx', fr, ee⟩ Q) : AL P ops (⟨some t, .alloc e, ty, pos, after, none⟩ :: rest) ⟨n, tm, bx, fr, ee⟩ Q := AL_alloc hT ht hb (lenZ_eq hm) htd k
theorem AL_bsZ (hT : chk P T = true) {st len e : Nat} {ds : List D} {es : List E} {ti te : Ti} {m : Nat} {parts : Array (Nat × Operand)} (ht : tl T st = some ti) (hk : ti.kd = .slice e) (hte : tl T e = some te) (hp : parts.toList.map (·.1) = List.range len)
    (hds : nfs (parts.toList.map fun p => ev tm p.2) = some ds) (hes : D.toEl ds = some es) (hU : uniB te.size es = true) (hpos : Nat.blt 0 te.size = true) (hsm : Nat.ble (len * te.size) 16777216 = true) (hm : lenZ fr = some m) (hf : nfl (fr ++ [⟨len, te.size, e⟩]) = some fr') (htd : Nat.blt t n = true)
    (k : AL P ops rest ⟨n, (t, .sl (.own m) es) :: tm, bx, fr', ee⟩ Q) : AL P ops (⟨some t, .buildSlice st len parts, ty, pos, after, none⟩ :: rest) ⟨n, tm, bx, fr, ee⟩ Q :=
  AL_bs hT ht hk hte hp hds hes hU hpos hsm (lenZ_eq hm) hf htd k
theorem AL_appendZ (hT : chk P T = true) {x y : Operand} {st e i k2 : Nat} {l l' l2 : List E} {tk : Tok} {ti te : Ti} {f : Fr} (ht : tl T st = some ti) (hk : ti.kd = .slice e) (hte : tl T e = some te) (hx : ev tm x = .sl (.own i) l) (hy : ev tm y = .sl tk l')
    (hl2 : nfl (l ++ l') = some l2) (hk2 : lenZ l2 = some k2) (hf : fr[i]? = some f) (hfn : f.n = l.length) (hfs : f.sz = te.size) (hfe : f.e = e) (hU : Uni te.size l) (hU' : Uni te.size l') (hne : l' ≠ []) (hlen : Nat.ble k2 maxLen = true) (hby : Nat.ble (k2 * te.bytes) 140737488355328 = true)
    (hfr : nfl (fr.set i ⟨k2, te.size, e⟩) = some fr') (htd : Nat.blt t n = true)
    (k : AL P ops rest ⟨n, (t, .sl (.own i) l2) :: tm, bx, fr', ee⟩ Q) : AL P ops (⟨some t, .call { callee := .builtin .append, args := #[x, y], argTypes := #[st, st] }, ty, pos, after, none⟩ :: rest) ⟨n, tm, bx, fr, ee⟩ Q := by
  have e2 := nfl_eq hl2
  have e3 := lenZ_eq hk2
  have e4 : l.length + l'.length = k2 := by rw [← e3, ← e2, List.length_append]
  have e5 := Nat.le_of_ble_eq_true hlen
  have e6 := Nat.le_of_ble_eq_true hby
  refine AL_append hT ht hk hte hx hy hf hfn hfs hfe hU hU' hne (by rw [e4]; exact e5) (by rw [e4]; exact e6) (by rw [e4]; exact hfr) htd (by rw [e2]; exact k)
theorem AL_append_nilZ (hT : chk P T = true) {x y : Operand} {st e m k2 : Nat} {l' : List E} {tk : Tok} {ti te : Ti} (ht : tl T st = some ti) (hk : ti.kd = .slice e) (hte : tl T e = some te) (hx : ev tm x = .sl .nil []) (hy : ev tm y = .sl tk l')
    (hpos : Nat.blt 0 te.size = true) (hU' : Uni te.size l') (hne : l' ≠ []) (hk2 : lenZ l' = some k2) (hlen : Nat.ble k2 maxLen = true) (hby : Nat.ble (k2 * te.bytes) 140737488355328 = true)
    (hm : lenZ fr = some m) (hfr : nfl (fr ++ [⟨k2, te.size, e⟩]) = some fr') (htd : Nat.blt t n = true)
    (k : AL P ops rest ⟨n, (t, .sl (.own m) l') :: tm, bx, fr', ee⟩ Q) : AL P ops (⟨some t, .call { callee := .builtin .append, args := #[x, y], argTypes := #[st, st] }, ty, pos, after, none⟩ :: rest) ⟨n, tm, bx, fr, ee⟩ Q := by
  have e3 := lenZ_eq hk2
  subst e3
  exact AL_append_nil hT ht hk hte hx hy hpos hU' hne (Nat.le_of_ble_eq_true hlen) (Nat.le_of_ble_eq_true hby) (lenZ_eq hm) hfr htd k
theorem AL_inZ {t : Option Nat} {ty : Nat} {pos : String} {after : Array Edge} {f : FuncId} {as : Array Operand} {ats : Array TypeId} {fn : Func} {c : Code} {n' i j : Nat} {rs : List ResultVar} {cds : List D} {tm2 : List (Nat × D)}
    (hf : P.funcs[f]? = some fn) (hn : fn.ntmps = n') (hb : fn.body = some c) (hr : fn.results = rs.toArray) (hif : isFn P f = true) (hc : nfs (as.toList.map (ev tm)) = some cds) (hl : Nat.ble cds.length n' = true) (ht : inOk t n = true) (hi : lenZ bx = some i) (hj : lenZ fr = some j) (htm : nfl (number 0 cds) = some tm2)
    (h : AW P c ⟨n', tm2, bx, fr, (i, j)⟩ (inPost P rs t n tm ee ops rest Q)) : AL P ops (⟨t, .call { callee := .value (.func f), args := as, argTypes := ats }, ty, pos, after, none⟩ :: rest) ⟨n, tm, bx, fr, ee⟩ Q :=
  AL_in hf hn hb hr hif hc hl ht (by rw [lenZ_eq hi, lenZ_eq hj, nfl_eq htm]; exact h)
theorem AE_consZ {l : List Oper} {i p q : Nat} {o : Oper} {rest : List Oper} {y : Y} {tm2 : List (Nat × D)} (ht : dstOk n o = true) (h2 : nfl (restr l o tm) = some tm2) (hp : lenZ bx = some p) (hq : lenZ fr = some q)
    (h : AL P l.toArray [o] ⟨n, tm2, bx, fr, (p, q)⟩ (qY o bx fr y)) (k : AEk P l n i o rest y tm bx fr ys tm' bx' fr') : AE P l n i (o :: rest) tm bx fr (y :: ys) tm' bx' fr' :=
  AE_cons ht h2 (by rw [lenZ_eq hp, lenZ_eq hq]; exact h) k
theorem AOs_goZ {l : List Oper} {es : List Nat} {i c p q : Nat} {o : Oper} {d : D} {sts : List (Nat × List (List D) × List Fr)} {tm2 : List (Nat × D)} (h2 : nfl (restr l o tm) = some tm2) (hp : lenZ bx = some p) (hq : lenZ fr = some q) (h : AL P l.toArray [o] ⟨n, tm2, bx, fr, (p, q)⟩ (qY o bx fr (.pu d))) (k : AOs P l n es i o tm d sts) : AOs P l n es i o tm d ((c, bx, fr) :: sts) :=
  AOs_go h2 (by rw [lenZ_eq hp, lenZ_eq hq]; exact h) k
end
end Go.Av

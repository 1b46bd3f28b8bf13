/- A call walked in place: the callee's code goes on in the caller's memory. -/
import Derived.Test.YteijmldnfjcipaaGreatDoorAv22
open Go.RowKit Go.Pl
namespace Go.Av
set_option linter.unusedSimpArgs false
set_option linter.unusedVariables false
def inTm (t : Option Nat) (d : D) (tm : List (Nat × D)) : List (Nat × D) := match t with
  | some t => (t, d) :: tm
  | none => tm
def inOk (t : Option Nat) (n : Nat) : Bool := match t with
  | some t => Nat.blt t n
  | none => true
/-- what must be so where a callee that is walked in place is left -/
def inPost (P : Program) (rs : List ResultVar) (t : Option Nat) (n : Nat) (tm : List (Nat × D)) (ee : Nat × Nat) (ops : Array Oper) (rest : List Oper) (Q : X → St → Prop) : X → St → Prop
  | .norm, S => ∃ ds d, ResL P S rs ds ∧ ret1 ds = d ∧ AL P ops rest ⟨n, inTm t d tm, S.bx, S.fr, ee⟩ Q
  | .ret, S => ∃ ds d, ResL P S rs ds ∧ ret1 ds = d ∧ AL P ops rest ⟨n, inTm t d tm, S.bx, S.fr, ee⟩ Q
  | .pan d, S => Q (.pan d) ⟨n, tm, S.bx, S.fr, ee⟩
  | _, _ => False
section
variable {P : Program} {Q : X → St → Prop} {n : Nat} {ee : Nat × Nat} {tm : List (Nat × D)} {bx : List (List D)} {fr : List Fr} {ops : Array Oper} {rest : List Oper}
theorem in_ret {rs : List ResultVar} {t : Nat} {S : St} {ds : List D} {d : D} (h : ResL P S rs ds) (hn : nf (ret1 ds) = some d) (k : AL P ops rest ⟨n, (t, d) :: tm, S.bx, S.fr, ee⟩ Q) : inPost P rs (some t) n tm ee ops rest Q .ret S :=
  ⟨ds, d, h, nf_eq hn, k⟩
theorem in_norm {rs : List ResultVar} {t : Nat} {S : St} {ds : List D} {d : D} (h : ResL P S rs ds) (hn : nf (ret1 ds) = some d) (k : AL P ops rest ⟨n, (t, d) :: tm, S.bx, S.fr, ee⟩ Q) : inPost P rs (some t) n tm ee ops rest Q .norm S :=
  ⟨ds, d, h, nf_eq hn, k⟩
theorem in_retn {rs : List ResultVar} {S : St} {ds : List D} (h : ResL P S rs ds) (k : AL P ops rest ⟨n, tm, S.bx, S.fr, ee⟩ Q) : inPost P rs none n tm ee ops rest Q .ret S :=
  ⟨ds, _, h, rfl, k⟩
theorem in_normn {rs : List ResultVar} {S : St} {ds : List D} (h : ResL P S rs ds) (k : AL P ops rest ⟨n, tm, S.bx, S.fr, ee⟩ Q) : inPost P rs none n tm ee ops rest Q .norm S :=
  ⟨ds, _, h, rfl, k⟩
theorem AL_in {t : Option Nat} {ty : Nat} {pos : String} {after : Array Edge} {f : FuncId} {as : Array Operand} {ats : Array TypeId} {fn : Func} {c : Code} {n' : Nat} {rs : List ResultVar} {cds : List D}
    (hf : P.funcs[f]? = some fn) (hn : fn.ntmps = n') (hb : fn.body = some c) (hr : fn.results = rs.toArray) (hif : isFn P f = true) (hc : nfs (as.toList.map (ev tm)) = some cds) (hl : Nat.ble cds.length n' = true) (ht : inOk t n = true)
    (h : AW P c ⟨n', number 0 cds, bx, fr, (bx.length, fr.length)⟩ (inPost P rs t n tm ee ops rest Q)) : AL P ops (⟨t, .call { callee := .value (.func f), args := as, argTypes := ats }, ty, pos, after, none⟩ :: rest) ⟨n, tm, bx, fr, ee⟩ Q := by
  refine ⟨fun b0 g a w hi => ?_⟩
  refine wpList_plain rfl fun K hK => ?_
  have hrun : (execOp a.eval ⟨t, .call { callee := .value (.func f), args := as, argTypes := ats }, ty, pos, after, none⟩).run P w = .ok (.enter f (as.toList.map a.eval).toArray) w := by
    have e : as.map a.eval = (as.toList.map a.eval).toArray := by rw [← Array.toList_map, Array.toArray_toList]
    have hz := run_callFunc' hif (as.toList.map a.eval).toArray w
    rw [← e] at hz ⊢
    simpa [execOp, resolve, Act.eval, Deferred.ofValue, invoke, Sem.run_bind] using hz
  unfold Oper.wp
  rw [hrun]
  have hm := hi.mem
  have hcds := nfs_eq hc
  have hle := Nat.le_of_ble_eq_true hl
  have hlen : (as.toList.map a.eval).length = cds.length := by rw [← hcds]; simp
  have hv := evs hi as
  rw [hcds] at hv
  show Calls P f _ w _
  clear hrun
  generalize as.toList.map a.eval = vs at hlen hv
  refine calls_of_wp hf hb ?_
  have hi2 : Inv ⟨g, fr, w⟩ ⟨n', number 0 cds, bx, fr, (bx.length, fr.length)⟩ g { tmps := vs.toArray ++ Array.replicate (fn.ntmps - vs.toArray.size) undef, defers := [] } w := by
    refine ⟨by simp [hn]; omega, rfl, hm, fun t => ?_, Evo.refl _, by rw [hm.bl]; exact Nat.le_refl _, Nat.le_refl _⟩
    rw [look_number]
    simp only [Nat.zero_le, if_true, Nat.sub_zero]
    cases htt : cds[t]? with
    | none => exact .junk _
    | some d =>
      have hlt : t < cds.length := (List.getElem?_eq_some_iff.1 htt).1
      refine hv t d _ htt ?_
      have hlt2 : t < vs.length := by omega
      simp [Array.getD_getElem?, Array.getElem?_append, hlt2]
  refine wp_mono (h.run ⟨g, fr, w⟩ g _ w hi2) fun e a' w' hcc => ?_
  have fin : ∀ S g', Inv ⟨g, fr, w⟩ S g' a' w' → (∃ ds d, ResL P S rs ds ∧ ret1 ds = d ∧ AL P ops rest ⟨n, inTm t d tm, S.bx, S.fr, ee⟩ Q) → ∃ v, (results fn a'.tmps).run P w' = .ok v w' ∧ K (a.put t v) w' := by
    intro S g' hi' hq
    obtain ⟨ds, d, hrs, hd, hk⟩ := hq
    obtain ⟨v, hrun, hv⟩ := results_run hi' hr hrs
    rw [hd] at hv
    refine ⟨v, hrun, hK _ _ (hk.run b0 g' _ w' ?_)⟩
    have hi3 : Inv b0 ⟨n, tm, S.bx, S.fr, ee⟩ g' a w' := ⟨hi.size, hi.defers, hi'.mem, fun t => (hi.tm t).evo hi'.evo, hi.evo.trans hi'.evo, hi.bd⟩
    cases t with
    | none => exact hi3
    | some t => exact hi3.put ht hv
  cases e with
  | normal =>
    obtain ⟨S, g', hi', hq⟩ := hcc
    obtain ⟨v, h1, h2⟩ := fin S g' hi' hq
    exact ⟨hi'.defers, v, h1, h2⟩
  | ret =>
    obtain ⟨S, g', hi', hq⟩ := hcc
    obtain ⟨v, h1, h2⟩ := fin S g' hi' hq
    exact ⟨hi'.defers, v, h1, h2⟩
  | panic chain =>
    obtain ⟨S, g', v, d, hi', rfl, hd, hq⟩ := hcc
    exact ⟨hi'.defers, ⟨n, tm, S.bx, S.fr, ee⟩, g', v, d, ⟨hi.size, hi.defers, hi'.mem, fun t => (hi.tm t).evo hi'.evo, hi.evo.trans hi'.evo, hi.bd⟩, rfl, hd, hq⟩
  | exit id => obtain ⟨S, g', hi', hq⟩ := hcc; exact hq.elim
  | goto l => obtain ⟨S, g', hi', hq⟩ := hcc; exact hq.elim
  | outgrown => exact hcc.elim
end
/-! ### texts as bytes; bytes that are spelled out -/
section
variable {P : Program} {Q : X → St → Prop} {n : Nat} {ee : Nat × Nat} {tm : List (Nat × D)} {bx bx' : List (List D)} {fr fr' : List Fr} {b0 : Bs} {g : G} {w : World} {a : Act} {T : Tab}
variable {ops : Array Oper} {rest : List Oper} {t ty : Nat} {pos : String} {after : Array Edge}
/-- a new row of which the first cells settle, and nothing else is used -/
theorem Mem.lit2 (hm : Mem g bx fr w) (cur : List Value) (l : List E) (sz cap : Nat) (e : TypeId) (mk : Nat × Nat) (hcur : l.length * sz ≤ cur.length) (hl : l.length ≤ cap) (hcap : cap ≤ maxLen) (hU : Uni sz l)
    (hv : ∀ (j : Nat) (x : E) (u : Value), (flat l)[j]? = some x → cur[j]? = some u → VE w g.C x u) :
    Evo ⟨g, fr, w⟩ ⟨g.lit w (l.length * sz), fr, w.alloc (.cells cur.toArray e mk)⟩ ∧ Mem (g.lit w (l.length * sz)) bx fr (w.alloc (.cells cur.toArray e mk)) ∧
      V (w.alloc (.cells cur.toArray e mk)) (g.lit w (l.length * sz)) fr (.sl .ext l) (.slice (some ⟨w.heap.size, 0, none⟩) l.length cap) := by
  have hevo : Evo ⟨g, fr, w⟩ ⟨g.lit w (l.length * sz), fr, w.alloc (.cells cur.toArray e mk)⟩ := by
    refine ⟨rfl, rfl, rfl, by simp, fun k hk _ => Below.heap_alloc w _ k hk, fun _ _ h => .inl h, fun k o h => cell_alloc w _ (hm.Clt k o h) o, fun k o h => ?_, fun _ _ h => h, fun _ h => .inl h, fun k c h => .inl ⟨c, h⟩, TokOn.refl _ _⟩
    rcases h with h | ⟨h, _⟩
    · exact .inl h
    · exact .inr (.inl (by simp [h]))
  have hflat := hU.flat
  refine ⟨hevo, ?_, ?_⟩
  · constructor
    · exact hm.bl
    · intro i k cs h1 h2
      obtain ⟨us, ut, k1, k2, k3⟩ := hm.bat i k cs h1 h2
      exact ⟨us, ut, (Below.heap_alloc w _ k (Array.getElem?_eq_some_iff.1 k1).1).trans k1, k2, fun j d v hd hv => (k3 j d v hd hv).evo hevo⟩
    · intro k o hk hC
      rcases hC with hC | ⟨hC, _⟩
      · exact hm.bC k o hk hC
      · have := hm.lt (.inl hk); omega
    · exact hm.bN
    · exact hm.tl
    · intro i k c f h1 h2
      have hTk := hm.tat i k c f h1 h2
      obtain ⟨cur', s1, s2⟩ := hTk.row
      have hklt := (Array.getElem?_eq_some_iff.1 s1).1
      refine ⟨⟨cur', (Below.heap_alloc w _ k hklt).trans s1, s2⟩, hTk.le, hTk.max, hTk.pos, fun o ho hC => ?_⟩
      rcases hC with hC | ⟨hC, _⟩
      · exact hTk.far o ho hC
      · omega
    · exact hm.tN
    · exact hm.tρ
    · intro k o hC
      rcases hC with hC | ⟨hC, _⟩
      · have := hm.Clt k o hC; simp; omega
      · simp [hC]
  · refine .sl _ _ _ (.slC l w.heap.size 0 cap (fun j => cur.getD j undef) hl hcap (fun j hj => .inr ⟨rfl, by rw [hflat] at hj; omega⟩) (fun j hj => ?_) (fun j x hx => ?_)) trivial
    · rw [Nat.zero_add, World.cell?_alloc_mark]
      have : j < cur.length := by omega
      simp [List.getD, this]
    · have hj := (List.getElem?_eq_some_iff.1 hx).1
      have hlt : j < cur.length := by omega
      refine (hv j x _ hx (by rw [List.getElem?_eq_getElem hlt]; simp [List.getD, hlt])).mono (fun _ _ h => .inl h) fun k o h => cell_alloc w _ (hm.Clt k o h) o
theorem AL_s2b (hT : chk P T = true) {x : Operand} {src dst e : Nat} {s : List UInt8} {ti td te : Ti} (hx : ev tm x = .str s) (ht : tl T src = some ti) (hk : ti.kd = .str) (htds : tl T dst = some td) (hkd : td.kd = .slice e) (hte : tl T e = some te) (hke : te.kd = .int .u8) (htd : Nat.blt t n = true)
    (k : AL P ops rest ⟨n, (t, .sl .ext (s.map E.byte)) :: tm, bx, fr, ee⟩ Q) : AL P ops (⟨some t, .convert src dst x, ty, pos, after, none⟩ :: rest) ⟨n, tm, bx, fr, ee⟩ Q :=
  AL_mem _ htd (fun g a w hi => by
    have h1 : V w g fr (ev tm x) (a.eval x) := hi.ev x
    rw [hx] at h1
    obtain ⟨h1, hl⟩ := h1.str_inv
    have hs := (tl_ok hT ht).str hk
    have hd := (tl_ok hT htds).slice hkd
    have he := (tl_ok hT hte).int hke
    have hsz : (⟨s.toArray⟩ : ByteArray).size = s.length := by show s.toArray.size = _; simp
    have hrun := run_bytes_of_string (P := P) w src dst e ⟨s.toArray⟩ hs hd he
    rw [hsz] at hrun
    have hge := grownCap_ge w s.length 0 e
    have hcm := grownCap_le_maxLen w s.length 0 e hl
    generalize grownCap w s.length 0 e = C at hrun hge hcm
    have hrow : bytesRow ⟨s.toArray⟩ C = (bytesRow ⟨s.toArray⟩ C).toList.toArray := by simp
    rw [hrow] at hrun
    have hcell : ∀ j, j < s.length → (bytesRow ⟨s.toArray⟩ C).toList[j]? = some (.int .u8 ((s[j]?.getD 0).toNat : Int)) := fun j hj => by
      simp only [bytesRow, Array.toList_append, Array.toList_map, List.toList_toArray, Array.toList_replicate]
      rw [List.getElem?_append_left (by simpa using hj)]
      simp [hj]
    have hlen : s.length ≤ (bytesRow ⟨s.toArray⟩ C).toList.length := by
      simp [bytesRow]
    have hfl : ∀ l : List UInt8, flat (l.map E.byte) = l.map E.byte := fun l => by induction l with | nil => rfl | cons x l ih => simp [E.cells, ih]
    obtain ⟨k1, k2, k3⟩ := (hi.mem.drew).lit2 (bytesRow ⟨s.toArray⟩ C).toList (s.map E.byte) 1 C e ((bytesRow ⟨s.toArray⟩ C).toList.toArray.size, (bytesRow ⟨s.toArray⟩ C).toList.toArray.size + 1) (by simpa using hlen) (by simpa using hge) hcm (Uni.map (f := E.byte) (fun _ => rfl) s) (fun j x u hx hu => by
      rw [hfl] at hx
      have hj : j < s.length := by have := (List.getElem?_eq_some_iff.1 hx).1; simpa using this
      rw [hcell j hj] at hu
      injection hu with hu
      subst hu
      rw [List.getElem?_map, List.getElem?_eq_getElem hj] at hx
      simp at hx
      subst hx
      simp [hj]
      exact .int _ _)
    refine ⟨.slice (some ⟨w.heap.size, 0, none⟩) (s.map E.byte).length C, _, _, ?_, Evo.drew.trans k1, k2, k3⟩
    rw [List.length_map]
    simp only [execOp, h1, Sem.run_bind, hrun, Result.andThen_ok]
    rfl) k
/-- the larger of two numbers -/
theorem AL_max {x y : Operand} {k0 k1 : IntKind} {m q : Int} {ats : Array TypeId} (hx : ev tm x = .int k0 m) (hy : ev tm y = .int k1 q) (htd : Nat.blt t n = true)
    (k : AL P ops rest ⟨n, (t, .int k0 (if q > m then q else m)) :: tm, bx, fr, ee⟩ Q) : AL P ops (⟨some t, .call { callee := .builtin .max, args := #[x, y], argTypes := ats }, ty, pos, after, none⟩ :: rest) ⟨n, tm, bx, fr, ee⟩ Q :=
  AL_val _ htd (fun g a w hi => by
    have h1 : V w g fr (ev tm x) (a.eval x) := hi.ev x
    have h2 : V w g fr (ev tm y) (a.eval y) := hi.ev y
    rw [hx] at h1
    rw [hy] at h2
    have h1 := h1.int_inv
    have h2 := h2.int_inv
    exact ⟨.int k0 (if q > m then q else m), by simp [execOp, resolve, invoke, builtin, Builtin.max_, Builtin.max2, Sem.run_bind, h1, h2], .int _ _⟩) k
/-- bytes out of cells that are spelled out -/
def toBy : List E → Option (List UInt8)
  | [] => some []
  | .int .u8 n :: l => match Int.decEq ((UInt8.ofNat n.toNat).toNat : Int) n, toBy l with
    | .isTrue _, some bs => some (UInt8.ofNat n.toNat :: bs)
    | _, _ => none
  | _ :: _ => none
theorem toBy_eq : ∀ {l : List E} {bs : List UInt8}, toBy l = some bs → l = bs.map E.byte
  | [], bs, h => by simp [toBy] at h; subst h; rfl
  | .int .u8 n :: l, bs, h => by
    simp only [toBy] at h
    cases hd : Int.decEq ((UInt8.ofNat n.toNat).toNat : Int) n with
    | isFalse hf => simp [hd] at h
    | isTrue hn =>
      cases hl : toBy l with
      | none => simp [hd, hl] at h
      | some bs' =>
        simp [hd, hl] at h
        subst h
        rw [toBy_eq hl, List.map_cons]
        congr 1
        show E.int .u8 n = E.int .u8 _
        rw [hn]
theorem AL_b2sC (hT : chk P T = true) {x : Operand} {src dst e : Nat} {tk : Tok} {l : List E} {bs : List UInt8} {ti td te : Ti} (hx : ev tm x = .sl tk l) (hl : toBy l = some bs) (ht : tl T src = some ti) (hk : ti.kd = .slice e) (hte : tl T e = some te) (hke : te.kd = .int .u8) (htds : tl T dst = some td) (hkd : td.kd = .str) (htd : Nat.blt t n = true)
    (k : AL P ops rest ⟨n, (t, .str bs) :: tm, bx, fr, ee⟩ Q) : AL P ops (⟨some t, .convert src dst x, ty, pos, after, none⟩ :: rest) ⟨n, tm, bx, fr, ee⟩ Q :=
  AL_b2s hT hx (toBy_eq hl) ht hk hte hke htds hkd htd k
end
end Go.Av

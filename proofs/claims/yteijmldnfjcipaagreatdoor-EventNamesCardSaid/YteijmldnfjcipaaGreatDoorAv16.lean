/- From the form's own reading of arguments to trees; from a contract over abstract states to the row's walk. -/
import Derived.Test.YteijmldnfjcipaaGreatDoorAv15
import Derived.Test.YteijmldnfjcipaaGreatDoorOpen
open Go.RowKit Go.Pl
namespace Go.Av
set_option linter.unusedSimpArgs false
set_option linter.unusedVariables false
section
variable {P : Program} {Q : X → St → Prop} {n : Nat} {ee : Nat × Nat} {tm : List (Nat × D)} {bx bx' : List (List D)} {fr fr' : List Fr} {b0 : Bs} {g : G} {w : World} {a : Act} {T : Tab}
variable {ops : Array Oper} {rest : List Oper} {t ty : Nat} {pos : String} {after : Array Edge}
theorem parts_of {parts : Array (Nat × Operand)} {len : Nat} (h : parts.toList.map (·.1) = List.range len) : parts = (((parts.toList.map (·.2)).zipIdx 0).map fun q => (q.2, q.1)).toArray ∧ (parts.toList.map (·.2)).length = len := by
  have hl : parts.toList.length = len := by have := congrArg List.length h; simpa using this
  refine ⟨?_, by simpa using hl⟩
  apply Array.ext'
  apply List.ext_getElem?
  intro i
  simp only [List.getElem?_map, List.getElem?_zipIdx, Nat.zero_add]
  cases hi : parts.toList[i]? with
  | none => simp
  | some p =>
    have h1 : (parts.toList.map (·.1))[i]? = some p.1 := by simp [hi]
    rw [h] at h1
    obtain ⟨q1, q2⟩ := List.getElem?_eq_some_iff.1 h1
    simp at q2
    simp [q2]
/-- a slice built of parts -/
theorem AL_bs (hT : chk P T = true) {st len e : Nat} {ds : List D} {es : List E} {ti te : Ti} {m : Nat} {parts : Array (Nat × Operand)} (ht : tl T st = some ti) (hk : ti.kd = .slice e) (hte : tl T e = some te) (hp : parts.toList.map (·.1) = List.range len)
    (hds : nfs (parts.toList.map fun p => ev tm p.2) = some ds) (hes : D.toEl ds = some es) (hU : uniB te.size es = true) (hpos : Nat.blt 0 te.size = true) (hsm : Nat.ble (len * te.size) 16777216 = true) (hm : fr.length = m) (hf : nfl (fr ++ [⟨len, te.size, e⟩]) = some fr') (htd : Nat.blt t n = true)
    (k : AL P ops rest ⟨n, (t, .sl (.own m) es) :: tm, bx, fr', ee⟩ Q) : AL P ops (⟨some t, .buildSlice st len parts, ty, pos, after, none⟩ :: rest) ⟨n, tm, bx, fr, ee⟩ Q := by
  obtain ⟨h1, h2⟩ := parts_of hp
  exact AL_buildSlice hT ht hk hte h1 (by rw [h2]; exact Nat.beq_refl len) (by rw [List.map_map]; exact hds) hes hU hpos hsm hm hf htd k
end
theorem res_n {P : Program} {S : St} {T : Tab} (hT : chk P T = true) {a t b o : Nat} {cs cs' : List D} {ti : Ti} (h : look S.tm a = .ptr b o) (ht : tl T t = some ti) (ha : ti.kd.agg = true) (hx : S.bx[b]? = some cs) (ho : Nat.ble (o + ti.size) cs.length = true) (hd : nfs ((cs.drop o).take ti.size) = some cs') : ResOk P S (.cell a t) (.agg cs') :=
  .celln a t b o ti.size cs _ h (by rw [(tl_ok hT ht).tAgg, ha]) (tl_ok hT ht).tSize hx ho (by rw [nfs_eq hd])
theorem res_1 {P : Program} {S : St} {T : Tab} (hT : chk P T = true) {a t b o : Nat} {cs : List D} {d : D} {ti : Ti} (h : look S.tm a = .ptr b o) (ht : tl T t = some ti) (ha : ti.kd.agg = false) (hx : S.bx[b]? = some cs) (hd : cs[o]? = some d) : ResOk P S (.cell a t) d :=
  .cell1 a t b o cs d h (by rw [(tl_ok hT ht).tAgg, ha]) hx hd
theorem AD_cons {P : Program} {l : List Oper} {n : Nat} {bx : List (List D)} {fr : List Fr} {o : Oper} {rest : List Oper} {t : Nat} {d : D} {tm tm' tm2 : List (Nat × D)} (hd : o.dst = some t) (ht : Nat.blt t n = true) (h2 : nfl (restr l o tm) = some tm2)
    (h : AL P l.toArray [o] ⟨n, tm2, bx, fr, (bx.length, fr.length)⟩ (qp t d bx fr)) (k : AD P l n bx fr rest ((t, d) :: tm) tm') : AD P l n bx fr (o :: rest) tm tm' :=
  .cons o rest t d tm tm' hd ht (by rw [nfl_eq h2]; exact h) k
theorem AP.ext {P : Program} {f : FuncId} {args : List D} {d d' : D} {frs : List Fr} (h : AP P f args d frs) (hd : nf (d.ren (idx []) (idx [])) = some d') : AP P f args d' [] := by
  refine ⟨fun g w vs hm hl hv => (h.run g w vs hm hl hv).mono fun e w' ⟨g', bx', fr', r, h1, h2, h3, h4, h5, h6⟩ => ?_⟩
  subst h4 h5 h6
  obtain ⟨v, rfl, hv⟩ := h3
  refine ⟨g'.sel [] [], [], [], .ret d', ?_, by simpa [selB, selF] using h2.sel (okSel_nil _) (okSel_nil _), ⟨v, rfl, ?_⟩, rfl, rfl, rfl⟩
  · have := h1.sel h2 (okSel_nil _) (okSel_nil _) (fun i hi => by rw [hm.bl] at hi; simp at hi) (fun i hi => by simp at hi)
    simpa [selF] using this
  · have := hv.sel h2 (okSel_nil _) (okSel_nil _)
    rw [nf_eq hd] at this
    simpa [selF] using this
/-- a contract said of worlds: nothing old is touched -/
theorem AP.of0 {P : Program} {f : FuncId} {b : Bool} (h : ∀ w, Calls P f #[] w fun e w' => e = .returned (.bool b) ∧ Below w.heap.size w w') : AP P f [] (.bool b) [] := by
  refine ⟨fun g w vs hm hl hv => ?_⟩
  obtain rfl : vs = [] := List.length_eq_zero_iff.1 hl
  have hρ : g.ρ = [] := List.length_eq_zero_iff.1 hm.bl
  have hτ : g.τ = [] := List.length_eq_zero_iff.1 hm.tl
  refine (h w).mono fun e w' ⟨he, hb⟩ => ⟨g, [], [], .ret (.bool b), ?_, ?_, ⟨.bool b, he, .bool b⟩, rfl, rfl, rfl⟩
  · exact ⟨hb.os, hb.tape, hb.output, hb.size, fun k hk _ => hb.block k hk, fun _ _ h => h, fun k o hk => World.cell?_of_block (hb.block k (hm.Clt k o hk)), fun _ _ h => .inl h, fun _ _ h => h, fun _ h => .inl h, fun _ c h => .inl ⟨c, h⟩, fun i f h => by simp at h⟩
  · exact ⟨hm.bl, fun i k cs h => by simp [hρ] at h, hm.bC, hm.bN, hm.tl, fun i k c f h => by simp [hτ] at h, hm.tN, hm.tρ, fun k o hk => Nat.lt_of_lt_of_le (hm.Clt k o hk) hb.size⟩
/-! ### tokens let go -/
/-- a contract whose result is said without tokens -/
theorem AP.weak {P : Program} {f : FuncId} {args : List D} {d : D} (h : AC P f args [] [] fun r bx fr => ∃ d0, r = .ret d0 ∧ d0.wk = d ∧ bx = [] ∧ fr = []) : AP P f args d [] := by
  refine ⟨fun g w vs hm hl hv => (h.run g w vs hm hl hv).mono fun e w' ⟨g', bx', fr', r, h1, h2, h3, d0, h4, h5, h6, h7⟩ => ?_⟩
  subst h4 h5 h6 h7
  obtain ⟨v, rfl, hv⟩ := h3
  exact ⟨g', [], [], .ret d0.wk, h1, h2, ⟨v, rfl, hv.wk⟩, rfl, rfl, rfl⟩
theorem endW {P : Program} {rs : List ResultVar} {S : St} {d d' : D} {ds : List D} (h : ResL P S rs ds) (hn : nf (((ret1 ds).ren (idx []) (idx [])).wk) = some d') (hd : d' = d) :
    fnPost P rs 0 0 (fun r bx fr => ∃ d0, r = .ret d0 ∧ d0.wk = d ∧ bx = [] ∧ fr = []) .ret S :=
  ⟨ds, [], [], h, okSel_nil _, okSel_nil _, fun i h => by omega, fun i h => by omega, _, rfl, by rw [nf_eq hn, hd], rfl, rfl⟩
/-! ### loops -/
/-- what a round hands on: slots as said, later variables let go -/
structure Lands (J : Nat → List (Nat × D) → List (List D) → List Fr → Prop) (n : Nat) (ee : Nat × Nat) (k : Nat) (S : St) : Prop where
  out : ∃ m tm bx fr, m < k ∧ J m tm bx fr ∧ S.n = n ∧ S.e = ee ∧ Sub S.tm tm ∧ nfb (S.bx.take bx.length) = some bx ∧ nfl (S.fr.take fr.length) = some fr ∧ Nat.ble ee.1 bx.length = true ∧ Nat.ble ee.2 fr.length = true ∧ tmLt bx.length fr.length tm = true ∧ allLt bx.length fr.length bx = true
theorem Lands.mk' {J : Nat → List (Nat × D) → List (List D) → List Fr → Prop} {n k m : Nat} {ee : Nat × Nat} {tm0 tm : List (Nat × D)} {bx0 bx : List (List D)} {fr0 fr : List Fr} (hm : m < k) (hJ : J m tm bx fr) (hs : Sub tm0 tm) (hbx : nfb (bx0.take bx.length) = some bx) (hfr : nfl (fr0.take fr.length) = some fr)
    (h1 : Nat.ble ee.1 bx.length = true) (h2 : Nat.ble ee.2 fr.length = true) (h3 : tmLt bx.length fr.length tm = true) (h4 : allLt bx.length fr.length bx = true) : Lands J n ee k ⟨n, tm0, bx0, fr0, ee⟩ := ⟨m, tm, bx, fr, hm, hJ, rfl, rfl, hs, hbx, hfr, h1, h2, h3, h4⟩
theorem Lands.inv {J : Nat → List (Nat × D) → List (List D) → List Fr → Prop} {n k : Nat} {ee : Nat × Nat} {S : St} (h : Lands J n ee k S) {b0 : Bs} {g : G} {a : Act} {w : World} (hi : Inv b0 S g a w) : ∃ m, m < k ∧ ∃ tm bx fr g', J m tm bx fr ∧ Inv b0 ⟨n, tm, bx, fr, ee⟩ g' a w := by
  obtain ⟨m, tm, bx, fr, h1, h2, h3, h4, h5, h6, h7, h8, h9, h10, h11⟩ := h.out
  obtain ⟨n', tm', bx', fr', ee'⟩ := S
  dsimp only at h3 h4 h5 h6 h7
  subst h3 h4
  have e1 := nfb_eq h6
  have e2 := nfl_eq h7
  have := (hi.sub h5).cut (k := bx.length) (m := fr.length) (Nat.le_of_ble_eq_true h8) (Nat.le_of_ble_eq_true h9) h10 (by rw [e1]; exact h11)
  rw [e1, e2] at this
  exact ⟨m, h1, tm, bx, fr, _, h2, this⟩
/-- a loop: J tells, for so many rounds at most that are left, the slots and variables -/
theorem AW_loopJ {P : Program} {Q : X → St → Prop} {c : Code} {n : Nat} {ee : Nat × Nat} {tm0 : List (Nat × D)} {bx0 : List (List D)} {fr0 : List Fr} (J : Nat → List (Nat × D) → List (List D) → List Fr → Prop)
    (k0 : Nat) (h0 : Lands J n ee k0 ⟨n, tm0, bx0, fr0, ee⟩) (hr : ∀ k tm bx fr, J k tm bx fr → AW P c ⟨n, tm, bx, fr, ee⟩ (X.then (Lands J n ee k) Q)) : AW P (.loop c) ⟨n, tm0, bx0, fr0, ee⟩ Q := by
  refine ⟨fun b0 g a w hi => ?_⟩
  obtain ⟨m, _, tm, bx, fr, g', hJ, hi'⟩ := h0.inv hi
  refine wp_loop_ghost (fun k a w => ∃ tm bx fr g, J k tm bx fr ∧ Inv b0 ⟨n, tm, bx, fr, ee⟩ g a w) m ⟨tm, bx, fr, g', hJ, hi'⟩ fun k a w hI => ?_
  obtain ⟨tm, bx, fr, g, hJ, hi⟩ := hI
  refine wp_mono ((hr k tm bx fr hJ).run b0 g a w hi) fun e a w hc => ?_
  cases e <;> simp only [conc, X.then, Exit.then] at hc ⊢
  · obtain ⟨S', g', hi', hL⟩ := hc
    obtain ⟨m, hm, tm, bx, fr, g', hJ, hi'⟩ := hL.inv hi'
    exact ⟨m, hm, tm, bx, fr, g', hJ, hi'⟩
  all_goals exact hc
/-! ### the outside -/
def g0 (W : World) : G := ⟨fun b _ => b < W.heap.size, [], []⟩
theorem mem0 (W : World) : Mem (g0 W) [] [] W where
  bl := rfl
  bat i blk cs h := by simp [g0] at h
  bC blk o h := by simp [g0] at h
  bN i j b h := by simp [g0] at h
  tl := rfl
  tat i blk cap f h := by simp [g0] at h
  tN i j b c c' h := by simp [g0] at h
  tρ b c h := by simp [g0] at h
  Clt b o h := h
/-- a law that holds: the row's walk -/
theorem top {P : Program} {f : FuncId} {args : List D} (h : AC P f args [] [] fun r _ _ => r = .ret (.bool true)) {W : World} {vs : List Value} (hl : vs.length = args.length) (hv : ∀ (j : Nat) (d : D) (v : Value), args[j]? = some d → vs[j]? = some v → V W (g0 W) [] d v) :
    Calls P f vs.toArray W fun e w' => e = .returned (.bool true) ∧ Below W.heap.size W w' :=
  (h.run (g0 W) W vs (mem0 W) hl hv).mono fun e w' ⟨g', bx', fr', r, he, _, hr, hp⟩ => by
    subst hp
    obtain ⟨v, rfl, hv⟩ := hr
    refine ⟨by rw [hv.bool_inv], he.os, he.tape, he.output, he.size, fun k hk => he.block k hk fun hM => ?_⟩
    rcases hM with h | ⟨c, h⟩ <;> simp [g0] at h
/-- what cells read as is a tree's -/
structure ToE {α : Type} (R : Rep α) (f : α → E) : Prop where
  cells : ∀ (w : World) (S : Nat → Prop) (C : Nat → Nat → Prop) (cs : List Value) (x : α), (∀ k, S k → ∀ o, C k o) → R.ok w S cs x → cs.length = (f x).cells.length ∧ ∀ (j : Nat) (e : E) (v : Value), (f x).cells[j]? = some e → cs[j]? = some v → VE w C e v
theorem one_cell {w : World} {C : Nat → Nat → Prop} {u : Value} {e0 : E} (he : e0.cells = [e0]) (hv : VE w C e0 u) : [u].length = e0.cells.length ∧ ∀ (j : Nat) (e : E) (v : Value), e0.cells[j]? = some e → [u][j]? = some v → VE w C e v := by
  rw [he]
  refine ⟨rfl, fun j e v h1 h2 => ?_⟩
  cases j with
  | zero => simp at h1 h2; subst h1 h2; exact hv
  | succ j => simp at h1
theorem ToE.i64 : ToE Rep.i64 (.int .i64) := ⟨fun w S C cs x _ h => by obtain ⟨rfl, _⟩ := h; exact one_cell rfl (.int _ _)⟩
theorem ToE.u64 : ToE Rep.u64 (fun n => .int .u64 (n : Int)) := ⟨fun w S C cs x _ h => by obtain ⟨rfl, _⟩ := h; exact one_cell rfl (.int _ _)⟩
theorem ToE.byte : ToE Rep.byte E.byte := ⟨fun w S C cs x _ h => by cases h; exact one_cell rfl (.int _ _)⟩
theorem ToE.bool : ToE Rep.bool .bool := ⟨fun w S C cs x _ h => by cases h; exact one_cell rfl (.bool _)⟩
theorem ToE.str : ToE Rep.str .str := ⟨fun w S C cs x _ h => by obtain ⟨rfl, hl⟩ := h; exact one_cell rfl (.str _ hl)⟩
theorem ToE.prod {α β : Type} {R : Rep α} {R' : Rep β} {f : α → E} {f' : β → E} (h : ToE R f) (h' : ToE R' f') : ToE (R.prod R') (fun x => .agg ((f x.1).cells ++ (f' x.2).cells)) := ⟨fun w S C cs x hC hx => by
  obtain ⟨c1, c2, rfl, h1, h2⟩ := hx
  obtain ⟨l1, v1⟩ := h.cells w S C c1 x.1 hC h1
  obtain ⟨l2, v2⟩ := h'.cells w S C c2 x.2 hC h2
  refine ⟨by simp [E.cells, l1, l2], fun j e v he hv => ?_⟩
  have he : ((f x.1).cells ++ (f' x.2).cells)[j]? = some e := he
  rcases Nat.lt_or_ge j c1.length with hj | hj
  · rw [List.getElem?_append_left (by omega)] at he
    rw [List.getElem?_append_left hj] at hv
    exact v1 j e v he hv
  · rw [List.getElem?_append_right (by omega)] at he
    rw [List.getElem?_append_right hj] at hv
    rw [← l1] at he
    exact v2 _ e v he hv⟩
theorem ToE.run {α : Type} {R : Rep α} {f : α → E} (h : ToE R f) {w : World} {S : Nat → Prop} {C : Nat → Nat → Prop} (hC : ∀ k, S k → ∀ o, C k o) : ∀ {l : List α} {cs : List Value}, Run R w S cs l → cs.length = (flat (l.map f)).length ∧ ∀ (j : Nat) (e : E) (v : Value), (flat (l.map f))[j]? = some e → cs[j]? = some v → VE w C e v
  | [], cs, hr => by simp [Run] at hr; subst hr; simp
  | x :: l, cs, hr => by
    obtain ⟨c1, c2, rfl, h1, h2⟩ := hr
    obtain ⟨l1, v1⟩ := h.cells w S C c1 x hC h1
    obtain ⟨l2, v2⟩ := ToE.run h hC h2
    refine ⟨by simp [l1, l2], fun j e v he hv => ?_⟩
    simp only [List.map_cons, flat_cons] at he
    rcases Nat.lt_or_ge j c1.length with hj | hj
    · rw [List.getElem?_append_left (by omega)] at he
      rw [List.getElem?_append_left hj] at hv
      exact v1 j e v he hv
    · rw [List.getElem?_append_right (by omega)] at he
      rw [List.getElem?_append_right hj] at hv
      rw [← l1] at he
      exact v2 _ e v he hv
theorem ToE.sl {α : Type} {R : Rep α} {f : α → E} (h : ToE R f) {w : World} {S : Nat → Prop} {C : Nat → Nat → Prop} (hC : ∀ k, S k → ∀ o, C k o) {v : Value} {l : List α} (hs : Sl R w S v l) : VE w C (.sl (l.map f)) v := by
  obtain ⟨A, cap, rfl, h1, h2, cs, hr, hh⟩ := hs
  by_cases hl : l = []
  · subst hl
    exact .slE A cap h2
  · obtain ⟨g, off, rfl, hS, hc⟩ := hh hl
    obtain ⟨q1, q2⟩ := h.run hC hr
    have := VE.slC (w := w) (C := C) (l.map f) g off cap (fun j => cs.getD j undef) (by simpa using h1) h2 (fun j hj => hC g hS _) (fun j hj => by
      have hj' : j < cs.length := by omega
      rw [hc j hj']; exact getD_some hj') (fun j e he => q2 j e _ he (getD_some (by
        have := (List.getElem?_eq_some_iff.1 he).1; omega)))
    simpa using this
theorem ToE.slice {α : Type} {R : Rep α} {f : α → E} (h : ToE R f) (hR : 0 < R.n) : ToE (Rep.slice R hR) (fun l => .sl (l.map f)) := ⟨fun w S C cs x hC hx => by
  obtain ⟨v, rfl, hs⟩ := hx
  exact one_cell rfl (h.sl hC hs)⟩
/-- an argument of many cells -/
theorem ToE.agg {α : Type} {R : Rep α} {f : α → E} (h : ToE R f) {W : World} {cs : List Value} {x : α} {l : List E} (hf : (f x).cells = l) (hx : R.ok W (· < W.heap.size) cs x) : V W (g0 W) [] (.agg (l.map .ofE)) (.agg cs.toArray) := by
  obtain ⟨h1, h2⟩ := h.cells W _ (g0 W).C cs x (fun k hk o => hk) hx
  rw [hf] at h1 h2
  refine .agg _ cs (by simpa using h1) fun j d v hd hv => ?_
  rw [List.getElem?_map] at hd
  cases hj : l[j]? with
  | none => simp [hj] at hd
  | some e => simp [hj] at hd; subst hd; exact V.ofE (h2 j e v hj hv)
end Go.Av

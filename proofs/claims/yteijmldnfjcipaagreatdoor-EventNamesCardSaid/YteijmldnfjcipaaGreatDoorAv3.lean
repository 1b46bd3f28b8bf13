/- Contracts of functions over abstract states; calls. -/
import Derived.Test.YteijmldnfjcipaaGreatDoorAv2
open Go.RowKit Go.Pl
namespace Go.Av
set_option linter.unusedSimpArgs false
set_option linter.unusedVariables false

/-! ### names of variables and tokens changed -/
mutual
def D.ren (f h : Nat → Option Nat) : D → D
  | .bool b => .bool b
  | .int k n => .int k n
  | .str s => .str s
  | .sl t l => .sl (match t with | .own i => (match h i with | some j => .own j | none => .ext) | t => t) l
  | .nilp => .nilp
  | .ptr b o => match f b with | some b' => .ptr b' o | none => .junk
  | .eptr cs o => .eptr cs o
  | .agg l => .agg (D.rens f h l)
  | .tup l => .tup (D.rens f h l)
  | .fn i l => .fn i (D.rens f h l)
  | .nilf => .nilf
  | .iface t d => .iface t (D.ren f h d)
  | .nili => .nili
  | .junk => .junk
def D.rens (f h : Nat → Option Nat) : List D → List D
  | [] => []
  | d :: l => D.ren f h d :: D.rens f h l
end
theorem rens_map (f h : Nat → Option Nat) (l : List D) : D.rens f h l = l.map (D.ren f h) := by
  induction l with
  | nil => rfl
  | cons d l ih => simp [D.rens, ih]
theorem V.ren {w : World} {g g' : G} {fr fr' : List Fr} {d : D} {v : Value} (f h : Nat → Option Nat) (hV : V w g fr d v) (hC : ∀ b o, g.C b o → g'.C b o)
    (hρ : ∀ (b b' blk : Nat), f b = some b' → g.ρ[b]? = some blk → g'.ρ[b']? = some blk)
    (hτ : ∀ (i j : Nat) (f0 : Fr), h i = some j → fr[i]? = some f0 → (∃ f', fr'[j]? = some f' ∧ f'.n = f0.n) ∧ g'.τ[j]? = g.τ[i]?) : V w g' fr' (d.ren f h) v := by
  have hE : ∀ {e v}, VE w g.C e v → VE w g'.C e v := fun hv => hv.mono hC fun _ _ _ => rfl
  induction hV with
  | bool b => exact .bool b
  | int k n => exact .int k n
  | str s h => exact .str s h
  | sl t l v hv hk =>
    refine .sl _ l v (hE hv) ?_
    cases t with
    | ext => trivial
    | nil => exact hk
    | own i =>
      dsimp only
      cases hi : h i with
      | none => trivial
      | some j =>
        obtain ⟨f0, k1, k2, k3⟩ := hk
        obtain ⟨⟨f', h1, h2⟩, h3⟩ := hτ i j f0 hi k1
        refine ⟨f', h1, by omega, fun e => ?_⟩
        obtain ⟨blk, cap, e1, e2⟩ := k3 (by omega)
        exact ⟨blk, cap, e1, h3.trans e2⟩
  | nilp => exact .nilp
  | ptr b o blk hb =>
    show V w g' fr' (match f b with | some b' => .ptr b' o | none => .junk) _
    cases hf : f b with
    | none => exact .junk _
    | some b' => exact .ptr b' o blk (hρ b b' blk hf hb)
  | eptr cs o blk off us hc hw' hv => exact .eptr cs o blk off us (fun j hj => hC _ _ (hc j hj)) hw' (fun j e he => hE (hv j e he))
  | agg l vs hl _ ih =>
    refine .agg _ vs (by rw [rens_map]; simpa using hl) fun j d v hd hv => ?_
    rw [rens_map, List.getElem?_map] at hd
    cases hj : l[j]? with
    | none => simp [hj] at hd
    | some d0 => simp [hj] at hd; subst hd; exact ih j d0 v hj hv
  | tup l vs hl _ ih =>
    refine .tup _ vs (by rw [rens_map]; simpa using hl) fun j d v hd hv => ?_
    rw [rens_map, List.getElem?_map] at hd
    cases hj : l[j]? with
    | none => simp [hj] at hd
    | some d0 => simp [hj] at hd; subst hd; exact ih j d0 v hj hv
  | fn i l vs hl _ ih =>
    refine .fn i _ vs (by rw [rens_map]; simpa using hl) fun j d v hd hv => ?_
    rw [rens_map, List.getElem?_map] at hd
    cases hj : l[j]? with
    | none => simp [hj] at hd
    | some d0 => simp [hj] at hd; subst hd; exact ih j d0 v hj hv
  | nilf => exact .nilf
  | iface t d v _ ih => exact .iface t _ v ih
  | nili => exact .nili
  | junk v => exact .junk v

/-! ### a part of the variables and tokens -/
def idx : List Nat → Nat → Option Nat
  | [], _ => none
  | b :: l, t => match Nat.beq b t with
    | true => some 0
    | false => match idx l t with
      | some i => some (i + 1)
      | none => none
theorem idx_get : ∀ {l : List Nat} {t i : Nat}, idx l t = some i → l[i]? = some t
  | [], t, i, h => by simp [idx] at h
  | b :: l, t, i, h => by
    simp only [idx] at h
    cases hb : Nat.beq b t with
    | true =>
      simp [hb] at h; subst h
      have := Nat.eq_of_beq_eq_true hb
      simp [this]
    | false =>
      simp only [hb] at h
      cases hi : idx l t with
      | none => simp [hi] at h
      | some i' => simp [hi] at h; subst h; simpa using idx_get hi
def G.sel (g : G) (bs ts : List Nat) : G := ⟨g.C, bs.map fun i => g.ρ.getD i 0, ts.map fun i => g.τ.getD i (0, 0)⟩
def selB (bs ts : List Nat) (bx : List (List D)) : List (List D) := bs.map fun i => D.rens (idx bs) (idx ts) (bx.getD i [])
def selF (ts : List Nat) (fr : List Fr) : List Fr := ts.map fun i => fr.getD i default
/-- no name twice, all there -/
def okSel (l : List Nat) (n : Nat) : Prop := (∀ (i j b : Nat), l[i]? = some b → l[j]? = some b → i = j) ∧ ∀ b, b ∈ l → b < n
theorem okSel_nil (n : Nat) : okSel [] n := ⟨fun i j b h => by simp at h, fun b h => by simp at h⟩
theorem okSel_one {b n : Nat} (h : b < n) : okSel [b] n := by
  refine ⟨fun i j c hi hj => ?_, fun c hc => by simp at hc; omega⟩
  cases i <;> cases j <;> simp_all
theorem okSel_range {k n : Nat} (h : k ≤ n) : okSel (List.range k) n := by
  refine ⟨fun i j b hi hj => ?_, fun b hb => by simp at hb; omega⟩
  rw [List.getElem?_eq_some_iff] at hi hj
  obtain ⟨h1, h2⟩ := hi
  obtain ⟨h3, h4⟩ := hj
  simp at h2 h4
  omega
section
variable {w : World} {g : G} {bx : List (List D)} {fr : List Fr} {bs ts : List Nat}
theorem getD_some {α : Type} {l : List α} {i : Nat} {d : α} (h : i < l.length) : l[i]? = some (l.getD i d) := by
  simp [List.getD, h]
theorem V.sel (hm : Mem g bx fr w) (hb : okSel bs bx.length) (ht : okSel ts fr.length) {d : D} {v : Value} (h : V w g fr d v) : V w (g.sel bs ts) (selF ts fr) (d.ren (idx bs) (idx ts)) v := by
  refine h.ren _ _ (fun _ _ h => h) (fun b b' blk hb' hblk => ?_) (fun i j f0 hi hf0 => ?_)
  · have h1 := idx_get hb'
    simp [G.sel, h1, List.getD, hblk]
  · have h1 := idx_get hi
    have h2 : i < fr.length := ht.2 i (List.mem_of_getElem? h1)
    refine ⟨⟨f0, by simp [selF, List.getElem?_map, h1, List.getD, hf0], rfl⟩, ?_⟩
    have h3 : i < g.τ.length := by rw [hm.tl]; exact h2
    simp only [G.sel, List.getElem?_map, h1, Option.map_some]
    exact (getD_some h3).symm
theorem M_sel (hm : Mem g bx fr w) (hb : okSel bs bx.length) (ht : okSel ts fr.length) {k : Nat} (h : M (g.sel bs ts) k) : M g k := by
  rcases h with h | ⟨c, h⟩
  · simp only [G.sel, List.mem_map] at h
    obtain ⟨i, hi, rfl⟩ := h
    have h3 : i < g.ρ.length := by rw [hm.bl]; exact hb.2 i hi
    exact .inl (List.mem_of_getElem? (getD_some h3))
  · simp only [G.sel, List.mem_map] at h
    obtain ⟨i, hi, h⟩ := h
    have h3 : i < g.τ.length := by rw [hm.tl]; exact ht.2 i hi
    exact .inr ⟨c, h ▸ List.mem_of_getElem? (getD_some h3)⟩
theorem sel_ρ (hm : Mem g bx fr w) (hb : okSel bs bx.length) {i blk : Nat} (h : (g.sel bs ts).ρ[i]? = some blk) : ∃ b, bs[i]? = some b ∧ g.ρ[b]? = some blk := by
  simp only [G.sel, List.getElem?_map] at h
  cases hi : bs[i]? with
  | none => simp [hi] at h
  | some b =>
    simp only [hi, Option.map_some, Option.some.injEq] at h
    have h3 : b < g.ρ.length := by rw [hm.bl]; exact hb.2 b (List.mem_of_getElem? hi)
    exact ⟨b, rfl, by rw [getD_some (d := 0) h3, h]⟩
theorem sel_τ (hm : Mem g bx fr w) (ht : okSel ts fr.length) {i : Nat} {p : Nat × Nat} (h : (g.sel bs ts).τ[i]? = some p) : ∃ b, ts[i]? = some b ∧ g.τ[b]? = some p := by
  simp only [G.sel, List.getElem?_map] at h
  cases hi : ts[i]? with
  | none => simp [hi] at h
  | some b =>
    simp only [hi, Option.map_some, Option.some.injEq] at h
    have h3 : b < g.τ.length := by rw [hm.tl]; exact ht.2 b (List.mem_of_getElem? hi)
    exact ⟨b, rfl, by rw [getD_some (d := (0, 0)) h3, h]⟩
theorem TokAt.same {g g' : G} {blk cap : Nat} {f : Fr} (h : TokAt w g blk cap f) (hC : ∀ o, g'.C blk o → g.C blk o) : TokAt w g' blk cap f :=
  ⟨h.row, h.le, h.max, h.pos, fun o ho hc => h.far o ho (hC o hc)⟩
theorem Mem.sel (hm : Mem g bx fr w) (hb : okSel bs bx.length) (ht : okSel ts fr.length) : Mem (g.sel bs ts) (selB bs ts bx) (selF ts fr) w where
  bl := by simp [G.sel, selB]
  bat i blk cs h1 h2 := by
    obtain ⟨b, hi, hρ⟩ := sel_ρ hm hb h1
    simp only [selB, List.getElem?_map, hi, Option.map_some, Option.some.injEq] at h2
    have hlt : b < bx.length := hb.2 b (List.mem_of_getElem? hi)
    obtain ⟨vs, ty, h3, h4, h5⟩ := hm.bat b blk _ hρ (getD_some (d := []) hlt)
    refine ⟨vs, ty, h3, by rw [h4, ← h2, rens_map, List.length_map], fun j d v hd hv => ?_⟩
    rw [← h2, rens_map, List.getElem?_map] at hd
    cases hj : (bx.getD b [])[j]? with
    | none => simp only [hj, Option.map_none] at hd; cases hd
    | some d0 =>
      simp only [hj, Option.map_some, Option.some.injEq] at hd
      subst hd
      exact V.sel hm hb ht (h5 j d0 v hj hv)
  bC blk o h := by
    obtain ⟨i, hi⟩ := List.getElem?_of_mem h
    obtain ⟨b, _, hρ⟩ := sel_ρ hm hb hi
    exact hm.bC blk o (List.mem_of_getElem? hρ)
  bN i j b h1 h2 := by
    obtain ⟨x, hx, h3⟩ := sel_ρ hm hb h1
    obtain ⟨y, hy, h4⟩ := sel_ρ hm hb h2
    have := hm.bN x y b h3 h4
    subst this
    exact hb.1 i j x hx hy
  tl := by simp [G.sel, selF]
  tat i blk cap f h1 h2 := by
    obtain ⟨b, hi, hτ⟩ := sel_τ hm ht h1
    simp only [selF, List.getElem?_map, hi, Option.map_some, Option.some.injEq] at h2
    have hlt : b < fr.length := ht.2 b (List.mem_of_getElem? hi)
    exact (hm.tat b blk cap f hτ (by rw [← h2]; exact getD_some hlt)).same fun _ h => h
  tN i j b c c' h1 h2 := by
    obtain ⟨x, hx, h3⟩ := sel_τ hm ht h1
    obtain ⟨y, hy, h4⟩ := sel_τ hm ht h2
    have := hm.tN x y b c c' h3 h4
    subst this
    exact ht.1 i j x hx hy
  tρ b c h hr := by
    obtain ⟨i, hi⟩ := List.getElem?_of_mem h
    obtain ⟨x, _, h3⟩ := sel_τ hm ht hi
    obtain ⟨j, hj⟩ := List.getElem?_of_mem hr
    obtain ⟨y, _, h4⟩ := sel_ρ hm hb hj
    exact hm.tρ b c (List.mem_of_getElem? h3) (List.mem_of_getElem? h4)
  Clt := hm.Clt
end

/-! ### contracts -/
inductive R where
  | ret (d : D)
  | pan (d : D)
def R.ren (f h : Nat → Option Nat) : R → R
  | .ret d => .ret (d.ren f h)
  | .pan d => .pan (d.ren f h)
def R.is (w : World) (g : G) (fr : List Fr) (e : Ending) : R → Prop
  | .ret d => ∃ v, e = .returned v ∧ V w g fr d v
  | .pan d => ∃ v, e = .panicked [{ v, recovered := false }] ∧ V w g fr d v
structure AC (P : Program) (f : FuncId) (args : List D) (bx : List (List D)) (fr : List Fr) (post : R → List (List D) → List Fr → Prop) : Prop where
  run : ∀ (g : G) (w : World) (vs : List Value), Mem g bx fr w → vs.length = args.length → (∀ (j : Nat) (d : D) (v : Value), args[j]? = some d → vs[j]? = some v → V w g fr d v) →
    Calls P f vs.toArray w fun e w' => ∃ g' bx' fr' r, Evo ⟨g, fr, w⟩ ⟨g', fr', w'⟩ ∧ Mem g' bx' fr' w' ∧ r.is w' g' fr' e ∧ post r bx' fr'
theorem AC.mono {P : Program} {f : FuncId} {args : List D} {bx : List (List D)} {fr : List Fr} {post post' : R → List (List D) → List Fr → Prop} (h : AC P f args bx fr post) (hp : ∀ r bx' fr', post r bx' fr' → post' r bx' fr') : AC P f args bx fr post' :=
  ⟨fun g w vs hm hl hv => (h.run g w vs hm hl hv).mono fun e w' ⟨g', bx', fr', r, h1, h2, h3, h4⟩ => ⟨g', bx', fr', r, h1, h2, h3, hp _ _ _ h4⟩⟩
end Go.Av

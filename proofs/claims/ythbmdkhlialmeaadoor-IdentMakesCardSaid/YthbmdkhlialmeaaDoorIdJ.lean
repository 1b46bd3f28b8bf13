/- IdentMakes: the walk of the row. -/
import Derived.Test.YthbmdkhlialmeaaDoorIdI
open Go.RowKit Go.Pl Go.Av
namespace Go.Proofs.YthbmdkhlialmeaaDoor
set_option linter.unusedVariables false
set_option linter.unusedSimpArgs false
theorem agg_str {W : World} {g : G} {fr : List Fr} {l : List D} {vs : List Value} {s : List UInt8} (h : V W g fr (.agg l) (.agg vs.toArray)) (j : Nat) (hj : l[j]? = some (.str s)) : s.length ≤ maxLen := by
  generalize hd : D.agg l = d at h
  generalize hv : Value.agg vs.toArray = v at h
  cases h with
  | agg l' vs' hl h =>
    injection hd with hd; subst hd
    have hlt : j < vs'.length := by rw [hl]; exact (List.getElem?_eq_some_iff.1 hj).1
    exact (h j _ _ hj (List.getElem?_eq_getElem hlt)).str_inv.2
  | _ => cases hd
theorem sl_str {W : World} {C : Nat → Nat → Prop} {l : List E} {v : Value} {s : List UInt8} (h : VE W C (.sl l) v) (hs : E.str s ∈ Go.Av.flat l) : s.length ≤ maxLen := by
  generalize he : E.sl l = e at h
  cases h with
  | slE A cap hc => injection he with he; subst he; simp at hs
  | slC l' g off cap us h1 h2 hc hw hv =>
    injection he with he; subst he
    obtain ⟨j, hj⟩ := List.getElem?_of_mem hs
    have := hv j _ hj
    generalize us j = u at this
    cases this
    assumption
  | _ => cases he
abbrev XO := Bool × Nat × XI
abbrev RO : Rep XO := Rep.bool.prod (Rep.u64.prod RI)
theorem openO : Opens Tryd.prog 51 RO :=
  opens_prod3 Tryd.underlying51 rfl (by kernel_rfl) rfl rfl rfl (by kernel_rfl) (by kernel_rfl) (by kernel_rfl) (opens_bool Tryd.underlying4) (opens_u64 Tryd.underlying22) openI
def opOf (o : XO) : OpV := ⟨o.1, o.2.1, o.2.2.1.v, o.2.2.2.1, o.2.2.2.2⟩
theorem toE_op : ToE RO (fun o => E.op (opOf o)) := ToE.bool.prod (ToE.u64.prod toE_ident)
theorem identMakes_walk (c0 : List Value) (v1 : Value) (x0 : XE) (x1 : List XO) (W : World) (h0 : RE.ok W (· < W.heap.size) c0 x0) (h1 : Sl RO W (· < W.heap.size) v1 x1) :
    Calls Tryd.prog 5 #[.agg c0.toArray, v1] W fun e w' => e = .returned (.bool true) ∧ Below W.heap.size W w' := by
  have k0 := eid_V h0
  have k1 : VE W (g0 W).C (.sl (x1.map fun o => E.op (opOf o))) v1 := toE_op.sl (C := (g0 W).C) (fun k hk o => hk) h1
  have hm : x1.map (fun o => E.op (opOf o)) = (x1.map opOf).map E.op := by rw [List.map_map]; rfl
  rw [hm] at k1
  have hx : Fit x0.v := by
    have a1 := agg_str k0 3 rfl
    have a2 := agg_str k0 4 rfl
    unfold maxLen at a1 a2
    exact ⟨by omega, by omega⟩
  have ho : ∀ o ∈ x1.map opOf, Fit o.x := fun o ho => by
    have a1 := sl_str k1 (s := o.x.h) (List.mem_flatMap.2 ⟨E.op o, List.mem_map.2 ⟨o, ho, rfl⟩, by simp [E.op, E.cells]⟩)
    have a2 := sl_str k1 (s := o.x.d) (List.mem_flatMap.2 ⟨E.op o, List.mem_map.2 ⟨o, ho, rfl⟩, by simp [E.op, E.cells]⟩)
    unfold maxLen at a1 a2
    exact ⟨by omega, by omega⟩
  exact top (vs := [.agg c0.toArray, v1]) (AC.mono (av_identMakes x0.v (x1.map opOf) hx ho) fun _ _ _ h => h.1) rfl (arg2 k0 (V.ofE (e := .sl ((x1.map opOf).map E.op)) k1))
end Go.Proofs.YthbmdkhlialmeaaDoor

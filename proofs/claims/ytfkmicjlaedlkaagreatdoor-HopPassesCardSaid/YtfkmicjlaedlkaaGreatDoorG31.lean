/- Arguments: structs of any number of fields. -/
import Derived.Test.YtfkmicjlaedlkaaGreatDoorG01
import Derived.Test.YtfkmicjlaedlkaaGreatDoorG26
import Derived.Test.YtfkmicjlaedlkaaGreatDoorG06
import Derived.Test.YtfkmicjlaedlkaaGreatDoorG10
import Derived.Test.YtfkmicjlaedlkaaGreatDoorG24
import Derived.Test.YtfkmicjlaedlkaaGreatDoorG27
import Derived.Test.YtfkmicjlaedlkaaGreatDoorProg
import Derived.Lib.LaidU8
import Derived.Test.YtfkmicjlaedlkaaGreatDoorG30
set_option linter.unusedSimpArgs false
set_option linter.unusedVariables false
section
open Go.RowKit Go.Pl
namespace Go.Pl
def OpensF {α : Type} (P : Program) (fs : Array Field) (i o : Nat) (R : Rep α) : Prop :=
 ∀ (H : Type) (enc : TypeId × Value -> H) (W : World) (spare : Nat -> Bool) (held : Bool) (n : Nat) (cs : List Value) (xs : List (DataW H × List MemPlace)), cs.length = o + R.n -> xs.length = fs.size ->
  (∀ (j : Nat) (f : Field), fs[j]? = some f -> DataW.trod enc P W 0 spare held n f.type ((cs.drop f.offset).take (P.cellsOf f.type)) = xs[j]?) -> ∃ x, R.ok W (· < W.heap.size) (cs.drop o) x
variable {P : Program} {t : TypeId} {fs : Array Field}
theorem opensF_at {α : Type} {R : Rep α} {i o : Nat} {f : Field} (hf : fs[i]? = some f) (ho : f.offset = o) (hc : P.cellsOf f.type = R.n) (h : Opens P f.type R) {H : Type} {enc : TypeId × Value -> H} {W : World} {spare : Nat -> Bool} {held : Bool} {n : Nat} {cs : List Value} {xs : List (DataW H × List MemPlace)} (hl : xs.length = fs.size)
  (hg : ∀ (j : Nat) (f : Field), fs[j]? = some f -> DataW.trod enc P W 0 spare held n f.type ((cs.drop f.offset).take (P.cellsOf f.type)) = xs[j]?) : ∃ x, R.ok W (· < W.heap.size) ((cs.drop o).take R.n) x := by
 have e := hg i f hf
 rw [ho, hc] at e
 have hi : i < xs.length := by
  rw [hl]
  exact (Array.getElem?_eq_some_iff.1 hf).1
 exact h H enc W spare held n _ _ (e.trans (List.getElem?_eq_getElem hi))
theorem opensF_one {α : Type} {R : Rep α} {i o : Nat} {f : Field} (hf : fs[i]? = some f) (ho : f.offset = o) (hc : P.cellsOf f.type = R.n) (h : Opens P f.type R) : OpensF P fs i o R := by
 intro H enc W spare held n cs xs hcl hl hg
 obtain ⟨x, hx⟩ := opensF_at hf ho hc h hl hg
 rw [List.take_of_length_le (by rw [List.length_drop]; omega)] at hx
 exact ⟨x, hx⟩
theorem opensF_cons {α β : Type} {R : Rep α} {R' : Rep β} {i o : Nat} {f : Field} (hf : fs[i]? = some f) (ho : f.offset = o) (hc : P.cellsOf f.type = R.n) (h : Opens P f.type R) (h' : OpensF P fs (i + 1) (o + R.n) R') : OpensF P fs i o (R.prod R') := by
 intro H enc W spare held n cs xs hcl hl hg
 obtain ⟨x, hx⟩ := opensF_at hf ho hc h hl hg
 have hn : (R.prod R').n = R.n + R'.n := rfl
 obtain ⟨x', hx'⟩ := h' H enc W spare held n cs xs (by rw [hn] at hcl; omega) hl hg
 refine ⟨(x, x'), (cs.drop o).take R.n, (cs.drop o).drop R.n, (List.take_append_drop _ _).symm, hx, ?_⟩
 rw [List.drop_drop]
 exact hx'
theorem opens_struct {α : Type} {R : Rep α} (hs : P.underlying t = some (.struct fs)) (hc : P.cellsOf t = R.n) (h : OpensF P fs 0 0 R) : Opens P t R := by
 intro H enc W spare held fuel cs y hy
 obtain ⟨xs, n, _, _, hl, hxl, hg⟩ := DataW.trod_struct hs hy
 exact h H enc W spare held n cs xs (by omega) hxl hg
end Go.Pl
end
section
open Go.RowKit Go.Pl Go.Av
namespace Go.Proofs.YtfkmicjlaedlkaaGreatDoor
set_option maxHeartbeats 4000000
abbrev RPr : Rep (Nat × Int × XE × XE × (XE × Nat × Nat) × Nat) := Rep.u64.prod (Rep.i64.prod (RE.prod (RE.prod (Go.Pl.RI.prod Rep.u64))))
theorem openPr : Opens Tryz.prog 28 RPr :=
 opens_struct Tryz.underlying28 (by kernel_rfl) (opensF_cons rfl rfl (by kernel_rfl) (opens_u64 Tryz.underlying22) (opensF_cons rfl rfl (by kernel_rfl) (opens_i64 Tryz.underlying3)
  (opensF_cons rfl rfl (by kernel_rfl) openE (opensF_cons rfl rfl (by kernel_rfl) openE (opensF_cons rfl rfl (by kernel_rfl) openI (opensF_one rfl rfl (by kernel_rfl) (opens_u64 Tryz.underlying22)))))))
abbrev XPr := Nat × Int × XE × XE × (XE × Nat × Nat) × Nat
def XPr.v (x : XPr) : PriV := ⟨x.1, x.2.1, x.2.2.1.v, x.2.2.2.1.v, x.2.2.2.2.1.1.v, x.2.2.2.2.1.2.1, x.2.2.2.2.1.2.2, x.2.2.2.2.2⟩
end Go.Proofs.YtfkmicjlaedlkaaGreatDoor
end
section
open Go.RowKit Go.Pl Go.Av
namespace Go.Proofs.YtfkmicjlaedlkaaGreatDoor
set_option maxHeartbeats 4000000
end Go.Proofs.YtfkmicjlaedlkaaGreatDoor
end
section
open Go.RowKit Go.Pl Go.Av
namespace Go.Proofs.YtfkmicjlaedlkaaGreatDoor
set_option maxHeartbeats 4000000
abbrev RB : Rep (Nat × Nat × Nat × Int × List UInt8) := Rep.u64.prod (Rep.u64.prod (Rep.u64.prod (Rep.i64.prod (Rep.slice Rep.byte (by decide)))))
theorem openB : Opens Tryz.prog 69 RB :=
 opens_struct Tryz.underlying69 (by kernel_rfl) (opensF_cons rfl rfl (by kernel_rfl) (opens_u64 Tryz.underlying22) (opensF_cons rfl rfl (by kernel_rfl) (opens_u64 Tryz.underlying22)
  (opensF_cons rfl rfl (by kernel_rfl) (opens_u64 Tryz.underlying22) (opensF_cons rfl rfl (by kernel_rfl) (opens_i64 Tryz.underlying3)
   (opensF_one rfl rfl (by kernel_rfl) (opens_slice (R := Rep.byte) (by decide) Tryz.underlying29 (by kernel_rfl) (opens_byte Tryz.underlying5)))))))
abbrev XB := Nat × Nat × Nat × Int × List UInt8
def XB.v (x : XB) : BlkV := ⟨x.1, x.2.1, x.2.2.1, x.2.2.2.1, x.2.2.2.2⟩
end Go.Proofs.YtfkmicjlaedlkaaGreatDoor
end
section
open Go.RowKit Go.Pl Go.Av
namespace Go.Proofs.YtfkmicjlaedlkaaGreatDoor
set_option maxHeartbeats 4000000
abbrev RBn : Rep ((Nat × Int × XE × XE × (XE × Nat × Nat) × Nat) × List XB) := RPr.prod (Rep.slice RB (by decide))
theorem openBn : Opens Tryz.prog 59 RBn :=
 opens_struct Tryz.underlying59 (by kernel_rfl) (opensF_cons rfl rfl (by kernel_rfl) openPr (opensF_one rfl rfl (by kernel_rfl) (opens_slice (R := RB) (by decide) Tryz.underlying57 (by kernel_rfl) openB)))
abbrev XBn := (Nat × Int × XE × XE × (XE × Nat × Nat) × Nat) × List XB
def XBn.v (x : XBn) : BunV := ⟨⟨x.1.1, x.1.2.1, x.1.2.2.1.v, x.1.2.2.2.1.v, x.1.2.2.2.2.1.1.v, x.1.2.2.2.2.1.2.1, x.1.2.2.2.2.1.2.2, x.1.2.2.2.2.2⟩, x.2.map XB.v⟩
theorem toE_bk : ToE RB (fun x => .agg [.int .u64 (x.1 : Int), .int .u64 (x.2.1 : Int), .int .u64 (x.2.2.1 : Int), .int .i64 x.2.2.2.1, .sl (x.2.2.2.2.map E.byte)]) := ToE.u64.prod (ToE.u64.prod (ToE.u64.prod (ToE.i64.prod (ToE.byte.slice (by decide)))))
theorem bn_V [Known] {W : World} {cs : List Value} {x : XBn} (h : RBn.ok W (· < W.heap.size) cs x) : V W (g0 W) [] (.agg (bnC x.v)) (.agg cs.toArray) := by
 obtain ⟨⟨fl, sum, ⟨di, dn, ds, dh, dd⟩, ⟨ri, rn, rs, rh, rd⟩, ⟨⟨xi, xn, xs, xh, xd⟩, t, q⟩, life⟩, bl⟩ := x
 have te := (ToE.u64.prod (ToE.i64.prod (toE_eid.prod (toE_eid.prod ((toE_eid.prod (ToE.u64.prod ToE.u64)).prod ToE.u64))))).prod (toE_bk.slice (by decide))
 have h2 := ToE.agg te (l := [.int .u64 (fl : Int), .int .i64 sum, .bool di, .int .u64 (dn : Int), .int .u64 (ds : Int), .str dh, .str dd, .bool ri, .int .u64 (rn : Int), .int .u64 (rs : Int), .str rh, .str rd, .bool xi, .int .u64 (xn : Int), .int .u64 (xs : Int), .str xh, .str xd, .int .u64 (t : Int), .int .u64 (q : Int), .int .u64 (life : Int), .sl (bl.map fun x => .agg [.int .u64 (x.1 : Int), .int .u64 (x.2.1 : Int), .int .u64 (x.2.2.1 : Int), .int .i64 x.2.2.2.1, .sl (x.2.2.2.2.map E.byte)])]) rfl h
 have e : bksE (bl.map XB.v) = bl.map fun x => .agg [.int .u64 (x.1 : Int), .int .u64 (x.2.1 : Int), .int .u64 (x.2.2.1 : Int), .int .i64 x.2.2.2.1, .sl (x.2.2.2.2.map E.byte)] := List.map_map ..
 rw [<- e] at h2
 exact h2
theorem run_each {α : Type} {R : Rep α} {w : World} {S : Nat -> Prop} : ∀ {l : List α} {cs : List Value}, Run R w S cs l -> ∀ x ∈ l, ∃ c, R.ok w S c x
 | [], _, _, x, hx => by simp at hx
 | y :: l, cs, ⟨c1, c2, _, h1, h2⟩, x, hx => by
  rcases List.mem_cons.1 hx with rfl | hx
  ·exact ⟨c1, h1⟩
  ·exact run_each h2 x hx
theorem bk_fl1 {W : World} {S : Nat -> Prop} {cs : List Value} {x : XB} (h : RB.ok W S cs x) : x.v.fl < 18446744073709551616 := by
 obtain ⟨ty, num, fl, sum, data⟩ := x
 obtain ⟨_, _, _, _, _, _, _, _, _, _, _, ⟨_, h1⟩, _⟩ := h
 exact h1
theorem bn_fl {W : World} {cs : List Value} {x : XBn} (h : RBn.ok W (· < W.heap.size) cs x) : x.v.p.fl < 18446744073709551616 /\ ∀ c ∈ x.v.bl, c.fl < 18446744073709551616 := by
 obtain ⟨⟨fl, r⟩, bl⟩ := x
 obtain ⟨_, _, _, ⟨_, _, _, ⟨_, h1⟩, _⟩, ⟨v, _, A, cap, _, _, _, c3, hr, _⟩⟩ := h
 refine ⟨h1, fun c hc => ?_⟩
 obtain ⟨y, hy, rfl⟩ := List.mem_map.1 hc
 obtain ⟨c4, h4⟩ := run_each hr y hy
 exact bk_fl1 h4
end Go.Proofs.YtfkmicjlaedlkaaGreatDoor
end
section
open Go.RowKit Go.Pl Go.Av Go.Lib
namespace Go.Proofs.YtfkmicjlaedlkaaGreatDoor
theorem dcsl_ints (k : IntKind) : ∀ zs : List Int, dcsl (zs.map fun z => .lit (.int k z)) = zs.map fun z => Value.int k z
 | [] => rfl
 | z :: zs => by rw [List.map_cons, List.map_cons, dcsl, dcsl_ints k zs]; rfl
theorem cells_at {P : Program} {W : World} {n : String} {g : Nat} {t : TypeId} {d : DataW Unit} (hg : P.globalNamed n = some g) (ht : (P.globals[g]?).map (·.type) = some t) (h : VarReads P W n d)
  (key : ∀ (fuel : Nat) (cs : List Value) (p : List MemPlace), DataW.trod (fun _ => ()) P W 0 (fun _ => true) false fuel t cs = some (d, p) -> ∀ (j : Nat) (v : Value), (dcs d)[j]? = some v -> cs[j]? = some v) :
  ∀ (j : Nat) (v : Value), (dcs d)[j]? = some v -> (g0 W).C g j /\ W.cell? ⟨g, j, none⟩ = some v := by
 obtain ⟨g', t', cs, fuel, p, h1, h2, h3, h4⟩ := h
 obtain rfl := Option.some.inj (hg.symm.trans h1)
 obtain rfl := Option.some.inj (ht.symm.trans h2)
 intro j v hv
 have hc := key fuel cs.toList p h4 j v hv
 have hcell : W.cell? ⟨g, j, none⟩ = some v := by
  rw [World.var?_cell hg h3 j, <- Array.getElem?_toList]; exact hc
 exact ⟨World.block_lt_of_cell? W _ hcell, hcell⟩
theorem ints_at {P : Program} {W : World} {t e : TypeId} {n : Nat} {k : IntKind} {d : DataW Unit} (zs : List Int) (hd : d = tabData k zs) (ht : P.underlying t = some (.array n e)) (he : P.underlying e = some (.int k)) (hce : P.cellsOf e = 1) (hct : P.cellsOf t = n) :
  ∀ (fuel : Nat) (cs : List Value) (p : List MemPlace), DataW.trod (fun _ => ()) P W 0 (fun _ => true) false fuel t cs = some (d, p) -> ∀ (j : Nat) (v : Value), (dcs d)[j]? = some v -> cs[j]? = some v := by
 subst hd
 intro fuel cs p h j v hv
 rw [cells_of_tab ht he hce hct h]
 rw [tabData, dcs, dcsl_ints] at hv
 exact hv
theorem rows_at {P : Program} {W : World} {t e : TypeId} {n : Nat} {k : IntKind} {d : DataW Unit} {fs : Array Field} (rows : List (List Int)) (hd : d = .agg (rows.map fun r => .agg (r.map fun z => .lit (.int k z)))) (hn : rows.length = n) (ht : P.underlying t = some (.array n e)) (he : P.underlying e = some (.struct fs))
  (hf : ∀ (i : Nat) (f : Field), fs[i]? = some f -> P.underlying f.type = some (.int k) /\ f.offset = i /\ P.cellsOf f.type = 1) (hce : P.cellsOf e = fs.size) :
  ∀ (fuel : Nat) (cs : List Value) (p : List MemPlace), DataW.trod (fun _ => ()) P W 0 (fun _ => true) false fuel t cs = some (d, p) -> ∀ (j : Nat) (v : Value), (dcs d)[j]? = some v -> cs[j]? = some v := by
 subst hd
 intro fuel cs p h j v hv
 have key : ∀ i, i <= n -> cs.take (i * fs.size) = dcsl ((rows.take i).map fun r => .agg (r.map fun z => .lit (.int k z))) := by
  intro i
  induction i with
  | zero => intro _; rw [Nat.zero_mul, List.take_zero, List.take_zero]; rfl
  | succ i ih =>
   intro hi
   obtain ⟨fuel', d', q, hdi, he'⟩ := array_elem ht h i (by omega)
   rw [List.getElem?_map, List.getElem?_eq_getElem (by omega : i < rows.length)] at hdi
   simp only [Option.map_some, Option.some.injEq] at hdi
   subst hdi
   rw [hce] at he'
   have hcs := ints_of_struct he hf hce he'
   rw [Nat.succ_mul, List.take_add, ih (by omega), hcs, List.take_succ_eq_append_getElem (by omega : i < rows.length), List.map_append]
   have app : ∀ (a b : List (DataW Unit)), dcsl (a ++ b) = dcsl a ++ dcsl b := fun a b => by
    induction a with
    | nil => rfl
    | cons x a ih => rw [List.cons_append, dcsl, dcsl, ih, List.append_assoc]
   rw [app, List.map_cons, List.map_nil, dcsl, dcs, dcsl_ints]
   simp [dcsl]
 have h2 := key n (Nat.le_refl _)
 rw [<- hn, List.take_length] at h2
 rw [dcs, <- h2] at hv
 rw [List.getElem?_take] at hv
 split at hv
 ·exact hv
 ·cases hv
abbrev knownU8 : Known := ⟨[0, 1]⟩
theorem knownU8_ok : @KnownU8 knownU8 := @KnownU8.mk knownU8 (List.mem_cons_self ..) (List.mem_cons_of_mem _ (List.mem_cons_self ..))
def firstZ : List Int := Pinned.utf8FirstZ.map Int.ofNat
def acceptZ : List (List Int) := [[128, 191], [160, 191], [128, 159], [144, 191], [128, 143], [0, 0], [0, 0], [0, 0], [0, 0], [0, 0], [0, 0], [0, 0], [0, 0], [0, 0], [0, 0], [0, 0]]
theorem gls_u8 {W : World} {laid : List (String × DataW Unit)} (h1 : ("unicode/utf8.first", Rows.laid_unicode_utf8_first) ∈ laid) (h2 : ("unicode/utf8.acceptRanges", Rows.laid_unicode_utf8_acceptRanges) ∈ laid) (h : laidMet Tryz.prog laid W) : @Gls knownU8 (g0 W).C W := by
 have r1 := laidMet.reads h h1
 have r2 := laidMet.reads h h2
 have c1 := cells_at (P := Tryz.prog) (g := 0) (t := 222) (by kernel_rfl) (by kernel_rfl) r1 (ints_at firstZ (by kernel_rfl) (n := 256) (by kernel_rfl) Tryz.underlying5 (by kernel_rfl) (by kernel_rfl))
 have c2 := cells_at (P := Tryz.prog) (g := 1) (t := 225) (by kernel_rfl) (by kernel_rfl) r2 (rows_at acceptZ (by kernel_rfl) (n := 16) rfl Tryz.underlying225 Tryz.underlying224 (fun i f hf => by
  match i, hf with
  | 0, hf => simp at hf; subst hf; exact ⟨Tryz.underlying5, rfl, by kernel_rfl⟩
  | 1, hf => simp at hf; subst hf; exact ⟨Tryz.underlying5, rfl, by kernel_rfl⟩
  | i + 2, hf => simp at hf) (by kernel_rfl))
 refine ⟨fun k cs hk => ?_, fun k t hk => ?_⟩
 ·obtain ⟨hk, hm⟩ := hk
  simp only [tabs, List.mem_cons, List.not_mem_nil, or_false, Prod.mk.injEq] at hm
  have hk : k ∈ [0, 1] := hk
  simp only [List.mem_cons, List.not_mem_nil, or_false] at hk
  clear r1 r2 h1 h2 h
  rcases hk with rfl | rfl
  all_goals repeat' (refine Or.elim hm (fun hm => ?_) (fun hm => ?_))
  all_goals first
   | (obtain ⟨h, rfl⟩ := hm; exact c1)
   | (obtain ⟨h, rfl⟩ := hm; exact c2)
   | (obtain ⟨h, _⟩ := hm; exact absurd h (by decide))
 ·obtain ⟨hk, hm⟩ := hk
  have hk : k ∈ [0, 1] := hk
  simp only [List.mem_cons, List.not_mem_nil, or_false] at hk
  simp only [tabI, List.mem_cons, List.not_mem_nil, or_false, Prod.mk.injEq] at hm
  all_goals omega
end Go.Proofs.YtfkmicjlaedlkaaGreatDoor
end
section
open Go.RowKit Go.Pl Go.Av
namespace Go.Proofs.YtfkmicjlaedlkaaGreatDoor
theorem hopPasses_walk (c0 : List Value) (n1 n2 n3 : Nat) (x0 : XBn) (W : World) (h0 : RBn.ok W (· < W.heap.size) c0 x0) (h1 : n1 < 18446744073709551616) (h2 : n2 < 18446744073709551616) (h3 : n3 < 65536) (hl : laidMet Tryz.prog Rows.hopPassesRow.laid W) :
  Calls Tryz.prog 6 #[.agg c0.toArray, .int .u64 (n1 : Int), .int .u64 (n2 : Int), .int .u16 (n3 : Int)] W fun e w' => e = .returned (.bool true) /\ Below W.heap.size W w' := by
 have hg := gls_u8 (laid := Rows.hopPassesRow.laid) (by unfold Rows.hopPassesRow; repeat (first | exact List.mem_cons_self .. | apply List.mem_cons_of_mem)) (by unfold Rows.hopPassesRow; repeat (first | exact List.mem_cons_self .. | apply List.mem_cons_of_mem)) hl
 have h := @av_hopPasses knownU8 knownU8_ok x0.v (bn_fl h0) n1 n2 n3 h2 h3
 refine @topG knownU8 Tryz.prog 6 _ (@AC.mono knownU8 _ _ _ _ _ _ _ h fun r b t h => h.1) W [.agg c0.toArray, .int .u64 (n1 : Int), .int .u64 (n2 : Int), .int .u16 (n3 : Int)] hg rfl ?_
 intro j d v hd hv
 match j, hd, hv with
 | 0, hd, hv => cases hd; cases hv; exact @bn_V knownU8 _ _ _ h0
 | 1, hd, hv => cases hd; cases hv; exact .int _ _
 | 2, hd, hv => cases hd; cases hv; exact .int _ _
 | 3, hd, hv => cases hd; cases hv; exact .int _ _
 | j + 4, hd, hv => cases hd
end Go.Proofs.YtfkmicjlaedlkaaGreatDoor
end

/- PrimaryBack's walk, joined. -/
import Derived.Test.YtfkmicjlaedlkaaDoorG18
import Derived.Test.YtfkmicjlaedlkaaDoorG19
import Derived.Test.YtfkmicjlaedlkaaDoorG25
import Derived.Test.YtfkmicjlaedlkaaDoorG01
import Derived.Test.YtfkmicjlaedlkaaDoorG06
import Derived.Test.YtfkmicjlaedlkaaDoorProg
import Derived.Lib.LaidU8
import Derived.Test.YtfkmicjlaedlkaaDoorG11
import Derived.Test.YtfkmicjlaedlkaaDoorG24
import Derived.Test.YtfkmicjlaedlkaaDoorG10
set_option linter.unusedVariables false
set_option linter.unusedSimpArgs false
section
open Go.RowKit Go.Pl Go.Av
namespace Go.Proofs.YtfkmicjlaedlkaaDoor
set_option maxHeartbeats 4000000
theorem av_primaryBack [Known] [KnownU8] (p : PriV) (x : It) (a : Int) (hfl : p.fl < 18446744073709551616) (hx : nI x) : AP Tryd.prog 5 [.agg (prC p), itD x, .int .i64 a] (.bool true) [] := by
 have hA := av_alive6
 have hG := av_great6 p
 have hH := av_great x 1 300 (by omega) (by omega) (by omega)
 have hgl := fun h => great_len (x := x) h hx
 have hgp := fun h => great_parts (x := x) h hx
 have hSelf := eqP6_self p
 cases hg : greatP p with
 | true =>
  rw [hg] at hG
  obtain ⟨fl, sum, ⟨di, dn, ds, dh, dd⟩, ⟨ri, rn, rs, rh, rd⟩, ⟨xi, xn, xs, xh, xd⟩, t, q, life⟩ := p
  obtain ⟨k, n, b, l⟩ := x
  exact pb_e0 _ _ _ _ _ _ _ _ _ _ _ _ _ _ _ _ _ _ _ _ _ _ _ _ 0 _ hA hG
 | false =>
 rw [hg] at hG
 generalize greatI x 1 300 = g at *
 cases t0 : decide (g < 0) with
 | true =>
  obtain ⟨fl, sum, ⟨di, dn, ds, dh, dd⟩, ⟨ri, rn, rs, rh, rd⟩, ⟨xi, xn, xs, xh, xd⟩, t, q, life⟩ := p
  obtain ⟨k, n, b, l⟩ := x
  exact pb_e1 _ _ _ _ _ _ _ _ _ _ _ _ _ _ _ _ _ _ _ _ _ _ _ _ _ _ hA hG hH t0
 | false =>
 have hg0 : 0 <= g := by have := of_decide_eq_false t0; omega
 obtain ⟨hwf, hxl, _, hlim⟩ := hgp hg0
 obtain ⟨hl3, hpl⟩ := hgl hg0
 have hws : wfs x.l := by obtain ⟨k, n, b, l⟩ := x; exact hwf.2.2.2
 have hW := av_pWriteR p hfl
 have hR := av_pRead x hwf hxl hlim
 have hqf := rp_fl hwf
 have hrw := fun q => pr_read_write (x := x) (p := q)
 have hV := av_pWriteR (readP x).1 hqf
 have hXX := av_same x hwf x hwf
 rw [beq_self] at hXX
 have hSe := av_seal x.l a hws (by omega) (fun s hs => by have := hlim s x.l.length hs; rwa [List.take_length] at this)
 have hL := av_list x.l (by omega) hws
 have hwM : wfI (.mk 4 0 [] x.l) := ⟨by decide, by simp, by omega, hws⟩
 have hMM := av_same (.mk 4 0 [] x.l) hwM (.mk 4 0 [] x.l) hwM
 rw [beq_self] at hMM
 have hY : ∃ Y e, AP Tryd.prog 25 [.agg (prC p)] (.tup [itD Y, .int .i64 e]) [] /\ (e = 0 -> AP Tryd.prog 26 [itD Y] (.tup [.agg (prC p), .int .i64 0]) []) := by
  rcases hwp : writeP p with ⟨Y, e⟩
  rw [hwp] at hW
  refine ⟨Y, e, hW, fun he => ?_⟩
  subst he
  obtain ⟨hr, hse⟩ := right_of_writeP hwp
  obtain ⟨s0, s2, _⟩ := pr_facts hr
  have hwY := wf_writeP (p := p) hfl
  rw [hwp] at hwY
  have hlP := lim_P hr
  have hpp := puts_listP hr
  obtain ⟨q1, q2, q3⟩ := seal_parts hse (by simp [listP]) (wfs_P hr hfl) hpp
  have h2 := av_pRead Y q1 q2 q3
  rw [pr_write_read (by rw [IntWalk.i64_in _ (by omega)]; omega) hwp] at h2
  exact h2
 have hSO : ∃ S h, AP Tryd.prog 17 [.sl .ext (itEs x.l), .int .i64 a] (.tup [itD S, .int .i64 h]) [] /\ (h = 0 -> AP Tryd.prog 20 [itD S, .int .i64 a] (.tup [.sl .ext (itEs x.l), .int .i64 0]) []) := by
  rcases hse : sealV x.l a with ⟨S, h⟩
  rw [hse] at hSe
  refine ⟨S, h, hSe, fun hh => ?_⟩
  subst hh
  obtain ⟨q1, q2, q3⟩ := seal_parts hse hl3 hws hpl
  have h2 := av_open S a q1 q2 q3
  rw [seal_open hse] at h2
  exact h2
 have hQ : ∃ q f, AP Tryd.prog 26 [itD x] (.tup [.agg (prC q), .int .i64 f]) [] /\ ∃ Z g2, AP Tryd.prog 25 [.agg (prC q)] (.tup [itD Z, .int .i64 g2]) [] /\ (f = 0 -> g2 = 0 /\ Z = x) := by
  rcases hrx : readP x with ⟨q, f⟩
  rw [hrx] at hR hV
  rcases hwq : writeP q with ⟨Z, g2⟩
  dsimp only at hV
  rw [hwq] at hV
  refine ⟨q, f, hR, Z, g2, hV, fun hf => ?_⟩
  subst hf
  have := hrw q hrx
  rw [hwq] at this
  injection this with h1 h2
  exact ⟨h2, h1⟩
 clear hW hR hV hSe hrw hwf hlim hqf
 obtain ⟨Y, e, hW, hR1⟩ := hY
 obtain ⟨S, h, hSe, hO⟩ := hSO
 obtain ⟨qv, f, hR, Z, g2, hV, hZ⟩ := hQ
 obtain ⟨fl, sum, ⟨di, dn, ds, dh, dd⟩, ⟨ri, rn, rs, rh, rd⟩, ⟨xi, xn, xs, xh, xd⟩, t, q, life⟩ := p
 obtain ⟨qfl, qsum, ⟨qdi, qdn, qds, qdh, qdd⟩, ⟨qri, qrn, qrs, qrh, qrd⟩, ⟨qxi, qxn, qxs, qxh, qxd⟩, qt, qq, qlife⟩ := qv
 by_cases he : e = 0 <;> by_cases hf : f = 0 <;> by_cases hh : h = 0
 ·subst he hf hh
  obtain ⟨rfl, rfl⟩ := hZ rfl
  replace hR1 := hR1 rfl
  replace hO := hO rfl
  obtain ⟨yk, yn, yb, yl⟩ := Y
  obtain ⟨sk, sn, sb, sl⟩ := S
  obtain ⟨k, n, b, l⟩ := Z
  exact pb_yyy (hA := hA) (hG := hG) (hH := hH) (t0 := t0) (hW := hW) (hR1 := hR1) (hP := hSelf) (hR := hR) (hV := hV) (hS := hXX) (hSe := hSe) (hO := hO) (hL := hL) (hM := hMM)
 ·subst he hf
  have th : (h != 0) = true := by simpa using hh
  obtain ⟨rfl, rfl⟩ := hZ rfl
  replace hR1 := hR1 rfl
  obtain ⟨yk, yn, yb, yl⟩ := Y
  obtain ⟨sk, sn, sb, sl⟩ := S
  obtain ⟨k, n, b, l⟩ := Z
  exact pb_yyn (hA := hA) (hG := hG) (hH := hH) (t0 := t0) (hW := hW) (hR1 := hR1) (hP := hSelf) (hR := hR) (hV := hV) (hS := hXX) (hSe := hSe) (th := th)
 ·subst he hh
  have tf : (f == 0) = false := by simpa using hf
  replace hR1 := hR1 rfl
  replace hO := hO rfl
  obtain ⟨yk, yn, yb, yl⟩ := Y
  obtain ⟨sk, sn, sb, sl⟩ := S
  obtain ⟨zk, zn, zb, zl⟩ := Z
  obtain ⟨k, n, b, l⟩ := x
  exact pb_yny (hA := hA) (hG := hG) (hH := hH) (t0 := t0) (hW := hW) (hR1 := hR1) (hP := hSelf) (hR := hR) (tf := tf) (hV := hV) (hSe := hSe) (hO := hO) (hL := hL) (hM := hMM)
 ·subst he
  have tf : (f == 0) = false := by simpa using hf
  have th : (h != 0) = true := by simpa using hh
  replace hR1 := hR1 rfl
  obtain ⟨yk, yn, yb, yl⟩ := Y
  obtain ⟨sk, sn, sb, sl⟩ := S
  obtain ⟨zk, zn, zb, zl⟩ := Z
  obtain ⟨k, n, b, l⟩ := x
  exact pb_ynn (hA := hA) (hG := hG) (hH := hH) (t0 := t0) (hW := hW) (hR1 := hR1) (hP := hSelf) (hR := hR) (tf := tf) (hV := hV) (hSe := hSe) (th := th)
 ·subst hf hh
  have te : (e == 0) = false := by simpa using he
  obtain ⟨rfl, rfl⟩ := hZ rfl
  replace hO := hO rfl
  obtain ⟨yk, yn, yb, yl⟩ := Y
  obtain ⟨sk, sn, sb, sl⟩ := S
  obtain ⟨k, n, b, l⟩ := Z
  exact pb_nyy (hA := hA) (hG := hG) (hH := hH) (t0 := t0) (hW := hW) (te := te) (hR := hR) (hV := hV) (hS := hXX) (hSe := hSe) (hO := hO) (hL := hL) (hM := hMM)
 ·subst hf
  have te : (e == 0) = false := by simpa using he
  have th : (h != 0) = true := by simpa using hh
  obtain ⟨rfl, rfl⟩ := hZ rfl
  obtain ⟨yk, yn, yb, yl⟩ := Y
  obtain ⟨sk, sn, sb, sl⟩ := S
  obtain ⟨k, n, b, l⟩ := Z
  exact pb_nyn (hA := hA) (hG := hG) (hH := hH) (t0 := t0) (hW := hW) (te := te) (hR := hR) (hV := hV) (hS := hXX) (hSe := hSe) (th := th)
 ·subst hh
  have te : (e == 0) = false := by simpa using he
  have tf : (f == 0) = false := by simpa using hf
  replace hO := hO rfl
  obtain ⟨yk, yn, yb, yl⟩ := Y
  obtain ⟨sk, sn, sb, sl⟩ := S
  obtain ⟨zk, zn, zb, zl⟩ := Z
  obtain ⟨k, n, b, l⟩ := x
  exact pb_nny (hA := hA) (hG := hG) (hH := hH) (t0 := t0) (hW := hW) (te := te) (hR := hR) (tf := tf) (hV := hV) (hSe := hSe) (hO := hO) (hL := hL) (hM := hMM)
 ·have te : (e == 0) = false := by simpa using he
  have tf : (f == 0) = false := by simpa using hf
  have th : (h != 0) = true := by simpa using hh
  obtain ⟨yk, yn, yb, yl⟩ := Y
  obtain ⟨sk, sn, sb, sl⟩ := S
  obtain ⟨zk, zn, zb, zl⟩ := Z
  obtain ⟨k, n, b, l⟩ := x
  exact pb_nnn (hA := hA) (hG := hG) (hH := hH) (t0 := t0) (hW := hW) (te := te) (hR := hR) (tf := tf) (hV := hV) (hSe := hSe) (th := th)
end Go.Proofs.YtfkmicjlaedlkaaDoor
end
section
open Go.RowKit Go.Pl
namespace Go.Pl
def OpensF {α : Type} (P : Program) (fs : Array Field) (i o : Nat) (R : Rep α) : Prop :=
 ∀ (H : Type) (enc : TypeId × Value -> H) (W : World) (spare : Nat -> Bool) (held : Bool) (n : Nat) (cs : List Value) (xs : List (DataW H × List MemPlace)), cs.length = o + R.n -> xs.length = fs.size ->
  (∀ (j : Nat) (f : Field), fs[j]? = some f -> DataW.trod enc P W 0 spare held n f.type ((cs.drop f.offset).take (P.cellsOf f.type)) = xs[j]?) -> ∃ x, R.ok W (· < W.heap.size) (cs.drop o) x
variable {P : Program} {t : TypeId} {fs : Array Field}
theorem opensF_at {α : Type} {R : Rep α} {i o : Nat} {f : Field} (hf : fs[i]? = some f) (ho : f.offset = o) (hc : P.cellsOf f.type = R.n) (h : Opens P f.type R) {H : Type} {enc : TypeId × Value -> H} {W : World} {spare : Nat -> Bool} {held : Bool} {n : Nat} {cs : List Value} {xs : List (DataW H × List MemPlace)} (hl : xs.length = fs.size)
  (hg : ∀ (j : Nat) (f : Field), fs[j]? = some f -> DataW.trod enc P W 0 spare held n f.type ((cs.drop f.offset).take (P.cellsOf f.type)) = xs[j]?) : ∃ x, R.ok W (· < W.heap.size) ((cs.drop o).take R.n) x := by
 have e := hg i f hf
 rw [ho, hc] at e
 have hi : i < xs.length := by
  rw [hl]
  exact (Array.getElem?_eq_some_iff.1 hf).1
 exact h H enc W spare held n _ _ (e.trans (List.getElem?_eq_getElem hi))
theorem opensF_one {α : Type} {R : Rep α} {i o : Nat} {f : Field} (hf : fs[i]? = some f) (ho : f.offset = o) (hc : P.cellsOf f.type = R.n) (h : Opens P f.type R) : OpensF P fs i o R := by
 intro H enc W spare held n cs xs hcl hl hg
 obtain ⟨x, hx⟩ := opensF_at hf ho hc h hl hg
 rw [List.take_of_length_le (by rw [List.length_drop]; omega)] at hx
 exact ⟨x, hx⟩
theorem opensF_cons {α β : Type} {R : Rep α} {R' : Rep β} {i o : Nat} {f : Field} (hf : fs[i]? = some f) (ho : f.offset = o) (hc : P.cellsOf f.type = R.n) (h : Opens P f.type R) (h' : OpensF P fs (i + 1) (o + R.n) R') : OpensF P fs i o (R.prod R') := by
 intro H enc W spare held n cs xs hcl hl hg
 obtain ⟨x, hx⟩ := opensF_at hf ho hc h hl hg
 have hn : (R.prod R').n = R.n + R'.n := rfl
 obtain ⟨x', hx'⟩ := h' H enc W spare held n cs xs (by rw [hn] at hcl; omega) hl hg
 refine ⟨(x, x'), (cs.drop o).take R.n, (cs.drop o).drop R.n, (List.take_append_drop _ _).symm, hx, ?_⟩
 rw [List.drop_drop]
 exact hx'
theorem opens_struct {α : Type} {R : Rep α} (hs : P.underlying t = some (.struct fs)) (hc : P.cellsOf t = R.n) (h : OpensF P fs 0 0 R) : Opens P t R := by
 intro H enc W spare held fuel cs y hy
 obtain ⟨xs, n, _, _, hl, hxl, hg⟩ := DataW.trod_struct hs hy
 exact h H enc W spare held n cs xs (by omega) hxl hg
end Go.Pl
end
section
open Go.RowKit Go.Pl Go.Av
namespace Go.Proofs.YtfkmicjlaedlkaaDoor
set_option maxHeartbeats 4000000
abbrev RPr : Rep (Nat × Int × XE × XE × (XE × Nat × Nat) × Nat) := Rep.u64.prod (Rep.i64.prod (RE.prod (RE.prod (Go.Pl.RI.prod Rep.u64))))
theorem openPr : Opens Tryd.prog 55 RPr :=
 opens_struct Tryd.underlying55 (by kernel_rfl) (opensF_cons rfl rfl (by kernel_rfl) (opens_u64 Tryd.underlying22) (opensF_cons rfl rfl (by kernel_rfl) (opens_i64 Tryd.underlying3)
  (opensF_cons rfl rfl (by kernel_rfl) openE (opensF_cons rfl rfl (by kernel_rfl) openE (opensF_cons rfl rfl (by kernel_rfl) openI (opensF_one rfl rfl (by kernel_rfl) (opens_u64 Tryd.underlying22)))))))
abbrev XPr := Nat × Int × XE × XE × (XE × Nat × Nat) × Nat
def XPr.v (x : XPr) : PriV := ⟨x.1, x.2.1, x.2.2.1.v, x.2.2.2.1.v, x.2.2.2.2.1.1.v, x.2.2.2.2.1.2.1, x.2.2.2.2.1.2.2, x.2.2.2.2.2⟩
theorem pr_V [Known] {W : World} {cs : List Value} {x : XPr} (h : RPr.ok W (· < W.heap.size) cs x) : V W (g0 W) [] (.agg (prC x.v)) (.agg cs.toArray) := by
 obtain ⟨fl, sum, ⟨di, dn, ds, dh, dd⟩, ⟨ri, rn, rs, rh, rd⟩, ⟨⟨xi, xn, xs, xh, xd⟩, t, q⟩, life⟩ := x
 have te := ToE.u64.prod (ToE.i64.prod (toE_eid.prod (toE_eid.prod ((toE_eid.prod (ToE.u64.prod ToE.u64)).prod ToE.u64))))
 exact ToE.agg te (l := [.int .u64 (fl : Int), .int .i64 sum, .bool di, .int .u64 (dn : Int), .int .u64 (ds : Int), .str dh, .str dd, .bool ri, .int .u64 (rn : Int), .int .u64 (rs : Int), .str rh, .str rd, .bool xi, .int .u64 (xn : Int), .int .u64 (xs : Int), .str xh, .str xd, .int .u64 (t : Int), .int .u64 (q : Int), .int .u64 (life : Int)]) rfl h
theorem pr_fl {W : World} {cs : List Value} {x : XPr} (h : RPr.ok W (· < W.heap.size) cs x) : x.v.fl < 18446744073709551616 := by
 obtain ⟨fl, r⟩ := x
 obtain ⟨_, _, _, ⟨_, h1⟩, _⟩ := h
 exact h1
end Go.Proofs.YtfkmicjlaedlkaaDoor
end
section
open Go.RowKit Go.Pl Go.Av Go.Lib
namespace Go.Proofs.YtfkmicjlaedlkaaDoor
theorem dcsl_ints (k : IntKind) : ∀ zs : List Int, dcsl (zs.map fun z => .lit (.int k z)) = zs.map fun z => Value.int k z
 | [] => rfl
 | z :: zs => by rw [List.map_cons, List.map_cons, dcsl, dcsl_ints k zs]; rfl
theorem cells_at {P : Program} {W : World} {n : String} {g : Nat} {t : TypeId} {d : DataW Unit} (hg : P.globalNamed n = some g) (ht : (P.globals[g]?).map (·.type) = some t) (h : VarReads P W n d)
  (key : ∀ (fuel : Nat) (cs : List Value) (p : List MemPlace), DataW.trod (fun _ => ()) P W 0 (fun _ => true) false fuel t cs = some (d, p) -> ∀ (j : Nat) (v : Value), (dcs d)[j]? = some v -> cs[j]? = some v) :
  ∀ (j : Nat) (v : Value), (dcs d)[j]? = some v -> (g0 W).C g j /\ W.cell? ⟨g, j, none⟩ = some v := by
 obtain ⟨g', t', cs, fuel, p, h1, h2, h3, h4⟩ := h
 obtain rfl := Option.some.inj (hg.symm.trans h1)
 obtain rfl := Option.some.inj (ht.symm.trans h2)
 intro j v hv
 have hc := key fuel cs.toList p h4 j v hv
 have hcell : W.cell? ⟨g, j, none⟩ = some v := by
  rw [World.var?_cell hg h3 j, <- Array.getElem?_toList]; exact hc
 exact ⟨World.block_lt_of_cell? W _ hcell, hcell⟩
theorem ints_at {P : Program} {W : World} {t e : TypeId} {n : Nat} {k : IntKind} {d : DataW Unit} (zs : List Int) (hd : d = tabData k zs) (ht : P.underlying t = some (.array n e)) (he : P.underlying e = some (.int k)) (hce : P.cellsOf e = 1) (hct : P.cellsOf t = n) :
  ∀ (fuel : Nat) (cs : List Value) (p : List MemPlace), DataW.trod (fun _ => ()) P W 0 (fun _ => true) false fuel t cs = some (d, p) -> ∀ (j : Nat) (v : Value), (dcs d)[j]? = some v -> cs[j]? = some v := by
 subst hd
 intro fuel cs p h j v hv
 rw [cells_of_tab ht he hce hct h]
 rw [tabData, dcs, dcsl_ints] at hv
 exact hv
theorem rows_at {P : Program} {W : World} {t e : TypeId} {n : Nat} {k : IntKind} {d : DataW Unit} {fs : Array Field} (rows : List (List Int)) (hd : d = .agg (rows.map fun r => .agg (r.map fun z => .lit (.int k z)))) (hn : rows.length = n) (ht : P.underlying t = some (.array n e)) (he : P.underlying e = some (.struct fs))
  (hf : ∀ (i : Nat) (f : Field), fs[i]? = some f -> P.underlying f.type = some (.int k) /\ f.offset = i /\ P.cellsOf f.type = 1) (hce : P.cellsOf e = fs.size) :
  ∀ (fuel : Nat) (cs : List Value) (p : List MemPlace), DataW.trod (fun _ => ()) P W 0 (fun _ => true) false fuel t cs = some (d, p) -> ∀ (j : Nat) (v : Value), (dcs d)[j]? = some v -> cs[j]? = some v := by
 subst hd
 intro fuel cs p h j v hv
 have key : ∀ i, i <= n -> cs.take (i * fs.size) = dcsl ((rows.take i).map fun r => .agg (r.map fun z => .lit (.int k z))) := by
  intro i
  induction i with
  | zero => intro _; rw [Nat.zero_mul, List.take_zero, List.take_zero]; rfl
  | succ i ih =>
   intro hi
   obtain ⟨fuel', d', q, hdi, he'⟩ := array_elem ht h i (by omega)
   rw [List.getElem?_map, List.getElem?_eq_getElem (by omega : i < rows.length)] at hdi
   simp only [Option.map_some, Option.some.injEq] at hdi
   subst hdi
   rw [hce] at he'
   have hcs := ints_of_struct he hf hce he'
   rw [Nat.succ_mul, List.take_add, ih (by omega), hcs, List.take_succ_eq_append_getElem (by omega : i < rows.length), List.map_append]
   have app : ∀ (a b : List (DataW Unit)), dcsl (a ++ b) = dcsl a ++ dcsl b := fun a b => by
    induction a with
    | nil => rfl
    | cons x a ih => rw [List.cons_append, dcsl, dcsl, ih, List.append_assoc]
   rw [app, List.map_cons, List.map_nil, dcsl, dcs, dcsl_ints]
   simp [dcsl]
 have h2 := key n (Nat.le_refl _)
 rw [<- hn, List.take_length] at h2
 rw [dcs, <- h2] at hv
 rw [List.getElem?_take] at hv
 split at hv
 ·exact hv
 ·cases hv
abbrev knownU8 : Known := ⟨[0, 1]⟩
theorem knownU8_ok : @KnownU8 knownU8 := @KnownU8.mk knownU8 (List.mem_cons_self ..) (List.mem_cons_of_mem _ (List.mem_cons_self ..))
def firstZ : List Int := Pinned.utf8FirstZ.map Int.ofNat
def acceptZ : List (List Int) := [[128, 191], [160, 191], [128, 159], [144, 191], [128, 143], [0, 0], [0, 0], [0, 0], [0, 0], [0, 0], [0, 0], [0, 0], [0, 0], [0, 0], [0, 0], [0, 0]]
theorem gls_u8 {W : World} {laid : List (String × DataW Unit)} (h1 : ("unicode/utf8.first", Rows.laid_unicode_utf8_first) ∈ laid) (h2 : ("unicode/utf8.acceptRanges", Rows.laid_unicode_utf8_acceptRanges) ∈ laid) (h : laidMet Tryd.prog laid W) : @Gls knownU8 (g0 W).C W := by
 have r1 := laidMet.reads h h1
 have r2 := laidMet.reads h h2
 have c1 := cells_at (P := Tryd.prog) (g := 0) (t := 183) (by kernel_rfl) (by kernel_rfl) r1 (ints_at firstZ (by kernel_rfl) (n := 256) (by kernel_rfl) Tryd.underlying5 (by kernel_rfl) (by kernel_rfl))
 have c2 := cells_at (P := Tryd.prog) (g := 1) (t := 186) (by kernel_rfl) (by kernel_rfl) r2 (rows_at acceptZ (by kernel_rfl) (n := 16) rfl Tryd.underlying186 Tryd.underlying185 (fun i f hf => by
  match i, hf with
  | 0, hf => simp at hf; subst hf; exact ⟨Tryd.underlying5, rfl, by kernel_rfl⟩
  | 1, hf => simp at hf; subst hf; exact ⟨Tryd.underlying5, rfl, by kernel_rfl⟩
  | i + 2, hf => simp at hf) (by kernel_rfl))
 refine ⟨fun k cs hk => ?_, fun k t hk => ?_⟩
 ·obtain ⟨hk, hm⟩ := hk
  simp only [tabs, List.mem_cons, List.not_mem_nil, or_false, Prod.mk.injEq] at hm
  have hk : k ∈ [0, 1] := hk
  simp only [List.mem_cons, List.not_mem_nil, or_false] at hk
  clear r1 r2 h1 h2 h
  rcases hk with rfl | rfl
  all_goals repeat' (refine Or.elim hm (fun hm => ?_) (fun hm => ?_))
  all_goals first
   | (obtain ⟨h, rfl⟩ := hm; exact c1)
   | (obtain ⟨h, rfl⟩ := hm; exact c2)
   | (obtain ⟨h, _⟩ := hm; exact absurd h (by decide))
 ·obtain ⟨hk, hm⟩ := hk
  have hk : k ∈ [0, 1] := hk
  simp only [List.mem_cons, List.not_mem_nil, or_false] at hk
  simp only [tabI, List.mem_cons, List.not_mem_nil, or_false, Prod.mk.injEq] at hm
  all_goals omega
end Go.Proofs.YtfkmicjlaedlkaaDoor
end
section
open Go.RowKit Go.Pl Go.Av
namespace Go.Proofs.YtfkmicjlaedlkaaDoor
def viaR {α β : Type} (R : Rep α) (f : β -> α) : Rep β where
 n := R.n
 ok := fun w S cs x => R.ok w S cs (f x)
 len := R.len
 one := R.one
 frame := R.frame
 mono := R.mono
 lt := R.lt
def none4 : Rep It where
 n := 4
 ok := fun _ _ _ _ => False
 len := fun h => h.elim
 one := fun h => h.elim
 frame := fun _ h => h
 mono := fun _ h => h
 lt := fun h => h
def RI : Nat -> {R : Rep It // R.n = 4}
 | 0 => ⟨none4, rfl⟩
 | m + 1 => ⟨viaR (Rep.i64.prod (Rep.u64.prod ((Rep.slice Rep.byte (by decide)).prod (Rep.slice (RI m).1 (by rw [(RI m).2]; decide))))) fun x => (x.k, x.n, x.b, x.l), rfl⟩
theorem toE_item : ∀ m : Nat, ToE (RI m).1 itE
 | 0 => ⟨fun _ _ _ _ _ _ h => h.elim⟩
 | m + 1 => ⟨fun w S C cs x hC h => by
  have h0 := ((ToE.i64.prod (ToE.u64.prod ((ToE.byte.slice (by decide)).prod ((toE_item m).slice (by rw [(RI m).2]; decide))))).cells w S C cs (x.k, x.n, x.b, x.l) hC h)
  obtain ⟨k, n, b, l⟩ := x
  have e : (itE (.mk k n b l)).cells = [.int .i64 k, .int .u64 (n : Int), .sl (b.map E.byte), .sl (l.map itE)] := by rw [<- itEs_map]; rfl
  rw [e]
  exact h0⟩
theorem run_all {α : Type} {R : Rep α} {w : World} {S : Nat -> Prop} : ∀ {l : List α} {cs : List Value}, Run R w S cs l -> ∀ x ∈ l, ∃ cs', R.ok w S cs' x
 | [], _, _, x, hx => nomatch hx
 | y :: l, cs, h, x, hx => by
  obtain ⟨c1, c2, _, h1, h2⟩ := h
  rcases List.mem_cons.1 hx with rfl | hx
  ·exact ⟨c1, h1⟩
  ·exact run_all h2 x hx
theorem nIs_of : ∀ {l : List It}, (∀ x ∈ l, nI x) -> nIs l
 | [], _ => trivial
 | x :: l, h => ⟨h x (List.mem_cons_self ..), nIs_of fun y hy => h y (List.mem_cons_of_mem _ hy)⟩
theorem item_nI : ∀ (m : Nat) {w : World} {S : Nat -> Prop} {cs : List Value} {x : It}, (RI m).1.ok w S cs x -> nI x
 | 0, _, _, _, _, h => h.elim
 | m + 1, w, S, cs, x, h => by
  obtain ⟨k, n, b, l⟩ := x
  obtain ⟨_, _, _, _, _, _, _, ⟨_, hn⟩, _, _, _, _, v, _, A, cap, _, _, _, cs', hr, _⟩ := h
  exact ⟨hn, nIs_of fun y hy => let ⟨c, hc⟩ := run_all hr y hy; item_nI m hc⟩
variable {P : Program} {t : TypeId}
theorem opens_sliceF {α : Type} {R : Rep α} {e : TypeId} (hR : 0 < R.n) (ht : P.underlying t = some (.slice e)) (hc : P.cellsOf e = R.n) {H : Type} {enc : TypeId × Value -> H} {W : World} {spare : Nat -> Bool} {held : Bool} {fuel : Nat} {cs : List Value} {y : DataW H × List MemPlace}
  (he : ∀ (f : Nat) (cs : List Value) (y : DataW H × List MemPlace), f < fuel -> DataW.trod enc P W 0 spare held f e cs = some y -> ∃ x, R.ok W (· < W.heap.size) cs x) (h : DataW.trod enc P W 0 spare held fuel t cs = some y) : ∃ x, (Rep.slice R hR).ok W (· < W.heap.size) cs x := by
 rcases DataW.trod_slice ht h with ⟨rfl, _⟩ | ⟨a, len, cap, elems, rest, n, hn, rfl, _, _, hl, hm, hlen, hi, _, _⟩
 ·exact ⟨[], _, rfl, Sl.nil _ _ _⟩
 ·rw [hc] at hi
  have key : ∀ k, k <= len -> ∃ (l : List α) (cs : List Value), l.length = k /\ Run R W (· < W.heap.size) cs l /\ ∀ j, j < cs.length -> W.cell? (a.add j) = cs[j]? := by
   intro k
   induction k with
   | zero => intro _; exact ⟨[], [], rfl, rfl, fun j hj => by simp at hj⟩
   | succ k ih =>
    intro hk
    obtain ⟨l, cs, hll, hr, hcc⟩ := ih (by omega)
    have hik := hi k (by omega)
    rw [List.getElem?_eq_getElem (by omega)] at hik
    obtain ⟨cs', hcs', ht'⟩ := Option.bind_eq_some_iff.1 hik
    obtain ⟨x, hx⟩ := he n cs' _ (by omega) ht'
    obtain ⟨_, hcl, hat⟩ := World.cells?_some hcs'
    refine ⟨l ++ [x], cs ++ cs', by simp [hll], hr.append (Run.single hx), fun j hj => ?_⟩
    have hlen := hr.length
    rw [hll] at hlen
    rcases Nat.lt_or_ge j cs.length with h1 | h1
    ·rw [List.getElem?_append_left h1]; exact hcc j h1
    ·rw [List.getElem?_append_right h1]
     have h2 : j - cs.length < R.n := by rw [List.length_append, hcl] at hj; omega
     have := hat (j - cs.length) h2
     rw [Go.Deep.add_add] at this
     rw [<- this]
     congr 2
     omega
  obtain ⟨l, cs, hll, hr, hcc⟩ := key len (Nat.le_refl _)
  subst hll
  refine ⟨l, _, rfl, some a, cap, rfl, hl, hm, cs, hr, fun hne => ?_⟩
  have hlen := hr.length
  have hpos : 0 < cs.length := by rw [hlen]; exact Nat.mul_pos (List.length_pos_iff.2 hne) hR
  obtain ⟨b, off, spot⟩ := a
  have h0 := (hcc 0 hpos).trans (List.getElem?_eq_getElem hpos)
  have hspot : spot = none := by simpa [Addr.add] using World.cell?_spot h0
  subst hspot
  refine ⟨b, off, rfl, World.block_lt_of_cell? W _ (by simpa [Addr.add] using h0), fun j hj => ?_⟩
  rw [<- hcc j hj]
  congr 1
  unfold Addr.add; split <;> simp_all
theorem opens_item {fs : Array Field} {f0 f1 f2 f3 : Field} (hs : P.underlying t = some (.struct fs)) (hfs : fs = #[f0, f1, f2, f3]) (hc : P.cellsOf t = 4)
  (h00 : f0.offset = 0) (h01 : f1.offset = 1) (h02 : f2.offset = 2) (h03 : f3.offset = 3) (hc0 : P.cellsOf f0.type = 1) (hc1 : P.cellsOf f1.type = 1) (hc2 : P.cellsOf f2.type = 1) (hc3 : P.cellsOf f3.type = 1)
  (h0 : Opens P f0.type Rep.i64) (h1 : Opens P f1.type Rep.u64) (h2 : Opens P f2.type (Rep.slice Rep.byte (by decide))) (h3 : P.underlying f3.type = some (.slice t))
  {H : Type} {enc : TypeId × Value -> H} {W : World} {spare : Nat -> Bool} {held : Bool} : ∀ (fuel : Nat) (cs : List Value) (y : DataW H × List MemPlace), DataW.trod enc P W 0 spare held fuel t cs = some y -> ∀ j, fuel <= j -> ∃ x, (RI j).1.ok W (· < W.heap.size) cs x := by
 intro fuel
 induction fuel using Nat.strongRecOn with
 | _ fuel ih =>
  intro cs y h j hj
  obtain ⟨xs, n, hn, _, hl, hxl, hg⟩ := DataW.trod_struct hs h
  subst hfs
  obtain ⟨j, rfl⟩ : ∃ i, j = i + 1 := ⟨j - 1, by omega⟩
  have e0 := hg 0 f0 rfl
  have e1 := hg 1 f1 rfl
  have e2 := hg 2 f2 rfl
  have e3 := hg 3 f3 rfl
  rw [hc] at hl
  match cs, hl with
  | [v0, v1, v2, v3], _ =>
  rw [h00, hc0] at e0
  rw [h01, hc1] at e1
  rw [h02, hc2] at e2
  rw [h03, hc3] at e3
  have hn4 : xs.length = 4 := hxl
  obtain ⟨k, hk⟩ := h0 H enc W spare held n _ _ (e0.trans (List.getElem?_eq_getElem (by omega)))
  obtain ⟨m, hm⟩ := h1 H enc W spare held n _ _ (e1.trans (List.getElem?_eq_getElem (by omega)))
  obtain ⟨b, hb⟩ := h2 H enc W spare held n _ _ (e2.trans (List.getElem?_eq_getElem (by omega)))
  obtain ⟨l, hll⟩ := opens_sliceF (R := (RI j).1) (by rw [(RI j).2]; decide) h3 (by rw [hc, (RI j).2]) (fun f cs y hf hy => ih f (by omega) cs y hy j (by omega)) (e3.trans (List.getElem?_eq_getElem (by omega)))
  exact ⟨.mk k m b l, [v0], [v1, v2, v3], rfl, hk, [v1], [v2, v3], rfl, hm, [v2], [v3], rfl, hb, hll⟩
end Go.Proofs.YtfkmicjlaedlkaaDoor
end
section
open Go.RowKit Go.Pl Go.Av
namespace Go.Proofs.YtfkmicjlaedlkaaDoor
set_option maxHeartbeats 4000000
end Go.Proofs.YtfkmicjlaedlkaaDoor
end
section
open Go.RowKit Go.Pl Go.Av
namespace Go.Proofs.YtfkmicjlaedlkaaDoor
theorem item_V {W : World} {cs : List Value} {x : It} {m : Nat} (h : (RI m).1.ok W (· < W.heap.size) cs x) : V W (g0 W) [] (itD x) (.agg cs.toArray) := by
 obtain ⟨k, n, b, l⟩ := x
 have h1 := ToE.agg (toE_item m) (l := [.int .i64 k, .int .u64 (n : Int), .sl (b.map E.byte), .sl (itEs l)]) (hf := rfl) h
 exact h1
end Go.Proofs.YtfkmicjlaedlkaaDoor
end
section
open Go.RowKit Go.Pl Go.Av
namespace Go.Proofs.YtfkmicjlaedlkaaDoor
theorem primaryBack_walk (c0 c1 : List Value) (i2 : Int) (x0 : XPr) (x1 : It) (W : World) (h0 : RPr.ok W (· < W.heap.size) c0 x0) (h1 : ∃ m, (RI m).1.ok W (· < W.heap.size) c1 x1) (h2 : -9223372036854775808 <= i2 /\ i2 <= 9223372036854775807) (hl : laidMet Tryd.prog Rows.primaryBackRow.laid W) :
  Calls Tryd.prog 5 #[.agg c0.toArray, .agg ⟨c1⟩, .int .i64 i2] W fun e w' => e = .returned (.bool true) /\ Below W.heap.size W w' := by
 obtain ⟨m, hx⟩ := h1
 have hg := gls_u8 (laid := Rows.primaryBackRow.laid) (by unfold Rows.primaryBackRow; repeat (first | exact List.mem_cons_self .. | apply List.mem_cons_of_mem)) (by unfold Rows.primaryBackRow; repeat (first | exact List.mem_cons_self .. | apply List.mem_cons_of_mem)) hl
 have h := @av_primaryBack knownU8 knownU8_ok x0.v x1 i2 (pr_fl h0) (item_nI m hx)
 refine @topG knownU8 Tryd.prog 5 _ (@AC.mono knownU8 _ _ _ _ _ _ _ h fun r b t h => h.1) W [.agg c0.toArray, .agg ⟨c1⟩, .int .i64 i2] hg rfl ?_
 intro j d v hd hv
 match j, hd, hv with
 | 0, hd, hv => cases hd; cases hv; exact @pr_V knownU8 _ _ _ h0
 | 1, hd, hv => cases hd; cases hv; exact item_V hx
 | 2, hd, hv => cases hd; cases hv; exact .int _ _
 | j + 3, hd, hv => cases hd
end Go.Proofs.YtfkmicjlaedlkaaDoor
end

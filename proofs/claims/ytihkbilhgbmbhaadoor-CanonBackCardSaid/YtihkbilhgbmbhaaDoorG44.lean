/- Package canon: CanonBack: the walk, joined. -/
import Derived.Test.YtihkbilhgbmbhaaDoorG35
import Derived.Test.YtihkbilhgbmbhaaDoorG36
import Derived.Test.YtihkbilhgbmbhaaDoorG37
import Derived.Test.YtihkbilhgbmbhaaDoorG38
import Derived.Test.YtihkbilhgbmbhaaDoorG39
import Derived.Test.YtihkbilhgbmbhaaDoorG40
import Derived.Test.YtihkbilhgbmbhaaDoorG41
import Derived.Test.YtihkbilhgbmbhaaDoorG42
import Derived.Test.YtihkbilhgbmbhaaDoorG43
import Derived.Test.YtihkbilhgbmbhaaDoorG01
import Derived.Test.YtihkbilhgbmbhaaDoorG07
import Derived.Test.YtihkbilhgbmbhaaDoorProg
import Derived.Lib.LaidU8
import Derived.Test.YtihkbilhgbmbhaaDoorG10
import Derived.Test.YtihkbilhgbmbhaaDoorG34
import Derived.Test.YtihkbilhgbmbhaaDoorG12
import Derived.Test.YtihkbilhgbmbhaaDoorG23
set_option linter.unusedVariables false
set_option linter.unusedSimpArgs false
section
open Go.RowKit Go.Pl Go.Av
namespace Go.Proofs.YtihkbilhgbmbhaaDoor
set_option maxHeartbeats 4000000
theorem rd_facts {z : It} (hw : wfI z) (hb : ∀ y ∈ z.l, y.b.length <= 3000) : (readB z).1.fl < 18446744073709551616 /\ (readB z).1.data.length <= 3000 := by
 have hsub := open_sub z 3
 have hws : wfs z.l := by obtain ⟨k, n, b, l⟩ := z; exact hw.2.2.2
 unfold readB
 generalize openV z 3 = o at *
 have h0 : bk0.fl < 18446744073709551616 /\ bk0.data.length <= 3000 := by decide
 unfold readX
 split
 ·exact h0
 ·split
  ·rename_i heq
   rw [heq] at hsub
   split
   ·exact h0
   ·split
    ·exact h0
    ·split
     ·exact h0
     ·exact ⟨(wfs_mem hws _ (hsub _ (List.mem_cons_of_mem _ (List.mem_cons_of_mem _ (List.mem_cons_self ..))))).1, hb _ (hsub _ (List.mem_cons_of_mem _ (List.mem_cons_of_mem _ (List.mem_cons_of_mem _ (List.mem_cons_of_mem _ (List.mem_cons_self ..))))))⟩
  ·exact h0
theorem of_len {kind number : Nat} {sum : Int} {x : It} {e : Int} (hx : (putI x).length <= 100000) : (ofV kind number sum x e).1.data.length <= 100000 := by
 rcases of_err (kind := kind) (number := number) (sum := sum) (x := x) (e := e) with h | h
 ·obtain ⟨_, _, _, hp⟩ := of_data (p := (ofV kind number sum x e).1) (Prod.ext rfl h)
  rw [hp]; exact hx
 ·rw [h]; decide
theorem prev_len (x : EidV) : (putI (if eRight x then itemE x else .mk 0 0 [] [])).length <= 100000 := by
 cases h : eRight x with
 | false =>
  show (putI (.mk 0 0 [] [])).length <= 100000
  decide +kernel
 | true =>
  show (putI (itemE x)).length <= 100000
  unfold itemE
  repeat' split
  ·exact Nat.le_trans (hop_len 1 0) (by decide)
  ·have h0 := put_small 4 0 [] [.mk 0 2 [] [], hopI x.n x.s]
   have h1 := num_len 2
   have h2 := hop_len x.n x.s
   simp only [puts, List.length_append, List.length_nil, Nat.add_zero, Nat.zero_add] at h0
   exact Nat.le_trans h0 (by omega)
  ·have h0 := put_small 4 0 [] [.mk 0 1 [] [], .mk 3 0 (pathE x) []]
   have h1 := num_len 1
   have h2 := put_small 3 0 (pathE x) []
   rename_i hz hi
   have h3 : (pathE x).length <= 100 := by
    have ht := eRight_txt h (by simpa using hz) (by simpa using hi)
    simp only [pathE, List.length_append, List.length_cons, List.length_nil]
    omega
   simp only [puts, List.length_append, List.length_nil, Nat.add_zero, Nat.zero_add] at h0 h2
   exact Nat.le_trans h0 (by omega)
theorem av_canonBack [Known] [KnownU8] (b : BlkV) (z : It) (x : EidV) (n m : Nat) (hfl : b.fl < 18446744073709551616) (hz : nI z) (hn : n < 18446744073709551616) (hm : m < 18446744073709551616) : AP Tryd.prog 9 [.agg (bkC b), itD z, .agg (eC x), .int .u64 (n : Int), .int .u64 (m : Int)] (.bool true) [] := by
 have hA := av_alive7
 have hdl : (b.data.map E.byte).length = b.data.length := List.length_map ..
 have hG := av_great z 1 300 (by omega) (by omega) (by omega)
 have hgp := fun h => great_parts (x := z) h hz
 rcases Nat.lt_or_ge 400 b.data.length with q1 | q1
 ·obtain ⟨zk, zn, zb, zl⟩ := z
  exact cq_e0 b.ty b.num b.fl b.sum b.data zk zn zb (itEs zl) x.i x.n x.s x.h x.d n m 0 hA (decide_eq_true (by omega))
 have t1 : decide (((b.data.map E.byte).length : Int) > 400) = false := decide_eq_false (by omega)
 have hZ0 := fun h => av_bRead z (hgp h).1 (hgp h).2.1 (hgp h).2.2.2 (hgp h).2.2.1
 have hZf := fun h => rd_facts (hgp h).1 (hgp h).2.2.1
 have hV0 := fun h => av_bWrite (readB z).1 (hZf h).1 (hZf h).2
 have hrw := fun c => bk_read_write (x := z) (b := c)
 have hI0 := fun h => av_same z (hgp h).1 z (hgp h).1
 rw [beq_self] at hI0
 clear hgp hZf
 generalize greatI z 1 300 = g at *
 cases t2 : decide (g < 0) with
 | true =>
  obtain ⟨zk, zn, zb, zl⟩ := z
  exact cq_e1 b.ty b.num b.fl b.sum b.data zk zn zb (itEs zl) x.i x.n x.s x.h x.d n m g hA t1 hG t2
 | false =>
 have hg0 : 0 <= g := by have := of_decide_eq_false t2; omega
 have hZ := hZ0 hg0
 have hV := hV0 hg0
 have hI := hI0 hg0
 clear hZ0 hV0 hI0
 cases t3 : decide (IntKind.i64.wrap ((x.h.length : Int) + (x.d.length : Int)) > 300) with
 | true =>
  obtain ⟨zk, zn, zb, zl⟩ := z
  exact cq_e2 b.ty b.num b.fl b.sum b.data zk zn zb (itEs zl) x.i x.n x.s x.h x.d n m g hA t1 hG t2 t3
 | false =>
 have hW := av_bWrite b hfl (by omega)
 have hSb := av_bkSame b b
 rw [bkSame_self] at hSb
 have hRd : ∀ y, writeB b = (y, 0) -> AP Tryd.prog 32 [itD y] (.tup [.agg (bkC b), .int .i64 0]) [] := fun y hy => by
  obtain ⟨h1, h2⟩ := write_great hy hfl (by omega)
  obtain ⟨p1, p2, p3, p4⟩ := great_parts h1 h2
  have h := av_bRead y p1 p2 p4 p3
  obtain ⟨_, _, s1, s2, _⟩ := bk_facts (right_of_write hy).1
  rw [bk_write_read (by rw [IntWalk.i64_in _ (by omega)]; omega) hy] at h
  exact h
 have hP := av_ofPrev 2 0 x
 have hO := av_ofAge 2 1 n hn
 have hH := av_ofHops 2 2 n m hn hm
 have hQ0 := av_prevOf _ (of_len (kind := 6) (number := 2) (sum := 0) (e := if eRight x then 0 else 3) (prev_len x))
 have hK0 := av_ageOf _ (of_len (kind := 7) (number := 2) (sum := 1) (e := 0) (Nat.le_trans (num_len n) (by decide)))
 have hM0 := av_hopsOf _ (of_len (kind := 10) (number := 2) (sum := 2) (e := 0) (Nat.le_trans (hop_len n m) (by decide)))
 have c1 := age_ok hn
 have c2 := hop_ok hn hm
 have hpo := fun p => prev_of (x := x) (p := p)
 have hao := fun p => age_of hn (p := p)
 have hho := fun p => hop_of hn hm (p := p)
 generalize ofV 6 2 0 (if eRight x then itemE x else .mk 0 0 [] []) (if eRight x then 0 else 3) = rp at *
 generalize ofV 7 2 1 (.mk 0 n [] []) 0 = rs at *
 generalize ofV 10 2 2 (hopI n m) 0 = rt at *
 obtain ⟨p, h⟩ := rp
 obtain ⟨s, j⟩ := rs
 obtain ⟨t, o⟩ := rt
 dsimp only at hP hO hH hQ0 hK0 hM0 c1 c2 hpo hao hho
 replace c1 : ((j == 0) == decide ((n : Int) <= 1099511627776)) = true := by rw [c1]; simp
 replace c2 : ((o == 0) == (decide ((n : Int) ≥ 1) && (decide ((n : Int) <= 255) && decide ((m : Int) <= (n : Int))))) = true := by rw [c2]; simp
 have h3 : eqE x x = true := eqE_iff.2 rfl
 have hQy : h = 0 -> AP Tryd.prog 35 [.agg (bkC p)] (.tup [.agg (eC x), .int .i64 0]) [] := fun e => by
  obtain ⟨e1, e2⟩ := hpo p (by rw [e])
  rw [e1, e2] at hQ0
  exact hQ0
 have hKy : j = 0 -> AP Tryd.prog 37 [.agg (bkC s)] (.tup [.int .u64 (n : Int), .int .i64 0]) [] := fun e => by
  obtain ⟨e1, e2⟩ := hao s (by rw [e])
  rw [e1, e2] at hK0
  exact hK0
 have hMy : o = 0 -> AP Tryd.prog 39 [.agg (bkC t)] (.tup [.int .u64 (n : Int), .int .u64 (m : Int), .int .i64 0]) [] := fun e => by
  obtain ⟨e1, e2, e3⟩ := hho t (by rw [e])
  rw [e1, e2, e3] at hM0
  exact hM0
 clear hpo hao hho
 generalize (match askV p 6 != 0 with | true => eidZ | false => (prevV p.data).1) = q at *
 generalize askV p 6 = i at *
 generalize (match askV s 7 != 0 with | true => 0 | false => (ageV s.data).1) = k at *
 generalize askV s 7 = l at *
 generalize (match askV t 10 != 0 with | true => 0 | false => (hopsV t.data).1) = u at *
 generalize (match askV t 10 != 0 with | true => 0 | false => (hopsV t.data).2.1) = v at *
 generalize askV t 10 = a at *
 generalize readB z = rz at *
 obtain ⟨c, f⟩ := rz
 dsimp only at hZ hV hrw
 generalize hwb : writeB b = ry at *
 obtain ⟨y, e⟩ := ry
 generalize hwc : writeB c = rw' at *
 obtain ⟨w, g2⟩ := rw'
 have z0' : ∀ {i : Int}, (i == 0) = true -> i = 0 := fun h => by simpa using h
 have z1' : ∀ {i : Int}, (i != 0) = false -> i = 0 := fun h => by simpa [bne] using h
 cases t4 : (e == 0) with
 | true =>
  have e0 := z0' t4
  subst e0
  have hR := hRd y rfl
  clear hRd hwb
  cases t5 : (f == 0) with
  | true =>
   have f0 := z0' t5
   subst f0
   have hw2 := hrw c rfl
   rw [hwc] at hw2
   simp only [Prod.mk.injEq] at hw2
   obtain ⟨rfl, rfl⟩ := hw2
   have t6 : ((0 : Int) != 0) = false := rfl
   obtain ⟨yk, yn, yb, yl⟩ := y
   obtain ⟨wk, wn, wb, wl⟩ := w
   cases h1 : (h != 0) with
   | false =>
    have hQ := hQy (z1' h1)
    have Q := cq_yyynn_all _ _ _ _ _ _ _ _ _ _ _ _ _ _ _ _ _ _ _ _ _ _ _ _ _ _ _ _ _ _ _ _ _ _ _ _ _ _ _ _ _ _ _ _ _ _ _ _ _ _ _ hA t1 hG t2 t3 hW t4 hR hSb hZ t5 hV t6 hI hP hO hH c1 c2 h1 hQ h3
    cases j1 : (j != 0) with
    | false =>
     have hK := hKy (z1' j1)
     cases o1 : (o != 0) with
     | false =>
      have hM := hMy (z1' o1)
      exact Q.2.2.2 j1 hK o1 hM
     | true =>
      have hM := hM0
      exact Q.2.2.1 j1 hK _ _ _ o1 hM
    | true =>
     have hK := hK0
     cases o1 : (o != 0) with
     | false =>
      have hM := hMy (z1' o1)
      exact Q.2.1 _ _ j1 hK o1 hM
     | true =>
      have hM := hM0
      exact Q.1 _ _ j1 hK _ _ _ o1 hM
   | true =>
    have hQ := hQ0
    have Q := cq_yynnn_all _ _ _ _ _ _ _ _ _ _ _ _ _ _ _ _ _ _ _ _ _ _ _ _ _ _ _ _ _ _ _ _ _ _ _ _ _ _ _ _ _ _ _ _ _ _ _ _ _ _ _ hA t1 hG t2 t3 hW t4 hR hSb hZ t5 hV t6 hI hP hO hH c1 c2 _ _ _ _ _ _ h1 hQ
    cases j1 : (j != 0) with
    | false =>
     have hK := hKy (z1' j1)
     cases o1 : (o != 0) with
     | false =>
      have hM := hMy (z1' o1)
      exact Q.2.2.2 j1 hK o1 hM
     | true =>
      have hM := hM0
      exact Q.2.2.1 j1 hK _ _ _ o1 hM
    | true =>
     have hK := hK0
     cases o1 : (o != 0) with
     | false =>
      have hM := hMy (z1' o1)
      exact Q.2.1 _ _ j1 hK o1 hM
     | true =>
      have hM := hM0
      exact Q.1 _ _ j1 hK _ _ _ o1 hM
  | false =>
   clear hrw
   obtain ⟨yk, yn, yb, yl⟩ := y
   obtain ⟨wk, wn, wb, wl⟩ := w
   obtain ⟨zk, zn, zb, zl⟩ := z
   cases h1 : (h != 0) with
   | false =>
    have hQ := hQy (z1' h1)
    have Q := cq_ynynn_all _ _ _ _ _ _ _ _ _ _ _ _ _ _ _ _ _ _ _ _ _ _ _ _ _ _ _ _ _ _ _ _ _ _ _ _ _ _ _ _ _ _ _ _ _ _ _ _ _ _ _ hA t1 hG t2 t3 hW t4 hR hSb hZ t5 hV hP hO hH c1 c2 h1 hQ h3
    cases j1 : (j != 0) with
    | false =>
     have hK := hKy (z1' j1)
     cases o1 : (o != 0) with
     | false =>
      have hM := hMy (z1' o1)
      exact Q.2.2.2 j1 hK o1 hM
     | true =>
      have hM := hM0
      exact Q.2.2.1 j1 hK _ _ _ o1 hM
    | true =>
     have hK := hK0
     cases o1 : (o != 0) with
     | false =>
      have hM := hMy (z1' o1)
      exact Q.2.1 _ _ j1 hK o1 hM
     | true =>
      have hM := hM0
      exact Q.1 _ _ j1 hK _ _ _ o1 hM
   | true =>
    have hQ := hQ0
    have Q := cq_ynnnn_all _ _ _ _ _ _ _ _ _ _ _ _ _ _ _ _ _ _ _ _ _ _ _ _ _ _ _ _ _ _ _ _ _ _ _ _ _ _ _ _ _ _ _ _ _ _ _ _ _ _ _ hA t1 hG t2 t3 hW t4 hR hSb hZ t5 hV hP hO hH c1 c2 _ _ _ _ _ _ h1 hQ
    cases j1 : (j != 0) with
    | false =>
     have hK := hKy (z1' j1)
     cases o1 : (o != 0) with
     | false =>
      have hM := hMy (z1' o1)
      exact Q.2.2.2 j1 hK o1 hM
     | true =>
      have hM := hM0
      exact Q.2.2.1 j1 hK _ _ _ o1 hM
    | true =>
     have hK := hK0
     cases o1 : (o != 0) with
     | false =>
      have hM := hMy (z1' o1)
      exact Q.2.1 _ _ j1 hK o1 hM
     | true =>
      have hM := hM0
      exact Q.1 _ _ j1 hK _ _ _ o1 hM
 | false =>
  clear hRd hwb
  cases t5 : (f == 0) with
  | true =>
   have f0 := z0' t5
   subst f0
   have hw2 := hrw c rfl
   rw [hwc] at hw2
   simp only [Prod.mk.injEq] at hw2
   obtain ⟨rfl, rfl⟩ := hw2
   have t6 : ((0 : Int) != 0) = false := rfl
   obtain ⟨yk, yn, yb, yl⟩ := y
   obtain ⟨wk, wn, wb, wl⟩ := w
   cases h1 : (h != 0) with
   | false =>
    have hQ := hQy (z1' h1)
    have Q := cq_nyynn_all _ _ _ _ _ _ _ _ _ _ _ _ _ _ _ _ _ _ _ _ _ _ _ _ _ _ _ _ _ _ _ _ _ _ _ _ _ _ _ _ _ _ _ _ _ _ _ _ _ _ _ hA t1 hG t2 t3 hW t4 hZ t5 hV t6 hI hP hO hH c1 c2 h1 hQ h3
    cases j1 : (j != 0) with
    | false =>
     have hK := hKy (z1' j1)
     cases o1 : (o != 0) with
     | false =>
      have hM := hMy (z1' o1)
      exact Q.2.2.2 j1 hK o1 hM
     | true =>
      have hM := hM0
      exact Q.2.2.1 j1 hK _ _ _ o1 hM
    | true =>
     have hK := hK0
     cases o1 : (o != 0) with
     | false =>
      have hM := hMy (z1' o1)
      exact Q.2.1 _ _ j1 hK o1 hM
     | true =>
      have hM := hM0
      exact Q.1 _ _ j1 hK _ _ _ o1 hM
   | true =>
    have hQ := hQ0
    have Q := cq_nynnn_all _ _ _ _ _ _ _ _ _ _ _ _ _ _ _ _ _ _ _ _ _ _ _ _ _ _ _ _ _ _ _ _ _ _ _ _ _ _ _ _ _ _ _ _ _ _ _ _ _ _ _ hA t1 hG t2 t3 hW t4 hZ t5 hV t6 hI hP hO hH c1 c2 _ _ _ _ _ _ h1 hQ
    cases j1 : (j != 0) with
    | false =>
     have hK := hKy (z1' j1)
     cases o1 : (o != 0) with
     | false =>
      have hM := hMy (z1' o1)
      exact Q.2.2.2 j1 hK o1 hM
     | true =>
      have hM := hM0
      exact Q.2.2.1 j1 hK _ _ _ o1 hM
    | true =>
     have hK := hK0
     cases o1 : (o != 0) with
     | false =>
      have hM := hMy (z1' o1)
      exact Q.2.1 _ _ j1 hK o1 hM
     | true =>
      have hM := hM0
      exact Q.1 _ _ j1 hK _ _ _ o1 hM
  | false =>
   clear hrw
   obtain ⟨yk, yn, yb, yl⟩ := y
   obtain ⟨wk, wn, wb, wl⟩ := w
   obtain ⟨zk, zn, zb, zl⟩ := z
   cases h1 : (h != 0) with
   | false =>
    have hQ := hQy (z1' h1)
    have Q := cq_nnynn_all _ _ _ _ _ _ _ _ _ _ _ _ _ _ _ _ _ _ _ _ _ _ _ _ _ _ _ _ _ _ _ _ _ _ _ _ _ _ _ _ _ _ _ _ _ _ _ _ _ _ _ hA t1 hG t2 t3 hW t4 hZ t5 hV hP hO hH c1 c2 h1 hQ h3
    cases j1 : (j != 0) with
    | false =>
     have hK := hKy (z1' j1)
     cases o1 : (o != 0) with
     | false =>
      have hM := hMy (z1' o1)
      exact Q.2.2.2 j1 hK o1 hM
     | true =>
      have hM := hM0
      exact Q.2.2.1 j1 hK _ _ _ o1 hM
    | true =>
     have hK := hK0
     cases o1 : (o != 0) with
     | false =>
      have hM := hMy (z1' o1)
      exact Q.2.1 _ _ j1 hK o1 hM
     | true =>
      have hM := hM0
      exact Q.1 _ _ j1 hK _ _ _ o1 hM
   | true =>
    have hQ := hQ0
    have Q := cq_nnnnn_all _ _ _ _ _ _ _ _ _ _ _ _ _ _ _ _ _ _ _ _ _ _ _ _ _ _ _ _ _ _ _ _ _ _ _ _ _ _ _ _ _ _ _ _ _ _ _ _ _ _ _ hA t1 hG t2 t3 hW t4 hZ t5 hV hP hO hH c1 c2 _ _ _ _ _ _ h1 hQ
    cases j1 : (j != 0) with
    | false =>
     have hK := hKy (z1' j1)
     cases o1 : (o != 0) with
     | false =>
      have hM := hMy (z1' o1)
      exact Q.2.2.2 j1 hK o1 hM
     | true =>
      have hM := hM0
      exact Q.2.2.1 j1 hK _ _ _ o1 hM
    | true =>
     have hK := hK0
     cases o1 : (o != 0) with
     | false =>
      have hM := hMy (z1' o1)
      exact Q.2.1 _ _ j1 hK o1 hM
     | true =>
      have hM := hM0
      exact Q.1 _ _ j1 hK _ _ _ o1 hM
end Go.Proofs.YtihkbilhgbmbhaaDoor
end
section
open Go.RowKit Go.Pl Go.Av Go.Lib
namespace Go.Proofs.YtihkbilhgbmbhaaDoor
theorem dcsl_ints (k : IntKind) : ∀ zs : List Int, dcsl (zs.map fun z => .lit (.int k z)) = zs.map fun z => Value.int k z
 | [] => rfl
 | z :: zs => by rw [List.map_cons, List.map_cons, dcsl, dcsl_ints k zs]; rfl
theorem cells_at {P : Program} {W : World} {n : String} {g : Nat} {t : TypeId} {d : DataW Unit} (hg : P.globalNamed n = some g) (ht : (P.globals[g]?).map (·.type) = some t) (h : VarReads P W n d)
  (key : ∀ (fuel : Nat) (cs : List Value) (p : List MemPlace), DataW.trod (fun _ => ()) P W 0 (fun _ => true) false fuel t cs = some (d, p) -> ∀ (j : Nat) (v : Value), (dcs d)[j]? = some v -> cs[j]? = some v) :
  ∀ (j : Nat) (v : Value), (dcs d)[j]? = some v -> (g0 W).C g j /\ W.cell? ⟨g, j, none⟩ = some v := by
 obtain ⟨g', t', cs, fuel, p, h1, h2, h3, h4⟩ := h
 obtain rfl := Option.some.inj (hg.symm.trans h1)
 obtain rfl := Option.some.inj (ht.symm.trans h2)
 intro j v hv
 have hc := key fuel cs.toList p h4 j v hv
 have hcell : W.cell? ⟨g, j, none⟩ = some v := by
  rw [World.var?_cell hg h3 j, <- Array.getElem?_toList]; exact hc
 exact ⟨World.block_lt_of_cell? W _ hcell, hcell⟩
theorem ints_at {P : Program} {W : World} {t e : TypeId} {n : Nat} {k : IntKind} {d : DataW Unit} (zs : List Int) (hd : d = tabData k zs) (ht : P.underlying t = some (.array n e)) (he : P.underlying e = some (.int k)) (hce : P.cellsOf e = 1) (hct : P.cellsOf t = n) :
  ∀ (fuel : Nat) (cs : List Value) (p : List MemPlace), DataW.trod (fun _ => ()) P W 0 (fun _ => true) false fuel t cs = some (d, p) -> ∀ (j : Nat) (v : Value), (dcs d)[j]? = some v -> cs[j]? = some v := by
 subst hd
 intro fuel cs p h j v hv
 rw [cells_of_tab ht he hce hct h]
 rw [tabData, dcs, dcsl_ints] at hv
 exact hv
theorem rows_at {P : Program} {W : World} {t e : TypeId} {n : Nat} {k : IntKind} {d : DataW Unit} {fs : Array Field} (rows : List (List Int)) (hd : d = .agg (rows.map fun r => .agg (r.map fun z => .lit (.int k z)))) (hn : rows.length = n) (ht : P.underlying t = some (.array n e)) (he : P.underlying e = some (.struct fs))
  (hf : ∀ (i : Nat) (f : Field), fs[i]? = some f -> P.underlying f.type = some (.int k) /\ f.offset = i /\ P.cellsOf f.type = 1) (hce : P.cellsOf e = fs.size) :
  ∀ (fuel : Nat) (cs : List Value) (p : List MemPlace), DataW.trod (fun _ => ()) P W 0 (fun _ => true) false fuel t cs = some (d, p) -> ∀ (j : Nat) (v : Value), (dcs d)[j]? = some v -> cs[j]? = some v := by
 subst hd
 intro fuel cs p h j v hv
 have key : ∀ i, i <= n -> cs.take (i * fs.size) = dcsl ((rows.take i).map fun r => .agg (r.map fun z => .lit (.int k z))) := by
  intro i
  induction i with
  | zero => intro _; rw [Nat.zero_mul, List.take_zero, List.take_zero]; rfl
  | succ i ih =>
   intro hi
   obtain ⟨fuel', d', q, hdi, he'⟩ := array_elem ht h i (by omega)
   rw [List.getElem?_map, List.getElem?_eq_getElem (by omega : i < rows.length)] at hdi
   simp only [Option.map_some, Option.some.injEq] at hdi
   subst hdi
   rw [hce] at he'
   have hcs := ints_of_struct he hf hce he'
   rw [Nat.succ_mul, List.take_add, ih (by omega), hcs, List.take_succ_eq_append_getElem (by omega : i < rows.length), List.map_append]
   have app : ∀ (a b : List (DataW Unit)), dcsl (a ++ b) = dcsl a ++ dcsl b := fun a b => by
    induction a with
    | nil => rfl
    | cons x a ih => rw [List.cons_append, dcsl, dcsl, ih, List.append_assoc]
   rw [app, List.map_cons, List.map_nil, dcsl, dcs, dcsl_ints]
   simp [dcsl]
 have h2 := key n (Nat.le_refl _)
 rw [<- hn, List.take_length] at h2
 rw [dcs, <- h2] at hv
 rw [List.getElem?_take] at hv
 split at hv
 ·exact hv
 ·cases hv
abbrev knownU8 : Known := ⟨[0, 1]⟩
theorem knownU8_ok : @KnownU8 knownU8 := @KnownU8.mk knownU8 (List.mem_cons_self ..) (List.mem_cons_of_mem _ (List.mem_cons_self ..))
def firstZ : List Int := Pinned.utf8FirstZ.map Int.ofNat
def acceptZ : List (List Int) := [[128, 191], [160, 191], [128, 159], [144, 191], [128, 143], [0, 0], [0, 0], [0, 0], [0, 0], [0, 0], [0, 0], [0, 0], [0, 0], [0, 0], [0, 0], [0, 0]]
theorem gls_u8 {W : World} {laid : List (String × DataW Unit)} (h1 : ("unicode/utf8.first", Rows.laid_unicode_utf8_first) ∈ laid) (h2 : ("unicode/utf8.acceptRanges", Rows.laid_unicode_utf8_acceptRanges) ∈ laid) (h : laidMet Tryd.prog laid W) : @Gls knownU8 (g0 W).C W := by
 have r1 := laidMet.reads h h1
 have r2 := laidMet.reads h h2
 have c1 := cells_at (P := Tryd.prog) (g := 0) (t := 175) (by kernel_rfl) (by kernel_rfl) r1 (ints_at firstZ (by kernel_rfl) (n := 256) (by kernel_rfl) Tryd.underlying5 (by kernel_rfl) (by kernel_rfl))
 have c2 := cells_at (P := Tryd.prog) (g := 1) (t := 178) (by kernel_rfl) (by kernel_rfl) r2 (rows_at acceptZ (by kernel_rfl) (n := 16) rfl Tryd.underlying178 Tryd.underlying177 (fun i f hf => by
  match i, hf with
  | 0, hf => simp at hf; subst hf; exact ⟨Tryd.underlying5, rfl, by kernel_rfl⟩
  | 1, hf => simp at hf; subst hf; exact ⟨Tryd.underlying5, rfl, by kernel_rfl⟩
  | i + 2, hf => simp at hf) (by kernel_rfl))
 refine ⟨fun k cs hk => ?_, fun k t hk => ?_⟩
 ·obtain ⟨hk, hm⟩ := hk
  simp only [tabs, List.mem_cons, List.not_mem_nil, or_false, Prod.mk.injEq] at hm
  have hk : k ∈ [0, 1] := hk
  simp only [List.mem_cons, List.not_mem_nil, or_false] at hk
  clear r1 r2 h1 h2 h
  rcases hk with rfl | rfl
  all_goals repeat' (refine Or.elim hm (fun hm => ?_) (fun hm => ?_))
  all_goals first
   | (obtain ⟨h, rfl⟩ := hm; exact c1)
   | (obtain ⟨h, rfl⟩ := hm; exact c2)
   | (obtain ⟨h, _⟩ := hm; exact absurd h (by decide))
 ·obtain ⟨hk, hm⟩ := hk
  have hk : k ∈ [0, 1] := hk
  simp only [List.mem_cons, List.not_mem_nil, or_false] at hk
  simp only [tabI, List.mem_cons, List.not_mem_nil, or_false, Prod.mk.injEq] at hm
  all_goals omega
end Go.Proofs.YtihkbilhgbmbhaaDoor
end
section
open Go.RowKit Go.Pl
namespace Go.Pl
def OpensF {α : Type} (P : Program) (fs : Array Field) (i o : Nat) (R : Rep α) : Prop :=
 ∀ (H : Type) (enc : TypeId × Value -> H) (W : World) (spare : Nat -> Bool) (held : Bool) (n : Nat) (cs : List Value) (xs : List (DataW H × List MemPlace)), cs.length = o + R.n -> xs.length = fs.size ->
  (∀ (j : Nat) (f : Field), fs[j]? = some f -> DataW.trod enc P W 0 spare held n f.type ((cs.drop f.offset).take (P.cellsOf f.type)) = xs[j]?) -> ∃ x, R.ok W (· < W.heap.size) (cs.drop o) x
variable {P : Program} {t : TypeId} {fs : Array Field}
theorem opensF_at {α : Type} {R : Rep α} {i o : Nat} {f : Field} (hf : fs[i]? = some f) (ho : f.offset = o) (hc : P.cellsOf f.type = R.n) (h : Opens P f.type R) {H : Type} {enc : TypeId × Value -> H} {W : World} {spare : Nat -> Bool} {held : Bool} {n : Nat} {cs : List Value} {xs : List (DataW H × List MemPlace)} (hl : xs.length = fs.size)
  (hg : ∀ (j : Nat) (f : Field), fs[j]? = some f -> DataW.trod enc P W 0 spare held n f.type ((cs.drop f.offset).take (P.cellsOf f.type)) = xs[j]?) : ∃ x, R.ok W (· < W.heap.size) ((cs.drop o).take R.n) x := by
 have e := hg i f hf
 rw [ho, hc] at e
 have hi : i < xs.length := by
  rw [hl]
  exact (Array.getElem?_eq_some_iff.1 hf).1
 exact h H enc W spare held n _ _ (e.trans (List.getElem?_eq_getElem hi))
theorem opensF_one {α : Type} {R : Rep α} {i o : Nat} {f : Field} (hf : fs[i]? = some f) (ho : f.offset = o) (hc : P.cellsOf f.type = R.n) (h : Opens P f.type R) : OpensF P fs i o R := by
 intro H enc W spare held n cs xs hcl hl hg
 obtain ⟨x, hx⟩ := opensF_at hf ho hc h hl hg
 rw [List.take_of_length_le (by rw [List.length_drop]; omega)] at hx
 exact ⟨x, hx⟩
theorem opensF_cons {α β : Type} {R : Rep α} {R' : Rep β} {i o : Nat} {f : Field} (hf : fs[i]? = some f) (ho : f.offset = o) (hc : P.cellsOf f.type = R.n) (h : Opens P f.type R) (h' : OpensF P fs (i + 1) (o + R.n) R') : OpensF P fs i o (R.prod R') := by
 intro H enc W spare held n cs xs hcl hl hg
 obtain ⟨x, hx⟩ := opensF_at hf ho hc h hl hg
 have hn : (R.prod R').n = R.n + R'.n := rfl
 obtain ⟨x', hx'⟩ := h' H enc W spare held n cs xs (by rw [hn] at hcl; omega) hl hg
 refine ⟨(x, x'), (cs.drop o).take R.n, (cs.drop o).drop R.n, (List.take_append_drop _ _).symm, hx, ?_⟩
 rw [List.drop_drop]
 exact hx'
theorem opens_struct {α : Type} {R : Rep α} (hs : P.underlying t = some (.struct fs)) (hc : P.cellsOf t = R.n) (h : OpensF P fs 0 0 R) : Opens P t R := by
 intro H enc W spare held fuel cs y hy
 obtain ⟨xs, n, _, _, hl, hxl, hg⟩ := DataW.trod_struct hs hy
 exact h H enc W spare held n cs xs (by omega) hxl hg
end Go.Pl
end
section
open Go.RowKit Go.Pl Go.Av
namespace Go.Proofs.YtihkbilhgbmbhaaDoor
set_option maxHeartbeats 4000000
abbrev RB : Rep (Nat × Nat × Nat × Int × List UInt8) := Rep.u64.prod (Rep.u64.prod (Rep.u64.prod (Rep.i64.prod (Rep.slice Rep.byte (by decide)))))
theorem openB : Opens Tryd.prog 66 RB :=
 opens_struct Tryd.underlying66 (by kernel_rfl) (opensF_cons rfl rfl (by kernel_rfl) (opens_u64 Tryd.underlying22) (opensF_cons rfl rfl (by kernel_rfl) (opens_u64 Tryd.underlying22)
  (opensF_cons rfl rfl (by kernel_rfl) (opens_u64 Tryd.underlying22) (opensF_cons rfl rfl (by kernel_rfl) (opens_i64 Tryd.underlying3)
   (opensF_one rfl rfl (by kernel_rfl) (opens_slice (R := Rep.byte) (by decide) Tryd.underlying23 (by kernel_rfl) (opens_byte Tryd.underlying5)))))))
abbrev XB := Nat × Nat × Nat × Int × List UInt8
def XB.v (x : XB) : BlkV := ⟨x.1, x.2.1, x.2.2.1, x.2.2.2.1, x.2.2.2.2⟩
theorem bk_V [Known] {W : World} {cs : List Value} {x : XB} (h : RB.ok W (· < W.heap.size) cs x) : V W (g0 W) [] (.agg (bkC x.v)) (.agg cs.toArray) := by
 obtain ⟨ty, num, fl, sum, data⟩ := x
 have toE_b := ToE.u64.prod (ToE.u64.prod (ToE.u64.prod (ToE.i64.prod (ToE.byte.slice (by decide)))))
 exact ToE.agg toE_b (l := [.int .u64 (ty : Int), .int .u64 (num : Int), .int .u64 (fl : Int), .int .i64 sum, .sl (data.map E.byte)]) rfl h
end Go.Proofs.YtihkbilhgbmbhaaDoor
end
section
open Go.RowKit Go.Pl Go.Av
namespace Go.Proofs.YtihkbilhgbmbhaaDoor
def viaR {α β : Type} (R : Rep α) (f : β -> α) : Rep β where
 n := R.n
 ok := fun w S cs x => R.ok w S cs (f x)
 len := R.len
 one := R.one
 frame := R.frame
 mono := R.mono
 lt := R.lt
def none4 : Rep It where
 n := 4
 ok := fun _ _ _ _ => False
 len := fun h => h.elim
 one := fun h => h.elim
 frame := fun _ h => h
 mono := fun _ h => h
 lt := fun h => h
def RI : Nat -> {R : Rep It // R.n = 4}
 | 0 => ⟨none4, rfl⟩
 | m + 1 => ⟨viaR (Rep.i64.prod (Rep.u64.prod ((Rep.slice Rep.byte (by decide)).prod (Rep.slice (RI m).1 (by rw [(RI m).2]; decide))))) fun x => (x.k, x.n, x.b, x.l), rfl⟩
theorem toE_item : ∀ m : Nat, ToE (RI m).1 itE
 | 0 => ⟨fun _ _ _ _ _ _ h => h.elim⟩
 | m + 1 => ⟨fun w S C cs x hC h => by
  have h0 := ((ToE.i64.prod (ToE.u64.prod ((ToE.byte.slice (by decide)).prod ((toE_item m).slice (by rw [(RI m).2]; decide))))).cells w S C cs (x.k, x.n, x.b, x.l) hC h)
  obtain ⟨k, n, b, l⟩ := x
  have e : (itE (.mk k n b l)).cells = [.int .i64 k, .int .u64 (n : Int), .sl (b.map E.byte), .sl (l.map itE)] := by rw [<- itEs_map]; rfl
  rw [e]
  exact h0⟩
theorem run_all {α : Type} {R : Rep α} {w : World} {S : Nat -> Prop} : ∀ {l : List α} {cs : List Value}, Run R w S cs l -> ∀ x ∈ l, ∃ cs', R.ok w S cs' x
 | [], _, _, x, hx => nomatch hx
 | y :: l, cs, h, x, hx => by
  obtain ⟨c1, c2, _, h1, h2⟩ := h
  rcases List.mem_cons.1 hx with rfl | hx
  ·exact ⟨c1, h1⟩
  ·exact run_all h2 x hx
theorem nIs_of : ∀ {l : List It}, (∀ x ∈ l, nI x) -> nIs l
 | [], _ => trivial
 | x :: l, h => ⟨h x (List.mem_cons_self ..), nIs_of fun y hy => h y (List.mem_cons_of_mem _ hy)⟩
theorem item_nI : ∀ (m : Nat) {w : World} {S : Nat -> Prop} {cs : List Value} {x : It}, (RI m).1.ok w S cs x -> nI x
 | 0, _, _, _, _, h => h.elim
 | m + 1, w, S, cs, x, h => by
  obtain ⟨k, n, b, l⟩ := x
  obtain ⟨_, _, _, _, _, _, _, ⟨_, hn⟩, _, _, _, _, v, _, A, cap, _, _, _, cs', hr, _⟩ := h
  exact ⟨hn, nIs_of fun y hy => let ⟨c, hc⟩ := run_all hr y hy; item_nI m hc⟩
variable {P : Program} {t : TypeId}
theorem opens_sliceF {α : Type} {R : Rep α} {e : TypeId} (hR : 0 < R.n) (ht : P.underlying t = some (.slice e)) (hc : P.cellsOf e = R.n) {H : Type} {enc : TypeId × Value -> H} {W : World} {spare : Nat -> Bool} {held : Bool} {fuel : Nat} {cs : List Value} {y : DataW H × List MemPlace}
  (he : ∀ (f : Nat) (cs : List Value) (y : DataW H × List MemPlace), f < fuel -> DataW.trod enc P W 0 spare held f e cs = some y -> ∃ x, R.ok W (· < W.heap.size) cs x) (h : DataW.trod enc P W 0 spare held fuel t cs = some y) : ∃ x, (Rep.slice R hR).ok W (· < W.heap.size) cs x := by
 rcases DataW.trod_slice ht h with ⟨rfl, _⟩ | ⟨a, len, cap, elems, rest, n, hn, rfl, _, _, hl, hm, hlen, hi, _, _⟩
 ·exact ⟨[], _, rfl, Sl.nil _ _ _⟩
 ·rw [hc] at hi
  have key : ∀ k, k <= len -> ∃ (l : List α) (cs : List Value), l.length = k /\ Run R W (· < W.heap.size) cs l /\ ∀ j, j < cs.length -> W.cell? (a.add j) = cs[j]? := by
   intro k
   induction k with
   | zero => intro _; exact ⟨[], [], rfl, rfl, fun j hj => by simp at hj⟩
   | succ k ih =>
    intro hk
    obtain ⟨l, cs, hll, hr, hcc⟩ := ih (by omega)
    have hik := hi k (by omega)
    rw [List.getElem?_eq_getElem (by omega)] at hik
    obtain ⟨cs', hcs', ht'⟩ := Option.bind_eq_some_iff.1 hik
    obtain ⟨x, hx⟩ := he n cs' _ (by omega) ht'
    obtain ⟨_, hcl, hat⟩ := World.cells?_some hcs'
    refine ⟨l ++ [x], cs ++ cs', by simp [hll], hr.append (Run.single hx), fun j hj => ?_⟩
    have hlen := hr.length
    rw [hll] at hlen
    rcases Nat.lt_or_ge j cs.length with h1 | h1
    ·rw [List.getElem?_append_left h1]; exact hcc j h1
    ·rw [List.getElem?_append_right h1]
     have h2 : j - cs.length < R.n := by rw [List.length_append, hcl] at hj; omega
     have := hat (j - cs.length) h2
     rw [Go.Deep.add_add] at this
     rw [<- this]
     congr 2
     omega
  obtain ⟨l, cs, hll, hr, hcc⟩ := key len (Nat.le_refl _)
  subst hll
  refine ⟨l, _, rfl, some a, cap, rfl, hl, hm, cs, hr, fun hne => ?_⟩
  have hlen := hr.length
  have hpos : 0 < cs.length := by rw [hlen]; exact Nat.mul_pos (List.length_pos_iff.2 hne) hR
  obtain ⟨b, off, spot⟩ := a
  have h0 := (hcc 0 hpos).trans (List.getElem?_eq_getElem hpos)
  have hspot : spot = none := by simpa [Addr.add] using World.cell?_spot h0
  subst hspot
  refine ⟨b, off, rfl, World.block_lt_of_cell? W _ (by simpa [Addr.add] using h0), fun j hj => ?_⟩
  rw [<- hcc j hj]
  congr 1
  unfold Addr.add; split <;> simp_all
theorem opens_item {fs : Array Field} {f0 f1 f2 f3 : Field} (hs : P.underlying t = some (.struct fs)) (hfs : fs = #[f0, f1, f2, f3]) (hc : P.cellsOf t = 4)
  (h00 : f0.offset = 0) (h01 : f1.offset = 1) (h02 : f2.offset = 2) (h03 : f3.offset = 3) (hc0 : P.cellsOf f0.type = 1) (hc1 : P.cellsOf f1.type = 1) (hc2 : P.cellsOf f2.type = 1) (hc3 : P.cellsOf f3.type = 1)
  (h0 : Opens P f0.type Rep.i64) (h1 : Opens P f1.type Rep.u64) (h2 : Opens P f2.type (Rep.slice Rep.byte (by decide))) (h3 : P.underlying f3.type = some (.slice t))
  {H : Type} {enc : TypeId × Value -> H} {W : World} {spare : Nat -> Bool} {held : Bool} : ∀ (fuel : Nat) (cs : List Value) (y : DataW H × List MemPlace), DataW.trod enc P W 0 spare held fuel t cs = some y -> ∀ j, fuel <= j -> ∃ x, (RI j).1.ok W (· < W.heap.size) cs x := by
 intro fuel
 induction fuel using Nat.strongRecOn with
 | _ fuel ih =>
  intro cs y h j hj
  obtain ⟨xs, n, hn, _, hl, hxl, hg⟩ := DataW.trod_struct hs h
  subst hfs
  obtain ⟨j, rfl⟩ : ∃ i, j = i + 1 := ⟨j - 1, by omega⟩
  have e0 := hg 0 f0 rfl
  have e1 := hg 1 f1 rfl
  have e2 := hg 2 f2 rfl
  have e3 := hg 3 f3 rfl
  rw [hc] at hl
  match cs, hl with
  | [v0, v1, v2, v3], _ =>
  rw [h00, hc0] at e0
  rw [h01, hc1] at e1
  rw [h02, hc2] at e2
  rw [h03, hc3] at e3
  have hn4 : xs.length = 4 := hxl
  obtain ⟨k, hk⟩ := h0 H enc W spare held n _ _ (e0.trans (List.getElem?_eq_getElem (by omega)))
  obtain ⟨m, hm⟩ := h1 H enc W spare held n _ _ (e1.trans (List.getElem?_eq_getElem (by omega)))
  obtain ⟨b, hb⟩ := h2 H enc W spare held n _ _ (e2.trans (List.getElem?_eq_getElem (by omega)))
  obtain ⟨l, hll⟩ := opens_sliceF (R := (RI j).1) (by rw [(RI j).2]; decide) h3 (by rw [hc, (RI j).2]) (fun f cs y hf hy => ih f (by omega) cs y hy j (by omega)) (e3.trans (List.getElem?_eq_getElem (by omega)))
  exact ⟨.mk k m b l, [v0], [v1, v2, v3], rfl, hk, [v1], [v2, v3], rfl, hm, [v2], [v3], rfl, hb, hll⟩
end Go.Proofs.YtihkbilhgbmbhaaDoor
end
section
open Go.RowKit Go.Pl Go.Av
namespace Go.Proofs.YtihkbilhgbmbhaaDoor
theorem item_V {W : World} {cs : List Value} {x : It} {m : Nat} (h : (RI m).1.ok W (· < W.heap.size) cs x) : V W (g0 W) [] (itD x) (.agg cs.toArray) := by
 obtain ⟨k, n, b, l⟩ := x
 have h1 := ToE.agg (toE_item m) (l := [.int .i64 k, .int .u64 (n : Int), .sl (b.map E.byte), .sl (itEs l)]) (hf := rfl) h
 exact h1
end Go.Proofs.YtihkbilhgbmbhaaDoor
end
section
open Go.RowKit Go.Pl Go.Av
namespace Go.Proofs.YtihkbilhgbmbhaaDoor
theorem bk_fl {W : World} {cs : List Value} {x : XB} (h : RB.ok W (· < W.heap.size) cs x) : x.v.fl < 18446744073709551616 := by
 obtain ⟨ty, num, fl, sum, data⟩ := x
 obtain ⟨_, _, _, _, _, _, _, _, _, _, _, ⟨_, h1⟩, _⟩ := h
 exact h1
theorem canonBack_walk (c0 c1 c2 : List Value) (n3 n4 : Nat) (x0 : XB) (x1 : It) (x2 : XE) (W : World) (h0 : RB.ok W (· < W.heap.size) c0 x0) (h1 : ∃ m, (RI m).1.ok W (· < W.heap.size) c1 x1) (h2 : RE.ok W (· < W.heap.size) c2 x2) (h3 : n3 < 18446744073709551616) (h4 : n4 < 18446744073709551616) (hl : laidMet Tryd.prog Rows.canonBackRow.laid W) :
  Calls Tryd.prog 9 #[.agg c0.toArray, .agg ⟨c1⟩, .agg c2.toArray, .int .u64 (n3 : Int), .int .u64 (n4 : Int)] W fun e w' => e = .returned (.bool true) /\ Below W.heap.size W w' := by
 obtain ⟨m, hx⟩ := h1
 have hg := gls_u8 (laid := Rows.canonBackRow.laid) (by unfold Rows.canonBackRow; repeat (first | exact List.mem_cons_self .. | apply List.mem_cons_of_mem)) (by unfold Rows.canonBackRow; repeat (first | exact List.mem_cons_self .. | apply List.mem_cons_of_mem)) hl
 have h := @av_canonBack knownU8 knownU8_ok x0.v x1 x2.v n3 n4 (bk_fl h0) (item_nI m hx) h3 h4
 refine @topG knownU8 Tryd.prog 9 _ (@AC.mono knownU8 _ _ _ _ _ _ _ h fun r b t h => h.1) W [.agg c0.toArray, .agg ⟨c1⟩, .agg c2.toArray, .int .u64 (n3 : Int), .int .u64 (n4 : Int)] hg rfl ?_
 intro j d v hd hv
 match j, hd, hv with
 | 0, hd, hv => cases hd; cases hv; exact @bk_V knownU8 _ _ _ h0
 | 1, hd, hv => cases hd; cases hv; exact item_V hx
 | 2, hd, hv => cases hd; cases hv; exact @eid_V knownU8 _ _ _ h2
 | 3, hd, hv => cases hd; cases hv; exact .int _ _
 | 4, hd, hv => cases hd; cases hv; exact .int _ _
 | j + 5, hd, hv => cases hd
end Go.Proofs.YtihkbilhgbmbhaaDoor
end

/- A name's item, read back: plain laws, no program in sight. -/
import Derived.Test.YtfkmicjlaedlkaaGreatDoorG24
import Derived.Test.YtfkmicjlaedlkaaGreatDoorG21
import Derived.Test.YtfkmicjlaedlkaaGreatDoorG25
import Derived.Test.YtfkmicjlaedlkaaGreatDoorG13
import Derived.Test.YtfkmicjlaedlkaaGreatDoorG20
import Derived.Test.YtfkmicjlaedlkaaGreatDoorG01
import Derived.Test.YtfkmicjlaedlkaaGreatDoorG06
import Derived.Test.YtfkmicjlaedlkaaGreatDoorProg
import Derived.Test.YtfkmicjlaedlkaaGreatDoorG12
set_option linter.unusedVariables false
set_option linter.unusedSimpArgs false
section
open Go.RowKit Go.Pl Go.Av
namespace Go.Proofs.YtfkmicjlaedlkaaGreatDoor
theorem ppV_path {x : EidV} (h : eRight x = true) (hz : isZ x = false) (hi : x.i = false) : ppV (pathE x) = (x, true) := by
 obtain ⟨b1, b2, b3, b4, b5, b6, b7⟩ := eRight_txt h hz hi
 have e1 : pathE x = [47, 47] ++ (x.h ++ 47 :: x.d) := by simp [pathE]
 rw [e1]
 unfold ppV
 rw [preV_app]
 dsimp only
 rw [cutV_yes (not_mem_ok b6 (by decide))]
 dsimp only
 have ex : (⟨false, 0, 0, x.h, x.d⟩ : EidV) = x := by
  obtain ⟨i, n, s, hh, d⟩ := x
  simp only at hi b1 b2
  rw [hi, b1, b2]
 rw [ex, h]
 have : (x.h != []) = true := by
  rw [bne_iff_ne]
  intro e
  rw [e] at b3
  simp at b3
 rw [this]
 rfl
theorem wf_itemE {x : EidV} (h : eRight x = true) : wfI (itemE x) := by
 unfold itemE
 cases hz : isZ x with
 | true => rw [if_pos rfl]; simp [wfI, wfs]
 | false =>
  rw [if_neg (by simp)]
  cases hi : x.i with
  | true =>
   obtain ⟨b1, b2, b3, b4, b5⟩ := eRight_num h hz hi
   rw [if_pos rfl]
   simp [wfI, wfs]
   omega
  | false =>
   obtain ⟨b1, b2, b3, b4, b5, b6, b7⟩ := eRight_txt h hz hi
   rw [if_neg (by simp)]
   simp [wfI, wfs, pathE]
   omega
theorem readV_itemE {x : EidV} (h : eRight x = true) (hr : rightI (itemE x) = true) : readV (itemE x) = (x, true) := by
 unfold readV
 rw [hr]
 unfold itemE
 cases hz : isZ x with
 | true =>
  rw [if_pos rfl, isZ_iff.1 hz]
  rfl
 | false =>
  rw [if_neg (by simp)]
  cases hi : x.i with
  | true =>
   obtain ⟨b1, b2, b3, b4, b5⟩ := eRight_num h hz hi
   rw [if_pos rfl]
   dsimp only
   rw [if_pos rfl]
   have ex : (⟨true, x.n, x.s, [], []⟩ : EidV) = x := by
    obtain ⟨i, n, s, hh, d⟩ := x
    simp only at hi b3 b4
    rw [hi, b3, b4]
   have e1 : isNum 1 (.mk 0 2 [] []) = false := rfl
   have e2 : isNum 2 (.mk 0 2 [] []) = true := rfl
   have e3 : ∀ n, isNum n (.mk 0 n [] []) = true := fun n => It.beq_iff.2 rfl
   have e4 : numsV (.mk 4 0 [] [.mk 0 x.n [] [], .mk 0 x.s [] []]) = some (x.n, x.s) := by
    unfold numsV
    dsimp only
    rw [if_pos rfl]
    simp only [It.n, e3, Bool.and_self]
   unfold readV2
   rw [e1, e2, e4]
   dsimp only
   rw [ex, h]
  | false =>
   rw [if_neg (by simp)]
   dsimp only
   rw [if_pos rfl]
   have e1 : isNum 1 (.mk 0 1 [] []) = true := rfl
   have e2 : isNum 0 (.mk 3 0 (pathE x) []) = false := rfl
   unfold readV2
   rw [e1, e2]
   exact ppV_path h hz hi
theorem okB_asc {m : Nat} (hm : m < 128) {c : UInt8} (h : okB m c = true) : c.toNat < 128 := by
 simp only [okB, Bool.or_eq_true, Bool.and_eq_true, decide_eq_true_eq, beq_iff_eq] at h
 omega
theorem right_itemE {x : EidV} (h : eRight x = true) : rightI (itemE x) = true := by
 unfold itemE
 cases hz : isZ x with
 | true => rw [if_pos rfl]; rfl
 | false =>
  rw [if_neg (by simp)]
  cases hi : x.i with
  | true => rw [if_pos rfl]; simp [rightI, walkI, walks, ownI]
  | false =>
   obtain ⟨b1, b2, b3, b4, b5, b6, b7⟩ := eRight_txt h hz hi
   rw [if_neg (by simp)]
   have hv : validU (pathE x) = true := by
    rw [validU_asc (pathE x).length (pathE x) (Nat.le_refl _) fun c hc => ?_, List.drop_length]
    ·rfl
    ·rw [List.take_length] at hc
     simp only [pathE, List.mem_append, List.mem_cons, List.not_mem_nil, or_false] at hc
     rcases hc with ((hc | hc) | hc) | hc
     ·rcases hc with hc | hc <;> rw [hc] <;> decide
     ·exact okB_asc (by decide) (List.all_eq_true.1 b6 c hc)
     ·rw [hc]; decide
     ·exact okB_asc (by decide) (List.all_eq_true.1 b7 c hc)
   simp [rightI, walkI, walks, ownI, hv]
end Go.Proofs.YtfkmicjlaedlkaaGreatDoor
end
section
open Go.RowKit Go.Pl Go.Av
namespace Go.Proofs.YtfkmicjlaedlkaaGreatDoor
theorem of_data {kind number : Nat} {sum : Int} {x : It} {e : Int} {p : BlkV} (h : ofV kind number sum x e = (p, 0)) : e = 0 /\ rightI x = true /\ bkRight p = true /\ p = ⟨kind, number, 0, sum, putI x⟩ := by
 unfold ofV at h
 cases d0 : (e != 0) with
 | true => rw [d0] at h; simp at h
 | false =>
 rw [d0] at h
 dsimp only at h
 cases d1 : rightI x with
 | false => rw [d1] at h; simp at h
 | true =>
 rw [d1] at h
 dsimp only at h
 cases d2 : bkRight ⟨kind, number, 0, sum, putI x⟩ with
 | false => rw [d2] at h; simp at h
 | true =>
  rw [d2] at h
  simp only [Prod.mk.injEq, and_true] at h
  subst h
  exact ⟨by simpa [bne] using d0, rfl, d2, rfl⟩
theorem of_err {kind number : Nat} {sum : Int} {x : It} {e : Int} : (ofV kind number sum x e).2 = 0 \/ ofV kind number sum x e = (bk0, 3) := by
 unfold ofV
 repeat' split
 all_goals first | exact .inl rfl | exact .inr rfl
theorem num_wf {n : Nat} (h : n < 18446744073709551616) : wfI (.mk 0 n [] []) := ⟨h, by simp, by simp, trivial⟩
theorem num_right (n : Nat) : rightI (.mk 0 n [] []) = true := by simp [rightI, walkI, ownI, walks]
theorem hop_right (n m : Nat) : rightI (hopI n m) = true := by simp [rightI, walkI, ownI, walks]
theorem hop_wf {n m : Nat} (hn : n < 18446744073709551616) (hm : m < 18446744073709551616) : wfI (hopI n m) := ⟨by decide, by simp, by simp, num_wf hn, num_wf hm, trivial⟩
theorem put_small (k : Int) (n : Nat) (b : List UInt8) (l : List It) : (putI (.mk k n b l)).length <= 9 + (b.length + (puts l).length) := by
 rw [putI, List.length_append, List.length_append]
 split
 ·rename_i h
  have h1 := writeL_le h rfl
  have h2 : followN (It.mk k n b l).hn <= 8 := by
   unfold followN
   repeat' split
   all_goals omega
  dsimp only at h1
  omega
 ·simp
theorem num_len (n : Nat) : (putI (.mk 0 n [] [])).length <= 9 := by
 have := put_small 0 n [] []
 simpa [puts] using this
theorem hop_len (n m : Nat) : (putI (hopI n m)).length <= 27 := by
 have h0 := put_small 4 0 [] [.mk 0 n [] [], .mk 0 m [] []]
 have h1 := num_len n
 have h2 := num_len m
 simp only [puts, List.length_append, List.length_nil, Nat.add_zero, Nat.zero_add] at h0
 have e : hopI n m = .mk 4 0 [] [.mk 0 n [] [], .mk 0 m [] []] := rfl
 rw [e]
 omega
theorem seal_cases {l : List It} {a : Int} {x : It} (h : sealV l a = (x, 0)) : x = .mk 4 0 [] l \/ ∃ s, (s = 1 \/ s = 2) /\ x = outL s l := by
 unfold sealV at h
 cases d0 : (decide (a < 0) || decide (a ≥ (l.length : Int))) with
 | true => rw [d0] at h; simp at h
 | false =>
 rw [d0] at h
 cases d1 : (l.all rightI && decide (typeV l a ≥ 0)) with
 | false => rw [d1] at h; simp at h
 | true =>
 rw [d1] at h
 dsimp only at h
 cases d2 : decide (typeV l a > 0) with
 | false =>
  rw [d2] at h
  dsimp only at h
  cases hr : rightI (.mk 4 0 [] l) with
  | false => rw [hr] at h; simp at h
  | true =>
   rw [hr] at h
   simp only [Prod.mk.injEq, and_true] at h
   exact .inl h.symm
 | true =>
  rw [d2] at h
  dsimp only at h
  have hs : (typeV l a).toNat = 1 \/ (typeV l a).toNat = 2 := by
   rcases typeV_cases l a with e | ⟨e, _⟩
   ·have := of_decide_eq_true d2; omega
   ·have := of_decide_eq_true d2; omega
  cases hz : rightI (zeroL (typeV l a).toNat l) with
  | false => rw [hz] at h; simp at h
  | true =>
   rw [hz] at h
   dsimp only at h
   cases hr : rightI (outL (typeV l a).toNat l) with
   | false => rw [hr] at h; simp at h
   | true =>
    rw [hr] at h
    simp only [Prod.mk.injEq, and_true] at h
    exact .inr ⟨_, hs, h.symm⟩
theorem right_of_write {b : BlkV} {x : It} (h : writeB b = (x, 0)) : bkRight b = true /\ sealV (listB b) 3 = (x, 0) := by
 unfold writeB at h
 cases hr : bkRight b with
 | true => rw [hr] at h; exact ⟨rfl, h⟩
 | false => rw [hr] at h; simp at h
end Go.Proofs.YtfkmicjlaedlkaaGreatDoor
end
section
open Go.RowKit Go.Pl Go.Av
namespace Go.Proofs.YtfkmicjlaedlkaaGreatDoor
set_option maxHeartbeats 4000000
theorem wfI_n {x : It} (h : wfI x) : x.n < 18446744073709551616 := by obtain ⟨k, n, b, l⟩ := x; exact h.1
end Go.Proofs.YtfkmicjlaedlkaaGreatDoor
end
section
open Go.RowKit Go.Pl Go.Av
namespace Go.Proofs.YtfkmicjlaedlkaaGreatDoor
set_option maxHeartbeats 1000000
abbrev iC (x : EidV) (t q : Nat) : List D := [.bool x.i, .int .u64 (x.n : Int), .int .u64 (x.s : Int), .str x.h, .str x.d, .int .u64 (t : Int), .int .u64 (q : Int)]
def iRight (x : EidV) (t q : Nat) : Bool := eRight x && decide ((t : Int) <= 1099511627776) && decide ((q : Int) <= 1099511627776)
theorem av_iRight [Known] (x : EidV) (t q : Nat) : AP Tryz.prog 51 [.agg (iC x t q)] (.bool (iRight x t q)) [] := by
 refine AP.ofA ?_
 refine AC_of Tryz.func51 rfl Tryz.ntmps51 rfl rfl ?_
 repeat' (first | (apply AL_callPw (av_eRight x); kernel_rfl; (iterate 4 exact rfl)) | (apply AL_go ttok; exact rfl) | (apply AW_go ttok; exact rfl) | (apply AL_guardT; (iterate 3 exact rfl); (first | with_reducible assumption | (solve | simp only [bn]))) | (apply AL_guardFt; (iterate 3 exact rfl); (first | with_reducible assumption | (solve | simp only [bn]))) | (apply AL_guardS; exact rfl; exact rfl; all_goals intro hb) | (apply AL_pickT; exact rfl; (first | with_reducible assumption | (solve | simp only [bn])); exact rfl; exact rfl) | (apply AL_pickF; exact rfl; (first | with_reducible assumption | (solve | simp only [bn])); exact rfl; exact rfl))
 all_goals (apply endQ []; (apply resG_ok ttok; exact rfl); (iterate 4 exact rfl))
 all_goals first | rfl | (unfold iRight; simp only [*]; done) | (unfold iRight; simp only [*]; simp only [Bool.and_true, Bool.true_and, Bool.and_false, Bool.false_and]; done)
theorem av_greatN [Known] (x : EidV) (t q : Nat) : AP Tryz.prog 37 [.agg (iC x t q)] (.bool (decide (IntKind.i64.wrap ((x.h.length : Int) + (x.d.length : Int)) > 300))) [] := by
 refine AP.ofA ?_
 refine AC_of Tryz.func37 rfl Tryz.ntmps37 rfl rfl ?_
 repeat' (first | (apply AL_go ttok; exact rfl) | (apply AW_go ttok; exact rfl) | (apply AL_lens ttok; (iterate 4 exact rfl)))
 (apply endQ []; (apply resG_ok ttok; exact rfl); (iterate 4 exact rfl))
 all_goals rfl
end Go.Proofs.YtfkmicjlaedlkaaGreatDoor
end
section
open Go.RowKit Go.Pl
namespace Go.Pl
variable {P : Program} {t : TypeId}
theorem opens_prod5 {α β γ δ ε : Type} {R0 : Rep α} {R1 : Rep β} {R2 : Rep γ} {R3 : Rep δ} {R4 : Rep ε} {fs : Array Field} {f0 f1 f2 f3 f4 : Field} (hs : P.underlying t = some (.struct fs)) (hfs : fs = #[f0, f1, f2, f3, f4])
  (h00 : f0.offset = 0) (h01 : f1.offset = R0.n) (h02 : f2.offset = R0.n + R1.n) (h03 : f3.offset = R0.n + R1.n + R2.n) (h04 : f4.offset = R0.n + R1.n + R2.n + R3.n)
  (hc0 : P.cellsOf f0.type = R0.n) (hc1 : P.cellsOf f1.type = R1.n) (hc2 : P.cellsOf f2.type = R2.n) (hc3 : P.cellsOf f3.type = R3.n) (hc4 : P.cellsOf f4.type = R4.n) (hc : P.cellsOf t = R0.n + (R1.n + (R2.n + (R3.n + R4.n))))
  (h0 : Opens P f0.type R0) (h1 : Opens P f1.type R1) (h2 : Opens P f2.type R2) (h3 : Opens P f3.type R3) (h4 : Opens P f4.type R4) : Opens P t (R0.prod (R1.prod (R2.prod (R3.prod R4)))) := by
 intro H enc W spare held fuel cs y h
 obtain ⟨xs, n, _, _, hl, hxl, hg⟩ := DataW.trod_struct hs h
 subst hfs
 have e0 := hg 0 f0 rfl
 have e1 := hg 1 f1 rfl
 have e2 := hg 2 f2 rfl
 have e3 := hg 3 f3 rfl
 have e4 := hg 4 f4 rfl
 rw [h00, hc0, List.drop_zero] at e0
 rw [h01, hc1] at e1
 rw [h02, hc2] at e2
 rw [h03, hc3] at e3
 rw [h04, hc4] at e4
 have hn : xs.length = 5 := hxl
 have hx0 : xs[0]? = some (xs[0]'(by omega)) := List.getElem?_eq_getElem (by omega)
 have hx1 : xs[1]? = some (xs[1]'(by omega)) := List.getElem?_eq_getElem (by omega)
 have hx2 : xs[2]? = some (xs[2]'(by omega)) := List.getElem?_eq_getElem (by omega)
 have hx3 : xs[3]? = some (xs[3]'(by omega)) := List.getElem?_eq_getElem (by omega)
 have hx4 : xs[4]? = some (xs[4]'(by omega)) := List.getElem?_eq_getElem (by omega)
 obtain ⟨x0, k0⟩ := h0 H enc W spare held n _ _ (e0.trans hx0)
 obtain ⟨x1, k1⟩ := h1 H enc W spare held n _ _ (e1.trans hx1)
 obtain ⟨x2, k2⟩ := h2 H enc W spare held n _ _ (e2.trans hx2)
 obtain ⟨x3, k3⟩ := h3 H enc W spare held n _ _ (e3.trans hx3)
 obtain ⟨x4, k4⟩ := h4 H enc W spare held n _ _ (e4.trans hx4)
 refine ⟨(x0, x1, x2, x3, x4), cs.take R0.n, cs.drop R0.n, (List.take_append_drop _ _).symm, k0, (cs.drop R0.n).take R1.n, (cs.drop R0.n).drop R1.n, (List.take_append_drop _ _).symm, k1,
  ((cs.drop R0.n).drop R1.n).take R2.n, ((cs.drop R0.n).drop R1.n).drop R2.n, (List.take_append_drop _ _).symm, ?_, (((cs.drop R0.n).drop R1.n).drop R2.n).take R3.n, (((cs.drop R0.n).drop R1.n).drop R2.n).drop R3.n, (List.take_append_drop _ _).symm, ?_, ?_⟩
 ·rw [List.drop_drop]; exact k2
 ·rw [List.drop_drop, List.drop_drop, show R0.n + (R1.n + R2.n) = R0.n + R1.n + R2.n from by omega]; exact k3
 ·rw [List.drop_drop, List.drop_drop, List.drop_drop, show R0.n + (R1.n + (R2.n + R3.n)) = R0.n + R1.n + R2.n + R3.n from by omega]
  rw [List.take_of_length_le (i := R4.n) (by rw [List.length_drop]; omega)] at k4
  exact k4
abbrev RE : Rep (Bool × Nat × Nat × List UInt8 × List UInt8) := Rep.bool.prod (Rep.u64.prod (Rep.u64.prod (Rep.str.prod Rep.str)))
abbrev RI : Rep ((Bool × Nat × Nat × List UInt8 × List UInt8) × Nat × Nat) := RE.prod (Rep.u64.prod Rep.u64)
end Go.Pl
end
section
open Go.RowKit Go.Pl
namespace Go.Proofs.YtfkmicjlaedlkaaGreatDoor
theorem openE : Opens Tryz.prog 24 RE :=
 opens_prod5 Tryz.underlying24 rfl rfl rfl rfl rfl rfl (by kernel_rfl) (by kernel_rfl) (by kernel_rfl) (by kernel_rfl) (by kernel_rfl) (by kernel_rfl) (opens_bool Tryz.underlying4) (opens_u64 Tryz.underlying22) (opens_u64 Tryz.underlying22) (opens_str Tryz.underlying9) (opens_str Tryz.underlying9)
theorem openI : Opens Tryz.prog 26 RI :=
 opens_prod3 Tryz.underlying26 rfl (by kernel_rfl) rfl rfl rfl (by kernel_rfl) (by kernel_rfl) (by kernel_rfl) openE (opens_u64 Tryz.underlying22) (opens_u64 Tryz.underlying22)
end Go.Proofs.YtfkmicjlaedlkaaGreatDoor
end
section
open Go.RowKit Go.Pl Go.Av
namespace Go.Proofs.YtfkmicjlaedlkaaGreatDoor
set_option maxHeartbeats 4000000
theorem toE_eid : ToE RE (fun x => .agg [.bool x.1, .int .u64 (x.2.1 : Int), .int .u64 (x.2.2.1 : Int), .str x.2.2.2.1, .str x.2.2.2.2]) :=
 ToE.bool.prod (ToE.u64.prod (ToE.u64.prod (ToE.str.prod ToE.str)))
abbrev XE := Bool × Nat × Nat × List UInt8 × List UInt8
def XE.v (x : XE) : EidV := ⟨x.1, x.2.1, x.2.2.1, x.2.2.2.1, x.2.2.2.2⟩
theorem eid_V [Known] {W : World} {cs : List Value} {x : XE} (h : RE.ok W (· < W.heap.size) cs x) : V W (g0 W) [] (.agg (eC x.v)) (.agg cs.toArray) :=
 toE_eid.agg (l := [.bool x.1, .int .u64 (x.2.1 : Int), .int .u64 (x.2.2.1 : Int), .str x.2.2.2.1, .str x.2.2.2.2]) rfl h
end Go.Proofs.YtfkmicjlaedlkaaGreatDoor
end
section
open Go.RowKit Go.Pl Go.Av
namespace Go.Proofs.YtfkmicjlaedlkaaGreatDoor
set_option maxHeartbeats 4000000
structure PriV where
 fl : Nat
 sum : Int
 dest : EidV
 rep : EidV
 src : EidV
 t : Nat
 q : Nat
 life : Nat
abbrev prC (p : PriV) : List D := [.int .u64 (p.fl : Int), .int .i64 p.sum, .bool p.dest.i, .int .u64 (p.dest.n : Int), .int .u64 (p.dest.s : Int), .str p.dest.h, .str p.dest.d, .bool p.rep.i, .int .u64 (p.rep.n : Int), .int .u64 (p.rep.s : Int), .str p.rep.h, .str p.rep.d, .bool p.src.i, .int .u64 (p.src.n : Int), .int .u64 (p.src.s : Int), .str p.src.h, .str p.src.d, .int .u64 (p.t : Int), .int .u64 (p.q : Int), .int .u64 (p.life : Int)]
def rightP (p : PriV) : Bool := (bits .andNot .u64 (p.fl : Int) 409638 == 0) && (decide (p.sum ≥ 0) && (decide (p.sum <= 2) && (eRight p.dest && (eRight p.rep && (iRight p.src p.t p.q && decide ((p.life : Int) <= 1099511627776))))))
theorem av_pRight [Known] (p : PriV) : AP Tryz.prog 16 [.agg (prC p)] (.bool (rightP p)) [] := by
 have hD := av_eRight p.dest
 have hR := av_eRight p.rep
 have hI := av_iRight p.src p.t p.q
 unfold rightP
 generalize eRight p.dest = e1 at *
 generalize eRight p.rep = e2 at *
 generalize iRight p.src p.t p.q = e3 at *
 obtain ⟨fl, sum, ⟨di, dn, ds, dh, dd⟩, ⟨ri, rn, rs, rh, rd⟩, ⟨xi, xn, xs, xh, xd⟩, t, q, life⟩ := p
 dsimp only at *
 cases t1 : (bits .andNot .u64 (fl : Int) 409638 == 0) with
 | false =>
  refine AP.ofA ?_
  refine AC_of Tryz.func16 rfl Tryz.ntmps16 rfl rfl ?_
  repeat' (first | (apply AL_go ttok; exact rfl) | (apply AW_go ttok; exact rfl) | (apply AL_guardFt; (iterate 3 exact rfl); (first | with_reducible assumption | decide +kernel)) | (apply AL_pickF; exact rfl; (first | with_reducible assumption | decide +kernel); exact rfl; exact rfl))
  all_goals (apply endQ []; (apply resG_ok ttok; exact rfl); (iterate 4 exact rfl))
  all_goals rfl
 | true =>
 cases t2 : decide (sum ≥ 0) with
 | false =>
  refine AP.ofA ?_
  refine AC_of Tryz.func16 rfl Tryz.ntmps16 rfl rfl ?_
  repeat' (first | (apply AL_go ttok; exact rfl) | (apply AW_go ttok; exact rfl) | (apply AL_guardT; (iterate 3 exact rfl); (first | with_reducible assumption | decide +kernel)) | (apply AL_guardFt; (iterate 3 exact rfl); (first | with_reducible assumption | decide +kernel)) | (apply AL_pickT; exact rfl; (first | with_reducible assumption | decide +kernel); exact rfl; exact rfl) | (apply AL_pickF; exact rfl; (first | with_reducible assumption | decide +kernel); exact rfl; exact rfl))
  all_goals (apply endQ []; (apply resG_ok ttok; exact rfl); (iterate 4 exact rfl))
  all_goals rfl
 | true =>
 cases t3 : decide (sum <= 2) with
 | false =>
  refine AP.ofA ?_
  refine AC_of Tryz.func16 rfl Tryz.ntmps16 rfl rfl ?_
  repeat' (first | (apply AL_go ttok; exact rfl) | (apply AW_go ttok; exact rfl) | (apply AL_guardT; (iterate 3 exact rfl); (first | with_reducible assumption | decide +kernel)) | (apply AL_guardFt; (iterate 3 exact rfl); (first | with_reducible assumption | decide +kernel)) | (apply AL_pickT; exact rfl; (first | with_reducible assumption | decide +kernel); exact rfl; exact rfl) | (apply AL_pickF; exact rfl; (first | with_reducible assumption | decide +kernel); exact rfl; exact rfl))
  all_goals (apply endQ []; (apply resG_ok ttok; exact rfl); (iterate 4 exact rfl))
  all_goals rfl
 | true =>
 cases e1
 ·refine AP.ofA ?_
  refine AC_of Tryz.func16 rfl Tryz.ntmps16 rfl rfl ?_
  repeat' (first | (apply AL_callPw (hD); kernel_rfl; (iterate 4 exact rfl)) | (apply AL_go ttok; exact rfl) | (apply AW_go ttok; exact rfl) | (apply AL_guardT; (iterate 3 exact rfl); (first | with_reducible assumption | decide +kernel)) | (apply AL_guardFt; (iterate 3 exact rfl); (first | with_reducible assumption | decide +kernel)) | (apply AL_pickT; exact rfl; (first | with_reducible assumption | decide +kernel); exact rfl; exact rfl) | (apply AL_pickF; exact rfl; (first | with_reducible assumption | decide +kernel); exact rfl; exact rfl))
  all_goals (apply endQ []; (apply resG_ok ttok; exact rfl); (iterate 4 exact rfl))
  all_goals rfl
 cases e2
 ·refine AP.ofA ?_
  refine AC_of Tryz.func16 rfl Tryz.ntmps16 rfl rfl ?_
  repeat' (first | (apply AL_callPw (hD); kernel_rfl; (iterate 4 exact rfl)) | (apply AL_callPw (hR); kernel_rfl; (iterate 4 exact rfl)) | (apply AL_go ttok; exact rfl) | (apply AW_go ttok; exact rfl) | (apply AL_guardT; (iterate 3 exact rfl); (first | with_reducible assumption | decide +kernel)) | (apply AL_guardFt; (iterate 3 exact rfl); (first | with_reducible assumption | decide +kernel)) | (apply AL_pickT; exact rfl; (first | with_reducible assumption | decide +kernel); exact rfl; exact rfl) | (apply AL_pickF; exact rfl; (first | with_reducible assumption | decide +kernel); exact rfl; exact rfl))
  all_goals (apply endQ []; (apply resG_ok ttok; exact rfl); (iterate 4 exact rfl))
  all_goals rfl
 cases e3
 ·refine AP.ofA ?_
  refine AC_of Tryz.func16 rfl Tryz.ntmps16 rfl rfl ?_
  repeat' (first | (apply AL_callPw (hD); kernel_rfl; (iterate 4 exact rfl)) | (apply AL_callPw (hR); kernel_rfl; (iterate 4 exact rfl)) | (apply AL_callPw (hI); kernel_rfl; (iterate 4 exact rfl)) | (apply AL_go ttok; exact rfl) | (apply AW_go ttok; exact rfl) | (apply AL_guardT; (iterate 3 exact rfl); (first | with_reducible assumption | decide +kernel)) | (apply AL_guardFt; (iterate 3 exact rfl); (first | with_reducible assumption | decide +kernel)) | (apply AL_pickT; exact rfl; (first | with_reducible assumption | decide +kernel); exact rfl; exact rfl) | (apply AL_pickF; exact rfl; (first | with_reducible assumption | decide +kernel); exact rfl; exact rfl))
  all_goals (apply endQ []; (apply resG_ok ttok; exact rfl); (iterate 4 exact rfl))
  all_goals rfl
 refine AP.ofA ?_
 refine AC_of Tryz.func16 rfl Tryz.ntmps16 rfl rfl ?_
 repeat' (first | (apply AL_callPw (hD); kernel_rfl; (iterate 4 exact rfl)) | (apply AL_callPw (hR); kernel_rfl; (iterate 4 exact rfl)) | (apply AL_callPw (hI); kernel_rfl; (iterate 4 exact rfl)) | (apply AL_go ttok; exact rfl) | (apply AW_go ttok; exact rfl) | (apply AL_guardT; (iterate 3 exact rfl); (first | with_reducible assumption | decide +kernel)) | (apply AL_pickT; exact rfl; (first | with_reducible assumption | decide +kernel); exact rfl; exact rfl))
 all_goals (apply endQ []; (apply resG_ok ttok; exact rfl); (iterate 4 exact rfl))
 all_goals rfl
end Go.Proofs.YtfkmicjlaedlkaaGreatDoor
end
section
open Go.RowKit Go.Pl Go.Av
namespace Go.Proofs.YtfkmicjlaedlkaaGreatDoor
set_option maxHeartbeats 4000000
def itemN (x : EidV) (t q : Nat) : It := .mk 4 0 [] [itemE x, .mk 4 0 [] [.mk 0 t [] [], .mk 0 q [] []]]
theorem iRight_iff {x : EidV} {t q : Nat} : iRight x t q = true ↔ eRight x = true /\ t <= 1099511627776 /\ q <= 1099511627776 := by
 unfold iRight
 simp only [Bool.and_eq_true, decide_eq_true_eq]
 rw [and_assoc]
 exact and_congr Iff.rfl (and_congr (by omega) (by omega))
theorem av_iWrite [Known] (x : EidV) (t q : Nat) : AP Tryz.prog 42 [.agg (iC x t q)] (.tup [itD (if iRight x t q then itemN x t q else .mk 0 0 [] []), .int .i64 (if iRight x t q then 0 else 3)]) [] := by
 have hR := av_iRight x t q
 cases hr : iRight x t q with
 | false =>
  rw [hr] at hR
  refine AP.ofA ?_
  refine AC_of Tryz.func42 rfl Tryz.ntmps42 rfl rfl ?_
  repeat' (first | (apply AL_callPw (hR); kernel_rfl; (iterate 4 exact rfl)) | (apply AL_go ttok; exact rfl) | (apply AW_go ttok; exact rfl) | (apply K_go ttok; exact rfl) | (apply AW_condA; exact rfl; (first | with_reducible assumption | decide +kernel)))
  all_goals (apply endQ []; (apply resG_ok ttok; exact rfl); (iterate 4 exact rfl))
  all_goals rfl
 | true =>
  rw [hr] at hR
  rw [if_pos rfl, if_pos rfl]
  obtain ⟨h1, h2, h3⟩ := iRight_iff.1 hr
  have hE := av_eWrite x
  rw [h1, if_pos rfl, if_pos rfl] at hE
  have hw := wf_itemE h1
  have nt := av_num t
  have nq := av_num q
  unfold itemN
  generalize itemE x = y at *
  have hL1 := av_list [.mk 0 t [] [], .mk 0 q [] []] (by simp) (by simp [wfI, wfs]; omega)
  have hL := av_list [y, .mk 4 0 [] [.mk 0 t [] [], .mk 0 q [] []]] (by simp) (by simp [wfI, wfs, hw]; omega)
  obtain ⟨k, n, b, l⟩ := y
  replace nt : AP Tryz.prog _ [.int .u64 (t : Int)] (.agg [.int .i64 0, .int .u64 (t : Int), .sl .ext [], .sl .ext []]) [] := nt
  replace nq : AP Tryz.prog _ [.int .u64 (q : Int)] (.agg [.int .i64 0, .int .u64 (q : Int), .sl .ext [], .sl .ext []]) [] := nq
  replace hE : AP Tryz.prog _ [.agg (eC x)] (.tup [.agg [.int .i64 k, .int .u64 (n : Int), byE b, .sl .ext (itEs l)], .int .i64 0]) [] := hE
  replace hL1 : AP Tryz.prog _ _ (.agg [.int .i64 4, .int .u64 0, .sl .ext [], .sl .ext [.agg [.int .i64 0, .int .u64 (t : Int), .sl [], .sl []], .agg [.int .i64 0, .int .u64 (q : Int), .sl [], .sl []]]]) [] := hL1
  refine AP.ofA ?_
  refine AC_of Tryz.func42 rfl Tryz.ntmps42 rfl rfl ?_
  repeat' (first | (apply AL_callPw (hR); kernel_rfl; (iterate 4 exact rfl)) | (apply AL_callPw (hE); kernel_rfl; (iterate 4 exact rfl)) | (apply AL_callPw (nt); kernel_rfl; (iterate 4 exact rfl)) | (apply AL_callPw (nq); kernel_rfl; (iterate 4 exact rfl)) | (apply AL_callPw (hL1); kernel_rfl; (iterate 4 exact rfl)) | (apply AL_callPw (hL); kernel_rfl; (iterate 4 exact rfl)) | (apply AL_go ttok; exact rfl) | (apply AW_go ttok; exact rfl) | (apply K_go ttok; exact rfl) | (apply AW_condB; exact rfl; (first | with_reducible assumption | decide +kernel)) | (apply AL_bsZ ttok; (iterate 12 exact rfl)) | (apply AW_drawE 13 hmix; (decide +kernel); (kernel_rfl); (kernel_rfl); (kernel_rfl); exact rfl; exact rfl) | (apply AE_consZ; (iterate 4 exact rfl)) | exact AE.nil _ _ _ _ | (apply AEk_puT; exact rfl) | (apply AEk_ef; exact rfl) | (apply AOt_mk; exact rfl; exact rfl; (decide +kernel); exact rfl) | (apply AO_puT; exact rfl) | (apply AO_ef; exact rfl) | exact AO.nil _ _ _ | (apply AOs_skip; (decide +kernel)) | (apply AOs_goZ; (iterate 3 exact rfl)) | exact AOs.nil | exact qY_ok rfl rfl | exact qY_wk rfl rfl rfl rfl rfl | exact qY_efn rfl)
  all_goals (apply endQ []; (apply resG_ok ttok; exact rfl); (iterate 4 exact rfl))
  all_goals rfl
end Go.Proofs.YtfkmicjlaedlkaaGreatDoor
end
section
open Go.RowKit Go.Pl Go.Av
namespace Go.Proofs.YtfkmicjlaedlkaaGreatDoor
set_option maxHeartbeats 4000000
def listP (p : PriV) : List It := [.mk 0 7 [] [], .mk 0 p.fl [] [], .mk 0 p.sum.toNat [] [], itemE p.dest, itemE p.src, itemE p.rep, .mk 4 0 [] [.mk 0 p.t [] [], .mk 0 p.q [] []], .mk 0 p.life [] []]
def writeP (p : PriV) : It × Int := match rightP p with
 | true => sealV (listP p) 2
 | false => (z0, 3)
theorem pr_facts {p : PriV} (h : rightP p = true) : 0 <= p.sum /\ p.sum <= 2 /\ eRight p.dest = true /\ eRight p.rep = true /\ iRight p.src p.t p.q = true /\ p.life <= 1099511627776 := by
 unfold rightP at h
 simp only [Bool.and_eq_true, decide_eq_true_eq] at h
 obtain ⟨_, h1, h2, h3, h4, h5, h6⟩ := h
 exact ⟨h1, h2, h3, h4, h5, by omega⟩
theorem wfs_P {p : PriV} (h : rightP p = true) (hfl : p.fl < 18446744073709551616) : wfs (listP p) := by
 obtain ⟨h1, h2, h3, h4, h5, h6⟩ := pr_facts h
 obtain ⟨i1, i2, i3⟩ := iRight_iff.1 h5
 refine ⟨?_, ?_, ?_, wf_itemE h3, wf_itemE i1, wf_itemE h4, ?_, ?_, trivial⟩
 all_goals first | (simp [wfI, wfs]; done) | (simp [wfI, wfs]; omega)
theorem av_pWrite [Known] [KnownU8] (p : PriV) (hfl : p.fl < 18446744073709551616) (hlim : ∀ s, s = 1 \/ s = 2 -> (putI (zeroL s (listP p))).length <= 1000000000) : AP Tryz.prog 12 [.agg (prC p)] (sealD (writeP p)) [] := by
 have hR := av_pRight p
 unfold writeP
 cases hr : rightP p with
 | false =>
  rw [hr] at hR
  obtain ⟨fl, sum, ⟨di, dn, ds, dh, dd⟩, ⟨ri, rn, rs, rh, rd⟩, ⟨xi, xn, xs, xh, xd⟩, t, q, life⟩ := p
  dsimp only [z0] at *
  refine AP.ofA ?_
  refine AC_of Tryz.func12 rfl Tryz.ntmps12 rfl rfl ?_
  repeat' (first | (apply AL_callPw (hR); kernel_rfl; (iterate 4 exact rfl)) | (apply AL_go ttok; exact rfl) | (apply AW_go ttok; exact rfl) | (apply K_go ttok; exact rfl) | (apply AW_condA; exact rfl; (first | with_reducible assumption | decide +kernel)))
  all_goals (apply endQ []; (apply resG_ok ttok; exact rfl); (iterate 4 exact rfl))
  all_goals rfl
 | true =>
  rw [hr] at hR
  obtain ⟨h1, h2, h3, h4, h5, h6⟩ := pr_facts hr
  have hS := av_seal (listP p) 2 (wfs_P hr hfl) (by simp [listP]) hlim
  have hD := av_eWrite p.dest
  have hP := av_eWrite p.rep
  have hI := av_iWrite p.src p.t p.q
  rw [if_pos h3, if_pos h3] at hD
  rw [if_pos h4, if_pos h4] at hP
  rw [if_pos h5, if_pos h5] at hI
  have hN := av_num 7
  have hF := av_num p.fl
  have hM := av_num p.sum.toNat
  have hL := av_num p.life
  dsimp only
  generalize sealV (listP p) 2 = r at *
  unfold listP at hS
  unfold itemN at hI
  obtain ⟨fl, sum, ⟨di, dn, ds, dh, dd⟩, ⟨ri, rn, rs, rh, rd⟩, ⟨xi, xn, xs, xh, xd⟩, t, q, life⟩ := p
  dsimp only at *
  generalize itemE ⟨di, dn, ds, dh, dd⟩ = I1 at *
  generalize itemE ⟨ri, rn, rs, rh, rd⟩ = I2 at *
  generalize itemE ⟨xi, xn, xs, xh, xd⟩ = I3 at *
  obtain ⟨ak, an, ab, al⟩ := I1
  obtain ⟨bk, bn, bb, bl⟩ := I2
  obtain ⟨ck, cn, cb, cl⟩ := I3
  obtain ⟨⟨k, n, b, l⟩, e⟩ := r
  have es : IntKind.u64.wrap sum = ((sum.toNat : Nat) : Int) := by rw [IntWalk.u64_in _ (by omega)]; omega
  have hU := uniI [It.mk ck cn cb cl, .mk 4 0 [] [.mk 0 t [] [], .mk 0 q [] []]]
  have hv0 : (itEs [It.mk ck cn cb cl, .mk 4 0 [] [.mk 0 t [] [], .mk 0 q [] []]])[(0 : Int).toNat]? = some (.agg [.int .i64 ck, .int .u64 (cn : Int), .sl (cb.map E.byte), .sl (itEs cl)]) := rfl
  have hv1 : (itEs [It.mk ck cn cb cl, .mk 4 0 [] [.mk 0 t [] [], .mk 0 q [] []]])[(1 : Int).toNat]? = some (.agg [.int .i64 4, .int .u64 0, .sl [], .sl [nmE t, nmE q]]) := rfl
  generalize hLe : itEs [It.mk ck cn cb cl, .mk 4 0 [] [.mk 0 t [] [], .mk 0 q [] []]] = LL at *
  replace hI : AP Tryz.prog 42 [.agg (iC ⟨xi, xn, xs, xh, xd⟩ t q)] (.tup [.agg [.int .i64 4, .int .u64 0, .sl .ext [], .sl .ext LL], .int .i64 0]) [] := by rw [<- hLe]; exact hI
  replace hS : AP Tryz.prog 43 [.sl .ext [nmE 7, nmE fl, nmE sum.toNat, .agg [.int .i64 ak, .int .u64 (an : Int), .sl (ab.map E.byte), .sl (itEs al)], .agg [.int .i64 ck, .int .u64 (cn : Int), .sl (cb.map E.byte), .sl (itEs cl)], .agg [.int .i64 bk, .int .u64 (bn : Int), .sl (bb.map E.byte), .sl (itEs bl)], .agg [.int .i64 4, .int .u64 0, .sl [], .sl [nmE t, nmE q]], nmE life], .int .i64 2] (sealD (.mk k n b l, e)) [] := hS
  refine AP.ofA ?_
  refine AC_of Tryz.func12 rfl Tryz.ntmps12 rfl rfl ?_
  repeat' (first | (apply AL_callPw (hR); kernel_rfl; (iterate 4 exact rfl)) | rw [es] | (apply AL_callPw (hD); kernel_rfl; (iterate 4 exact rfl)) | (apply AL_callPw (hP); kernel_rfl; (iterate 4 exact rfl)) | (apply AL_callPw (hI); kernel_rfl; (iterate 4 exact rfl)) | (apply AL_callPw (hN); kernel_rfl; (iterate 4 exact rfl)) | (apply AL_callPw (hF); kernel_rfl; (iterate 4 exact rfl)) | (apply AL_callPw (hM); kernel_rfl; (iterate 4 exact rfl)) | (apply AL_callPw (hL); kernel_rfl; (iterate 4 exact rfl)) | (apply AL_callPw (hS); kernel_rfl; (iterate 4 exact rfl)) | (apply AL_go ttok; exact rfl) | (apply AW_go ttok; exact rfl) | (apply K_go ttok; exact rfl) | (apply AW_condB; exact rfl; (first | with_reducible assumption | decide +kernel)) | (apply AL_bsZ ttok; (iterate 12 exact rfl)) | (apply AW_drawE 21 hmix; (decide +kernel); (kernel_rfl); (kernel_rfl); (kernel_rfl); exact rfl; exact rfl) | (apply AE_consZ; (iterate 4 exact rfl)) | exact AE.nil _ _ _ _ | (apply AEk_puT; exact rfl) | (apply AOt_mk; exact rfl; exact rfl; (decide +kernel); exact rfl) | (apply AO_puT; exact rfl) | exact AO.nil _ _ _ | (apply AOs_skip; (decide +kernel)) | exact AOs.nil | exact qY_ok rfl rfl | (apply AL_idx ttok; (iterate 6 exact rfl); (first | with_reducible assumption | decide +kernel | exact Int.natCast_nonneg _ | (guard_target = (0:Int) <= (OfNat.ofNat _ : Int); decide) | rotate_left); (first | with_reducible assumption | decide +kernel | exact rfl); (first | exact uniB_ok rfl | with_reducible assumption | decide +kernel | rotate_left)))
  all_goals (apply endQ []; (apply resG_ok ttok; exact rfl); (iterate 4 exact rfl))
  all_goals rfl
end Go.Proofs.YtfkmicjlaedlkaaGreatDoor
end
section
open Go.RowKit Go.Pl Go.Av
namespace Go.Proofs.YtfkmicjlaedlkaaGreatDoor
set_option maxHeartbeats 4000000
end Go.Proofs.YtfkmicjlaedlkaaGreatDoor
end
section
open Go.RowKit Go.Pl Go.Av
namespace Go.Proofs.YtfkmicjlaedlkaaGreatDoor
set_option maxHeartbeats 4000000
end Go.Proofs.YtfkmicjlaedlkaaGreatDoor
end
section
open Go.RowKit Go.Pl Go.Av
namespace Go.Proofs.YtfkmicjlaedlkaaGreatDoor
set_option maxHeartbeats 4000000
end Go.Proofs.YtfkmicjlaedlkaaGreatDoor
end
section
open Go.RowKit Go.Pl Go.Av
namespace Go.Proofs.YtfkmicjlaedlkaaGreatDoor
set_option maxHeartbeats 4000000
end Go.Proofs.YtfkmicjlaedlkaaGreatDoor
end
section
open Go.RowKit Go.Pl Go.Av
namespace Go.Proofs.YtfkmicjlaedlkaaGreatDoor
set_option maxHeartbeats 4000000
end Go.Proofs.YtfkmicjlaedlkaaGreatDoor
end
section
open Go.RowKit Go.Pl Go.Av
namespace Go.Proofs.YtfkmicjlaedlkaaGreatDoor
set_option maxHeartbeats 4000000
theorem item_len {x : EidV} (h : eRight x = true) : (putI (itemE x)).length <= 200 := by
 unfold itemE
 repeat' split
 ·exact Nat.le_trans (hop_len 1 0) (by decide)
 ·have h0 := put_small 4 0 [] [.mk 0 2 [] [], hopI x.n x.s]
  have h1 := num_len 2
  have h2 := hop_len x.n x.s
  simp only [puts, List.length_append, List.length_nil, Nat.add_zero, Nat.zero_add] at h0
  exact Nat.le_trans h0 (by omega)
 ·have h0 := put_small 4 0 [] [.mk 0 1 [] [], .mk 3 0 (pathE x) []]
  have h1 := num_len 1
  have h2 := put_small 3 0 (pathE x) []
  rename_i hz hi
  have h3 : (pathE x).length <= 100 := by
   have ht := eRight_txt h (by simpa using hz) (by simpa using hi)
   simp only [pathE, List.length_append, List.length_cons, List.length_nil]
   omega
  simp only [puts, List.length_append, List.length_nil, Nat.add_zero, Nat.zero_add] at h0 h2
  exact Nat.le_trans h0 (by omega)
theorem puts_appP (a c : List It) : puts (a ++ c) = puts a ++ puts c := by
 induction a with
 | nil => rfl
 | cons y a ih => rw [List.cons_append, puts, puts, ih, List.append_assoc]
theorem lim_P {p : PriV} (h : rightP p = true) (s : Nat) (hs : s = 1 \/ s = 2) : (putI (zeroL s (listP p))).length <= 1000000000 := by
 obtain ⟨h1, h2, h3, h4, h5, h6⟩ := pr_facts h
 obtain ⟨i1, _, _⟩ := iRight_iff.1 h5
 have h0 := put_small 4 0 [] (listP p ++ [.mk 2 0 (List.replicate (2 * s) 0) []])
 have hb := put_small 2 0 (List.replicate (2 * s) 0) []
 have n1 := num_len 7
 have n2 := num_len p.fl
 have n3 := num_len p.sum.toNat
 have n4 := item_len h3
 have n5 := item_len i1
 have n6 := item_len h4
 have n7 := hop_len p.t p.q
 have n8 := num_len p.life
 have e7 : hopI p.t p.q = .mk 4 0 [] [.mk 0 p.t [] [], .mk 0 p.q [] []] := rfl
 rw [e7] at n7
 rw [puts_appP] at h0
 simp only [listP, puts, List.length_append, List.length_nil, List.length_replicate, Nat.add_zero, Nat.zero_add] at h0 hb
 show (putI (.mk 4 0 [] (listP p ++ [.mk 2 0 (List.replicate (2 * s) 0) []]))).length <= 1000000000
 exact Nat.le_trans h0 (by omega)
theorem av_pWriteR [Known] [KnownU8] (p : PriV) (hfl : p.fl < 18446744073709551616) : AP Tryz.prog 12 [.agg (prC p)] (sealD (writeP p)) [] := by
 cases h : rightP p with
 | true => exact av_pWrite p hfl (lim_P h)
 | false =>
  have hR := av_pRight p
  unfold writeP
  rw [h] at hR ⊢
  obtain ⟨fl, sum, ⟨di, dn, ds, dh, dd⟩, ⟨ri, rn, rs, rh, rd⟩, ⟨xi, xn, xs, xh, xd⟩, t, q, life⟩ := p
  dsimp only [z0] at *
  refine AP.ofA ?_
  refine AC_of Tryz.func12 rfl Tryz.ntmps12 rfl rfl ?_
  repeat' (first | (apply AL_callPw (hR); kernel_rfl; (iterate 4 exact rfl)) | (apply AL_go ttok; exact rfl) | (apply AW_go ttok; exact rfl) | (apply K_go ttok; exact rfl) | (apply AW_condA; exact rfl; (first | with_reducible assumption | decide +kernel)))
  all_goals (apply endQ []; (apply resG_ok ttok; exact rfl); (iterate 4 exact rfl))
  all_goals rfl
theorem wf_writeP {p : PriV} (hfl : p.fl < 18446744073709551616) : wfI (writeP p).1 := by
 unfold writeP
 cases h : rightP p with
 | false => exact wf_z0
 | true => exact wf_seal 2 (wfs_P h hfl) (by simp [listP])
def pr0 : PriV := ⟨0, 0, eidZ, eidZ, eidZ, 0, 0, 0⟩
def eZ (y : It) : EidV := match (readV y).2 with | true => (readV y).1 | false => eidZ
end Go.Proofs.YtfkmicjlaedlkaaGreatDoor
end
section
open Go.RowKit Go.Pl Go.Av
namespace Go.Proofs.YtfkmicjlaedlkaaGreatDoor
end Go.Proofs.YtfkmicjlaedlkaaGreatDoor
end
section
open Go.RowKit Go.Pl Go.Av
namespace Go.Proofs.YtfkmicjlaedlkaaGreatDoor
set_option maxHeartbeats 4000000
theorem right_of_writeP {p : PriV} {x : It} (h : writeP p = (x, 0)) : rightP p = true /\ sealV (listP p) 2 = (x, 0) := by
 unfold writeP at h
 cases hr : rightP p with
 | true => rw [hr] at h; exact ⟨rfl, h⟩
 | false => rw [hr] at h; simp at h
abbrev eqP6 (p : PriV) : Bool := (((p.fl : Int) == (p.fl : Int)) && ((p.sum == p.sum) && ((p.dest.i == p.dest.i) && (((p.dest.n : Int) == (p.dest.n : Int)) && (((p.dest.s : Int) == (p.dest.s : Int)) && ((p.dest.h == p.dest.h) && ((p.dest.d == p.dest.d) && ((p.rep.i == p.rep.i) && (((p.rep.n : Int) == (p.rep.n : Int)) && (((p.rep.s : Int) == (p.rep.s : Int)) && ((p.rep.h == p.rep.h) && ((p.rep.d == p.rep.d) && ((p.src.i == p.src.i) && (((p.src.n : Int) == (p.src.n : Int)) && (((p.src.s : Int) == (p.src.s : Int)) && ((p.src.h == p.src.h) && ((p.src.d == p.src.d) && (((p.t : Int) == (p.t : Int)) && (((p.q : Int) == (p.q : Int)) && (((p.life : Int) == (p.life : Int)) && true))))))))))))))))))))
theorem eqP6_self (p : PriV) : (!eqP6 p) = false := by simp [eqP6]
end Go.Proofs.YtfkmicjlaedlkaaGreatDoor
end
section
open Go.RowKit Go.Pl Go.Av
namespace Go.Proofs.YtfkmicjlaedlkaaGreatDoor
structure BunV where
 p : PriV
 bl : List BlkV
def alone (k : Nat) : Bool := k == 1 || (k == 6 || (k == 7 || k == 10))
def fitL : List BlkV -> List BlkV -> Bool
 | _, [] => true
 | pre, b :: r => bkRight b && (pre.all (fun c => c.num != b.num && (c.ty != b.ty || !alone b.ty)) && fitL (pre ++ [b]) r)
def fitV (l : List BlkV) : Bool := match l.getLast? with
 | none => false
 | some b => decide (l.length <= 8) && (b.ty == 1 && (b.num == 1 && fitL [] l))
theorem fitL_right : ∀ {l pre : List BlkV}, fitL pre l = true -> ∀ b ∈ l, bkRight b = true
 | [], _, _, b, hb => by simp at hb
 | x :: l, pre, h, b, hb => by
  rw [fitL] at h
  simp only [Bool.and_eq_true] at h
  rcases List.mem_cons.1 hb with rfl | hb
  ·exact h.1
  ·exact fitL_right h.2.2 b hb
theorem fit_right_all {l : List BlkV} (h : fitV l = true) : l.length <= 8 /\ ∀ b ∈ l, bkRight b = true := by
 unfold fitV at h
 split at h
 ·cases h
 ·simp only [Bool.and_eq_true, decide_eq_true_eq] at h
  exact ⟨h.1, fitL_right h.2.2.2⟩
def itemsL (b : BunV) : List It := (writeP b.p).1 :: b.bl.map fun c => (writeB c).1
def okAll (b : BunV) : Bool := (writeP b.p).2 == 0 && b.bl.all fun c => (writeB c).2 == 0
def putBn (b : BunV) : List UInt8 := 159 :: (puts (itemsL b) ++ [255])
def rightBn (b : BunV) : Bool := fitV b.bl && (okAll b && decide (((puts (itemsL b)).length : Int) <= 598))
theorem seal_right {l : List It} {a : Int} {x : It} (h : sealV l a = (x, 0)) : rightI x = true := by
 unfold sealV at h
 split at h
 ·simp at h
 ·split at h
  ·simp at h
  ·split at h
   ·split at h
    ·rename_i hr
     simp only [Prod.mk.injEq, and_true] at h
     subst h; exact hr
    ·simp at h
   ·split at h
    ·simp at h
    ·split at h
     ·simp at h
     ·rename_i hr
      simp only [Prod.mk.injEq, and_true] at h
      subst h; exact hr
end Go.Proofs.YtfkmicjlaedlkaaGreatDoor
end
section
open Go.RowKit Go.Pl Go.Av
namespace Go.Proofs.YtfkmicjlaedlkaaGreatDoor
def bn0 : BunV := ⟨pr0, []⟩
end Go.Proofs.YtfkmicjlaedlkaaGreatDoor
end

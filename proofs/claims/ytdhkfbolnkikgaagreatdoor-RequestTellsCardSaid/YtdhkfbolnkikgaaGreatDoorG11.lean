/- Arguments: structs of five fields; names and numbers of bundles. -/
import Derived.Test.YtdhkfbolnkikgaaGreatDoorG01
import Derived.Test.YtdhkfbolnkikgaaGreatDoorG08
import Derived.Test.YtdhkfbolnkikgaaGreatDoorProg
import Derived.Test.YtdhkfbolnkikgaaGreatDoorG10
import Derived.Recover
import Derived.Laws.BitsAllLaws
section
open Go.RowKit Go.Pl
namespace Go.Pl
set_option linter.unusedSimpArgs false
set_option linter.unusedVariables false
variable {P : Program} {t : TypeId}
theorem opens_prod5 {α β γ δ ε : Type} {R0 : Rep α} {R1 : Rep β} {R2 : Rep γ} {R3 : Rep δ} {R4 : Rep ε} {fs : Array Field} {f0 f1 f2 f3 f4 : Field} (hs : P.underlying t = some (.struct fs)) (hfs : fs = #[f0, f1, f2, f3, f4])
    (h00 : f0.offset = 0) (h01 : f1.offset = R0.n) (h02 : f2.offset = R0.n + R1.n) (h03 : f3.offset = R0.n + R1.n + R2.n) (h04 : f4.offset = R0.n + R1.n + R2.n + R3.n)
    (hc0 : P.cellsOf f0.type = R0.n) (hc1 : P.cellsOf f1.type = R1.n) (hc2 : P.cellsOf f2.type = R2.n) (hc3 : P.cellsOf f3.type = R3.n) (hc4 : P.cellsOf f4.type = R4.n) (hc : P.cellsOf t = R0.n + (R1.n + (R2.n + (R3.n + R4.n))))
    (h0 : Opens P f0.type R0) (h1 : Opens P f1.type R1) (h2 : Opens P f2.type R2) (h3 : Opens P f3.type R3) (h4 : Opens P f4.type R4) : Opens P t (R0.prod (R1.prod (R2.prod (R3.prod R4)))) := by
  intro H enc W spare held fuel cs y h
  obtain ⟨xs, n, _, _, hl, hxl, hg⟩ := DataW.trod_struct hs h
  subst hfs
  have e0 := hg 0 f0 rfl
  have e1 := hg 1 f1 rfl
  have e2 := hg 2 f2 rfl
  have e3 := hg 3 f3 rfl
  have e4 := hg 4 f4 rfl
  rw [h00, hc0, List.drop_zero] at e0
  rw [h01, hc1] at e1
  rw [h02, hc2] at e2
  rw [h03, hc3] at e3
  rw [h04, hc4] at e4
  have hn : xs.length = 5 := hxl
  have hx0 : xs[0]? = some (xs[0]'(by omega)) := List.getElem?_eq_getElem (by omega)
  have hx1 : xs[1]? = some (xs[1]'(by omega)) := List.getElem?_eq_getElem (by omega)
  have hx2 : xs[2]? = some (xs[2]'(by omega)) := List.getElem?_eq_getElem (by omega)
  have hx3 : xs[3]? = some (xs[3]'(by omega)) := List.getElem?_eq_getElem (by omega)
  have hx4 : xs[4]? = some (xs[4]'(by omega)) := List.getElem?_eq_getElem (by omega)
  obtain ⟨x0, k0⟩ := h0 H enc W spare held n _ _ (e0.trans hx0)
  obtain ⟨x1, k1⟩ := h1 H enc W spare held n _ _ (e1.trans hx1)
  obtain ⟨x2, k2⟩ := h2 H enc W spare held n _ _ (e2.trans hx2)
  obtain ⟨x3, k3⟩ := h3 H enc W spare held n _ _ (e3.trans hx3)
  obtain ⟨x4, k4⟩ := h4 H enc W spare held n _ _ (e4.trans hx4)
  refine ⟨(x0, x1, x2, x3, x4), cs.take R0.n, cs.drop R0.n, (List.take_append_drop _ _).symm, k0, (cs.drop R0.n).take R1.n, (cs.drop R0.n).drop R1.n, (List.take_append_drop _ _).symm, k1,
    ((cs.drop R0.n).drop R1.n).take R2.n, ((cs.drop R0.n).drop R1.n).drop R2.n, (List.take_append_drop _ _).symm, ?_, (((cs.drop R0.n).drop R1.n).drop R2.n).take R3.n, (((cs.drop R0.n).drop R1.n).drop R2.n).drop R3.n, (List.take_append_drop _ _).symm, ?_, ?_⟩
  · rw [List.drop_drop]; exact k2
  · rw [List.drop_drop, List.drop_drop, show R0.n + (R1.n + R2.n) = R0.n + R1.n + R2.n from by omega]; exact k3
  · rw [List.drop_drop, List.drop_drop, List.drop_drop, show R0.n + (R1.n + (R2.n + R3.n)) = R0.n + R1.n + R2.n + R3.n from by omega]
    rw [List.take_of_length_le (i := R4.n) (by rw [List.length_drop]; omega)] at k4
    exact k4
/-- a name's cells -/
abbrev RE : Rep (Bool × Nat × Nat × List UInt8 × List UInt8) := Rep.bool.prod (Rep.u64.prod (Rep.u64.prod (Rep.str.prod Rep.str)))
end Go.Pl
end
/- Arguments of this seat: names and numbers of bundles, opened. -/
section
open Go.RowKit Go.Pl
namespace Go.Proofs.YtdhkfbolnkikgaaGreatDoor
theorem openE : Opens Tryz.prog 24 RE :=
  opens_prod5 Tryz.underlying24 rfl rfl rfl rfl rfl rfl (by kernel_rfl) (by kernel_rfl) (by kernel_rfl) (by kernel_rfl) (by kernel_rfl) (by kernel_rfl) (opens_bool Tryz.underlying4) (opens_u64 Tryz.underlying22) (opens_u64 Tryz.underlying22) (opens_str Tryz.underlying9) (opens_str Tryz.underlying9)
end Go.Proofs.YtdhkfbolnkikgaaGreatDoor
end
/- Names: equal ones; a name as an argument. -/
section
open Go.RowKit Go.Pl Go.Av
namespace Go.Proofs.YtdhkfbolnkikgaaGreatDoor
set_option linter.unusedVariables false
set_option linter.unusedSimpArgs false
set_option maxHeartbeats 4000000
abbrev eqE (a b : EidV) : Bool := a.i == b.i && ((a.n : Int) == (b.n : Int) && ((a.s : Int) == (b.s : Int) && (a.h == b.h && (a.d == b.d && true))))
theorem eqE_iff {a b : EidV} : eqE a b = true ↔ a = b := by
  obtain ⟨i, n, s, h, d⟩ := a
  obtain ⟨i', n', s', h', d'⟩ := b
  simp only [eqE, Bool.and_eq_true, beq_iff_eq, EidV.mk.injEq]
  constructor
  · rintro ⟨h1, h2, h3, h4, h5, _⟩
    exact ⟨h1, by omega, by omega, h4, h5⟩
  · rintro ⟨h1, h2, h3, h4, h5⟩
    exact ⟨h1, by omega, by omega, h4, h5, trivial⟩
theorem toE_eid : ToE RE (fun x => .agg [.bool x.1, .int .u64 (x.2.1 : Int), .int .u64 (x.2.2.1 : Int), .str x.2.2.2.1, .str x.2.2.2.2]) :=
  ToE.bool.prod (ToE.u64.prod (ToE.u64.prod (ToE.str.prod ToE.str)))
abbrev XE := Bool × Nat × Nat × List UInt8 × List UInt8
def XE.v (x : XE) : EidV := ⟨x.1, x.2.1, x.2.2.1, x.2.2.2.1, x.2.2.2.2⟩
end Go.Proofs.YtdhkfbolnkikgaaGreatDoor
end
/- A function that defers a call which recovers. -/
section
open Go.RowKit Go.Pl
namespace Go.Av
set_option linter.unusedSimpArgs false
set_option linter.unusedVariables false
section
variable {P : Program} {Q : X → St → Prop} {n : Nat} {ee : Nat × Nat} {tm tm' : List (Nat × D)} {bx bx' : List (List D)} {fr fr' : List Fr} {b0 : Bs} {g : G} {w : World} {a : Act} {T : Tab}
variable {ops : Array Oper} {rest : List Oper} {t ty : Nat} {pos : String} {after : Array Edge}
end
theorem Inv.parts [Known] [Dfr] {b : Bs} {S : St} {g : G} {a : Act} {w : World} (h : Inv b S g a w) : a.tmps.size = S.n ∧ Mem g S.bx S.fr w ∧ (∀ t, V w g S.fr (look S.tm t) (a.tmps.getD t undef)) ∧ Evo b ⟨g, S.fr, w⟩ := ⟨h.size, h.mem, h.tm, h.evo⟩
theorem Inv.base [Known] [Dfr] {b b1 : Bs} {S : St} {g : G} {a : Act} {w : World} (h : Inv b1 S g a w) (he : Evo b b1) (hρ : b.g.ρ = []) (hf : b.fr = []) : Inv b S g a w :=
  ⟨h.size, h.defers, h.mem, h.tm, he.trans h.evo, by rw [hρ]; simp, by rw [hf]; simp⟩
end Go.Av
end
/- Package request: which requests may be. -/
section
open Go.RowKit Go.Pl Go.Av
namespace Go.Proofs.YtdhkfbolnkikgaaGreatDoor
set_option linter.unusedVariables false
set_option linter.unusedSimpArgs false
set_option maxHeartbeats 4000000
structure RqV where
  id : Nat
  kd : Int
  ep : EidV
  ds : EidV
  pol : Int
  num : Int
  tik : Int
  pay : List UInt8
  life : Nat
  tok : Nat
  on : Bool
abbrev rqC (x : RqV) : List D := [.int .u64 (x.id : Int), .int .i64 x.kd, .bool x.ep.i, .int .u64 (x.ep.n : Int), .int .u64 (x.ep.s : Int), .str x.ep.h, .str x.ep.d, .bool x.ds.i, .int .u64 (x.ds.n : Int), .int .u64 (x.ds.s : Int), .str x.ds.h, .str x.ds.d, .int .i64 x.pol, .int .i64 x.num, .int .i64 x.tik, byE x.pay, .int .u64 (x.life : Int), .int .u64 (x.tok : Int), .bool x.on]
/-- a name that is one -/
def isNm (x : EidV) : Bool := eRight x && !(isZ x)
theorem av_isName [Known] (x : EidV) : AP Tryz.prog 54 [.agg (eC x)] (.bool (isNm x)) [] := by
  have hR := av_eRight x
  unfold isNm
  cases hr : eRight x with
  | false =>
    rw [hr] at hR
    refine AP.ofA ?_
    refine AC_of Tryz.func54 rfl Tryz.ntmps54 rfl rfl ?_
    repeat' (first | (apply AL_callPw (hR); kernel_rfl; (iterate 4 exact rfl)) | (apply AL_move; exact rfl; exact rfl) | (apply AL_assign; exact rfl; exact rfl) | (apply AL_loadn ttok; (iterate 7 exact rfl)) | (apply AL_box; (iterate 5 exact rfl)) | refine AL_nil ?_ | (apply AL_guardFt; (iterate 3 exact rfl); (first | with_reducible assumption | decide +kernel)) | (apply AL_pickF; exact rfl; (first | with_reducible assumption | decide +kernel); exact rfl; exact rfl) | refine AW_region ?_ | refine AW_seq' ?_ | refine then_norm ?_ | refine AW_ret ?_)
    all_goals (apply endQ []; (repeat (first | exact ResL.nil | (apply ResL.cons; first | exact .tmp _ _ rfl | (apply res_n ttok; (iterate 6 exact rfl)) | (apply res_1 ttok; (iterate 5 exact rfl))))); (iterate 4 exact rfl))
    all_goals rfl
  | true =>
    rw [hr] at hR
    refine AP.ofA ?_
    refine AC_of Tryz.func54 rfl Tryz.ntmps54 rfl rfl ?_
    repeat' (first | (apply AL_callPw (hR); kernel_rfl; (iterate 4 exact rfl)) | (apply AL_move; exact rfl; exact rfl) | (apply AL_assign; exact rfl; exact rfl) | (apply AL_loadn ttok; (iterate 7 exact rfl)) | (apply AL_box; (iterate 5 exact rfl)) | refine AL_nil ?_ | (apply AL_guardT; (iterate 3 exact rfl); (first | with_reducible assumption | decide +kernel)) | (apply AL_pickT; exact rfl; (first | with_reducible assumption | decide +kernel); exact rfl; exact rfl) | refine AW_region ?_ | refine AW_seq' ?_ | refine then_norm ?_ | refine AW_ret ?_ | (apply AL_build ttok; (iterate 6 exact rfl)) | (apply AL_eqS ttok; (iterate 4 exact rfl); (kernel_rfl); (kernel_rfl); (iterate 3 exact rfl)))
    all_goals (apply endQ []; (repeat (first | exact ResL.nil | (apply ResL.cons; first | exact .tmp _ _ rfl | (apply res_n ttok; (iterate 6 exact rfl)) | (apply res_1 ttok; (iterate 5 exact rfl))))); (iterate 4 exact rfl))
    all_goals rfl
def rqSame (a b : RqV) : Bool := ((a.id : Int) == (b.id : Int)) && ((a.kd == b.kd) && (eqE a.ep b.ep && (eqE a.ds b.ds && ((a.pol == b.pol) && ((a.num == b.num) && ((a.tik == b.tik) && ((a.pay == b.pay) && (((a.life : Int) == (b.life : Int)) && (((a.tok : Int) == (b.tok : Int)) && (a.on == b.on))))))))))
theorem av_rqSame [Known] (a b : RqV) : AP Tryz.prog 14 [.agg (rqC a), .agg (rqC b)] (.bool (rqSame a b)) [] := by
  have hB := av_bEq a.pay b.pay
  unfold rqSame eqE
  refine AP.ofA ?_
  refine AC_of Tryz.func14 rfl Tryz.ntmps14 rfl rfl ?_
  repeat' (first | (apply AL_callPw (hB); kernel_rfl; (iterate 4 exact rfl)) | (apply AL_move; exact rfl; exact rfl) | (apply AL_assign; exact rfl; exact rfl) | (apply AL_bin; (iterate 5 exact rfl)) | (apply AL_load1 ttok; (iterate 6 exact rfl)) | (apply AL_loadn ttok; (iterate 7 exact rfl)) | (apply AL_fieldAddr ttok; (iterate 7 exact rfl)) | (apply AL_box; (iterate 5 exact rfl)) | refine AL_nil ?_ | (apply AL_guardT; (iterate 3 exact rfl); (first | with_reducible assumption | (guard_target =ₛ true = true; rfl) | (guard_target =ₛ false = false; rfl) | (guard_target =ₛ (!true) = false; rfl) | (guard_target =ₛ (!false) = true; rfl))) | (apply AL_guardFt; (iterate 3 exact rfl); (first | with_reducible assumption | (guard_target =ₛ true = true; rfl) | (guard_target =ₛ false = false; rfl) | (guard_target =ₛ (!true) = false; rfl) | (guard_target =ₛ (!false) = true; rfl))) | (apply AL_guardS; exact rfl; exact rfl; all_goals intro hb) | (apply AL_pickT; exact rfl; (first | with_reducible assumption | (guard_target =ₛ true = true; rfl) | (guard_target =ₛ false = false; rfl) | (guard_target =ₛ (!true) = false; rfl) | (guard_target =ₛ (!false) = true; rfl)); exact rfl; exact rfl) | (apply AL_pickF; exact rfl; (first | with_reducible assumption | (guard_target =ₛ true = true; rfl) | (guard_target =ₛ false = false; rfl) | (guard_target =ₛ (!true) = false; rfl) | (guard_target =ₛ (!false) = true; rfl)); exact rfl; exact rfl) | refine AW_region ?_ | refine AW_seq' ?_ | refine then_norm ?_ | refine AW_ret ?_ | (apply AL_beq ttok; (iterate 6 exact rfl)) | (apply AL_eqS ttok; (iterate 4 exact rfl); (kernel_rfl); (kernel_rfl); (iterate 3 exact rfl)))
  all_goals (apply endQ []; (repeat (first | exact ResL.nil | (apply ResL.cons; first | exact .tmp _ _ rfl | (apply res_n ttok; (iterate 6 exact rfl)) | (apply res_1 ttok; (iterate 5 exact rfl))))); (iterate 4 exact rfl))
  all_goals first | rfl | (simp only [*, Bool.true_and, Bool.false_and]; done)
theorem kcase (k : Int) : k = 1 ∨ k = 2 ∨ k = 3 ∨ k = 4 ∨ k = 5 ∨ k = 6 ∨ k = 7 ∨ k = 8 ∨ k = 9 ∨ k = 10 ∨ k = 11 ∨ k = 12 ∨ ((k == 1) = false ∧ (k == 2) = false ∧ (k == 3) = false ∧ (k == 4) = false ∧ (k == 5) = false ∧ (k == 6) = false ∧ (k == 7) = false ∧ (k == 8) = false ∧ (k == 9) = false ∧ (k == 10) = false ∧ (k == 11) = false ∧ (k == 12) = false) := by
  simp only [beq_eq_false_iff_ne]; omega
/-- a request with just an ID and a kind -/
abbrev rqZ (x : RqV) : RqV := ⟨x.id, x.kd, eidZ, eidZ, 0, 0, 0, [], 0, 0, false⟩
def rqOwn (x : RqV) : RqV :=
  if x.kd == 1 || x.kd == 3 then { rqZ x with ep := x.ep, pol := x.pol }
  else if x.kd == 2 || x.kd == 6 then { rqZ x with ep := x.ep }
  else if x.kd == 4 then { rqZ x with ep := x.ep, ds := x.ds, pay := x.pay, life := x.life, on := x.on }
  else if x.kd == 5 || (x.kd == 8 || x.kd == 9) then { rqZ x with num := x.num }
  else if x.kd == 7 then { rqZ x with ep := x.ep, tik := x.tik }
  else if x.kd == 10 then { rqZ x with on := x.on }
  else if x.kd == 12 then { rqZ x with tok := x.tok }
  else rqZ x
def rqParts (x : RqV) : Bool :=
  if x.kd == 1 || x.kd == 3 then isNm x.ep && (decide (x.pol ≥ 0) && decide (x.pol ≤ 2))
  else if x.kd == 2 || x.kd == 6 then isNm x.ep
  else if x.kd == 4 then isNm x.ep && (isNm x.ds && (decide ((x.pay.length : Int) ≤ 200) && (decide ((x.life : Int) ≥ 1) && decide ((x.life : Int) ≤ 1099511627776))))
  else if x.kd == 5 || (x.kd == 8 || x.kd == 9) then decide (x.num ≥ 1) && decide (x.num ≤ 1099511627776)
  else if x.kd == 7 then isNm x.ep && (decide (x.tik ≥ 1) && decide (x.tik ≤ 1000))
  else if x.kd == 12 then decide ((x.tok : Int) ≥ 1) && decide ((x.tok : Int) ≤ 2147483648)
  else x.kd == 10 || x.kd == 11
end Go.Proofs.YtdhkfbolnkikgaaGreatDoor
end
/- Arguments: structs of any number of fields. -/
section
open Go.RowKit Go.Pl
namespace Go.Pl
set_option linter.unusedSimpArgs false
set_option linter.unusedVariables false
/-- the cells from a field on read as R -/
def OpensF {α : Type} (P : Program) (fs : Array Field) (i o : Nat) (R : Rep α) : Prop :=
  ∀ (H : Type) (enc : TypeId × Value → H) (W : World) (spare : Nat → Bool) (held : Bool) (n : Nat) (cs : List Value) (xs : List (DataW H × List MemPlace)), cs.length = o + R.n → xs.length = fs.size →
    (∀ (j : Nat) (f : Field), fs[j]? = some f → DataW.trod enc P W 0 spare held n f.type ((cs.drop f.offset).take (P.cellsOf f.type)) = xs[j]?) → ∃ x, R.ok W (· < W.heap.size) (cs.drop o) x
variable {P : Program} {t : TypeId} {fs : Array Field}
theorem opensF_at {α : Type} {R : Rep α} {i o : Nat} {f : Field} (hf : fs[i]? = some f) (ho : f.offset = o) (hc : P.cellsOf f.type = R.n) (h : Opens P f.type R) {H : Type} {enc : TypeId × Value → H} {W : World} {spare : Nat → Bool} {held : Bool} {n : Nat} {cs : List Value} {xs : List (DataW H × List MemPlace)} (hl : xs.length = fs.size)
    (hg : ∀ (j : Nat) (f : Field), fs[j]? = some f → DataW.trod enc P W 0 spare held n f.type ((cs.drop f.offset).take (P.cellsOf f.type)) = xs[j]?) : ∃ x, R.ok W (· < W.heap.size) ((cs.drop o).take R.n) x := by
  have e := hg i f hf
  rw [ho, hc] at e
  have hi : i < xs.length := by
    rw [hl]
    exact (Array.getElem?_eq_some_iff.1 hf).1
  exact h H enc W spare held n _ _ (e.trans (List.getElem?_eq_getElem hi))
theorem opensF_one {α : Type} {R : Rep α} {i o : Nat} {f : Field} (hf : fs[i]? = some f) (ho : f.offset = o) (hc : P.cellsOf f.type = R.n) (h : Opens P f.type R) : OpensF P fs i o R := by
  intro H enc W spare held n cs xs hcl hl hg
  obtain ⟨x, hx⟩ := opensF_at hf ho hc h hl hg
  rw [List.take_of_length_le (by rw [List.length_drop]; omega)] at hx
  exact ⟨x, hx⟩
theorem opensF_cons {α β : Type} {R : Rep α} {R' : Rep β} {i o : Nat} {f : Field} (hf : fs[i]? = some f) (ho : f.offset = o) (hc : P.cellsOf f.type = R.n) (h : Opens P f.type R) (h' : OpensF P fs (i + 1) (o + R.n) R') : OpensF P fs i o (R.prod R') := by
  intro H enc W spare held n cs xs hcl hl hg
  obtain ⟨x, hx⟩ := opensF_at hf ho hc h hl hg
  have hn : (R.prod R').n = R.n + R'.n := rfl
  obtain ⟨x', hx'⟩ := h' H enc W spare held n cs xs (by rw [hn] at hcl; omega) hl hg
  refine ⟨(x, x'), (cs.drop o).take R.n, (cs.drop o).drop R.n, (List.take_append_drop _ _).symm, hx, ?_⟩
  rw [List.drop_drop]
  exact hx'
theorem opens_struct {α : Type} {R : Rep α} (hs : P.underlying t = some (.struct fs)) (hc : P.cellsOf t = R.n) (h : OpensF P fs 0 0 R) : Opens P t R := by
  intro H enc W spare held fuel cs y hy
  obtain ⟨xs, n, _, _, hl, hxl, hg⟩ := DataW.trod_struct hs hy
  exact h H enc W spare held n cs xs (by omega) hxl hg
end Go.Pl
end
/- A request as an argument. -/
section
open Go.RowKit Go.Pl Go.Av
namespace Go.Proofs.YtdhkfbolnkikgaaGreatDoor
set_option linter.unusedVariables false
set_option linter.unusedSimpArgs false
set_option maxHeartbeats 4000000
abbrev RQ : Rep (Nat × Int × XE × XE × Int × Int × Int × List UInt8 × Nat × Nat × Bool) :=
  Rep.u64.prod (Rep.i64.prod (RE.prod (RE.prod (Rep.i64.prod (Rep.i64.prod (Rep.i64.prod ((Rep.slice Rep.byte (by decide)).prod (Rep.u64.prod (Rep.u64.prod Rep.bool)))))))))
theorem openBy : Opens Tryz.prog 25 (Rep.slice Rep.byte (by decide)) := opens_slice (R := Rep.byte) (by decide) Tryz.underlying25 (by kernel_rfl) (opens_byte Tryz.underlying5)
theorem openQ : Opens Tryz.prog 27 RQ :=
  opens_struct Tryz.underlying27 (by kernel_rfl) (opensF_cons rfl rfl (by kernel_rfl) (opens_u64 Tryz.underlying22) (opensF_cons rfl rfl (by kernel_rfl) (opens_i64 Tryz.underlying3)
    (opensF_cons rfl rfl (by kernel_rfl) openE (opensF_cons rfl rfl (by kernel_rfl) openE (opensF_cons rfl rfl (by kernel_rfl) (opens_i64 Tryz.underlying3) (opensF_cons rfl rfl (by kernel_rfl) (opens_i64 Tryz.underlying3) (opensF_cons rfl rfl (by kernel_rfl) (opens_i64 Tryz.underlying3)
      (opensF_cons rfl rfl (by kernel_rfl) openBy (opensF_cons rfl rfl (by kernel_rfl) (opens_u64 Tryz.underlying22) (opensF_cons rfl rfl (by kernel_rfl) (opens_u64 Tryz.underlying22) (opensF_one rfl rfl (by kernel_rfl) (opens_bool Tryz.underlying4))))))))))))
abbrev XQ := Nat × Int × XE × XE × Int × Int × Int × List UInt8 × Nat × Nat × Bool
def XQ.v (x : XQ) : RqV := ⟨x.1, x.2.1, x.2.2.1.v, x.2.2.2.1.v, x.2.2.2.2.1, x.2.2.2.2.2.1, x.2.2.2.2.2.2.1, x.2.2.2.2.2.2.2.1, x.2.2.2.2.2.2.2.2.1, x.2.2.2.2.2.2.2.2.2.1, x.2.2.2.2.2.2.2.2.2.2⟩
theorem rq_V [Known] {W : World} {cs : List Value} {x : XQ} (h : RQ.ok W (· < W.heap.size) cs x) : V W (g0 W) [] (.agg (rqC x.v)) (.agg cs.toArray) := by
  obtain ⟨id, kd, ⟨ei, en, es, eh, ed⟩, ⟨di, dn, dq, dh, dd⟩, pol, num, tik, pay, life, tok, on⟩ := x
  have toE_rq := ToE.u64.prod (ToE.i64.prod (toE_eid.prod (toE_eid.prod (ToE.i64.prod (ToE.i64.prod (ToE.i64.prod ((ToE.byte.slice (by decide)).prod (ToE.u64.prod (ToE.u64.prod ToE.bool)))))))))
  exact ToE.agg toE_rq (l := [.int .u64 (id : Int), .int .i64 kd, .bool ei, .int .u64 (en : Int), .int .u64 (es : Int), .str eh, .str ed, .bool di, .int .u64 (dn : Int), .int .u64 (dq : Int), .str dh, .str dd, .int .i64 pol, .int .i64 num, .int .i64 tik, .sl (pay.map E.byte), .int .u64 (life : Int), .int .u64 (tok : Int), .bool on]) rfl h
end Go.Proofs.YtdhkfbolnkikgaaGreatDoor
end
/- Bytes as an argument. -/
section
open Go.RowKit Go.Pl Go.Av
namespace Go.Proofs.YtdhkfbolnkikgaaGreatDoor
set_option linter.unusedVariables false
set_option linter.unusedSimpArgs false
set_option maxHeartbeats 4000000
theorem bytes_V {W : World} {v : Value} {b : List UInt8} (h : Sl Rep.byte W (· < W.heap.size) v b) : V W (g0 W) [] (byE b) v := .sl .ext _ _ (ToE.byte.sl (C := (g0 W).C) (fun k hk o => hk) h) trivial
end Go.Proofs.YtdhkfbolnkikgaaGreatDoor
end
/- Package fields: numbers as bytes, plain. -/
section
open Go.RowKit Go.Pl Go.Av
namespace Go.Proofs.YtdhkfbolnkikgaaGreatDoor
set_option linter.unusedVariables false
set_option linter.unusedSimpArgs false
/-- a number's bytes: seven bits each, the lowest first -/
def vnF : Nat → Nat → List UInt8
  | 0, n => [UInt8.ofNat n]
  | f + 1, n => if n > 127 then UInt8.ofNat (n % 128 + 128) :: vnF f (n / 128) else [UInt8.ofNat n]
def vn (n : Nat) : List UInt8 := vnF 9 n
theorem vnF_len : ∀ f n, (vnF f n).length ≤ f + 1 ∧ 0 < (vnF f n).length
  | 0, n => by simp [vnF]
  | f + 1, n => by
    rw [vnF]
    split
    · have := vnF_len f (n / 128); simp; omega
    · simp
/-- the number at the beginning, the fault, and what is left -/
def rnF : List UInt8 → Nat → Nat → Nat × Nat × List UInt8
  | [], _, _ => (0, 8, [])
  | c :: r, i, a => if i = 10 ∨ (i = 9 ∧ c.toNat > 1) ∨ (c.toNat = 0 ∧ i > 0) then (0, 3, r)
    else if c.toNat < 128 then (a + c.toNat % 128 * 2 ^ (7 * i), 0, r) else rnF r (i + 1) (a + c.toNat % 128 * 2 ^ (7 * i))
theorem rnF_vn : ∀ (f n i a : Nat) (r : List UInt8), i + f = 9 → n * 2 ^ (7 * i) < 18446744073709551616 → (i > 0 → n > 0) → rnF (vnF f n ++ r) i a = (a + n * 2 ^ (7 * i), 0, r)
  | 0, n, i, a, r, hi, hn, hp => by
    obtain rfl : i = 9 := by omega
    have h2 : n < 2 := by
      have : n * 9223372036854775808 < 18446744073709551616 := hn
      omega
    have hp := hp (by omega)
    obtain rfl : n = 1 := by omega
    rw [vnF, List.cons_append, List.nil_append, rnF, if_neg (by decide), if_pos (by decide)]
    rfl
  | f + 1, n, i, a, r, hi, hn, hp => by
    rw [vnF]
    by_cases h : n > 127
    · rw [if_pos h, List.cons_append, rnF]
      have hc : (UInt8.ofNat (n % 128 + 128)).toNat = n % 128 + 128 := by rw [UInt8.toNat_ofNat']; omega
      rw [hc, if_neg (by omega), if_neg (by omega)]
      have hpow : 2 ^ (7 * (i + 1)) = 128 * 2 ^ (7 * i) := by rw [Nat.mul_add, Nat.pow_add, Nat.mul_comm]
      have hle : n / 128 * 2 ^ (7 * (i + 1)) ≤ n * 2 ^ (7 * i) := by
        rw [hpow, ← Nat.mul_assoc]
        exact Nat.mul_le_mul_right _ (by omega)
      rw [rnF_vn f (n / 128) (i + 1) _ r (by omega) (by omega) (by omega)]
      congr 1
      rw [hpow, Nat.add_assoc, show (n % 128 + 128) % 128 = n % 128 by omega, ← Nat.mul_assoc, ← Nat.add_mul, show n % 128 + n / 128 * 128 = n by omega]
    · rw [if_neg h, List.cons_append, List.nil_append, rnF]
      have hc : (UInt8.ofNat n).toNat = n := by rw [UInt8.toNat_ofNat']; omega
      rw [hc, if_neg (by omega), if_pos (by omega), Nat.mod_eq_of_lt (by omega)]
/-- what is read is what stands ahead of the rest -/
theorem rnF_len : ∀ (b : List UInt8) (i a : Nat), (rnF b i a).2.2.length ≤ b.length
  | [], _, _ => by simp [rnF]
  | c :: r, i, a => by
    rw [rnF]
    split
    · simp
    · split
      · simp
      · have := rnF_len r (i + 1) (a + c.toNat % 128 * 2 ^ (7 * i)); simp; omega
theorem rnF_lt : ∀ (b : List UInt8) (i a : Nat), a < 2 ^ (7 * i) → i ≤ 10 → (rnF b i a).1 < 18446744073709551616
  | [], _, _, _, _ => by simp [rnF]
  | c :: r, i, a, ha, hi => by
    rw [rnF]
    split
    · simp
    · rename_i h
      have hc := c.toNat_lt
      have hpow : 2 ^ (7 * (i + 1)) = 128 * 2 ^ (7 * i) := by rw [Nat.mul_add, Nat.pow_add, Nat.mul_comm]
      have h1 : a + c.toNat % 128 * 2 ^ (7 * i) < 2 ^ (7 * (i + 1)) := by
        rw [hpow]
        have : c.toNat % 128 * 2 ^ (7 * i) ≤ 127 * 2 ^ (7 * i) := Nat.mul_le_mul_right _ (by omega)
        omega
      have h9 : i ≤ 9 := by omega
      split
      · rcases Nat.lt_or_ge i 9 with h8 | h8
        · have : 2 ^ (7 * (i + 1)) ≤ 2 ^ 63 := Nat.pow_le_pow_right (by decide) (by omega)
          show a + c.toNat % 128 * 2 ^ (7 * i) < _
          omega
        · obtain rfl : i = 9 := by omega
          have hc1 : c.toNat ≤ 1 := by omega
          have h2 : a < 9223372036854775808 := ha
          show a + c.toNat % 128 * 9223372036854775808 < _
          have : c.toNat % 128 ≤ 1 := by omega
          omega
      · exact rnF_lt r (i + 1) _ h1 (by omega)
theorem or_sum (a x k : Nat) (ha : a < 2 ^ k) : a ||| x * 2 ^ k = a + x * 2 ^ k := by
  rw [Nat.or_comm, Nat.mul_comm, ← Nat.two_pow_add_eq_or_of_lt ha x]; omega
theorem and127 : ∀ n : Nat, n < 256 → n &&& 127 = n % 128 := by decide +kernel
theorem and128 : ∀ n : Nat, n < 256 → (n &&& 128 == 0) = decide (n < 128) := by decide +kernel
theorem or128 : ∀ n : Nat, n < 256 → n ||| 128 = n % 128 + 128 := by decide +kernel
theorem u8_127 (c : UInt8) : bits .and .u8 (c.toNat : Int) 127 = ((c.toNat % 128 : Nat) : Int) := by
  rw [← and127 _ c.toNat_lt]
  exact u8_and_nat _ 127 c.toNat_lt (by decide)
theorem u8_128 (c : UInt8) : bits .and .u8 (c.toNat : Int) 128 = ((c.toNat &&& 128 : Nat) : Int) := u8_and_nat _ 128 c.toNat_lt (by decide)
theorem t_128 (c : UInt8) : ((bits .and .u8 (c.toNat : Int) 128) == 0) = decide (c.toNat < 128) := by
  rw [u8_128, ← and128 _ c.toNat_lt, Bool.eq_iff_iff, beq_iff_eq, beq_iff_eq]
  omega
theorem w_low (n : Nat) : IntKind.u8.wrap (n : Int) = ((n % 256 : Nat) : Int) := by rw [IntKind.wrap_u8]; omega
theorem w_or (n : Nat) : bits .or .u8 (IntKind.u8.wrap (n : Int)) 128 = ((UInt8.ofNat (n % 128 + 128)).toNat : Int) := by
  have hc : (UInt8.ofNat (n % 128 + 128)).toNat = n % 128 + 128 := by rw [UInt8.toNat_ofNat']; omega
  rw [w_low, hc]
  have := u8_or_nat (n % 256) 128 (by omega) (by decide)
  rw [or128 _ (by omega), show n % 256 % 128 = n % 128 by omega] at this
  exact this
theorem shr7 (n : Nat) : (n : Int).fdiv (2 ^ min (Int.toNat 7) IntKind.u64.bits) = ((n / 128 : Nat) : Int) := by
  have e : (2 ^ min (Int.toNat 7) IntKind.u64.bits : Int) = 128 := by decide
  rw [e, Int.fdiv_eq_ediv_of_nonneg _ (by omega)]
  omega
theorem r_or {a i : Nat} (c : UInt8) (ha : a < 2 ^ (7 * i)) (hi : i ≤ 9) (h9 : i = 9 → c.toNat ≤ 1) : bits .or .u64 (a : Int) (IntKind.u64.wrap (IntKind.u64.wrap ((c.toNat % 128 : Nat) : Int) * 2 ^ min (IntKind.i64.wrap (7 * (i : Int))).toNat IntKind.u64.bits)) = ((a + c.toNat % 128 * 2 ^ (7 * i) : Nat) : Int) := by
  have e0 : IntKind.i64.wrap (7 * (i : Int)) = ((7 * i : Nat) : Int) := by rw [IntWalk.i64_in _ (by omega)]; omega
  have e1 : min (7 * i) IntKind.u64.bits = 7 * i := Nat.min_eq_left (by show 7 * i ≤ 64; omega)
  have e2 : IntKind.u64.wrap ((c.toNat % 128 : Nat) : Int) = ((c.toNat % 128 : Nat) : Int) := IntWalk.u64_in _ (by omega)
  have e3 : (((c.toNat % 128 : Nat) : Int) * 2 ^ (7 * i)) = ((c.toNat % 128 * 2 ^ (7 * i) : Nat) : Int) := by simp
  have hlt : c.toNat % 128 * 2 ^ (7 * i) < 18446744073709551616 ∧ a < 18446744073709551616 := by
    rcases Nat.lt_or_ge i 9 with h8 | h8
    · have h1 : 2 ^ (7 * i) ≤ 2 ^ 56 := Nat.pow_le_pow_right (by decide) (by omega)
      have h2 : c.toNat % 128 * 2 ^ (7 * i) ≤ 127 * 2 ^ 56 := Nat.mul_le_mul (by omega) h1
      omega
    · obtain rfl : i = 9 := by omega
      have := h9 rfl
      have h2 : a < 9223372036854775808 := ha
      constructor
      · show c.toNat % 128 * 9223372036854775808 < _
        have : c.toNat % 128 ≤ 1 := by omega
        omega
      · omega
  rw [e0, Int.toNat_natCast, e1, e2, e3, IntWalk.u64_in _ (by omega), u64_or_nat _ _ hlt.2 hlt.1, or_sum _ _ _ ha]
end Go.Proofs.YtdhkfbolnkikgaaGreatDoor
end
/- Package fields: a writer. -/
section
open Go.RowKit Go.Pl Go.Av
namespace Go.Proofs.YtdhkfbolnkikgaaGreatDoor
set_option linter.unusedVariables false
set_option linter.unusedSimpArgs false
set_option maxHeartbeats 4000000
/-- a writer's cells, and its row -/
abbrev wrC (L : List UInt8) : List (List D) := [[.bool true, .sl (.own 0) (L.map E.byte)]]
abbrev wrF (L : List UInt8) : List Fr := [⟨L.length, 1, 5⟩]
theorem byE_or (n : Nat) : E.int .u8 (bits .or .u8 (IntKind.u8.wrap (n : Int)) 128) = E.byte (UInt8.ofNat (n % 128 + 128)) := congrArg (E.int .u8) (w_or n)
theorem byE_low (n : Nat) (h : n < 256) : E.int .u8 (IntKind.u8.wrap (n : Int)) = E.byte (UInt8.ofNat n) := congrArg (E.int .u8) (by rw [w_low, UInt8.toNat_ofNat'])
theorem app_map (M : List UInt8) (c : UInt8) : M.map E.byte ++ [E.byte c] = (M ++ [c]).map E.byte := by simp
theorem av_wNum [Known] (L : List UInt8) (n : Nat) (hn : n < 18446744073709551616) (hL : L.length ≤ 1099511627776) : AT Tryz.prog 19 [.ptr 0 0, .int .u64 (n : Int)] (wrC L) (wrF L) (.ptr 0 0) (wrC (L ++ vn n)) (wrF (L ++ vn n)) := by
  refine AC_of Tryz.func19 rfl Tryz.ntmps19 rfl rfl ?_
  have hl0 : (L.map E.byte).length = L.length := List.length_map ..
  repeat' (first | (apply AL_move; exact rfl; exact rfl) | (apply AL_assign; exact rfl; exact rfl) | (apply AL_load1 ttok; (iterate 6 exact rfl)) | (apply AL_fieldAddr ttok; (iterate 7 exact rfl)) | (apply AL_nilCheck; exact rfl; exact rfl) | (apply AL_not; exact rfl; exact rfl) | refine AL_nil ?_ | (apply AL_guardT; (iterate 3 exact rfl); (first | with_reducible assumption | decide +kernel)) | (apply AL_pickF; exact rfl; (first | with_reducible assumption | decide +kernel); exact rfl; exact rfl) | refine AW_region ?_ | refine AW_seq' ?_ | (apply AW_condB; exact rfl; (first | with_reducible assumption | decide +kernel)) | refine AW_block ?_ | (apply AL_nilp ttok; (iterate 6 exact rfl)) | refine AW_skip ?_)
  refine AW_loopJ (fun k tm bx fr => ∃ (m c : Nat) (M : List UInt8) (K : List E), K = M.map E.byte ∧ c = K.length ∧ m < 18446744073709551616 ∧ k ≤ 9 ∧ m < 128 ^ (k + 1) ∧ M ++ vnF k m = L ++ vn n ∧ tm = [(0, .ptr 0 0), (1, .int .u64 (m : Int)), (4, .nilp)] ∧ bx = [[.bool true, .sl (.own 0) K]] ∧ fr = [⟨c, 1, 5⟩]) 10 (Lands.mk' (m := 9) (by omega) ⟨n, L.length, L, L.map E.byte, rfl, by simp, hn, Nat.le_refl _, Nat.lt_of_lt_of_le hn (by decide), rfl, rfl, rfl, rfl⟩ ?_ rfl rfl rfl rfl rfl rfl) ?_
  · exact .cons rfl (.cons rfl (.cons rfl .nil))
  rintro k tm bx fr ⟨m, c, M, K, hK, hc, hm, hk, hmk, hM, rfl, rfl, rfl⟩
  have hU : Uni 1 K := hK ▸ uniB1 M
  have hKl : K.length = M.length := by rw [hK, List.length_map]
  have hMl : M.length ≤ 1099511627800 := by
    have := congrArg List.length hM
    have h1 := vnF_len 9 n
    rw [List.length_append, List.length_append, vn] at this
    omega
  subst hc
  have ho := byE_or m
  rcases Nat.lt_or_ge 127 m with hgt | hle
  · have t1 : decide ((m : Int) > 127) = true := decide_eq_true (by omega)
    cases k with
    | zero => exfalso; simp at hmk; omega
    | succ k =>
      rw [vnF, if_pos hgt] at hM
      repeat' (first | rw [w_or] | (apply AL_shr; exact rfl; exact rfl; rotate_left; exact rfl) | rw [shr7] | (apply AL_move; exact rfl; exact rfl) | (apply AL_assign; exact rfl; exact rfl) | (apply AL_bin; (iterate 5 exact rfl)) | (apply AL_load1 ttok; (iterate 6 exact rfl)) | (apply AL_fieldAddr ttok; (iterate 7 exact rfl)) | (apply AL_nilCheck; exact rfl; exact rfl) | (apply AL_store ttok; (iterate 8 exact rfl)) | (apply AL_convT ttok; (iterate 5 exact rfl)) | refine AL_nil ?_ | refine AW_region ?_ | refine AW_seq' ?_ | (apply AW_condA; exact rfl; (first | with_reducible assumption | decide +kernel)) | refine then_norm ?_ | refine blk_norm ?_ | refine AW_block ?_ | (apply AL_bsZ ttok; (iterate 12 exact rfl)) | refine AW_skip ?_ | (apply AL_append ttok; (iterate 6 exact rfl); (first | with_reducible assumption | decide +kernel | exact rfl | rotate_left); exact rfl; exact rfl; (first | exact uniB_ok rfl | with_reducible assumption | decide +kernel | rotate_left); (first | exact uniB_ok rfl | with_reducible assumption | decide +kernel | rotate_left); (first | exact List.cons_ne_nil _ _ | with_reducible assumption | decide +kernel | rotate_left); (first | with_reducible assumption | decide +kernel | rotate_left); (first | with_reducible assumption | decide +kernel | rotate_left); exact rfl; exact rfl))
      · refine Lands.mk' (m := k) (by omega) ⟨m / 128, K.length + 1, M ++ [UInt8.ofNat (m % 128 + 128)], K ++ [E.byte (UInt8.ofNat (m % 128 + 128))], by rw [hK, app_map], by simp, by omega, by omega, by rw [Nat.pow_succ] at hmk; omega, by rw [List.append_assoc]; exact hM, rfl, rfl, rfl⟩ ?_ rfl rfl rfl rfl rfl rfl
        exact .cons rfl (.cons rfl (.cons rfl .nil))
      all_goals first | decide | (first | rfl | (simp only [List.length_append, List.length_cons, List.length_nil, List.length_map]; done) | (simp only [List.length_append, List.length_cons, List.length_nil, List.length_map] at *; (try unfold maxLen); (try simp only [Nat.add_mul]); omega))
  · have t1 : decide ((m : Int) > 127) = false := decide_eq_false (by omega)
    have hv : vnF k m = [UInt8.ofNat m] := by
      cases k with
      | zero => rfl
      | succ k => rw [vnF, if_neg (by omega)]
    have hF : K ++ [E.int .u8 (IntKind.u8.wrap (m : Int))] = (L ++ vn n).map E.byte := by
      rw [byE_low m (by omega), hK, app_map, ← hv, hM]
    have hFl : K.length + 1 = (L ++ vn n).length := by
      have := congrArg List.length hF
      simpa using this
    repeat' (first | (apply AL_move; exact rfl; exact rfl) | (apply AL_assign; exact rfl; exact rfl) | (apply AL_bin; (iterate 5 exact rfl)) | (apply AL_load1 ttok; (iterate 6 exact rfl)) | (apply AL_fieldAddr ttok; (iterate 7 exact rfl)) | (apply AL_nilCheck; exact rfl; exact rfl) | (apply AL_store ttok; (iterate 8 exact rfl)) | (apply AL_convT ttok; (iterate 5 exact rfl)) | refine AL_nil ?_ | refine AW_region ?_ | refine AW_seq' ?_ | (apply AW_condB; exact rfl; (first | with_reducible assumption | decide +kernel)) | refine then_norm ?_ | refine AW_exit ?_ | refine AW_ret ?_ | (apply AL_bsZ ttok; (iterate 12 exact rfl)) | (apply AL_append ttok; (iterate 6 exact rfl); (first | with_reducible assumption | decide +kernel | exact rfl | rotate_left); exact rfl; exact rfl; (first | exact uniB_ok rfl | with_reducible assumption | decide +kernel | rotate_left); (first | exact uniB_ok rfl | with_reducible assumption | decide +kernel | rotate_left); (first | exact List.cons_ne_nil _ _ | with_reducible assumption | decide +kernel | rotate_left); (first | with_reducible assumption | decide +kernel | rotate_left); (first | with_reducible assumption | decide +kernel | rotate_left); exact rfl; exact rfl))
    all_goals first | (apply endT [0] [0]; (repeat (first | exact ResL.nil | (apply ResL.cons; first | exact .tmp _ _ rfl | (apply res_n ttok; (iterate 6 exact rfl)) | (apply res_1 ttok; (iterate 5 exact rfl))))); (iterate 7 exact rfl)) | (first | rfl | (simp only [List.length_append, List.length_cons, List.length_nil, List.length_map]; done) | (simp only [List.length_append, List.length_cons, List.length_nil, List.length_map] at *; (try unfold maxLen); (try simp only [Nat.add_mul]); omega))
    all_goals first | rfl | exact congrArg (fun l => [[D.bool true, D.sl (.own 0) l]]) hF | exact congrArg (fun c => [(⟨c, 1, 5⟩ : Fr)]) hFl
theorem av_wNum0 [Known] (n : Nat) (hn : n < 18446744073709551616) : AT Tryz.prog 19 [.ptr 0 0, .int .u64 (n : Int)] [[.bool true, .sl .nil []]] [] (.ptr 0 0) (wrC (vn n)) (wrF (vn n)) := by
  refine AC_of Tryz.func19 rfl Tryz.ntmps19 rfl rfl ?_
  repeat' (first | (apply AL_move; exact rfl; exact rfl) | (apply AL_assign; exact rfl; exact rfl) | (apply AL_load1 ttok; (iterate 6 exact rfl)) | (apply AL_fieldAddr ttok; (iterate 7 exact rfl)) | (apply AL_nilCheck; exact rfl; exact rfl) | (apply AL_not; exact rfl; exact rfl) | refine AL_nil ?_ | (apply AL_guardT; (iterate 3 exact rfl); (first | with_reducible assumption | decide +kernel)) | (apply AL_pickF; exact rfl; (first | with_reducible assumption | decide +kernel); exact rfl; exact rfl) | refine AW_region ?_ | refine AW_seq' ?_ | (apply AW_condB; exact rfl; (first | with_reducible assumption | decide +kernel)) | refine AW_block ?_ | (apply AL_nilp ttok; (iterate 6 exact rfl)) | refine AW_skip ?_)
  refine AW_loopJ (fun k tm bx fr => ∃ (m c : Nat) (M : List UInt8) (K : List E), K = M.map E.byte ∧ c = K.length ∧ m < 18446744073709551616 ∧ k ≤ 9 ∧ m < 128 ^ (k + 1) ∧ M ++ vnF k m = vn n ∧ tm = [(0, .ptr 0 0), (1, .int .u64 (m : Int)), (4, .nilp)] ∧ ((M = [] ∧ bx = [[.bool true, .sl .nil []]] ∧ fr = []) ∨ (bx = [[.bool true, .sl (.own 1) K]] ∧ fr = [⟨1, 1, 5⟩, ⟨c, 1, 5⟩]))) 10 (Lands.mk' (m := 9) (by omega) ⟨n, 0, [], [], rfl, rfl, hn, Nat.le_refl _, Nat.lt_of_lt_of_le hn (by decide), rfl, rfl, .inl ⟨rfl, rfl, rfl⟩⟩ ?_ rfl rfl rfl rfl rfl rfl) ?_
  · exact .cons rfl (.cons rfl (.cons rfl .nil))
  rintro k tm bx fr ⟨m, c, M, K, hK, hc, hm, hk, hmk, hM, rfl, ⟨rfl, rfl, rfl⟩ | ⟨rfl, rfl⟩⟩
  · have hU : Uni 1 K := hK ▸ uniB1 []
    have hKl : K = [] := hK
    subst hc
    have ho := byE_or m
    rcases Nat.lt_or_ge 127 m with hgt | hle
    · have t1 : decide ((m : Int) > 127) = true := decide_eq_true (by omega)
      cases k with
      | zero => exfalso; simp at hmk; omega
      | succ k =>
        rw [vnF, if_pos hgt] at hM
        repeat' (first | rw [w_or] | (apply AL_shr; exact rfl; exact rfl; rotate_left; exact rfl) | rw [shr7] | (apply AL_append_nilZ ttok; (iterate 6 exact rfl); exact uniB_ok rfl; exact List.cons_ne_nil _ _; exact rfl; decide +kernel; decide +kernel; (iterate 3 exact rfl)) | (apply AL_move; exact rfl; exact rfl) | (apply AL_assign; exact rfl; exact rfl) | (apply AL_bin; (iterate 5 exact rfl)) | (apply AL_load1 ttok; (iterate 6 exact rfl)) | (apply AL_fieldAddr ttok; (iterate 7 exact rfl)) | (apply AL_nilCheck; exact rfl; exact rfl) | (apply AL_store ttok; (iterate 8 exact rfl)) | (apply AL_convT ttok; (iterate 5 exact rfl)) | refine AL_nil ?_ | refine AW_region ?_ | refine AW_seq' ?_ | (apply AW_condA; exact rfl; (first | with_reducible assumption | decide +kernel)) | refine then_norm ?_ | refine blk_norm ?_ | refine AW_block ?_ | (apply AL_bsZ ttok; (iterate 12 exact rfl)) | refine AW_skip ?_)
        · refine Lands.mk' (m := k) (by omega) ⟨m / 128, 1, [UInt8.ofNat (m % 128 + 128)], [E.byte (UInt8.ofNat (m % 128 + 128))], rfl, rfl, by omega, by omega, by rw [Nat.pow_succ] at hmk; omega, by rw [List.nil_append] at hM; exact hM, rfl, .inr ⟨rfl, rfl⟩⟩ ?_ rfl rfl rfl rfl rfl rfl
          exact .cons rfl (.cons rfl (.cons rfl .nil))
        all_goals first | decide | (first | rfl | (simp only [List.length_append, List.length_cons, List.length_nil, List.length_map]; done) | (simp only [List.length_append, List.length_cons, List.length_nil, List.length_map] at *; (try unfold maxLen); (try simp only [Nat.add_mul]); omega))
    · have t1 : decide ((m : Int) > 127) = false := decide_eq_false (by omega)
      have hv : vnF k m = [UInt8.ofNat m] := by
        cases k with
        | zero => rfl
        | succ k => rw [vnF, if_neg (by omega)]
      have hF : [E.int .u8 (IntKind.u8.wrap (m : Int))] = (vn n).map E.byte := by
        rw [byE_low m (by omega), ← hM, hv]; rfl
      have hFl : 1 = (vn n).length := by
        have := congrArg List.length hF
        simpa using this
      repeat' (first | (apply AL_append_nilZ ttok; (iterate 6 exact rfl); exact uniB_ok rfl; exact List.cons_ne_nil _ _; exact rfl; decide +kernel; decide +kernel; (iterate 3 exact rfl)) | (apply AL_move; exact rfl; exact rfl) | (apply AL_assign; exact rfl; exact rfl) | (apply AL_bin; (iterate 5 exact rfl)) | (apply AL_load1 ttok; (iterate 6 exact rfl)) | (apply AL_fieldAddr ttok; (iterate 7 exact rfl)) | (apply AL_nilCheck; exact rfl; exact rfl) | (apply AL_store ttok; (iterate 8 exact rfl)) | (apply AL_convT ttok; (iterate 5 exact rfl)) | refine AL_nil ?_ | refine AW_region ?_ | refine AW_seq' ?_ | (apply AW_condB; exact rfl; (first | with_reducible assumption | decide +kernel)) | refine then_norm ?_ | refine AW_exit ?_ | refine AW_ret ?_ | (apply AL_bsZ ttok; (iterate 12 exact rfl)))
      all_goals first | (apply endT [0] [1]; (repeat (first | exact ResL.nil | (apply ResL.cons; first | exact .tmp _ _ rfl | (apply res_n ttok; (iterate 6 exact rfl)) | (apply res_1 ttok; (iterate 5 exact rfl))))); (iterate 7 exact rfl)) | (first | rfl | (simp only [List.length_append, List.length_cons, List.length_nil, List.length_map]; done) | (simp only [List.length_append, List.length_cons, List.length_nil, List.length_map] at *; (try unfold maxLen); (try simp only [Nat.add_mul]); omega))
      all_goals first | rfl | exact congrArg (fun l => [[D.bool true, D.sl (.own 0) l]]) hF | exact congrArg (fun c => [(⟨c, 1, 5⟩ : Fr)]) hFl

  · have hU : Uni 1 K := hK ▸ uniB1 M
    have hKl : K.length = M.length := by rw [hK, List.length_map]
    have hMl : M.length ≤ 1099511627800 := by
      have := congrArg List.length hM
      have h1 := vnF_len 9 n
      rw [List.length_append, vn] at this
      omega
    subst hc
    have ho := byE_or m
    rcases Nat.lt_or_ge 127 m with hgt | hle
    · have t1 : decide ((m : Int) > 127) = true := decide_eq_true (by omega)
      cases k with
      | zero => exfalso; simp at hmk; omega
      | succ k =>
        rw [vnF, if_pos hgt] at hM
        repeat' (first | rw [w_or] | (apply AL_shr; exact rfl; exact rfl; rotate_left; exact rfl) | rw [shr7] | (apply AL_move; exact rfl; exact rfl) | (apply AL_assign; exact rfl; exact rfl) | (apply AL_bin; (iterate 5 exact rfl)) | (apply AL_load1 ttok; (iterate 6 exact rfl)) | (apply AL_fieldAddr ttok; (iterate 7 exact rfl)) | (apply AL_nilCheck; exact rfl; exact rfl) | (apply AL_store ttok; (iterate 8 exact rfl)) | (apply AL_convT ttok; (iterate 5 exact rfl)) | refine AL_nil ?_ | refine AW_region ?_ | refine AW_seq' ?_ | (apply AW_condA; exact rfl; (first | with_reducible assumption | decide +kernel)) | refine then_norm ?_ | refine blk_norm ?_ | refine AW_block ?_ | (apply AL_bsZ ttok; (iterate 12 exact rfl)) | refine AW_skip ?_ | (apply AL_append ttok; (iterate 6 exact rfl); (first | with_reducible assumption | decide +kernel | exact rfl | rotate_left); exact rfl; exact rfl; (first | exact uniB_ok rfl | with_reducible assumption | decide +kernel | rotate_left); (first | exact uniB_ok rfl | with_reducible assumption | decide +kernel | rotate_left); (first | exact List.cons_ne_nil _ _ | with_reducible assumption | decide +kernel | rotate_left); (first | with_reducible assumption | decide +kernel | rotate_left); (first | with_reducible assumption | decide +kernel | rotate_left); exact rfl; exact rfl))
        · refine Lands.mk' (m := k) (by omega) ⟨m / 128, K.length + 1, M ++ [UInt8.ofNat (m % 128 + 128)], K ++ [E.byte (UInt8.ofNat (m % 128 + 128))], by rw [hK, app_map], by simp, by omega, by omega, by rw [Nat.pow_succ] at hmk; omega, by rw [List.append_assoc]; exact hM, rfl, .inr ⟨rfl, rfl⟩⟩ ?_ rfl rfl rfl rfl rfl rfl
          exact .cons rfl (.cons rfl (.cons rfl .nil))
        all_goals first | decide | (first | rfl | (simp only [List.length_append, List.length_cons, List.length_nil, List.length_map]; done) | (simp only [List.length_append, List.length_cons, List.length_nil, List.length_map] at *; (try unfold maxLen); (try simp only [Nat.add_mul]); omega))
    · have t1 : decide ((m : Int) > 127) = false := decide_eq_false (by omega)
      have hv : vnF k m = [UInt8.ofNat m] := by
        cases k with
        | zero => rfl
        | succ k => rw [vnF, if_neg (by omega)]
      have hF : K ++ [E.int .u8 (IntKind.u8.wrap (m : Int))] = (vn n).map E.byte := by
        rw [byE_low m (by omega), hK, app_map, ← hv, hM]
      have hFl : K.length + 1 = (vn n).length := by
        have := congrArg List.length hF
        simpa using this
      repeat' (first | (apply AL_move; exact rfl; exact rfl) | (apply AL_assign; exact rfl; exact rfl) | (apply AL_bin; (iterate 5 exact rfl)) | (apply AL_load1 ttok; (iterate 6 exact rfl)) | (apply AL_fieldAddr ttok; (iterate 7 exact rfl)) | (apply AL_nilCheck; exact rfl; exact rfl) | (apply AL_store ttok; (iterate 8 exact rfl)) | (apply AL_convT ttok; (iterate 5 exact rfl)) | refine AL_nil ?_ | refine AW_region ?_ | refine AW_seq' ?_ | (apply AW_condB; exact rfl; (first | with_reducible assumption | decide +kernel)) | refine then_norm ?_ | refine AW_exit ?_ | refine AW_ret ?_ | (apply AL_bsZ ttok; (iterate 12 exact rfl)) | (apply AL_append ttok; (iterate 6 exact rfl); (first | with_reducible assumption | decide +kernel | exact rfl | rotate_left); exact rfl; exact rfl; (first | exact uniB_ok rfl | with_reducible assumption | decide +kernel | rotate_left); (first | exact uniB_ok rfl | with_reducible assumption | decide +kernel | rotate_left); (first | exact List.cons_ne_nil _ _ | with_reducible assumption | decide +kernel | rotate_left); (first | with_reducible assumption | decide +kernel | rotate_left); (first | with_reducible assumption | decide +kernel | rotate_left); exact rfl; exact rfl))
      all_goals first | (apply endT [0] [1]; (repeat (first | exact ResL.nil | (apply ResL.cons; first | exact .tmp _ _ rfl | (apply res_n ttok; (iterate 6 exact rfl)) | (apply res_1 ttok; (iterate 5 exact rfl))))); (iterate 7 exact rfl)) | (first | rfl | (simp only [List.length_append, List.length_cons, List.length_nil, List.length_map]; done) | (simp only [List.length_append, List.length_cons, List.length_nil, List.length_map] at *; (try unfold maxLen); (try simp only [Nat.add_mul]); omega))
      all_goals first | rfl | exact congrArg (fun l => [[D.bool true, D.sl (.own 0) l]]) hF | exact congrArg (fun c => [(⟨c, 1, 5⟩ : Fr)]) hFl
end Go.Proofs.YtdhkfbolnkikgaaGreatDoor
end

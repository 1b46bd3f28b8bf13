/- Package canon: numbers. -/
import Derived.Test.YtpodhnaofhfinaaGreatDoorG25
import Derived.Test.YtpodhnaofhfinaaGreatDoorG19
import Derived.Test.YtpodhnaofhfinaaGreatDoorG24
import Derived.Test.YtpodhnaofhfinaaGreatDoorG01
import Derived.Test.YtpodhnaofhfinaaGreatDoorG07
import Derived.Test.YtpodhnaofhfinaaGreatDoorProg
import Derived.Test.YtpodhnaofhfinaaGreatDoorG10
set_option linter.unusedVariables false
set_option linter.unusedSimpArgs false
section
open Go.RowKit Go.Pl Go.Av
namespace Go.Proofs.YtpodhnaofhfinaaGreatDoor
set_option maxHeartbeats 4000000
theorem uniU (l : List Nat) : Uni 1 (l.map fun n : Nat => E.int .u64 (n : Int)) := Uni.map (f := fun n : Nat => E.int .u64 (n : Int)) (fun _ => rfl) l
def badN (n : Nat) : Bool := decide ((n : Int) < 1) || decide ((n : Int) > 255)
theorem av_within1 [Known] (n : Nat) : AP Tryz.prog 95 [.int .u64 (n : Int)] (.bool (badN n)) [] := by
 unfold badN
 refine AP.ofA ?_
 refine AC_of Tryz.func95 rfl Tryz.ntmps95 rfl rfl ?_
 repeat' (first | (apply AL_go ttok; exact rfl) | (apply AW_go ttok; exact rfl) | (apply AL_guardT; (iterate 3 exact rfl); (first | with_reducible assumption | (solve | simp only [bn]))) | (apply AL_guardFf; (iterate 3 exact rfl); (first | with_reducible assumption | (solve | simp only [bn]))) | (apply AL_guardS; exact rfl; exact rfl; all_goals intro hb) | (apply AL_pickT; exact rfl; (first | with_reducible assumption | (solve | simp only [bn])); exact rfl; exact rfl) | (apply AL_pickF; exact rfl; (first | with_reducible assumption | (solve | simp only [bn])); exact rfl; exact rfl))
 all_goals (apply endQ []; (apply resG_ok ttok; exact rfl); (iterate 4 exact rfl))
 all_goals first | rfl | (simp only [*]; done) | (simp only [*]; rfl)
def idx2 : Bool -> Bool -> Int
 | true, _ => 0
 | false, true => 1
 | false, false => -1
theorem av_idxU [Known] (a b : Nat) (x y : Bool) (hx : badN a = x) (hy : badN b = y) : AP Tryz.prog 110 [.sl .ext [.int .u64 (a : Int), .int .u64 (b : Int)], .fn 95 []] (.int .i64 (idx2 x y)) [] := by
 have ga := av_within1 a
 have gb := av_within1 b
 rw [hx] at ga
 rw [hy] at gb
 have hU := uniU [a, b]
 have q0 : decide ((0 : Int) < (([.int .u64 (a : Int), .int .u64 (b : Int)] : List E).length : Int)) = true := rfl
 have q1 : decide ((1 : Int) < (([.int .u64 (a : Int), .int .u64 (b : Int)] : List E).length : Int)) = true := rfl
 have q2 : decide ((2 : Int) < (([.int .u64 (a : Int), .int .u64 (b : Int)] : List E).length : Int)) = false := rfl
 have e1 : IntKind.i64.wrap (0 + 1) = 1 := by decide
 have e2 : IntKind.i64.wrap (1 + 1) = 2 := by decide
 cases x <;> cases y
 all_goals
  refine AP.ofA ?_
  refine AC_of Tryz.func110 rfl Tryz.ntmps110 rfl rfl ?_
  repeat' (first | rw [e1] | rw [e2] | (apply AL_callPv (ga); exact rfl; kernel_rfl; (iterate 3 exact rfl)) | (apply AL_callPv (gb); exact rfl; kernel_rfl; (iterate 3 exact rfl)) | (apply AL_idx ttok; (iterate 6 exact rfl); exact (by decide); exact rfl; exact hU) | refine AW_loopN 20 ?_ | refine AN_succ ?_ | (apply AL_go ttok; exact rfl) | (apply AW_go ttok; exact rfl) | (apply K_go ttok; exact rfl) | (apply AW_condA; exact rfl; (first | with_reducible assumption | decide +kernel)) | (apply AW_condB; exact rfl; (first | with_reducible assumption | decide +kernel)) | refine then_ret ?_ | (apply AL_len ttok; (iterate 4 exact rfl)))
  all_goals (apply endQ []; (apply resG_ok ttok; exact rfl); (iterate 4 exact rfl))
  all_goals rfl
theorem av_contU [Known] (a b : Nat) : AP Tryz.prog 94 [.sl .ext [.int .u64 (a : Int), .int .u64 (b : Int)], .fn 95 []] (.bool (badN a || badN b)) [] := by
 cases hx : badN a <;> cases hy : badN b
 all_goals
  have hI := av_idxU a b _ _ hx hy
  refine AP.ofA ?_
  refine AC_of Tryz.func94 rfl Tryz.ntmps94 rfl rfl ?_
  repeat' (first | (apply AL_callPw (hI); kernel_rfl; (iterate 4 exact rfl)) | (apply AL_go ttok; exact rfl) | (apply AW_go ttok; exact rfl))
  all_goals (apply endQ []; (apply resG_ok ttok; exact rfl); (iterate 4 exact rfl))
  all_goals rfl
theorem av_within2 [Known] (a b : Nat) : AP Tryz.prog 73 [.sl .ext [.int .u64 (a : Int), .int .u64 (b : Int)]] (.bool (!(badN a || badN b))) [] := by
 have hI := av_contU a b
 refine AP.ofA ?_
 refine AC_of Tryz.func73 rfl Tryz.ntmps73 rfl rfl ?_
 repeat' (first | (apply AL_callPw (hI); kernel_rfl; (iterate 4 exact rfl)) | (apply AL_go ttok; exact rfl) | (apply AW_go ttok; exact rfl))
 all_goals (apply endQ []; (apply resG_ok ttok; exact rfl); (iterate 4 exact rfl))
 all_goals rfl
theorem av_list0 [Known] : AT Tryz.prog 47 [.sl .nil []] [] [] (.agg [.int .i64 4, .int .u64 0, .sl .nil [], .sl .nil []]) [] [] := by
 refine AC_of Tryz.func47 rfl Tryz.ntmps47 rfl rfl ?_
 repeat' (first | refine AW_loopN 20 ?_ | refine AN_succ ?_ | (apply AL_go ttok; exact rfl) | (apply AW_go ttok; exact rfl) | (apply AW_condB; exact rfl; (first | with_reducible assumption | decide +kernel)) | (apply AL_len ttok; (iterate 4 exact rfl)))
 all_goals (apply endT [] []; (apply resG_ok ttok; exact rfl); (iterate 7 exact rfl))
 all_goals rfl
abbrev nmE (n : Nat) : E := .agg [.int .i64 0, .int .u64 (n : Int), .sl [], .sl []]
theorem av_numbers2 [Known] (a b : Nat) : AP Tryz.prog 55 [.sl .ext [.int .u64 (a : Int), .int .u64 (b : Int)]] (.agg [.int .i64 4, .int .u64 0, .sl .ext [], .sl .ext [nmE a, nmE b]]) [] := by
 have ga := av_num a
 have gb := av_num b
 have hL := av_list0
 have hU := uniU [a, b]
 have e1 : IntKind.i64.wrap (0 + 1) = 1 := by decide
 have e2 : IntKind.i64.wrap (1 + 1) = 2 := by decide
 have hU4 : ∀ (l : List Nat), Uni 4 (l.map nmE) := fun l => Uni.map (f := nmE) (fun _ => rfl) l
 have q0 : decide ((0 : Int) < (([.int .u64 (a : Int), .int .u64 (b : Int)] : List E).length : Int)) = true := rfl
 have q1 : decide ((1 : Int) < (([.int .u64 (a : Int), .int .u64 (b : Int)] : List E).length : Int)) = true := rfl
 have q2 : decide ((2 : Int) < (([.int .u64 (a : Int), .int .u64 (b : Int)] : List E).length : Int)) = false := rfl
 have hu1 := hU4 [a]
 have hu2 := hU4 [a, b]
 refine AP.ofA ?_
 refine AC_of Tryz.func55 rfl Tryz.ntmps55 rfl rfl ?_
 repeat' (first | rw [e1] | rw [e2] | (apply AL_callT [] [] (hL); kernel_rfl; (iterate 10 exact rfl)) | (apply AL_callPw (ga); kernel_rfl; (iterate 4 exact rfl)) | (apply AL_callPw (gb); kernel_rfl; (iterate 4 exact rfl)) | (apply AL_idx ttok; (iterate 6 exact rfl); exact (by decide); exact rfl; exact hU) | refine AW_loopN 20 ?_ | refine AN_succ ?_ | (apply AL_appendZ ttok; (iterate 11 exact rfl); exact uniB_ok rfl; exact uniB_ok rfl; exact List.cons_ne_nil _ _; decide +kernel; decide +kernel; exact rfl; exact rfl) | (apply AL_append_nilZ ttok; (iterate 6 exact rfl); exact uniB_ok rfl; exact List.cons_ne_nil _ _; exact rfl; decide +kernel; decide +kernel; (iterate 3 exact rfl)) | (apply AL_go ttok; exact rfl) | (apply AW_go ttok; exact rfl) | (apply K_go ttok; exact rfl) | (apply AW_condA; exact rfl; (first | with_reducible assumption | decide +kernel)) | (apply AW_condB; exact rfl; (first | with_reducible assumption | decide +kernel)) | (apply AL_len ttok; (iterate 4 exact rfl)) | (apply AL_bsZ ttok; (iterate 12 exact rfl)) | (apply AW_drawE 5 hmix; (decide +kernel); (kernel_rfl); (kernel_rfl); (kernel_rfl); exact rfl; exact rfl) | (apply AE_consZ; (iterate 4 exact rfl)) | exact AE.nil _ _ _ _ | (apply AEk_puT; exact rfl) | (apply AOt_mk; exact rfl; exact rfl; (decide +kernel); exact rfl) | (apply AO_puT; exact rfl) | exact AO.nil _ _ _ | (apply AOs_skip; (decide +kernel)) | exact AOs.nil | exact qY_ok rfl rfl | exact qY_wk rfl rfl rfl rfl rfl)
 all_goals (apply endQ []; (apply resG_ok ttok; exact rfl); (iterate 4 exact rfl))
 all_goals rfl
theorem av_numbers4 [Known] (a b c d : Nat) : AT Tryz.prog 55 [.sl .ext [.int .u64 (a : Int), .int .u64 (b : Int), .int .u64 (c : Int), .int .u64 (d : Int)]] [] [] (.agg [.int .i64 4, .int .u64 0, .sl .nil [], .sl (.own 0) [nmE a, nmE b, nmE c, nmE d]]) [] [⟨4, 4, 83⟩] := by
 have ga := av_num a
 have gb := av_num b
 have gc := av_num c
 have gd := av_num d
 have hL := av_list0
 have hU := uniU [a, b, c, d]
 have e1 : IntKind.i64.wrap (0 + 1) = 1 := by decide
 have e2 : IntKind.i64.wrap (1 + 1) = 2 := by decide
 have e3 : IntKind.i64.wrap (2 + 1) = 3 := by decide
 have e4 : IntKind.i64.wrap (3 + 1) = 4 := by decide
 have hU4 : ∀ (l : List Nat), Uni 4 (l.map nmE) := fun l => Uni.map (f := nmE) (fun _ => rfl) l
 have q0 : decide ((0 : Int) < (([.int .u64 (a : Int), .int .u64 (b : Int), .int .u64 (c : Int), .int .u64 (d : Int)] : List E).length : Int)) = true := rfl
 have q1 : decide ((1 : Int) < (([.int .u64 (a : Int), .int .u64 (b : Int), .int .u64 (c : Int), .int .u64 (d : Int)] : List E).length : Int)) = true := rfl
 have q2 : decide ((2 : Int) < (([.int .u64 (a : Int), .int .u64 (b : Int), .int .u64 (c : Int), .int .u64 (d : Int)] : List E).length : Int)) = true := rfl
 have q3 : decide ((3 : Int) < (([.int .u64 (a : Int), .int .u64 (b : Int), .int .u64 (c : Int), .int .u64 (d : Int)] : List E).length : Int)) = true := rfl
 have q4 : decide ((4 : Int) < (([.int .u64 (a : Int), .int .u64 (b : Int), .int .u64 (c : Int), .int .u64 (d : Int)] : List E).length : Int)) = false := rfl
 have hu1 := hU4 [a]
 have hu2 := hU4 [a, b]
 have hu3 := hU4 [a, b, c]
 have hu4 := hU4 [a, b, c, d]
 refine AC_of Tryz.func55 rfl Tryz.ntmps55 rfl rfl ?_
 repeat' (first | rw [e1] | rw [e2] | rw [e3] | rw [e4] | (apply AL_callT [] [] (hL); kernel_rfl; (iterate 10 exact rfl)) | (apply AL_callPw (ga); kernel_rfl; (iterate 4 exact rfl)) | (apply AL_callPw (gb); kernel_rfl; (iterate 4 exact rfl)) | (apply AL_callPw (gc); kernel_rfl; (iterate 4 exact rfl)) | (apply AL_callPw (gd); kernel_rfl; (iterate 4 exact rfl)) | (apply AL_idx ttok; (iterate 6 exact rfl); exact (by decide); exact rfl; exact hU) | refine AW_loopN 20 ?_ | refine AN_succ ?_ | (apply AL_appendZ ttok; (iterate 11 exact rfl); exact uniB_ok rfl; exact uniB_ok rfl; exact List.cons_ne_nil _ _; decide +kernel; decide +kernel; exact rfl; exact rfl) | (apply AL_append_nilZ ttok; (iterate 6 exact rfl); exact uniB_ok rfl; exact List.cons_ne_nil _ _; exact rfl; decide +kernel; decide +kernel; (iterate 3 exact rfl)) | (apply AL_go ttok; exact rfl) | (apply AW_go ttok; exact rfl) | (apply K_go ttok; exact rfl) | (apply AW_condA; exact rfl; (first | with_reducible assumption | decide +kernel)) | (apply AW_condB; exact rfl; (first | with_reducible assumption | decide +kernel)) | (apply AL_len ttok; (iterate 4 exact rfl)) | (apply AL_bsZ ttok; (iterate 12 exact rfl)) | (apply AW_drawE 5 hmix; (decide +kernel); (kernel_rfl); (kernel_rfl); (kernel_rfl); exact rfl; exact rfl) | (apply AE_consZ; (iterate 4 exact rfl)) | exact AE.nil _ _ _ _ | (apply AEk_puT; exact rfl) | (apply AOt_mk; exact rfl; exact rfl; (decide +kernel); exact rfl) | (apply AO_puT; exact rfl) | exact AO.nil _ _ _ | (apply AOs_skip; (decide +kernel)) | exact AOs.nil | exact qY_ok rfl rfl | exact qY_wk rfl rfl rfl rfl rfl)
 all_goals (apply endT [] [0]; (apply resG_ok ttok; exact rfl); (iterate 7 exact rfl))
 all_goals rfl
end Go.Proofs.YtpodhnaofhfinaaGreatDoor
end
section
open Go.RowKit Go.Pl Go.Av
namespace Go.Proofs.YtpodhnaofhfinaaGreatDoor
set_option maxHeartbeats 4000000
structure RepV where
 a : Bool
 b : Bool
 c : Bool
 rs : Nat
 tm : Nat
 of : EidV
 t : Nat
 q : Nat
abbrev repC (r : RepV) : List D := [.bool r.a, .bool r.b, .bool r.c, .int .u64 (r.rs : Int), .int .u64 (r.tm : Int), .bool r.of.i, .int .u64 (r.of.n : Int), .int .u64 (r.of.s : Int), .str r.of.h, .str r.of.d, .int .u64 (r.t : Int), .int .u64 (r.q : Int)]
def rightR (r : RepV) : Bool := (r.a || (r.b || r.c)) && (decide ((r.rs : Int) <= 255) && (decide ((r.tm : Int) <= 1099511627776) && iRight r.of r.t r.q))
theorem av_rRight [Known] (r : RepV) : AP Tryz.prog 19 [.agg (repC r)] (.bool (rightR r)) [] := by
 have hI := av_iRight r.of r.t r.q
 unfold rightR
 generalize iRight r.of r.t r.q = e3 at *
 obtain ⟨a, b, c, rs, tm, ⟨i, n, s, h, d⟩, t, q⟩ := r
 dsimp only at *
 cases t1 : decide ((rs : Int) <= 255) <;> cases t2 : decide ((tm : Int) <= 1099511627776) <;> cases a <;> cases b <;> cases c
 all_goals
  refine AP.ofA ?_
  refine AC_of Tryz.func19 rfl Tryz.ntmps19 rfl rfl ?_
  repeat' (first | (apply AL_callPw (hI); kernel_rfl; (iterate 4 exact rfl)) | (apply AL_go ttok; exact rfl) | (apply AW_go ttok; exact rfl) | (apply AL_guardT; (iterate 3 exact rfl); (first | with_reducible assumption | decide +kernel | (solve | simp only [bn]))) | (apply AL_guardFt; (iterate 3 exact rfl); (first | with_reducible assumption | decide +kernel | (solve | simp only [bn]))) | (apply AL_guardFf; (iterate 3 exact rfl); (first | with_reducible assumption | decide +kernel | (solve | simp only [bn]))) | (apply AL_pickT; exact rfl; (first | with_reducible assumption | decide +kernel | (solve | simp only [bn])); exact rfl; exact rfl) | (apply AL_pickF; exact rfl; (first | with_reducible assumption | decide +kernel | (solve | simp only [bn])); exact rfl; exact rfl))
  all_goals (apply endQ []; (apply resG_ok ttok; exact rfl); (iterate 4 exact rfl))
  all_goals rfl
def nb (b : Bool) : Nat := if b then 1 else 0
def yesI (a b c : Bool) : It := .mk 4 0 [] [.mk 0 (nb a) [] [], .mk 0 (nb b) [] [], .mk 0 (nb c) [] []]
theorem av_yes [Known] (a b c : Bool) : AP Tryz.prog 49 [.sl .ext [.bool a, .bool b, .bool c]] (itD (yesI a b c)) [] := by
 have h0 := av_num 0
 have h1 := av_num 1
 have hL := av_list0
 cases a <;> cases b <;> cases c
 all_goals
  refine AP.ofA ?_
  refine AC_of Tryz.func49 rfl Tryz.ntmps49 rfl rfl ?_
  repeat' (first | (apply AL_callT [] [] (hL); kernel_rfl; (iterate 10 exact rfl)) | (apply AL_callPw (h0); kernel_rfl; (iterate 4 exact rfl)) | (apply AL_callPw (h1); kernel_rfl; (iterate 4 exact rfl)) | refine AW_loopN 70 ?_ | refine AN_succ ?_ | (apply AL_go ttok; exact rfl) | (apply AW_go ttok; exact rfl) | (apply K_go ttok; exact rfl) | (apply AW_condA; exact rfl; (first | with_reducible assumption | decide +kernel | (solve | simp only [bn]))) | (apply AW_condB; exact rfl; (first | with_reducible assumption | decide +kernel | (solve | simp only [bn]))) | (apply AL_len ttok; (iterate 4 exact rfl)) | (apply AL_bs ttok; (iterate 12 exact rfl)) | (apply AW_drawM 5 hmix; (decide +kernel); (kernel_rfl); (kernel_rfl); exact rfl; exact rfl) | (apply AD_cons; (iterate 3 exact rfl)) | refine AD.nil _ | exact qp_ok rfl | exact qp_wk rfl rfl rfl rfl | (apply AL_append ttok; (iterate 6 exact rfl); (first | with_reducible assumption | decide +kernel | exact rfl | rotate_left); exact rfl; exact rfl; (first | exact uniB_ok rfl | with_reducible assumption | decide +kernel | rotate_left); (first | exact uniB_ok rfl | with_reducible assumption | decide +kernel | rotate_left); (first | exact List.cons_ne_nil _ _ | with_reducible assumption | decide +kernel | rotate_left); (first | with_reducible assumption | decide +kernel | rotate_left); (first | with_reducible assumption | decide +kernel | rotate_left); exact rfl; exact rfl) | (apply AL_append_nil ttok; (iterate 6 exact rfl); (first | exact uniB_ok rfl | with_reducible assumption | decide +kernel | rotate_left); (first | exact List.cons_ne_nil _ _ | with_reducible assumption | decide +kernel | rotate_left); (first | with_reducible assumption | decide +kernel | rotate_left); (first | with_reducible assumption | decide +kernel | rotate_left); (iterate 3 exact rfl)) | (apply AL_idx ttok; (iterate 6 exact rfl); (first | with_reducible assumption | decide +kernel | exact Int.natCast_nonneg _ | (guard_target = (0:Int) <= (OfNat.ofNat _ : Int); decide) | rotate_left); (first | with_reducible assumption | decide +kernel | exact rfl); (first | exact uniB_ok rfl | with_reducible assumption | decide +kernel | rotate_left)))
  all_goals (apply endQ []; (apply resG_ok ttok; exact rfl); (iterate 4 exact rfl))
  all_goals rfl
end Go.Proofs.YtpodhnaofhfinaaGreatDoor
end
section
open Go.RowKit Go.Pl
namespace Go.Pl
variable {P : Program} {t : TypeId}
theorem opens_prod5 {α β γ δ ε : Type} {R0 : Rep α} {R1 : Rep β} {R2 : Rep γ} {R3 : Rep δ} {R4 : Rep ε} {fs : Array Field} {f0 f1 f2 f3 f4 : Field} (hs : P.underlying t = some (.struct fs)) (hfs : fs = #[f0, f1, f2, f3, f4])
  (h00 : f0.offset = 0) (h01 : f1.offset = R0.n) (h02 : f2.offset = R0.n + R1.n) (h03 : f3.offset = R0.n + R1.n + R2.n) (h04 : f4.offset = R0.n + R1.n + R2.n + R3.n)
  (hc0 : P.cellsOf f0.type = R0.n) (hc1 : P.cellsOf f1.type = R1.n) (hc2 : P.cellsOf f2.type = R2.n) (hc3 : P.cellsOf f3.type = R3.n) (hc4 : P.cellsOf f4.type = R4.n) (hc : P.cellsOf t = R0.n + (R1.n + (R2.n + (R3.n + R4.n))))
  (h0 : Opens P f0.type R0) (h1 : Opens P f1.type R1) (h2 : Opens P f2.type R2) (h3 : Opens P f3.type R3) (h4 : Opens P f4.type R4) : Opens P t (R0.prod (R1.prod (R2.prod (R3.prod R4)))) := by
 intro H enc W spare held fuel cs y h
 obtain ⟨xs, n, _, _, hl, hxl, hg⟩ := DataW.trod_struct hs h
 subst hfs
 have e0 := hg 0 f0 rfl
 have e1 := hg 1 f1 rfl
 have e2 := hg 2 f2 rfl
 have e3 := hg 3 f3 rfl
 have e4 := hg 4 f4 rfl
 rw [h00, hc0, List.drop_zero] at e0
 rw [h01, hc1] at e1
 rw [h02, hc2] at e2
 rw [h03, hc3] at e3
 rw [h04, hc4] at e4
 have hn : xs.length = 5 := hxl
 have hx0 : xs[0]? = some (xs[0]'(by omega)) := List.getElem?_eq_getElem (by omega)
 have hx1 : xs[1]? = some (xs[1]'(by omega)) := List.getElem?_eq_getElem (by omega)
 have hx2 : xs[2]? = some (xs[2]'(by omega)) := List.getElem?_eq_getElem (by omega)
 have hx3 : xs[3]? = some (xs[3]'(by omega)) := List.getElem?_eq_getElem (by omega)
 have hx4 : xs[4]? = some (xs[4]'(by omega)) := List.getElem?_eq_getElem (by omega)
 obtain ⟨x0, k0⟩ := h0 H enc W spare held n _ _ (e0.trans hx0)
 obtain ⟨x1, k1⟩ := h1 H enc W spare held n _ _ (e1.trans hx1)
 obtain ⟨x2, k2⟩ := h2 H enc W spare held n _ _ (e2.trans hx2)
 obtain ⟨x3, k3⟩ := h3 H enc W spare held n _ _ (e3.trans hx3)
 obtain ⟨x4, k4⟩ := h4 H enc W spare held n _ _ (e4.trans hx4)
 refine ⟨(x0, x1, x2, x3, x4), cs.take R0.n, cs.drop R0.n, (List.take_append_drop _ _).symm, k0, (cs.drop R0.n).take R1.n, (cs.drop R0.n).drop R1.n, (List.take_append_drop _ _).symm, k1,
  ((cs.drop R0.n).drop R1.n).take R2.n, ((cs.drop R0.n).drop R1.n).drop R2.n, (List.take_append_drop _ _).symm, ?_, (((cs.drop R0.n).drop R1.n).drop R2.n).take R3.n, (((cs.drop R0.n).drop R1.n).drop R2.n).drop R3.n, (List.take_append_drop _ _).symm, ?_, ?_⟩
 ·rw [List.drop_drop]; exact k2
 ·rw [List.drop_drop, List.drop_drop, show R0.n + (R1.n + R2.n) = R0.n + R1.n + R2.n from by omega]; exact k3
 ·rw [List.drop_drop, List.drop_drop, List.drop_drop, show R0.n + (R1.n + (R2.n + R3.n)) = R0.n + R1.n + R2.n + R3.n from by omega]
  rw [List.take_of_length_le (i := R4.n) (by rw [List.length_drop]; omega)] at k4
  exact k4
abbrev RE : Rep (Bool × Nat × Nat × List UInt8 × List UInt8) := Rep.bool.prod (Rep.u64.prod (Rep.u64.prod (Rep.str.prod Rep.str)))
abbrev RI : Rep ((Bool × Nat × Nat × List UInt8 × List UInt8) × Nat × Nat) := RE.prod (Rep.u64.prod Rep.u64)
end Go.Pl
end
section
open Go.RowKit Go.Pl
namespace Go.Proofs.YtpodhnaofhfinaaGreatDoor
theorem openE : Opens Tryz.prog 24 RE :=
 opens_prod5 Tryz.underlying24 rfl rfl rfl rfl rfl rfl (by kernel_rfl) (by kernel_rfl) (by kernel_rfl) (by kernel_rfl) (by kernel_rfl) (by kernel_rfl) (opens_bool Tryz.underlying4) (opens_u64 Tryz.underlying22) (opens_u64 Tryz.underlying22) (opens_str Tryz.underlying9) (opens_str Tryz.underlying9)
theorem openI : Opens Tryz.prog 26 RI :=
 opens_prod3 Tryz.underlying26 rfl (by kernel_rfl) rfl rfl rfl (by kernel_rfl) (by kernel_rfl) (by kernel_rfl) openE (opens_u64 Tryz.underlying22) (opens_u64 Tryz.underlying22)
end Go.Proofs.YtpodhnaofhfinaaGreatDoor
end
section
open Go.RowKit Go.Pl Go.Av
namespace Go.Proofs.YtpodhnaofhfinaaGreatDoor
set_option maxHeartbeats 4000000
theorem toE_eid : ToE RE (fun x => .agg [.bool x.1, .int .u64 (x.2.1 : Int), .int .u64 (x.2.2.1 : Int), .str x.2.2.2.1, .str x.2.2.2.2]) :=
 ToE.bool.prod (ToE.u64.prod (ToE.u64.prod (ToE.str.prod ToE.str)))
abbrev XE := Bool × Nat × Nat × List UInt8 × List UInt8
def XE.v (x : XE) : EidV := ⟨x.1, x.2.1, x.2.2.1, x.2.2.2.1, x.2.2.2.2⟩
theorem eid_V [Known] {W : World} {cs : List Value} {x : XE} (h : RE.ok W (· < W.heap.size) cs x) : V W (g0 W) [] (.agg (eC x.v)) (.agg cs.toArray) :=
 toE_eid.agg (l := [.bool x.1, .int .u64 (x.2.1 : Int), .int .u64 (x.2.2.1 : Int), .str x.2.2.2.1, .str x.2.2.2.2]) rfl h
end Go.Proofs.YtpodhnaofhfinaaGreatDoor
end
section
open Go.RowKit Go.Pl Go.Av
namespace Go.Proofs.YtpodhnaofhfinaaGreatDoor
set_option maxHeartbeats 4000000
structure PriV where
 fl : Nat
 sum : Int
 dest : EidV
 rep : EidV
 src : EidV
 t : Nat
 q : Nat
 life : Nat
abbrev prC (p : PriV) : List D := [.int .u64 (p.fl : Int), .int .i64 p.sum, .bool p.dest.i, .int .u64 (p.dest.n : Int), .int .u64 (p.dest.s : Int), .str p.dest.h, .str p.dest.d, .bool p.rep.i, .int .u64 (p.rep.n : Int), .int .u64 (p.rep.s : Int), .str p.rep.h, .str p.rep.d, .bool p.src.i, .int .u64 (p.src.n : Int), .int .u64 (p.src.s : Int), .str p.src.h, .str p.src.d, .int .u64 (p.t : Int), .int .u64 (p.q : Int), .int .u64 (p.life : Int)]
def rightP (p : PriV) : Bool := (bits .andNot .u64 (p.fl : Int) 409638 == 0) && (decide (p.sum ≥ 0) && (decide (p.sum <= 2) && (eRight p.dest && (eRight p.rep && (iRight p.src p.t p.q && decide ((p.life : Int) <= 1099511627776))))))
theorem av_pRight [Known] (p : PriV) : AP Tryz.prog 80 [.agg (prC p)] (.bool (rightP p)) [] := by
 have hD := av_eRight p.dest
 have hR := av_eRight p.rep
 have hI := av_iRight p.src p.t p.q
 unfold rightP
 generalize eRight p.dest = e1 at *
 generalize eRight p.rep = e2 at *
 generalize iRight p.src p.t p.q = e3 at *
 obtain ⟨fl, sum, ⟨di, dn, ds, dh, dd⟩, ⟨ri, rn, rs, rh, rd⟩, ⟨xi, xn, xs, xh, xd⟩, t, q, life⟩ := p
 dsimp only at *
 cases t1 : (bits .andNot .u64 (fl : Int) 409638 == 0) with
 | false =>
  refine AP.ofA ?_
  refine AC_of Tryz.func80 rfl Tryz.ntmps80 rfl rfl ?_
  repeat' (first | (apply AL_go ttok; exact rfl) | (apply AW_go ttok; exact rfl) | (apply AL_guardFt; (iterate 3 exact rfl); (first | with_reducible assumption | decide +kernel)) | (apply AL_pickF; exact rfl; (first | with_reducible assumption | decide +kernel); exact rfl; exact rfl))
  all_goals (apply endQ []; (apply resG_ok ttok; exact rfl); (iterate 4 exact rfl))
  all_goals rfl
 | true =>
 cases t2 : decide (sum ≥ 0) with
 | false =>
  refine AP.ofA ?_
  refine AC_of Tryz.func80 rfl Tryz.ntmps80 rfl rfl ?_
  repeat' (first | (apply AL_go ttok; exact rfl) | (apply AW_go ttok; exact rfl) | (apply AL_guardT; (iterate 3 exact rfl); (first | with_reducible assumption | decide +kernel)) | (apply AL_guardFt; (iterate 3 exact rfl); (first | with_reducible assumption | decide +kernel)) | (apply AL_pickT; exact rfl; (first | with_reducible assumption | decide +kernel); exact rfl; exact rfl) | (apply AL_pickF; exact rfl; (first | with_reducible assumption | decide +kernel); exact rfl; exact rfl))
  all_goals (apply endQ []; (apply resG_ok ttok; exact rfl); (iterate 4 exact rfl))
  all_goals rfl
 | true =>
 cases t3 : decide (sum <= 2) with
 | false =>
  refine AP.ofA ?_
  refine AC_of Tryz.func80 rfl Tryz.ntmps80 rfl rfl ?_
  repeat' (first | (apply AL_go ttok; exact rfl) | (apply AW_go ttok; exact rfl) | (apply AL_guardT; (iterate 3 exact rfl); (first | with_reducible assumption | decide +kernel)) | (apply AL_guardFt; (iterate 3 exact rfl); (first | with_reducible assumption | decide +kernel)) | (apply AL_pickT; exact rfl; (first | with_reducible assumption | decide +kernel); exact rfl; exact rfl) | (apply AL_pickF; exact rfl; (first | with_reducible assumption | decide +kernel); exact rfl; exact rfl))
  all_goals (apply endQ []; (apply resG_ok ttok; exact rfl); (iterate 4 exact rfl))
  all_goals rfl
 | true =>
 cases e1
 ·refine AP.ofA ?_
  refine AC_of Tryz.func80 rfl Tryz.ntmps80 rfl rfl ?_
  repeat' (first | (apply AL_callPw (hD); kernel_rfl; (iterate 4 exact rfl)) | (apply AL_go ttok; exact rfl) | (apply AW_go ttok; exact rfl) | (apply AL_guardT; (iterate 3 exact rfl); (first | with_reducible assumption | decide +kernel)) | (apply AL_guardFt; (iterate 3 exact rfl); (first | with_reducible assumption | decide +kernel)) | (apply AL_pickT; exact rfl; (first | with_reducible assumption | decide +kernel); exact rfl; exact rfl) | (apply AL_pickF; exact rfl; (first | with_reducible assumption | decide +kernel); exact rfl; exact rfl))
  all_goals (apply endQ []; (apply resG_ok ttok; exact rfl); (iterate 4 exact rfl))
  all_goals rfl
 cases e2
 ·refine AP.ofA ?_
  refine AC_of Tryz.func80 rfl Tryz.ntmps80 rfl rfl ?_
  repeat' (first | (apply AL_callPw (hD); kernel_rfl; (iterate 4 exact rfl)) | (apply AL_callPw (hR); kernel_rfl; (iterate 4 exact rfl)) | (apply AL_go ttok; exact rfl) | (apply AW_go ttok; exact rfl) | (apply AL_guardT; (iterate 3 exact rfl); (first | with_reducible assumption | decide +kernel)) | (apply AL_guardFt; (iterate 3 exact rfl); (first | with_reducible assumption | decide +kernel)) | (apply AL_pickT; exact rfl; (first | with_reducible assumption | decide +kernel); exact rfl; exact rfl) | (apply AL_pickF; exact rfl; (first | with_reducible assumption | decide +kernel); exact rfl; exact rfl))
  all_goals (apply endQ []; (apply resG_ok ttok; exact rfl); (iterate 4 exact rfl))
  all_goals rfl
 cases e3
 ·refine AP.ofA ?_
  refine AC_of Tryz.func80 rfl Tryz.ntmps80 rfl rfl ?_
  repeat' (first | (apply AL_callPw (hD); kernel_rfl; (iterate 4 exact rfl)) | (apply AL_callPw (hR); kernel_rfl; (iterate 4 exact rfl)) | (apply AL_callPw (hI); kernel_rfl; (iterate 4 exact rfl)) | (apply AL_go ttok; exact rfl) | (apply AW_go ttok; exact rfl) | (apply AL_guardT; (iterate 3 exact rfl); (first | with_reducible assumption | decide +kernel)) | (apply AL_guardFt; (iterate 3 exact rfl); (first | with_reducible assumption | decide +kernel)) | (apply AL_pickT; exact rfl; (first | with_reducible assumption | decide +kernel); exact rfl; exact rfl) | (apply AL_pickF; exact rfl; (first | with_reducible assumption | decide +kernel); exact rfl; exact rfl))
  all_goals (apply endQ []; (apply resG_ok ttok; exact rfl); (iterate 4 exact rfl))
  all_goals rfl
 refine AP.ofA ?_
 refine AC_of Tryz.func80 rfl Tryz.ntmps80 rfl rfl ?_
 repeat' (first | (apply AL_callPw (hD); kernel_rfl; (iterate 4 exact rfl)) | (apply AL_callPw (hR); kernel_rfl; (iterate 4 exact rfl)) | (apply AL_callPw (hI); kernel_rfl; (iterate 4 exact rfl)) | (apply AL_go ttok; exact rfl) | (apply AW_go ttok; exact rfl) | (apply AL_guardT; (iterate 3 exact rfl); (first | with_reducible assumption | decide +kernel)) | (apply AL_pickT; exact rfl; (first | with_reducible assumption | decide +kernel); exact rfl; exact rfl))
 all_goals (apply endQ []; (apply resG_ok ttok; exact rfl); (iterate 4 exact rfl))
 all_goals rfl
end Go.Proofs.YtpodhnaofhfinaaGreatDoor
end
section
open Go.RowKit Go.Pl Go.Av
namespace Go.Proofs.YtpodhnaofhfinaaGreatDoor
set_option maxHeartbeats 4000000
def listP (p : PriV) : List It := [.mk 0 7 [] [], .mk 0 p.fl [] [], .mk 0 p.sum.toNat [] [], itemE p.dest, itemE p.src, itemE p.rep, .mk 4 0 [] [.mk 0 p.t [] [], .mk 0 p.q [] []], .mk 0 p.life [] []]
def writeP (p : PriV) : It × Int := match rightP p with
 | true => sealV (listP p) 2
 | false => (z0, 3)
theorem pr_facts {p : PriV} (h : rightP p = true) : 0 <= p.sum /\ p.sum <= 2 /\ eRight p.dest = true /\ eRight p.rep = true /\ iRight p.src p.t p.q = true /\ p.life <= 1099511627776 := by
 unfold rightP at h
 simp only [Bool.and_eq_true, decide_eq_true_eq] at h
 obtain ⟨_, h1, h2, h3, h4, h5, h6⟩ := h
 exact ⟨h1, h2, h3, h4, h5, by omega⟩
theorem wfs_P {p : PriV} (h : rightP p = true) (hfl : p.fl < 18446744073709551616) : wfs (listP p) := by
 obtain ⟨h1, h2, h3, h4, h5, h6⟩ := pr_facts h
 obtain ⟨i1, i2, i3⟩ := iRight_iff.1 h5
 refine ⟨?_, ?_, ?_, wf_itemE h3, wf_itemE i1, wf_itemE h4, ?_, ?_, trivial⟩
 all_goals first | (simp [wfI, wfs]; done) | (simp [wfI, wfs]; omega)
theorem av_pWrite [Known] [KnownU8] (p : PriV) (hfl : p.fl < 18446744073709551616) (hlim : ∀ s, s = 1 \/ s = 2 -> (putI (zeroL s (listP p))).length <= 1000000000) : AP Tryz.prog 64 [.agg (prC p)] (sealD (writeP p)) [] := by
 have hR := av_pRight p
 unfold writeP
 cases hr : rightP p with
 | false =>
  rw [hr] at hR
  obtain ⟨fl, sum, ⟨di, dn, ds, dh, dd⟩, ⟨ri, rn, rs, rh, rd⟩, ⟨xi, xn, xs, xh, xd⟩, t, q, life⟩ := p
  dsimp only [z0] at *
  refine AP.ofA ?_
  refine AC_of Tryz.func64 rfl Tryz.ntmps64 rfl rfl ?_
  repeat' (first | (apply AL_callPw (hR); kernel_rfl; (iterate 4 exact rfl)) | (apply AL_go ttok; exact rfl) | (apply AW_go ttok; exact rfl) | (apply K_go ttok; exact rfl) | (apply AW_condA; exact rfl; (first | with_reducible assumption | decide +kernel)))
  all_goals (apply endQ []; (apply resG_ok ttok; exact rfl); (iterate 4 exact rfl))
  all_goals rfl
 | true =>
  rw [hr] at hR
  obtain ⟨h1, h2, h3, h4, h5, h6⟩ := pr_facts hr
  have hS := av_seal (listP p) 2 (wfs_P hr hfl) (by simp [listP]) hlim
  have hD := av_eWrite p.dest
  have hP := av_eWrite p.rep
  have hI := av_iWrite p.src p.t p.q
  rw [if_pos h3, if_pos h3] at hD
  rw [if_pos h4, if_pos h4] at hP
  rw [if_pos h5, if_pos h5] at hI
  have hN := av_num 7
  have hF := av_num p.fl
  have hM := av_num p.sum.toNat
  have hL := av_num p.life
  dsimp only
  generalize sealV (listP p) 2 = r at *
  unfold listP at hS
  unfold itemN at hI
  obtain ⟨fl, sum, ⟨di, dn, ds, dh, dd⟩, ⟨ri, rn, rs, rh, rd⟩, ⟨xi, xn, xs, xh, xd⟩, t, q, life⟩ := p
  dsimp only at *
  generalize itemE ⟨di, dn, ds, dh, dd⟩ = I1 at *
  generalize itemE ⟨ri, rn, rs, rh, rd⟩ = I2 at *
  generalize itemE ⟨xi, xn, xs, xh, xd⟩ = I3 at *
  obtain ⟨ak, an, ab, al⟩ := I1
  obtain ⟨bk, bn, bb, bl⟩ := I2
  obtain ⟨ck, cn, cb, cl⟩ := I3
  obtain ⟨⟨k, n, b, l⟩, e⟩ := r
  have es : IntKind.u64.wrap sum = ((sum.toNat : Nat) : Int) := by rw [IntWalk.u64_in _ (by omega)]; omega
  have hU := uniI [It.mk ck cn cb cl, .mk 4 0 [] [.mk 0 t [] [], .mk 0 q [] []]]
  have hv0 : (itEs [It.mk ck cn cb cl, .mk 4 0 [] [.mk 0 t [] [], .mk 0 q [] []]])[(0 : Int).toNat]? = some (.agg [.int .i64 ck, .int .u64 (cn : Int), .sl (cb.map E.byte), .sl (itEs cl)]) := rfl
  have hv1 : (itEs [It.mk ck cn cb cl, .mk 4 0 [] [.mk 0 t [] [], .mk 0 q [] []]])[(1 : Int).toNat]? = some (.agg [.int .i64 4, .int .u64 0, .sl [], .sl [nmE t, nmE q]]) := rfl
  generalize hLe : itEs [It.mk ck cn cb cl, .mk 4 0 [] [.mk 0 t [] [], .mk 0 q [] []]] = LL at *
  replace hI : AP Tryz.prog 45 [.agg (iC ⟨xi, xn, xs, xh, xd⟩ t q)] (.tup [.agg [.int .i64 4, .int .u64 0, .sl .ext [], .sl .ext LL], .int .i64 0]) [] := by rw [<- hLe]; exact hI
  replace hS : AP Tryz.prog 81 [.sl .ext [nmE 7, nmE fl, nmE sum.toNat, .agg [.int .i64 ak, .int .u64 (an : Int), .sl (ab.map E.byte), .sl (itEs al)], .agg [.int .i64 ck, .int .u64 (cn : Int), .sl (cb.map E.byte), .sl (itEs cl)], .agg [.int .i64 bk, .int .u64 (bn : Int), .sl (bb.map E.byte), .sl (itEs bl)], .agg [.int .i64 4, .int .u64 0, .sl [], .sl [nmE t, nmE q]], nmE life], .int .i64 2] (sealD (.mk k n b l, e)) [] := hS
  refine AP.ofA ?_
  refine AC_of Tryz.func64 rfl Tryz.ntmps64 rfl rfl ?_
  repeat' (first | (apply AL_callPw (hR); kernel_rfl; (iterate 4 exact rfl)) | rw [es] | (apply AL_callPw (hD); kernel_rfl; (iterate 4 exact rfl)) | (apply AL_callPw (hP); kernel_rfl; (iterate 4 exact rfl)) | (apply AL_callPw (hI); kernel_rfl; (iterate 4 exact rfl)) | (apply AL_callPw (hN); kernel_rfl; (iterate 4 exact rfl)) | (apply AL_callPw (hF); kernel_rfl; (iterate 4 exact rfl)) | (apply AL_callPw (hM); kernel_rfl; (iterate 4 exact rfl)) | (apply AL_callPw (hL); kernel_rfl; (iterate 4 exact rfl)) | (apply AL_callPw (hS); kernel_rfl; (iterate 4 exact rfl)) | (apply AL_go ttok; exact rfl) | (apply AW_go ttok; exact rfl) | (apply K_go ttok; exact rfl) | (apply AW_condB; exact rfl; (first | with_reducible assumption | decide +kernel)) | (apply AL_bsZ ttok; (iterate 12 exact rfl)) | (apply AW_drawE 21 hmix; (decide +kernel); (kernel_rfl); (kernel_rfl); (kernel_rfl); exact rfl; exact rfl) | (apply AE_consZ; (iterate 4 exact rfl)) | exact AE.nil _ _ _ _ | (apply AEk_puT; exact rfl) | (apply AOt_mk; exact rfl; exact rfl; (decide +kernel); exact rfl) | (apply AO_puT; exact rfl) | exact AO.nil _ _ _ | (apply AOs_skip; (decide +kernel)) | exact AOs.nil | exact qY_ok rfl rfl | (apply AL_idx ttok; (iterate 6 exact rfl); (first | with_reducible assumption | decide +kernel | exact Int.natCast_nonneg _ | (guard_target = (0:Int) <= (OfNat.ofNat _ : Int); decide) | rotate_left); (first | with_reducible assumption | decide +kernel | exact rfl); (first | exact uniB_ok rfl | with_reducible assumption | decide +kernel | rotate_left)))
  all_goals (apply endQ []; (apply resG_ok ttok; exact rfl); (iterate 4 exact rfl))
  all_goals rfl
end Go.Proofs.YtpodhnaofhfinaaGreatDoor
end
section
open Go.RowKit Go.Pl Go.Av
namespace Go.Proofs.YtpodhnaofhfinaaGreatDoor
set_option maxHeartbeats 4000000
theorem pr_e [Known] [KnownU8] (k : Int) (n : Nat) (b : List UInt8) (xl : List E) (L : List E) (e : Int)
  (hO : AP Tryz.prog 68 [.agg [.int .i64 k, .int .u64 (n : Int), byE b, .sl .ext xl], .int .i64 2] (.tup [.sl .ext L, .int .i64 e]) []) (t1 : (e != 0) = true) :
  AP Tryz.prog 39 [.agg [.int .i64 k, .int .u64 (n : Int), byE b, .sl .ext xl]] (.tup [.agg [.int .u64 0, .int .i64 0, .bool false, .int .u64 0, .int .u64 0, .str [], .str [], .bool false, .int .u64 0, .int .u64 0, .str [], .str [], .bool false, .int .u64 0, .int .u64 0, .str [], .str [], .int .u64 0, .int .u64 0, .int .u64 0], .int .i64 e]) [] := by
 refine AP.ofA ?_
 refine AC_of Tryz.func39 rfl Tryz.ntmps39 rfl rfl ?_
 repeat' (first | (apply AL_callPw (hO); kernel_rfl; (iterate 4 exact rfl)) | (apply AL_go ttok; exact rfl) | (apply AW_go ttok; exact rfl) | (apply K_go ttok; exact rfl) | (apply AW_condA; exact rfl; (first | with_reducible assumption | decide +kernel)))
 all_goals (apply endQ []; (apply resG_ok ttok; exact rfl); (iterate 4 exact rfl))
 all_goals rfl
theorem pr_l [Known] [KnownU8] (k : Int) (n : Nat) (b : List UInt8) (xl : List E) (L : List E) (e : Int)
  (hO : AP Tryz.prog 68 [.agg [.int .i64 k, .int .u64 (n : Int), byE b, .sl .ext xl], .int .i64 2] (.tup [.sl .ext L, .int .i64 e]) []) (t1 : (e != 0) = false) (t2 : ((L.length : Int) != 8) = true) :
  AP Tryz.prog 39 [.agg [.int .i64 k, .int .u64 (n : Int), byE b, .sl .ext xl]] (.tup [.agg [.int .u64 0, .int .i64 0, .bool false, .int .u64 0, .int .u64 0, .str [], .str [], .bool false, .int .u64 0, .int .u64 0, .str [], .str [], .bool false, .int .u64 0, .int .u64 0, .str [], .str [], .int .u64 0, .int .u64 0, .int .u64 0], .int .i64 3]) [] := by
 refine AP.ofA ?_
 refine AC_of Tryz.func39 rfl Tryz.ntmps39 rfl rfl ?_
 repeat' (first | (apply AL_callPw (hO); kernel_rfl; (iterate 4 exact rfl)) | (apply AL_go ttok; exact rfl) | (apply AW_go ttok; exact rfl) | (apply K_go ttok; exact rfl) | (apply AW_condA; exact rfl; (first | with_reducible assumption | decide +kernel)) | (apply AW_condB; exact rfl; (first | with_reducible assumption | decide +kernel)) | (apply AL_len ttok; (iterate 4 exact rfl)))
 all_goals (apply endQ []; (apply resG_ok ttok; exact rfl); (iterate 4 exact rfl))
 all_goals rfl
end Go.Proofs.YtpodhnaofhfinaaGreatDoor
end
section
open Go.RowKit Go.Pl Go.Av
namespace Go.Proofs.YtpodhnaofhfinaaGreatDoor
set_option maxHeartbeats 4000000
theorem pr_md_all [Known] [KnownU8] (k : Int) (n : Nat) (b : List UInt8) (xl : List E) (L : List E) (e : Int) (k0 : Int) (n0 : Nat) (b0 : List UInt8) (l0 : List It) (k1 : Int) (n1 : Nat) (b1 : List UInt8) (l1 : List It) (k2 : Int) (n2 : Nat) (b2 : List UInt8) (l2 : List It) (k3 : Int) (n3 : Nat) (b3 : List UInt8) (l3 : List It) (k4 : Int) (n4 : Nat) (b4 : List UInt8) (l4 : List It) (k5 : Int) (n5 : Nat) (b5 : List UInt8) (l5 : List It) (k6 : Int) (n6 : Nat) (b6 : List UInt8) (l6 : List It) (k7 : Int) (n7 : Nat) (b7 : List UInt8) (l7 : List It) (di : Bool) (dn ds : Nat) (dh dd : List UInt8) (ri : Bool) (rn rs : Nat) (rh rd : List UInt8) (ui : Bool) (un us : Nat) (uh ud : List UInt8) (ut uq : Nat) (de re ie we : Int) (wk : Int) (wn : Nat) (wb : List UInt8) (wl : List E) (s : Bool) (hO : AP Tryz.prog 68 [.agg [.int .i64 k, .int .u64 (n : Int), byE b, .sl .ext xl], .int .i64 2] (.tup [.sl .ext L, .int .i64 e]) []) (t1 : (e != 0) = false) (t2 : ((L.length : Int) != 8) = false) (hU : Uni 4 L) (hv1 : L[(1 : Int).toNat]? = some (.agg [.int .i64 k1, .int .u64 (n1 : Int), .sl (b1.map E.byte), .sl (itEs l1)])) (hv2 : L[(2 : Int).toNat]? = some (.agg [.int .i64 k2, .int .u64 (n2 : Int), .sl (b2.map E.byte), .sl (itEs l2)])) (hv3 : L[(3 : Int).toNat]? = some (.agg [.int .i64 k3, .int .u64 (n3 : Int), .sl (b3.map E.byte), .sl (itEs l3)])) (hv4 : L[(4 : Int).toNat]? = some (.agg [.int .i64 k4, .int .u64 (n4 : Int), .sl (b4.map E.byte), .sl (itEs l4)])) (hv5 : L[(5 : Int).toNat]? = some (.agg [.int .i64 k5, .int .u64 (n5 : Int), .sl (b5.map E.byte), .sl (itEs l5)])) (hv6 : L[(6 : Int).toNat]? = some (.agg [.int .i64 k6, .int .u64 (n6 : Int), .sl (b6.map E.byte), .sl (itEs l6)])) (hv7 : L[(7 : Int).toNat]? = some (.agg [.int .i64 k7, .int .u64 (n7 : Int), .sl (b7.map E.byte), .sl (itEs l7)])) (hD : AP Tryz.prog 69 [.agg [.int .i64 k3, .int .u64 (n3 : Int), .sl .ext (b3.map E.byte), .sl .ext (itEs l3)]] (.tup [.agg [.bool di, .int .u64 (dn : Int), .int .u64 (ds : Int), .str dh, .str dd], .int .i64 de]) []) (hR : AP Tryz.prog 69 [.agg [.int .i64 k5, .int .u64 (n5 : Int), .sl .ext (b5.map E.byte), .sl .ext (itEs l5)]] (.tup [.agg [.bool ri, .int .u64 (rn : Int), .int .u64 (rs : Int), .str rh, .str rd], .int .i64 re]) []) (hL : AP Tryz.prog 47 [.sl .ext [.agg [.int .i64 k4, .int .u64 (n4 : Int), .sl (b4.map E.byte), .sl (itEs l4)], .agg [.int .i64 k6, .int .u64 (n6 : Int), .sl (b6.map E.byte), .sl (itEs l6)]]] (.agg [.int .i64 4, .int .u64 0, .sl .ext [], .sl .ext [.agg [.int .i64 k4, .int .u64 (n4 : Int), .sl (b4.map E.byte), .sl (itEs l4)], .agg [.int .i64 k6, .int .u64 (n6 : Int), .sl (b6.map E.byte), .sl (itEs l6)]]]) []) (hI : AP Tryz.prog 43 [.agg [.int .i64 4, .int .u64 0, .sl .ext [], .sl .ext [.agg [.int .i64 k4, .int .u64 (n4 : Int), .sl (b4.map E.byte), .sl (itEs l4)], .agg [.int .i64 k6, .int .u64 (n6 : Int), .sl (b6.map E.byte), .sl (itEs l6)]]]] (.tup [.agg [.bool ui, .int .u64 (un : Int), .int .u64 (us : Int), .str uh, .str ud, .int .u64 (ut : Int), .int .u64 (uq : Int)], .int .i64 ie]) []) (hW : AP Tryz.prog 64 [.agg [.int .u64 (n1 : Int), .int .i64 (IntKind.i64.wrap (n2 : Int)), .bool di, .int .u64 (dn : Int), .int .u64 (ds : Int), .str dh, .str dd, .bool ri, .int .u64 (rn : Int), .int .u64 (rs : Int), .str rh, .str rd, .bool ui, .int .u64 (un : Int), .int .u64 (us : Int), .str uh, .str ud, .int .u64 (ut : Int), .int .u64 (uq : Int), .int .u64 (n7 : Int)]] (.tup [.agg [.int .i64 wk, .int .u64 (wn : Int), byE wb, .sl .ext wl], .int .i64 we]) []) (hS : AP Tryz.prog 54 [.agg [.int .i64 wk, .int .u64 (wn : Int), byE wb, .sl .ext wl], .agg [.int .i64 k, .int .u64 (n : Int), byE b, .sl .ext xl]] (.bool s) []) :
  (∀ (c1 : (de != 0) = true),
  AP Tryz.prog 39 [.agg [.int .i64 k, .int .u64 (n : Int), byE b, .sl .ext xl]] (.tup [.agg [.int .u64 0, .int .i64 0, .bool false, .int .u64 0, .int .u64 0, .str [], .str [], .bool false, .int .u64 0, .int .u64 0, .str [], .str [], .bool false, .int .u64 0, .int .u64 0, .str [], .str [], .int .u64 0, .int .u64 0, .int .u64 0], .int .i64 3]) []) /\
  (∀ (c1 : (de != 0) = false) (c2 : (re != 0) = true),
  AP Tryz.prog 39 [.agg [.int .i64 k, .int .u64 (n : Int), byE b, .sl .ext xl]] (.tup [.agg [.int .u64 0, .int .i64 0, .bool false, .int .u64 0, .int .u64 0, .str [], .str [], .bool false, .int .u64 0, .int .u64 0, .str [], .str [], .bool false, .int .u64 0, .int .u64 0, .str [], .str [], .int .u64 0, .int .u64 0, .int .u64 0], .int .i64 3]) []) /\
  (∀ (c1 : (de != 0) = false) (c2 : (re != 0) = false) (c3 : (ie != 0) = true),
  AP Tryz.prog 39 [.agg [.int .i64 k, .int .u64 (n : Int), byE b, .sl .ext xl]] (.tup [.agg [.int .u64 0, .int .i64 0, .bool false, .int .u64 0, .int .u64 0, .str [], .str [], .bool false, .int .u64 0, .int .u64 0, .str [], .str [], .bool false, .int .u64 0, .int .u64 0, .str [], .str [], .int .u64 0, .int .u64 0, .int .u64 0], .int .i64 3]) []) := by
 refine ⟨fun c1 => ?_, fun c1 c2 => ?_, fun c1 c2 c3 => ?_⟩
 all_goals
  refine AP.ofA ?_
  refine AC_of Tryz.func39 rfl Tryz.ntmps39 rfl rfl ?_
  repeat' (first | (apply AL_callPw (hO); kernel_rfl; (iterate 4 exact rfl)) | (apply AL_callPw (hD); kernel_rfl; (iterate 4 exact rfl)) | (apply AL_callPw (hR); kernel_rfl; (iterate 4 exact rfl)) | (apply AL_callPw (hL); kernel_rfl; (iterate 4 exact rfl)) | (apply AL_callPw (hI); kernel_rfl; (iterate 4 exact rfl)) | (apply AL_callPw (hW); kernel_rfl; (iterate 4 exact rfl)) | (apply AL_go ttok; exact rfl) | (apply AW_go ttok; exact rfl) | (apply K_go ttok; exact rfl) | (apply AL_guardT; (iterate 3 exact rfl); (first | with_reducible assumption | decide +kernel)) | (apply AL_guardFf; (iterate 3 exact rfl); (first | with_reducible assumption | decide +kernel)) | (apply AL_pickT; exact rfl; (first | with_reducible assumption | decide +kernel); exact rfl; exact rfl) | (apply AL_pickF; exact rfl; (first | with_reducible assumption | decide +kernel); exact rfl; exact rfl) | (apply AW_condA; exact rfl; (first | with_reducible assumption | decide +kernel)) | (apply AW_condB; exact rfl; (first | with_reducible assumption | decide +kernel)) | (apply AL_len ttok; (iterate 4 exact rfl)) | (apply AL_bsZ ttok; (iterate 12 exact rfl)) | (apply AW_drawE 14 hmix; (decide +kernel); (kernel_rfl); (kernel_rfl); (kernel_rfl); exact rfl; exact rfl) | (apply AW_drawE 18 hmix; (decide +kernel); (kernel_rfl); (kernel_rfl); (kernel_rfl); exact rfl; exact rfl) | (apply AE_consZ; (iterate 4 exact rfl)) | exact AE.nil _ _ _ _ | (apply AEk_puT; exact rfl) | (apply AEk_efT; exact rfl) | (apply AEk_ef; exact rfl) | (apply AOt_mk; exact rfl; exact rfl; (decide +kernel); exact rfl) | (apply AO_puT; exact rfl) | (apply AO_efT; exact rfl) | (apply AO_ef; exact rfl) | exact AO.nil _ _ _ | (apply AOs_skip; (decide +kernel)) | (apply AOs_goZ; (iterate 3 exact rfl)) | exact AOs.nil | exact qY_ok rfl rfl | exact qY_wk rfl rfl rfl rfl rfl | exact qY_ef rfl rfl | exact qY_efn rfl | (apply AL_idx ttok; (iterate 6 exact rfl); (first | with_reducible assumption | decide +kernel | exact Int.natCast_nonneg _ | (guard_target = (0:Int) <= (OfNat.ofNat _ : Int); decide) | rotate_left); (first | with_reducible assumption | decide +kernel | exact rfl); (first | exact uniB_ok rfl | with_reducible assumption | decide +kernel | rotate_left)))
  all_goals (apply endQ []; (apply resG_ok ttok; exact rfl); (iterate 4 exact rfl))
  all_goals first | rfl | (exfalso; simp_all; done)
end Go.Proofs.YtpodhnaofhfinaaGreatDoor
end

/- Package primary: a sealed list, opened. -/
import Derived.Test.YtfkmicjlaedlkaaDoorG17
import Derived.Test.YtfkmicjlaedlkaaDoorG15
import Derived.Test.YtfkmicjlaedlkaaDoorG01
import Derived.Test.YtfkmicjlaedlkaaDoorG06
import Derived.Test.YtfkmicjlaedlkaaDoorProg
set_option linter.unusedVariables false
set_option linter.unusedSimpArgs false
section
open Go.RowKit Go.Pl Go.Av
namespace Go.Proofs.YtfkmicjlaedlkaaDoor
set_option maxHeartbeats 4000000
def openV (x : It) (a : Int) : List It × Int := match x with
 | .mk k n b l => match rightI (.mk k n b l) && (k == 4) with
  | false => ([], 3)
  | true => match decide (typeV l a < 0) with
   | true => ([], 3)
   | false => match typeV l a == 0 with
    | true => (l, 0)
    | false => match l[l.length - 1]? with
     | none => ([], 3)
     | some (.mk k1 n1 b1 l1) => match decide (((l.length - 1 : Nat) : Int) <= a) || (!(It.beq (.mk k1 n1 b1 l1) (.mk 2 0 b1 [])) || ((b1.length : Int) != ((2 * (typeV l a).toNat : Nat) : Int))) with
      | true => ([], 3)
      | false => match rightI (zeroL (typeV l a).toNat (l.take (l.length - 1))) with
       | false => ([], 3)
       | true => match sumB (typeV l a).toNat (putI (zeroL (typeV l a).toNat (l.take (l.length - 1)))) == b1 with
        | false => ([], 10)
        | true => (l.take (l.length - 1), 0)
abbrev openD (r : List It × Int) : D := .tup [.sl .ext (itEs r.1), .int .i64 r.2]
theorem wfs_take : ∀ {l : List It} (m : Nat), wfs l -> wfs (l.take m)
 | _, 0, _ => trivial
 | [], m + 1, h => h
 | x :: l, m + 1, h => ⟨h.1, wfs_take m h.2⟩
theorem av_open [Known] [KnownU8] (x : It) (a : Int) (hw : wfI x) (hxl : x.l.length <= 1000000) (hlim : ∀ s m, s = 1 \/ s = 2 -> (putI (zeroL s (x.l.take m))).length <= 1000000000) : AP Tryd.prog 20 [itD x, .int .i64 a] (openD (openV x a)) [] := by
 have hR := av_rightI x hw
 obtain ⟨k, n, b, l⟩ := x
 have hws : wfs l := hw.2.2.2
 have hlen := itEs_len l
 have hU := uniI l
 dsimp only [It.l] at hxl hlim
 have hT := av_typeAt l hws a
 unfold openV
 dsimp only
 cases hr : rightI (.mk k n b l) with
 | false =>
  rw [hr] at hR
  rw [Bool.false_and]
  refine AP.ofA ?_
  refine AC_of Tryd.func20 rfl Tryd.ntmps20 rfl rfl ?_
  repeat' (first | (apply AL_callPw (hR); kernel_rfl; (iterate 4 exact rfl)) | (apply AL_go ttok; exact rfl) | (apply AW_go ttok; exact rfl) | (apply K_go ttok; exact rfl) | (apply AL_guardFf; (iterate 3 exact rfl); (first | with_reducible assumption | decide +kernel)) | (apply AL_pickT; exact rfl; (first | with_reducible assumption | decide +kernel); exact rfl; exact rfl) | (apply AW_condA; exact rfl; (first | with_reducible assumption | decide +kernel)))
  all_goals (apply endQ []; (apply resG_ok ttok; exact rfl); (iterate 4 exact rfl))
  all_goals rfl
 | true =>
 rw [hr] at hR
 rw [Bool.true_and]
 cases tk : (k == 4) with
 | false =>
  have tk2 : (k != 4) = true := by rw [bne, tk]; rfl
  refine AP.ofA ?_
  refine AC_of Tryd.func20 rfl Tryd.ntmps20 rfl rfl ?_
  repeat' (first | (apply AL_callPw (hR); kernel_rfl; (iterate 4 exact rfl)) | (apply AL_go ttok; exact rfl) | (apply AW_go ttok; exact rfl) | (apply K_go ttok; exact rfl) | (apply AL_guardT; (iterate 3 exact rfl); (first | with_reducible assumption | decide +kernel)) | (apply AL_pickF; exact rfl; (first | with_reducible assumption | decide +kernel); exact rfl; exact rfl) | (apply AW_condA; exact rfl; (first | with_reducible assumption | decide +kernel)))
  all_goals (apply endQ []; (apply resG_ok ttok; exact rfl); (iterate 4 exact rfl))
  all_goals rfl
 | true =>
 have tk2 : (k != 4) = false := by rw [bne, tk]; rfl
 rcases typeV_cases l a with e | ⟨e | e, h0, h1⟩
 ·rw [e] at hT ⊢
  refine AP.ofA ?_
  refine AC_of Tryd.func20 rfl Tryd.ntmps20 rfl rfl ?_
  repeat' (first | (apply AL_callPw (hR); kernel_rfl; (iterate 4 exact rfl)) | (apply AL_callPw (hT); kernel_rfl; (iterate 4 exact rfl)) | (apply AL_go ttok; exact rfl) | (apply AW_go ttok; exact rfl) | (apply K_go ttok; exact rfl) | (apply AL_guardT; (iterate 3 exact rfl); (first | with_reducible assumption | decide +kernel)) | (apply AL_pickF; exact rfl; (first | with_reducible assumption | decide +kernel); exact rfl; exact rfl) | (apply AW_condA; exact rfl; (first | with_reducible assumption | decide +kernel)) | (apply AW_condB; exact rfl; (first | with_reducible assumption | decide +kernel)))
  all_goals (apply endQ []; (apply resG_ok ttok; exact rfl); (iterate 4 exact rfl))
  all_goals rfl
 ·rw [e] at hT ⊢
  have hL := av_list l (by omega) hws
  replace hL : AP Tryd.prog 12 [.sl .ext (itEs l)] (.agg [.int .i64 4, .int .u64 0, .sl .ext [], .sl .ext (itEs l)]) [] := hL
  refine AP.ofA ?_
  refine AC_of Tryd.func20 rfl Tryd.ntmps20 rfl rfl ?_
  repeat' (first | (apply AL_callPw (hR); kernel_rfl; (iterate 4 exact rfl)) | (apply AL_callPw (hT); kernel_rfl; (iterate 4 exact rfl)) | (apply AL_callPw (hL); kernel_rfl; (iterate 4 exact rfl)) | (apply AL_go ttok; exact rfl) | (apply AW_go ttok; exact rfl) | (apply K_go ttok; exact rfl) | (apply AL_guardT; (iterate 3 exact rfl); (first | with_reducible assumption | decide +kernel)) | (apply AL_pickF; exact rfl; (first | with_reducible assumption | decide +kernel); exact rfl; exact rfl) | (apply AW_condA; exact rfl; (first | with_reducible assumption | decide +kernel)) | (apply AW_condB; exact rfl; (first | with_reducible assumption | decide +kernel)))
  all_goals (apply endQ []; (apply resG_ok ttok; exact rfl); (iterate 4 exact rfl))
  all_goals rfl
 ·obtain ⟨s, hs, es⟩ : ∃ s : Nat, (s = 1 \/ s = 2) /\ typeV l a = (s : Int) := ⟨(typeV l a).toNat, by omega, by omega⟩
  rw [es] at hT ⊢
  rw [Int.toNat_natCast]
  have d1 : decide ((s : Int) < 0) = false := decide_eq_false (by omega)
  have d2 : ((s : Int) == 0) = false := by rw [beq_eq_false_iff_ne]; omega
  rw [d1, d2]
  dsimp only
  obtain ⟨m, hm⟩ : ∃ m, m = l.length - 1 := ⟨_, rfl⟩
  have em : IntKind.i64.wrap (((itEs l).length : Int) - 1) = (m : Int) := by rw [IntWalk.i64_in _ (by omega)]; omega
  rw [<- hm]
  obtain ⟨⟨k1, n1, b1, l1⟩, hy⟩ : ∃ y, l[m]? = some y := ⟨_, List.getElem?_eq_getElem (by omega)⟩
  have hv : (itEs l)[((m : Nat) : Int).toNat]? = some (.agg [.int .i64 k1, .int .u64 (n1 : Int), .sl (b1.map E.byte), .sl (itEs l1)]) := by
   rw [Int.toNat_natCast, itEs_map, List.getElem?_map, hy]; rfl
  rw [hy]
  dsimp only
  have hw1 := wfs_mem hws _ (List.mem_of_getElem? hy)
  have hbl : (b1.map E.byte).length = b1.length := List.length_map ..
  have hB := av_bytes b1 (by have := hw1.2.1; omega)
  have hS := av_same (.mk k1 n1 b1 l1) hw1 (.mk 2 0 b1 []) ⟨by decide, by have := hw1.2.1; omega, by simp, trivial⟩
  have hZ := av_sumSize s hs
  rw [<- hbl]
  cases t1 : decide ((m : Int) <= a) with
  | true =>
   rw [Bool.true_or]
   refine AP.ofA ?_
   refine AC_of Tryd.func20 rfl Tryd.ntmps20 rfl rfl ?_
   repeat' (first | (apply AL_callPw (hR); kernel_rfl; (iterate 4 exact rfl)) | (apply AL_callPw (hT); kernel_rfl; (iterate 4 exact rfl)) | rw [em] | (apply AL_go ttok; exact rfl) | (apply AW_go ttok; exact rfl) | (apply K_go ttok; exact rfl) | (apply AL_guardT; (iterate 3 exact rfl); (first | with_reducible assumption | decide +kernel)) | (apply AL_guardFf; (iterate 3 exact rfl); (first | with_reducible assumption | decide +kernel)) | (apply AL_pickT; exact rfl; (first | with_reducible assumption | decide +kernel); exact rfl; exact rfl) | (apply AL_pickF; exact rfl; (first | with_reducible assumption | decide +kernel); exact rfl; exact rfl) | (apply AW_condA; exact rfl; (first | with_reducible assumption | decide +kernel)) | (apply AW_condB; exact rfl; (first | with_reducible assumption | decide +kernel)) | (apply AL_len ttok; (iterate 4 exact rfl)) | (apply AW_drawE 17 hmix; (decide +kernel); (kernel_rfl); (kernel_rfl); (kernel_rfl); exact rfl; exact rfl) | (apply AE_consZ; (iterate 4 exact rfl)) | exact AE.nil _ _ _ _ | (apply AEk_puT; exact rfl) | (apply AOt_mk; exact rfl; exact rfl; (decide +kernel); exact rfl) | (apply AO_puT; exact rfl) | exact AO.nil _ _ _ | (apply AOs_skip; (decide +kernel)) | exact AOs.nil | exact qY_ok rfl rfl | (apply AL_idx ttok; (iterate 6 exact rfl); (first | with_reducible assumption | decide +kernel | exact Int.natCast_nonneg _ | (guard_target = (0:Int) <= (OfNat.ofNat _ : Int); decide) | rotate_left); (first | with_reducible assumption | decide +kernel | exact rfl); (first | exact uniB_ok rfl | with_reducible assumption | decide +kernel | rotate_left)))
   all_goals (apply endQ []; (apply resG_ok ttok; exact rfl); (iterate 4 exact rfl))
   all_goals rfl
  | false =>
  rw [Bool.false_or]
  cases t2 : It.beq (.mk k1 n1 b1 l1) (.mk 2 0 b1 []) with
  | false =>
   rw [t2] at hS
   rw [Bool.not_false, Bool.true_or]
   refine AP.ofA ?_
   refine AC_of Tryd.func20 rfl Tryd.ntmps20 rfl rfl ?_
   repeat' (first | (apply AL_callPw (hR); kernel_rfl; (iterate 4 exact rfl)) | (apply AL_callPw (hT); kernel_rfl; (iterate 4 exact rfl)) | rw [em] | (apply AL_callPw (hB); kernel_rfl; (iterate 4 exact rfl)) | (apply AL_callPw (hS); kernel_rfl; (iterate 4 exact rfl)) | (apply AL_go ttok; exact rfl) | (apply AW_go ttok; exact rfl) | (apply K_go ttok; exact rfl) | (apply AL_guardT; (iterate 3 exact rfl); (first | with_reducible assumption | decide +kernel)) | (apply AL_guardFf; (iterate 3 exact rfl); (first | with_reducible assumption | decide +kernel)) | (apply AL_pickT; exact rfl; (first | with_reducible assumption | decide +kernel); exact rfl; exact rfl) | (apply AL_pickF; exact rfl; (first | with_reducible assumption | decide +kernel); exact rfl; exact rfl) | (apply AW_condA; exact rfl; (first | with_reducible assumption | decide +kernel)) | (apply AW_condB; exact rfl; (first | with_reducible assumption | decide +kernel)) | (apply AL_len ttok; (iterate 4 exact rfl)) | (apply AW_drawE 17 hmix; (decide +kernel); (kernel_rfl); (kernel_rfl); (kernel_rfl); exact rfl; exact rfl) | (apply AE_consZ; (iterate 4 exact rfl)) | exact AE.nil _ _ _ _ | (apply AEk_puT; exact rfl) | (apply AOt_mk; exact rfl; exact rfl; (decide +kernel); exact rfl) | (apply AO_puT; exact rfl) | exact AO.nil _ _ _ | (apply AOs_skip; (decide +kernel)) | exact AOs.nil | exact qY_ok rfl rfl | (apply AL_idx ttok; (iterate 6 exact rfl); (first | with_reducible assumption | decide +kernel | exact Int.natCast_nonneg _ | (guard_target = (0:Int) <= (OfNat.ofNat _ : Int); decide) | rotate_left); (first | with_reducible assumption | decide +kernel | exact rfl); (first | exact uniB_ok rfl | with_reducible assumption | decide +kernel | rotate_left)))
   all_goals (apply endQ []; (apply resG_ok ttok; exact rfl); (iterate 4 exact rfl))
   all_goals rfl
  | true =>
  rw [t2] at hS
  rw [Bool.not_true, Bool.false_or]
  cases t3 : (((b1.map E.byte).length : Int) != ((2 * s : Nat) : Int)) with
  | true =>
   refine AP.ofA ?_
   refine AC_of Tryd.func20 rfl Tryd.ntmps20 rfl rfl ?_
   repeat' (first | (apply AL_callPw (hR); kernel_rfl; (iterate 4 exact rfl)) | (apply AL_callPw (hT); kernel_rfl; (iterate 4 exact rfl)) | rw [em] | (apply AL_callPw (hB); kernel_rfl; (iterate 4 exact rfl)) | (apply AL_callPw (hS); kernel_rfl; (iterate 4 exact rfl)) | (apply AL_callPw (hZ); kernel_rfl; (iterate 4 exact rfl)) | (apply AL_go ttok; exact rfl) | (apply AW_go ttok; exact rfl) | (apply K_go ttok; exact rfl) | (apply AL_guardT; (iterate 3 exact rfl); (first | with_reducible assumption | decide +kernel)) | (apply AL_pickF; exact rfl; (first | with_reducible assumption | decide +kernel); exact rfl; exact rfl) | (apply AW_condA; exact rfl; (first | with_reducible assumption | decide +kernel)) | (apply AW_condB; exact rfl; (first | with_reducible assumption | decide +kernel)) | (apply AL_len ttok; (iterate 4 exact rfl)) | (apply AW_drawE 17 hmix; (decide +kernel); (kernel_rfl); (kernel_rfl); (kernel_rfl); exact rfl; exact rfl) | (apply AE_consZ; (iterate 4 exact rfl)) | exact AE.nil _ _ _ _ | (apply AEk_puT; exact rfl) | (apply AOt_mk; exact rfl; exact rfl; (decide +kernel); exact rfl) | (apply AO_puT; exact rfl) | exact AO.nil _ _ _ | (apply AOs_skip; (decide +kernel)) | exact AOs.nil | exact qY_ok rfl rfl | (apply AL_idx ttok; (iterate 6 exact rfl); (first | with_reducible assumption | decide +kernel | exact Int.natCast_nonneg _ | (guard_target = (0:Int) <= (OfNat.ofNat _ : Int); decide) | rotate_left); (first | with_reducible assumption | decide +kernel | exact rfl); (first | exact uniB_ok rfl | with_reducible assumption | decide +kernel | rotate_left)))
   all_goals (apply endQ []; (apply resG_ok ttok; exact rfl); (iterate 4 exact rfl))
   all_goals rfl
  | false =>
  dsimp only
  have hne : l.take m ≠ [] := by
   intro h
   have h9 := congrArg List.length h
   rw [List.length_take, List.length_nil] at h9
   have := of_decide_eq_false t1
   omega
  have htl : (l.take m).length <= 1000000 := by rw [List.length_take]; omega
  have hSu := av_sumOf (l.take m) s hs hne (wfs_take m hws) htl (hlim s m hs)
  have eT : itEs (l.take m) = (itEs l).take m := by rw [itEs_map, itEs_map, List.map_take]
  have hmle : ((m : Nat) : Int).toNat <= (itEs l).length := by rw [Int.toNat_natCast]; omega
  rw [eT] at hSu
  cases hz : rightI (zeroL s (l.take m)) with
  | false =>
   rw [hz] at hSu
   dsimp only at hSu
   refine AP.ofA ?_
   refine AC_of Tryd.func20 rfl Tryd.ntmps20 rfl rfl ?_
   repeat' (first | (apply AL_callPw (hR); kernel_rfl; (iterate 4 exact rfl)) | (apply AL_callPw (hT); kernel_rfl; (iterate 4 exact rfl)) | rw [em] | (apply AL_callPw (hB); kernel_rfl; (iterate 4 exact rfl)) | (apply AL_callPw (hS); kernel_rfl; (iterate 4 exact rfl)) | (apply AL_callPw (hZ); kernel_rfl; (iterate 4 exact rfl)) | (apply AL_callPw (hSu); kernel_rfl; (iterate 4 exact rfl)) | (apply AL_uptoE ttok; (iterate 6 exact rfl); exact hU; exact Int.natCast_nonneg _; exact hmle; exact rfl) | (apply AL_go ttok; exact rfl) | (apply AW_go ttok; exact rfl) | (apply K_go ttok; exact rfl) | (apply AL_guardT; (iterate 3 exact rfl); (first | with_reducible assumption | decide +kernel)) | (apply AL_pickF; exact rfl; (first | with_reducible assumption | decide +kernel); exact rfl; exact rfl) | (apply AW_condA; exact rfl; (first | with_reducible assumption | decide +kernel)) | (apply AW_condB; exact rfl; (first | with_reducible assumption | decide +kernel)) | (apply AL_len ttok; (iterate 4 exact rfl)) | (apply AW_drawE 17 hmix; (decide +kernel); (kernel_rfl); (kernel_rfl); (kernel_rfl); exact rfl; exact rfl) | (apply AE_consZ; (iterate 4 exact rfl)) | exact AE.nil _ _ _ _ | (apply AEk_puT; exact rfl) | (apply AOt_mk; exact rfl; exact rfl; (decide +kernel); exact rfl) | (apply AO_puT; exact rfl) | exact AO.nil _ _ _ | (apply AOs_skip; (decide +kernel)) | exact AOs.nil | exact qY_ok rfl rfl | (apply AL_idx ttok; (iterate 6 exact rfl); (first | with_reducible assumption | decide +kernel | exact Int.natCast_nonneg _ | (guard_target = (0:Int) <= (OfNat.ofNat _ : Int); decide) | rotate_left); (first | with_reducible assumption | decide +kernel | exact rfl); (first | exact uniB_ok rfl | with_reducible assumption | decide +kernel | rotate_left)))
   all_goals (apply endQ []; (apply resG_ok ttok; exact rfl); (iterate 4 exact rfl))
   all_goals rfl
  | true =>
  rw [hz] at hSu
  dsimp only at hSu ⊢
  generalize sumB s (putI (zeroL s (l.take m))) = SB at *
  have hE := av_bEq SB b1
  cases t4 : (SB == b1) with
  | false =>
   rw [t4] at hE
   refine AP.ofA ?_
   refine AC_of Tryd.func20 rfl Tryd.ntmps20 rfl rfl ?_
   repeat' (first | (apply AL_callPw (hR); kernel_rfl; (iterate 4 exact rfl)) | (apply AL_callPw (hT); kernel_rfl; (iterate 4 exact rfl)) | rw [em] | (apply AL_callPw (hB); kernel_rfl; (iterate 4 exact rfl)) | (apply AL_callPw (hS); kernel_rfl; (iterate 4 exact rfl)) | (apply AL_callPw (hZ); kernel_rfl; (iterate 4 exact rfl)) | (apply AL_callPw (hSu); kernel_rfl; (iterate 4 exact rfl)) | (apply AL_callPw (hE); kernel_rfl; (iterate 4 exact rfl)) | (apply AL_uptoE ttok; (iterate 6 exact rfl); exact hU; exact Int.natCast_nonneg _; exact hmle; exact rfl) | (apply AL_go ttok; exact rfl) | (apply AW_go ttok; exact rfl) | (apply K_go ttok; exact rfl) | (apply AL_guardT; (iterate 3 exact rfl); (first | with_reducible assumption | decide +kernel)) | (apply AL_pickF; exact rfl; (first | with_reducible assumption | decide +kernel); exact rfl; exact rfl) | (apply AW_condA; exact rfl; (first | with_reducible assumption | decide +kernel)) | (apply AW_condB; exact rfl; (first | with_reducible assumption | decide +kernel)) | (apply AL_len ttok; (iterate 4 exact rfl)) | (apply AW_drawE 17 hmix; (decide +kernel); (kernel_rfl); (kernel_rfl); (kernel_rfl); exact rfl; exact rfl) | (apply AE_consZ; (iterate 4 exact rfl)) | exact AE.nil _ _ _ _ | (apply AEk_puT; exact rfl) | (apply AOt_mk; exact rfl; exact rfl; (decide +kernel); exact rfl) | (apply AO_puT; exact rfl) | exact AO.nil _ _ _ | (apply AOs_skip; (decide +kernel)) | exact AOs.nil | exact qY_ok rfl rfl | (apply AL_idx ttok; (iterate 6 exact rfl); (first | with_reducible assumption | decide +kernel | exact Int.natCast_nonneg _ | (guard_target = (0:Int) <= (OfNat.ofNat _ : Int); decide) | rotate_left); (first | with_reducible assumption | decide +kernel | exact rfl); (first | exact uniB_ok rfl | with_reducible assumption | decide +kernel | rotate_left)))
   all_goals (apply endQ []; (apply resG_ok ttok; exact rfl); (iterate 4 exact rfl))
   all_goals rfl
  | true =>
   rw [t4] at hE
   have hL := av_list (l.take m) (by omega) (wfs_take m hws)
   rw [eT] at hL
   replace hL : AP Tryd.prog 12 [.sl .ext ((itEs l).take m)] (.agg [.int .i64 4, .int .u64 0, .sl .ext [], .sl .ext (itEs (l.take m))]) [] := hL
   refine AP.ofA ?_
   refine AC_of Tryd.func20 rfl Tryd.ntmps20 rfl rfl ?_
   repeat' (first | (apply AL_callPw (hR); kernel_rfl; (iterate 4 exact rfl)) | (apply AL_callPw (hT); kernel_rfl; (iterate 4 exact rfl)) | rw [em] | (apply AL_callPw (hB); kernel_rfl; (iterate 4 exact rfl)) | (apply AL_callPw (hS); kernel_rfl; (iterate 4 exact rfl)) | (apply AL_callPw (hZ); kernel_rfl; (iterate 4 exact rfl)) | (apply AL_callPw (hSu); kernel_rfl; (iterate 4 exact rfl)) | (apply AL_callPw (hE); kernel_rfl; (iterate 4 exact rfl)) | (apply AL_callPw (hL); kernel_rfl; (iterate 4 exact rfl)) | (apply AL_uptoE ttok; (iterate 6 exact rfl); exact hU; exact Int.natCast_nonneg _; exact hmle; exact rfl) | (apply AL_go ttok; exact rfl) | (apply AW_go ttok; exact rfl) | (apply K_go ttok; exact rfl) | (apply AL_guardT; (iterate 3 exact rfl); (first | with_reducible assumption | decide +kernel)) | (apply AL_pickF; exact rfl; (first | with_reducible assumption | decide +kernel); exact rfl; exact rfl) | (apply AW_condB; exact rfl; (first | with_reducible assumption | decide +kernel)) | (apply AL_len ttok; (iterate 4 exact rfl)) | (apply AW_drawE 17 hmix; (decide +kernel); (kernel_rfl); (kernel_rfl); (kernel_rfl); exact rfl; exact rfl) | (apply AE_consZ; (iterate 4 exact rfl)) | exact AE.nil _ _ _ _ | (apply AEk_puT; exact rfl) | (apply AOt_mk; exact rfl; exact rfl; (decide +kernel); exact rfl) | (apply AO_puT; exact rfl) | exact AO.nil _ _ _ | (apply AOs_skip; (decide +kernel)) | exact AOs.nil | exact qY_ok rfl rfl | (apply AL_idx ttok; (iterate 6 exact rfl); (first | with_reducible assumption | decide +kernel | exact Int.natCast_nonneg _ | (guard_target = (0:Int) <= (OfNat.ofNat _ : Int); decide) | rotate_left); (first | with_reducible assumption | decide +kernel | exact rfl); (first | exact uniB_ok rfl | with_reducible assumption | decide +kernel | rotate_left)))
   all_goals (apply endQ []; (apply resG_ok ttok; exact rfl); (iterate 4 exact rfl))
   all_goals rfl
end Go.Proofs.YtfkmicjlaedlkaaDoor
end
section
open Go.RowKit Go.Pl Go.Av
namespace Go.Proofs.YtfkmicjlaedlkaaDoor
set_option maxHeartbeats 1000000
abbrev iC (x : EidV) (t q : Nat) : List D := [.bool x.i, .int .u64 (x.n : Int), .int .u64 (x.s : Int), .str x.h, .str x.d, .int .u64 (t : Int), .int .u64 (q : Int)]
def iRight (x : EidV) (t q : Nat) : Bool := eRight x && decide ((t : Int) <= 1099511627776) && decide ((q : Int) <= 1099511627776)
theorem av_iRight [Known] (x : EidV) (t q : Nat) : AP Tryd.prog 60 [.agg (iC x t q)] (.bool (iRight x t q)) [] := by
 refine AP.ofA ?_
 refine AC_of Tryd.func60 rfl Tryd.ntmps60 rfl rfl ?_
 repeat' (first | (apply AL_callPw (av_eRight x); kernel_rfl; (iterate 4 exact rfl)) | (apply AL_go ttok; exact rfl) | (apply AW_go ttok; exact rfl) | (apply AL_guardT; (iterate 3 exact rfl); (first | with_reducible assumption | (solve | simp only [bn]))) | (apply AL_guardFt; (iterate 3 exact rfl); (first | with_reducible assumption | (solve | simp only [bn]))) | (apply AL_guardS; exact rfl; exact rfl; all_goals intro hb) | (apply AL_pickT; exact rfl; (first | with_reducible assumption | (solve | simp only [bn])); exact rfl; exact rfl) | (apply AL_pickF; exact rfl; (first | with_reducible assumption | (solve | simp only [bn])); exact rfl; exact rfl))
 all_goals (apply endQ []; (apply resG_ok ttok; exact rfl); (iterate 4 exact rfl))
 all_goals first | rfl | (unfold iRight; simp only [*]; done) | (unfold iRight; simp only [*]; simp only [Bool.and_true, Bool.true_and, Bool.and_false, Bool.false_and]; done)
theorem av_greatN [Known] (x : EidV) (t q : Nat) : AP Tryd.prog 53 [.agg (iC x t q)] (.bool (decide (IntKind.i64.wrap ((x.h.length : Int) + (x.d.length : Int)) > 300))) [] := by
 refine AP.ofA ?_
 refine AC_of Tryd.func53 rfl Tryd.ntmps53 rfl rfl ?_
 repeat' (first | (apply AL_go ttok; exact rfl) | (apply AW_go ttok; exact rfl) | (apply AL_lens ttok; (iterate 4 exact rfl)))
 (apply endQ []; (apply resG_ok ttok; exact rfl); (iterate 4 exact rfl))
 all_goals rfl
end Go.Proofs.YtfkmicjlaedlkaaDoor
end
section
open Go.RowKit Go.Pl
namespace Go.Pl
variable {P : Program} {t : TypeId}
theorem opens_prod5 {α β γ δ ε : Type} {R0 : Rep α} {R1 : Rep β} {R2 : Rep γ} {R3 : Rep δ} {R4 : Rep ε} {fs : Array Field} {f0 f1 f2 f3 f4 : Field} (hs : P.underlying t = some (.struct fs)) (hfs : fs = #[f0, f1, f2, f3, f4])
  (h00 : f0.offset = 0) (h01 : f1.offset = R0.n) (h02 : f2.offset = R0.n + R1.n) (h03 : f3.offset = R0.n + R1.n + R2.n) (h04 : f4.offset = R0.n + R1.n + R2.n + R3.n)
  (hc0 : P.cellsOf f0.type = R0.n) (hc1 : P.cellsOf f1.type = R1.n) (hc2 : P.cellsOf f2.type = R2.n) (hc3 : P.cellsOf f3.type = R3.n) (hc4 : P.cellsOf f4.type = R4.n) (hc : P.cellsOf t = R0.n + (R1.n + (R2.n + (R3.n + R4.n))))
  (h0 : Opens P f0.type R0) (h1 : Opens P f1.type R1) (h2 : Opens P f2.type R2) (h3 : Opens P f3.type R3) (h4 : Opens P f4.type R4) : Opens P t (R0.prod (R1.prod (R2.prod (R3.prod R4)))) := by
 intro H enc W spare held fuel cs y h
 obtain ⟨xs, n, _, _, hl, hxl, hg⟩ := DataW.trod_struct hs h
 subst hfs
 have e0 := hg 0 f0 rfl
 have e1 := hg 1 f1 rfl
 have e2 := hg 2 f2 rfl
 have e3 := hg 3 f3 rfl
 have e4 := hg 4 f4 rfl
 rw [h00, hc0, List.drop_zero] at e0
 rw [h01, hc1] at e1
 rw [h02, hc2] at e2
 rw [h03, hc3] at e3
 rw [h04, hc4] at e4
 have hn : xs.length = 5 := hxl
 have hx0 : xs[0]? = some (xs[0]'(by omega)) := List.getElem?_eq_getElem (by omega)
 have hx1 : xs[1]? = some (xs[1]'(by omega)) := List.getElem?_eq_getElem (by omega)
 have hx2 : xs[2]? = some (xs[2]'(by omega)) := List.getElem?_eq_getElem (by omega)
 have hx3 : xs[3]? = some (xs[3]'(by omega)) := List.getElem?_eq_getElem (by omega)
 have hx4 : xs[4]? = some (xs[4]'(by omega)) := List.getElem?_eq_getElem (by omega)
 obtain ⟨x0, k0⟩ := h0 H enc W spare held n _ _ (e0.trans hx0)
 obtain ⟨x1, k1⟩ := h1 H enc W spare held n _ _ (e1.trans hx1)
 obtain ⟨x2, k2⟩ := h2 H enc W spare held n _ _ (e2.trans hx2)
 obtain ⟨x3, k3⟩ := h3 H enc W spare held n _ _ (e3.trans hx3)
 obtain ⟨x4, k4⟩ := h4 H enc W spare held n _ _ (e4.trans hx4)
 refine ⟨(x0, x1, x2, x3, x4), cs.take R0.n, cs.drop R0.n, (List.take_append_drop _ _).symm, k0, (cs.drop R0.n).take R1.n, (cs.drop R0.n).drop R1.n, (List.take_append_drop _ _).symm, k1,
  ((cs.drop R0.n).drop R1.n).take R2.n, ((cs.drop R0.n).drop R1.n).drop R2.n, (List.take_append_drop _ _).symm, ?_, (((cs.drop R0.n).drop R1.n).drop R2.n).take R3.n, (((cs.drop R0.n).drop R1.n).drop R2.n).drop R3.n, (List.take_append_drop _ _).symm, ?_, ?_⟩
 ·rw [List.drop_drop]; exact k2
 ·rw [List.drop_drop, List.drop_drop, show R0.n + (R1.n + R2.n) = R0.n + R1.n + R2.n from by omega]; exact k3
 ·rw [List.drop_drop, List.drop_drop, List.drop_drop, show R0.n + (R1.n + (R2.n + R3.n)) = R0.n + R1.n + R2.n + R3.n from by omega]
  rw [List.take_of_length_le (i := R4.n) (by rw [List.length_drop]; omega)] at k4
  exact k4
abbrev RE : Rep (Bool × Nat × Nat × List UInt8 × List UInt8) := Rep.bool.prod (Rep.u64.prod (Rep.u64.prod (Rep.str.prod Rep.str)))
abbrev RI : Rep ((Bool × Nat × Nat × List UInt8 × List UInt8) × Nat × Nat) := RE.prod (Rep.u64.prod Rep.u64)
end Go.Pl
end
section
open Go.RowKit Go.Pl
namespace Go.Proofs.YtfkmicjlaedlkaaDoor
theorem openE : Opens Tryd.prog 51 RE :=
 opens_prod5 Tryd.underlying51 rfl rfl rfl rfl rfl rfl (by kernel_rfl) (by kernel_rfl) (by kernel_rfl) (by kernel_rfl) (by kernel_rfl) (by kernel_rfl) (opens_bool Tryd.underlying4) (opens_u64 Tryd.underlying22) (opens_u64 Tryd.underlying22) (opens_str Tryd.underlying9) (opens_str Tryd.underlying9)
theorem openI : Opens Tryd.prog 53 RI :=
 opens_prod3 Tryd.underlying53 rfl (by kernel_rfl) rfl rfl rfl (by kernel_rfl) (by kernel_rfl) (by kernel_rfl) openE (opens_u64 Tryd.underlying22) (opens_u64 Tryd.underlying22)
end Go.Proofs.YtfkmicjlaedlkaaDoor
end
section
open Go.RowKit Go.Pl Go.Av
namespace Go.Proofs.YtfkmicjlaedlkaaDoor
set_option maxHeartbeats 4000000
theorem toE_eid : ToE RE (fun x => .agg [.bool x.1, .int .u64 (x.2.1 : Int), .int .u64 (x.2.2.1 : Int), .str x.2.2.2.1, .str x.2.2.2.2]) :=
 ToE.bool.prod (ToE.u64.prod (ToE.u64.prod (ToE.str.prod ToE.str)))
abbrev XE := Bool × Nat × Nat × List UInt8 × List UInt8
def XE.v (x : XE) : EidV := ⟨x.1, x.2.1, x.2.2.1, x.2.2.2.1, x.2.2.2.2⟩
end Go.Proofs.YtfkmicjlaedlkaaDoor
end
section
open Go.RowKit Go.Pl Go.Av
namespace Go.Proofs.YtfkmicjlaedlkaaDoor
set_option maxHeartbeats 4000000
structure PriV where
 fl : Nat
 sum : Int
 dest : EidV
 rep : EidV
 src : EidV
 t : Nat
 q : Nat
 life : Nat
abbrev prC (p : PriV) : List D := [.int .u64 (p.fl : Int), .int .i64 p.sum, .bool p.dest.i, .int .u64 (p.dest.n : Int), .int .u64 (p.dest.s : Int), .str p.dest.h, .str p.dest.d, .bool p.rep.i, .int .u64 (p.rep.n : Int), .int .u64 (p.rep.s : Int), .str p.rep.h, .str p.rep.d, .bool p.src.i, .int .u64 (p.src.n : Int), .int .u64 (p.src.s : Int), .str p.src.h, .str p.src.d, .int .u64 (p.t : Int), .int .u64 (p.q : Int), .int .u64 (p.life : Int)]
def rightP (p : PriV) : Bool := (bits .andNot .u64 (p.fl : Int) 409638 == 0) && (decide (p.sum ≥ 0) && (decide (p.sum <= 2) && (eRight p.dest && (eRight p.rep && (iRight p.src p.t p.q && decide ((p.life : Int) <= 1099511627776))))))
theorem av_pRight [Known] (p : PriV) : AP Tryd.prog 28 [.agg (prC p)] (.bool (rightP p)) [] := by
 have hD := av_eRight p.dest
 have hR := av_eRight p.rep
 have hI := av_iRight p.src p.t p.q
 unfold rightP
 generalize eRight p.dest = e1 at *
 generalize eRight p.rep = e2 at *
 generalize iRight p.src p.t p.q = e3 at *
 obtain ⟨fl, sum, ⟨di, dn, ds, dh, dd⟩, ⟨ri, rn, rs, rh, rd⟩, ⟨xi, xn, xs, xh, xd⟩, t, q, life⟩ := p
 dsimp only at *
 cases t1 : (bits .andNot .u64 (fl : Int) 409638 == 0) with
 | false =>
  refine AP.ofA ?_
  refine AC_of Tryd.func28 rfl Tryd.ntmps28 rfl rfl ?_
  repeat' (first | (apply AL_go ttok; exact rfl) | (apply AW_go ttok; exact rfl) | (apply AL_guardFt; (iterate 3 exact rfl); (first | with_reducible assumption | decide +kernel)) | (apply AL_pickF; exact rfl; (first | with_reducible assumption | decide +kernel); exact rfl; exact rfl))
  all_goals (apply endQ []; (apply resG_ok ttok; exact rfl); (iterate 4 exact rfl))
  all_goals rfl
 | true =>
 cases t2 : decide (sum ≥ 0) with
 | false =>
  refine AP.ofA ?_
  refine AC_of Tryd.func28 rfl Tryd.ntmps28 rfl rfl ?_
  repeat' (first | (apply AL_go ttok; exact rfl) | (apply AW_go ttok; exact rfl) | (apply AL_guardT; (iterate 3 exact rfl); (first | with_reducible assumption | decide +kernel)) | (apply AL_guardFt; (iterate 3 exact rfl); (first | with_reducible assumption | decide +kernel)) | (apply AL_pickT; exact rfl; (first | with_reducible assumption | decide +kernel); exact rfl; exact rfl) | (apply AL_pickF; exact rfl; (first | with_reducible assumption | decide +kernel); exact rfl; exact rfl))
  all_goals (apply endQ []; (apply resG_ok ttok; exact rfl); (iterate 4 exact rfl))
  all_goals rfl
 | true =>
 cases t3 : decide (sum <= 2) with
 | false =>
  refine AP.ofA ?_
  refine AC_of Tryd.func28 rfl Tryd.ntmps28 rfl rfl ?_
  repeat' (first | (apply AL_go ttok; exact rfl) | (apply AW_go ttok; exact rfl) | (apply AL_guardT; (iterate 3 exact rfl); (first | with_reducible assumption | decide +kernel)) | (apply AL_guardFt; (iterate 3 exact rfl); (first | with_reducible assumption | decide +kernel)) | (apply AL_pickT; exact rfl; (first | with_reducible assumption | decide +kernel); exact rfl; exact rfl) | (apply AL_pickF; exact rfl; (first | with_reducible assumption | decide +kernel); exact rfl; exact rfl))
  all_goals (apply endQ []; (apply resG_ok ttok; exact rfl); (iterate 4 exact rfl))
  all_goals rfl
 | true =>
 cases e1
 ·refine AP.ofA ?_
  refine AC_of Tryd.func28 rfl Tryd.ntmps28 rfl rfl ?_
  repeat' (first | (apply AL_callPw (hD); kernel_rfl; (iterate 4 exact rfl)) | (apply AL_go ttok; exact rfl) | (apply AW_go ttok; exact rfl) | (apply AL_guardT; (iterate 3 exact rfl); (first | with_reducible assumption | decide +kernel)) | (apply AL_guardFt; (iterate 3 exact rfl); (first | with_reducible assumption | decide +kernel)) | (apply AL_pickT; exact rfl; (first | with_reducible assumption | decide +kernel); exact rfl; exact rfl) | (apply AL_pickF; exact rfl; (first | with_reducible assumption | decide +kernel); exact rfl; exact rfl))
  all_goals (apply endQ []; (apply resG_ok ttok; exact rfl); (iterate 4 exact rfl))
  all_goals rfl
 cases e2
 ·refine AP.ofA ?_
  refine AC_of Tryd.func28 rfl Tryd.ntmps28 rfl rfl ?_
  repeat' (first | (apply AL_callPw (hD); kernel_rfl; (iterate 4 exact rfl)) | (apply AL_callPw (hR); kernel_rfl; (iterate 4 exact rfl)) | (apply AL_go ttok; exact rfl) | (apply AW_go ttok; exact rfl) | (apply AL_guardT; (iterate 3 exact rfl); (first | with_reducible assumption | decide +kernel)) | (apply AL_guardFt; (iterate 3 exact rfl); (first | with_reducible assumption | decide +kernel)) | (apply AL_pickT; exact rfl; (first | with_reducible assumption | decide +kernel); exact rfl; exact rfl) | (apply AL_pickF; exact rfl; (first | with_reducible assumption | decide +kernel); exact rfl; exact rfl))
  all_goals (apply endQ []; (apply resG_ok ttok; exact rfl); (iterate 4 exact rfl))
  all_goals rfl
 cases e3
 ·refine AP.ofA ?_
  refine AC_of Tryd.func28 rfl Tryd.ntmps28 rfl rfl ?_
  repeat' (first | (apply AL_callPw (hD); kernel_rfl; (iterate 4 exact rfl)) | (apply AL_callPw (hR); kernel_rfl; (iterate 4 exact rfl)) | (apply AL_callPw (hI); kernel_rfl; (iterate 4 exact rfl)) | (apply AL_go ttok; exact rfl) | (apply AW_go ttok; exact rfl) | (apply AL_guardT; (iterate 3 exact rfl); (first | with_reducible assumption | decide +kernel)) | (apply AL_guardFt; (iterate 3 exact rfl); (first | with_reducible assumption | decide +kernel)) | (apply AL_pickT; exact rfl; (first | with_reducible assumption | decide +kernel); exact rfl; exact rfl) | (apply AL_pickF; exact rfl; (first | with_reducible assumption | decide +kernel); exact rfl; exact rfl))
  all_goals (apply endQ []; (apply resG_ok ttok; exact rfl); (iterate 4 exact rfl))
  all_goals rfl
 refine AP.ofA ?_
 refine AC_of Tryd.func28 rfl Tryd.ntmps28 rfl rfl ?_
 repeat' (first | (apply AL_callPw (hD); kernel_rfl; (iterate 4 exact rfl)) | (apply AL_callPw (hR); kernel_rfl; (iterate 4 exact rfl)) | (apply AL_callPw (hI); kernel_rfl; (iterate 4 exact rfl)) | (apply AL_go ttok; exact rfl) | (apply AW_go ttok; exact rfl) | (apply AL_guardT; (iterate 3 exact rfl); (first | with_reducible assumption | decide +kernel)) | (apply AL_pickT; exact rfl; (first | with_reducible assumption | decide +kernel); exact rfl; exact rfl))
 all_goals (apply endQ []; (apply resG_ok ttok; exact rfl); (iterate 4 exact rfl))
 all_goals rfl
end Go.Proofs.YtfkmicjlaedlkaaDoor
end
section
open Go.RowKit Go.Pl Go.Av
namespace Go.Proofs.YtfkmicjlaedlkaaDoor
set_option maxHeartbeats 4000000
theorem pb_e0 [Known] (pfl pdn pds prn prs pxn pxs pt pq plife : Nat) (psum : Int) (pdi pri pxi : Bool) (pdh pdd prh prd pxh pxd : List UInt8) (xk : Int) (xn : Nat) (xb xl : List E) (g at_ : Int)
  (hA : AP Tryd.prog 16 [] (.bool true) [])
  (hG : AP Tryd.prog 24 [.agg [.int .u64 (pfl : Int), .int .i64 psum, .bool pdi, .int .u64 (pdn : Int), .int .u64 (pds : Int), .str pdh, .str pdd, .bool pri, .int .u64 (prn : Int), .int .u64 (prs : Int), .str prh, .str prd, .bool pxi, .int .u64 (pxn : Int), .int .u64 (pxs : Int), .str pxh, .str pxd, .int .u64 (pt : Int), .int .u64 (pq : Int), .int .u64 (plife : Int)]] (.bool true) []) :
  AP Tryd.prog 5 [.agg [.int .u64 (pfl : Int), .int .i64 psum, .bool pdi, .int .u64 (pdn : Int), .int .u64 (pds : Int), .str pdh, .str pdd, .bool pri, .int .u64 (prn : Int), .int .u64 (prs : Int), .str prh, .str prd, .bool pxi, .int .u64 (pxn : Int), .int .u64 (pxs : Int), .str pxh, .str pxd, .int .u64 (pt : Int), .int .u64 (pq : Int), .int .u64 (plife : Int)], .agg [.int .i64 xk, .int .u64 (xn : Int), .sl .ext xb, .sl .ext xl], .int .i64 at_] (.bool true) [] := by
 refine AP.ofA ?_
 refine AC_of Tryd.func5 rfl Tryd.ntmps5 rfl rfl ?_
 repeat' (first | (apply AL_callPw (hA); kernel_rfl; (iterate 4 exact rfl)) | (apply AL_callPw (hG); kernel_rfl; (iterate 4 exact rfl)) | (apply AL_go ttok; exact rfl) | (apply AW_go ttok; exact rfl) | (apply K_go ttok; exact rfl) | (apply AL_guardFf; (iterate 3 exact rfl); (first | with_reducible assumption | decide +kernel)) | (apply AL_pickT; exact rfl; (first | with_reducible assumption | decide +kernel); exact rfl; exact rfl) | (apply AW_condA; exact rfl; (first | with_reducible assumption | decide +kernel)))
 all_goals (apply endQ []; (apply resG_ok ttok; exact rfl); (iterate 4 exact rfl))
 all_goals rfl
theorem pb_e1 [Known] (pfl pdn pds prn prs pxn pxs pt pq plife : Nat) (psum : Int) (pdi pri pxi : Bool) (pdh pdd prh prd pxh pxd : List UInt8) (xk : Int) (xn : Nat) (xb xl : List E) (g at_ : Int)
  (hA : AP Tryd.prog 16 [] (.bool true) [])
  (hG : AP Tryd.prog 24 [.agg [.int .u64 (pfl : Int), .int .i64 psum, .bool pdi, .int .u64 (pdn : Int), .int .u64 (pds : Int), .str pdh, .str pdd, .bool pri, .int .u64 (prn : Int), .int .u64 (prs : Int), .str prh, .str prd, .bool pxi, .int .u64 (pxn : Int), .int .u64 (pxs : Int), .str pxh, .str pxd, .int .u64 (pt : Int), .int .u64 (pq : Int), .int .u64 (plife : Int)]] (.bool false) [])
  (hH : AP Tryd.prog 15 [.agg [.int .i64 xk, .int .u64 (xn : Int), .sl .ext xb, .sl .ext xl], .int .i64 1, .int .i64 300] (.int .i64 g) [])
  (t0 : decide (g < 0) = true) :
  AP Tryd.prog 5 [.agg [.int .u64 (pfl : Int), .int .i64 psum, .bool pdi, .int .u64 (pdn : Int), .int .u64 (pds : Int), .str pdh, .str pdd, .bool pri, .int .u64 (prn : Int), .int .u64 (prs : Int), .str prh, .str prd, .bool pxi, .int .u64 (pxn : Int), .int .u64 (pxs : Int), .str pxh, .str pxd, .int .u64 (pt : Int), .int .u64 (pq : Int), .int .u64 (plife : Int)], .agg [.int .i64 xk, .int .u64 (xn : Int), .sl .ext xb, .sl .ext xl], .int .i64 at_] (.bool true) [] := by
 refine AP.ofA ?_
 refine AC_of Tryd.func5 rfl Tryd.ntmps5 rfl rfl ?_
 repeat' (first | (apply AL_callPw (hA); kernel_rfl; (iterate 4 exact rfl)) | (apply AL_callPw (hG); kernel_rfl; (iterate 4 exact rfl)) | (apply AL_callPw (hH); kernel_rfl; (iterate 4 exact rfl)) | (apply AL_go ttok; exact rfl) | (apply AW_go ttok; exact rfl) | (apply K_go ttok; exact rfl) | (apply AL_guardT; (iterate 3 exact rfl); (first | with_reducible assumption | decide +kernel)) | (apply AL_pickF; exact rfl; (first | with_reducible assumption | decide +kernel); exact rfl; exact rfl) | (apply AW_condA; exact rfl; (first | with_reducible assumption | decide +kernel)))
 all_goals (apply endQ []; (apply resG_ok ttok; exact rfl); (iterate 4 exact rfl))
 all_goals rfl
theorem pb_yyy [Known] (pfl pdn pds prn prs pxn pxs pt pq plife : Nat) (psum : Int) (pdi pri pxi : Bool) (pdh pdd prh prd pxh pxd : List UInt8) (xk : Int) (xn : Nat) (xb xl : List E) (g at_ : Int) (yk : Int) (yn : Nat) (yb yl : List E) (qfl qdn qds qrn qrs qxn qxs qt qq qlife : Nat) (qsum : Int) (qdi qri qxi : Bool) (qdh qdd qrh qrd qxh qxd : List UInt8) (sk : Int) (sn : Nat) (sb sl : List E) (mk : Int) (mn : Nat) (mb ml : List E)
  (hA : AP Tryd.prog 16 [] (.bool true) [])
  (hG : AP Tryd.prog 24 [.agg [.int .u64 (pfl : Int), .int .i64 psum, .bool pdi, .int .u64 (pdn : Int), .int .u64 (pds : Int), .str pdh, .str pdd, .bool pri, .int .u64 (prn : Int), .int .u64 (prs : Int), .str prh, .str prd, .bool pxi, .int .u64 (pxn : Int), .int .u64 (pxs : Int), .str pxh, .str pxd, .int .u64 (pt : Int), .int .u64 (pq : Int), .int .u64 (plife : Int)]] (.bool false) [])
  (hH : AP Tryd.prog 15 [.agg [.int .i64 xk, .int .u64 (xn : Int), .sl .ext xb, .sl .ext xl], .int .i64 1, .int .i64 300] (.int .i64 g) [])
  (t0 : decide (g < 0) = false)
  (hW : AP Tryd.prog 25 [.agg [.int .u64 (pfl : Int), .int .i64 psum, .bool pdi, .int .u64 (pdn : Int), .int .u64 (pds : Int), .str pdh, .str pdd, .bool pri, .int .u64 (prn : Int), .int .u64 (prs : Int), .str prh, .str prd, .bool pxi, .int .u64 (pxn : Int), .int .u64 (pxs : Int), .str pxh, .str pxd, .int .u64 (pt : Int), .int .u64 (pq : Int), .int .u64 (plife : Int)]] (.tup [.agg [.int .i64 yk, .int .u64 (yn : Int), .sl .ext yb, .sl .ext yl], .int .i64 0]) [])
  (hR1 : AP Tryd.prog 26 [.agg [.int .i64 yk, .int .u64 (yn : Int), .sl .ext yb, .sl .ext yl]] (.tup [.agg [.int .u64 (pfl : Int), .int .i64 psum, .bool pdi, .int .u64 (pdn : Int), .int .u64 (pds : Int), .str pdh, .str pdd, .bool pri, .int .u64 (prn : Int), .int .u64 (prs : Int), .str prh, .str prd, .bool pxi, .int .u64 (pxn : Int), .int .u64 (pxs : Int), .str pxh, .str pxd, .int .u64 (pt : Int), .int .u64 (pq : Int), .int .u64 (plife : Int)], .int .i64 0]) [])
  (hP : (!(((pfl : Int) == (pfl : Int)) && ((psum == psum) && ((pdi == pdi) && (((pdn : Int) == (pdn : Int)) && (((pds : Int) == (pds : Int)) && ((pdh == pdh) && ((pdd == pdd) && ((pri == pri) && (((prn : Int) == (prn : Int)) && (((prs : Int) == (prs : Int)) && ((prh == prh) && ((prd == prd) && ((pxi == pxi) && (((pxn : Int) == (pxn : Int)) && (((pxs : Int) == (pxs : Int)) && ((pxh == pxh) && ((pxd == pxd) && (((pt : Int) == (pt : Int)) && (((pq : Int) == (pq : Int)) && (((plife : Int) == (plife : Int)) && true))))))))))))))))))))) = false)
  (hR : AP Tryd.prog 26 [.agg [.int .i64 xk, .int .u64 (xn : Int), .sl .ext xb, .sl .ext xl]] (.tup [.agg [.int .u64 (qfl : Int), .int .i64 qsum, .bool qdi, .int .u64 (qdn : Int), .int .u64 (qds : Int), .str qdh, .str qdd, .bool qri, .int .u64 (qrn : Int), .int .u64 (qrs : Int), .str qrh, .str qrd, .bool qxi, .int .u64 (qxn : Int), .int .u64 (qxs : Int), .str qxh, .str qxd, .int .u64 (qt : Int), .int .u64 (qq : Int), .int .u64 (qlife : Int)], .int .i64 0]) [])
  (hV : AP Tryd.prog 25 [.agg [.int .u64 (qfl : Int), .int .i64 qsum, .bool qdi, .int .u64 (qdn : Int), .int .u64 (qds : Int), .str qdh, .str qdd, .bool qri, .int .u64 (qrn : Int), .int .u64 (qrs : Int), .str qrh, .str qrd, .bool qxi, .int .u64 (qxn : Int), .int .u64 (qxs : Int), .str qxh, .str qxd, .int .u64 (qt : Int), .int .u64 (qq : Int), .int .u64 (qlife : Int)]] (.tup [.agg [.int .i64 xk, .int .u64 (xn : Int), .sl .ext xb, .sl .ext xl], .int .i64 0]) [])
  (hS : AP Tryd.prog 27 [.agg [.int .i64 xk, .int .u64 (xn : Int), .sl .ext xb, .sl .ext xl], .agg [.int .i64 xk, .int .u64 (xn : Int), .sl .ext xb, .sl .ext xl]] (.bool true) [])
  (hSe : AP Tryd.prog 17 [.sl .ext xl, .int .i64 at_] (.tup [.agg [.int .i64 sk, .int .u64 (sn : Int), .sl .ext sb, .sl .ext sl], .int .i64 0]) [])
  (hO : AP Tryd.prog 20 [.agg [.int .i64 sk, .int .u64 (sn : Int), .sl .ext sb, .sl .ext sl], .int .i64 at_] (.tup [.sl .ext xl, .int .i64 0]) [])
  (hL : AP Tryd.prog 12 [.sl .ext xl] (.agg [.int .i64 mk, .int .u64 (mn : Int), .sl .ext mb, .sl .ext ml]) [])
  (hM : AP Tryd.prog 27 [.agg [.int .i64 mk, .int .u64 (mn : Int), .sl .ext mb, .sl .ext ml], .agg [.int .i64 mk, .int .u64 (mn : Int), .sl .ext mb, .sl .ext ml]] (.bool true) []) :
  AP Tryd.prog 5 [.agg [.int .u64 (pfl : Int), .int .i64 psum, .bool pdi, .int .u64 (pdn : Int), .int .u64 (pds : Int), .str pdh, .str pdd, .bool pri, .int .u64 (prn : Int), .int .u64 (prs : Int), .str prh, .str prd, .bool pxi, .int .u64 (pxn : Int), .int .u64 (pxs : Int), .str pxh, .str pxd, .int .u64 (pt : Int), .int .u64 (pq : Int), .int .u64 (plife : Int)], .agg [.int .i64 xk, .int .u64 (xn : Int), .sl .ext xb, .sl .ext xl], .int .i64 at_] (.bool true) [] := by
 refine AP.ofA ?_
 refine AC_of Tryd.func5 rfl Tryd.ntmps5 rfl rfl ?_
 repeat' (first | (apply AL_callPw (hA); kernel_rfl; (iterate 4 exact rfl)) | (apply AL_callPw (hG); kernel_rfl; (iterate 4 exact rfl)) | (apply AL_callPw (hH); kernel_rfl; (iterate 4 exact rfl)) | (apply AL_callPw (hW); kernel_rfl; (iterate 4 exact rfl)) | (apply AL_callPw (hR1); kernel_rfl; (iterate 4 exact rfl)) | (apply AL_callPw (hR); kernel_rfl; (iterate 4 exact rfl)) | (apply AL_callPw (hS); kernel_rfl; (iterate 4 exact rfl)) | (apply AL_callPw (hV); kernel_rfl; (iterate 4 exact rfl)) | (apply AL_callPw (hSe); kernel_rfl; (iterate 4 exact rfl)) | (apply AL_callPw (hO); kernel_rfl; (iterate 4 exact rfl)) | (apply AL_callPw (hL); kernel_rfl; (iterate 4 exact rfl)) | (apply AL_callPw (hM); kernel_rfl; (iterate 4 exact rfl)) | (apply AL_go ttok; exact rfl) | (apply AW_go ttok; exact rfl) | (apply K_go ttok; exact rfl) | (apply AL_guardT; (iterate 3 exact rfl); (first | with_reducible assumption | decide +kernel)) | (apply AL_pickT; exact rfl; (first | with_reducible assumption | decide +kernel); exact rfl; exact rfl) | (apply AL_pickF; exact rfl; (first | with_reducible assumption | decide +kernel); exact rfl; exact rfl) | (apply AW_condA; exact rfl; (first | with_reducible assumption | decide +kernel)) | (apply AW_condB; exact rfl; (first | with_reducible assumption | decide +kernel)) | (apply AL_eqS ttok; (iterate 4 exact rfl); (kernel_rfl); (kernel_rfl); (iterate 3 exact rfl)) | (apply AW_drawE 10 hmix; (decide +kernel); (kernel_rfl); (kernel_rfl); (kernel_rfl); exact rfl; exact rfl) | (apply AE_consZ; (iterate 4 exact rfl)) | exact AE.nil _ _ _ _ | (apply AEk_puT; exact rfl) | (apply AOt_mk; exact rfl; exact rfl; (decide +kernel); exact rfl) | (apply AO_puT; exact rfl) | exact AO.nil _ _ _ | (apply AOs_skip; (decide +kernel)) | exact AOs.nil | exact qY_ok rfl rfl)
 all_goals (apply endQ []; (apply resG_ok ttok; exact rfl); (iterate 4 exact rfl))
 all_goals rfl
theorem pb_yyn [Known] (pfl pdn pds prn prs pxn pxs pt pq plife : Nat) (psum : Int) (pdi pri pxi : Bool) (pdh pdd prh prd pxh pxd : List UInt8) (xk : Int) (xn : Nat) (xb xl : List E) (g at_ : Int) (yk : Int) (yn : Nat) (yb yl : List E) (qfl qdn qds qrn qrs qxn qxs qt qq qlife : Nat) (qsum : Int) (qdi qri qxi : Bool) (qdh qdd qrh qrd qxh qxd : List UInt8) (sk : Int) (sn : Nat) (sb sl : List E) (he : Int)
  (hA : AP Tryd.prog 16 [] (.bool true) [])
  (hG : AP Tryd.prog 24 [.agg [.int .u64 (pfl : Int), .int .i64 psum, .bool pdi, .int .u64 (pdn : Int), .int .u64 (pds : Int), .str pdh, .str pdd, .bool pri, .int .u64 (prn : Int), .int .u64 (prs : Int), .str prh, .str prd, .bool pxi, .int .u64 (pxn : Int), .int .u64 (pxs : Int), .str pxh, .str pxd, .int .u64 (pt : Int), .int .u64 (pq : Int), .int .u64 (plife : Int)]] (.bool false) [])
  (hH : AP Tryd.prog 15 [.agg [.int .i64 xk, .int .u64 (xn : Int), .sl .ext xb, .sl .ext xl], .int .i64 1, .int .i64 300] (.int .i64 g) [])
  (t0 : decide (g < 0) = false)
  (hW : AP Tryd.prog 25 [.agg [.int .u64 (pfl : Int), .int .i64 psum, .bool pdi, .int .u64 (pdn : Int), .int .u64 (pds : Int), .str pdh, .str pdd, .bool pri, .int .u64 (prn : Int), .int .u64 (prs : Int), .str prh, .str prd, .bool pxi, .int .u64 (pxn : Int), .int .u64 (pxs : Int), .str pxh, .str pxd, .int .u64 (pt : Int), .int .u64 (pq : Int), .int .u64 (plife : Int)]] (.tup [.agg [.int .i64 yk, .int .u64 (yn : Int), .sl .ext yb, .sl .ext yl], .int .i64 0]) [])
  (hR1 : AP Tryd.prog 26 [.agg [.int .i64 yk, .int .u64 (yn : Int), .sl .ext yb, .sl .ext yl]] (.tup [.agg [.int .u64 (pfl : Int), .int .i64 psum, .bool pdi, .int .u64 (pdn : Int), .int .u64 (pds : Int), .str pdh, .str pdd, .bool pri, .int .u64 (prn : Int), .int .u64 (prs : Int), .str prh, .str prd, .bool pxi, .int .u64 (pxn : Int), .int .u64 (pxs : Int), .str pxh, .str pxd, .int .u64 (pt : Int), .int .u64 (pq : Int), .int .u64 (plife : Int)], .int .i64 0]) [])
  (hP : (!(((pfl : Int) == (pfl : Int)) && ((psum == psum) && ((pdi == pdi) && (((pdn : Int) == (pdn : Int)) && (((pds : Int) == (pds : Int)) && ((pdh == pdh) && ((pdd == pdd) && ((pri == pri) && (((prn : Int) == (prn : Int)) && (((prs : Int) == (prs : Int)) && ((prh == prh) && ((prd == prd) && ((pxi == pxi) && (((pxn : Int) == (pxn : Int)) && (((pxs : Int) == (pxs : Int)) && ((pxh == pxh) && ((pxd == pxd) && (((pt : Int) == (pt : Int)) && (((pq : Int) == (pq : Int)) && (((plife : Int) == (plife : Int)) && true))))))))))))))))))))) = false)
  (hR : AP Tryd.prog 26 [.agg [.int .i64 xk, .int .u64 (xn : Int), .sl .ext xb, .sl .ext xl]] (.tup [.agg [.int .u64 (qfl : Int), .int .i64 qsum, .bool qdi, .int .u64 (qdn : Int), .int .u64 (qds : Int), .str qdh, .str qdd, .bool qri, .int .u64 (qrn : Int), .int .u64 (qrs : Int), .str qrh, .str qrd, .bool qxi, .int .u64 (qxn : Int), .int .u64 (qxs : Int), .str qxh, .str qxd, .int .u64 (qt : Int), .int .u64 (qq : Int), .int .u64 (qlife : Int)], .int .i64 0]) [])
  (hV : AP Tryd.prog 25 [.agg [.int .u64 (qfl : Int), .int .i64 qsum, .bool qdi, .int .u64 (qdn : Int), .int .u64 (qds : Int), .str qdh, .str qdd, .bool qri, .int .u64 (qrn : Int), .int .u64 (qrs : Int), .str qrh, .str qrd, .bool qxi, .int .u64 (qxn : Int), .int .u64 (qxs : Int), .str qxh, .str qxd, .int .u64 (qt : Int), .int .u64 (qq : Int), .int .u64 (qlife : Int)]] (.tup [.agg [.int .i64 xk, .int .u64 (xn : Int), .sl .ext xb, .sl .ext xl], .int .i64 0]) [])
  (hS : AP Tryd.prog 27 [.agg [.int .i64 xk, .int .u64 (xn : Int), .sl .ext xb, .sl .ext xl], .agg [.int .i64 xk, .int .u64 (xn : Int), .sl .ext xb, .sl .ext xl]] (.bool true) [])
  (hSe : AP Tryd.prog 17 [.sl .ext xl, .int .i64 at_] (.tup [.agg [.int .i64 sk, .int .u64 (sn : Int), .sl .ext sb, .sl .ext sl], .int .i64 he]) [])
  (th : (he != 0) = true) :
  AP Tryd.prog 5 [.agg [.int .u64 (pfl : Int), .int .i64 psum, .bool pdi, .int .u64 (pdn : Int), .int .u64 (pds : Int), .str pdh, .str pdd, .bool pri, .int .u64 (prn : Int), .int .u64 (prs : Int), .str prh, .str prd, .bool pxi, .int .u64 (pxn : Int), .int .u64 (pxs : Int), .str pxh, .str pxd, .int .u64 (pt : Int), .int .u64 (pq : Int), .int .u64 (plife : Int)], .agg [.int .i64 xk, .int .u64 (xn : Int), .sl .ext xb, .sl .ext xl], .int .i64 at_] (.bool true) [] := by
 refine AP.ofA ?_
 refine AC_of Tryd.func5 rfl Tryd.ntmps5 rfl rfl ?_
 repeat' (first | (apply AL_callPw (hA); kernel_rfl; (iterate 4 exact rfl)) | (apply AL_callPw (hG); kernel_rfl; (iterate 4 exact rfl)) | (apply AL_callPw (hH); kernel_rfl; (iterate 4 exact rfl)) | (apply AL_callPw (hW); kernel_rfl; (iterate 4 exact rfl)) | (apply AL_callPw (hR1); kernel_rfl; (iterate 4 exact rfl)) | (apply AL_callPw (hR); kernel_rfl; (iterate 4 exact rfl)) | (apply AL_callPw (hS); kernel_rfl; (iterate 4 exact rfl)) | (apply AL_callPw (hV); kernel_rfl; (iterate 4 exact rfl)) | (apply AL_callPw (hSe); kernel_rfl; (iterate 4 exact rfl)) | (apply AL_go ttok; exact rfl) | (apply AW_go ttok; exact rfl) | (apply K_go ttok; exact rfl) | (apply AL_guardT; (iterate 3 exact rfl); (first | with_reducible assumption | decide +kernel)) | (apply AL_pickT; exact rfl; (first | with_reducible assumption | decide +kernel); exact rfl; exact rfl) | (apply AL_pickF; exact rfl; (first | with_reducible assumption | decide +kernel); exact rfl; exact rfl) | (apply AW_condA; exact rfl; (first | with_reducible assumption | decide +kernel)) | (apply AW_condB; exact rfl; (first | with_reducible assumption | decide +kernel)) | (apply AL_eqS ttok; (iterate 4 exact rfl); (kernel_rfl); (kernel_rfl); (iterate 3 exact rfl)))
 all_goals (apply endQ []; (apply resG_ok ttok; exact rfl); (iterate 4 exact rfl))
 all_goals rfl
end Go.Proofs.YtfkmicjlaedlkaaDoor
end

/- Package primary: a sealed list, opened. -/
import Derived.Test.YtfkmicjlaedlkaaGreatDoorG21
import Derived.Test.YtfkmicjlaedlkaaGreatDoorG20
import Derived.Test.YtfkmicjlaedlkaaGreatDoorG01
import Derived.Test.YtfkmicjlaedlkaaGreatDoorG06
import Derived.Test.YtfkmicjlaedlkaaGreatDoorProg
import Derived.Test.YtfkmicjlaedlkaaGreatDoorG08
import Derived.Lib.Strings
import Derived.Lib.Slices
import Derived.Lib.Walk
import Derived.Lib.Bytealg
set_option linter.unusedVariables false
set_option linter.unusedSimpArgs false
section
open Go.RowKit Go.Pl Go.Av
namespace Go.Proofs.YtfkmicjlaedlkaaGreatDoor
set_option maxHeartbeats 4000000
def openV (x : It) (a : Int) : List It × Int := match x with
 | .mk k n b l => match rightI (.mk k n b l) && (k == 4) with
  | false => ([], 3)
  | true => match decide (typeV l a < 0) with
   | true => ([], 3)
   | false => match typeV l a == 0 with
    | true => (l, 0)
    | false => match l[l.length - 1]? with
     | none => ([], 3)
     | some (.mk k1 n1 b1 l1) => match decide (((l.length - 1 : Nat) : Int) <= a) || (!(It.beq (.mk k1 n1 b1 l1) (.mk 2 0 b1 [])) || ((b1.length : Int) != ((2 * (typeV l a).toNat : Nat) : Int))) with
      | true => ([], 3)
      | false => match rightI (zeroL (typeV l a).toNat (l.take (l.length - 1))) with
       | false => ([], 3)
       | true => match sumB (typeV l a).toNat (putI (zeroL (typeV l a).toNat (l.take (l.length - 1)))) == b1 with
        | false => ([], 10)
        | true => (l.take (l.length - 1), 0)
abbrev openD (r : List It × Int) : D := .tup [.sl .ext (itEs r.1), .int .i64 r.2]
theorem wfs_take : ∀ {l : List It} (m : Nat), wfs l -> wfs (l.take m)
 | _, 0, _ => trivial
 | [], m + 1, h => h
 | x :: l, m + 1, h => ⟨h.1, wfs_take m h.2⟩
theorem av_open [Known] [KnownU8] (x : It) (a : Int) (hw : wfI x) (hxl : x.l.length <= 1000000) (hlim : ∀ s m, s = 1 \/ s = 2 -> (putI (zeroL s (x.l.take m))).length <= 1000000000) : AP Tryz.prog 44 [itD x, .int .i64 a] (openD (openV x a)) [] := by
 have hR := av_rightI x hw
 obtain ⟨k, n, b, l⟩ := x
 have hws : wfs l := hw.2.2.2
 have hlen := itEs_len l
 have hU := uniI l
 dsimp only [It.l] at hxl hlim
 have hT := av_typeAt l hws a
 unfold openV
 dsimp only
 cases hr : rightI (.mk k n b l) with
 | false =>
  rw [hr] at hR
  rw [Bool.false_and]
  refine AP.ofA ?_
  refine AC_of Tryz.func44 rfl Tryz.ntmps44 rfl rfl ?_
  repeat' (first | (apply AL_callPw (hR); kernel_rfl; (iterate 4 exact rfl)) | (apply AL_go ttok; exact rfl) | (apply AW_go ttok; exact rfl) | (apply K_go ttok; exact rfl) | (apply AL_guardFf; (iterate 3 exact rfl); (first | with_reducible assumption | decide +kernel)) | (apply AL_pickT; exact rfl; (first | with_reducible assumption | decide +kernel); exact rfl; exact rfl) | (apply AW_condA; exact rfl; (first | with_reducible assumption | decide +kernel)))
  all_goals (apply endQ []; (apply resG_ok ttok; exact rfl); (iterate 4 exact rfl))
  all_goals rfl
 | true =>
 rw [hr] at hR
 rw [Bool.true_and]
 cases tk : (k == 4) with
 | false =>
  have tk2 : (k != 4) = true := by rw [bne, tk]; rfl
  refine AP.ofA ?_
  refine AC_of Tryz.func44 rfl Tryz.ntmps44 rfl rfl ?_
  repeat' (first | (apply AL_callPw (hR); kernel_rfl; (iterate 4 exact rfl)) | (apply AL_go ttok; exact rfl) | (apply AW_go ttok; exact rfl) | (apply K_go ttok; exact rfl) | (apply AL_guardT; (iterate 3 exact rfl); (first | with_reducible assumption | decide +kernel)) | (apply AL_pickF; exact rfl; (first | with_reducible assumption | decide +kernel); exact rfl; exact rfl) | (apply AW_condA; exact rfl; (first | with_reducible assumption | decide +kernel)))
  all_goals (apply endQ []; (apply resG_ok ttok; exact rfl); (iterate 4 exact rfl))
  all_goals rfl
 | true =>
 have tk2 : (k != 4) = false := by rw [bne, tk]; rfl
 rcases typeV_cases l a with e | ⟨e | e, h0, h1⟩
 ·rw [e] at hT ⊢
  refine AP.ofA ?_
  refine AC_of Tryz.func44 rfl Tryz.ntmps44 rfl rfl ?_
  repeat' (first | (apply AL_callPw (hR); kernel_rfl; (iterate 4 exact rfl)) | (apply AL_callPw (hT); kernel_rfl; (iterate 4 exact rfl)) | (apply AL_go ttok; exact rfl) | (apply AW_go ttok; exact rfl) | (apply K_go ttok; exact rfl) | (apply AL_guardT; (iterate 3 exact rfl); (first | with_reducible assumption | decide +kernel)) | (apply AL_pickF; exact rfl; (first | with_reducible assumption | decide +kernel); exact rfl; exact rfl) | (apply AW_condA; exact rfl; (first | with_reducible assumption | decide +kernel)) | (apply AW_condB; exact rfl; (first | with_reducible assumption | decide +kernel)))
  all_goals (apply endQ []; (apply resG_ok ttok; exact rfl); (iterate 4 exact rfl))
  all_goals rfl
 ·rw [e] at hT ⊢
  have hL := av_list l (by omega) hws
  replace hL : AP Tryz.prog 47 [.sl .ext (itEs l)] (.agg [.int .i64 4, .int .u64 0, .sl .ext [], .sl .ext (itEs l)]) [] := hL
  refine AP.ofA ?_
  refine AC_of Tryz.func44 rfl Tryz.ntmps44 rfl rfl ?_
  repeat' (first | (apply AL_callPw (hR); kernel_rfl; (iterate 4 exact rfl)) | (apply AL_callPw (hT); kernel_rfl; (iterate 4 exact rfl)) | (apply AL_callPw (hL); kernel_rfl; (iterate 4 exact rfl)) | (apply AL_go ttok; exact rfl) | (apply AW_go ttok; exact rfl) | (apply K_go ttok; exact rfl) | (apply AL_guardT; (iterate 3 exact rfl); (first | with_reducible assumption | decide +kernel)) | (apply AL_pickF; exact rfl; (first | with_reducible assumption | decide +kernel); exact rfl; exact rfl) | (apply AW_condA; exact rfl; (first | with_reducible assumption | decide +kernel)) | (apply AW_condB; exact rfl; (first | with_reducible assumption | decide +kernel)))
  all_goals (apply endQ []; (apply resG_ok ttok; exact rfl); (iterate 4 exact rfl))
  all_goals rfl
 ·obtain ⟨s, hs, es⟩ : ∃ s : Nat, (s = 1 \/ s = 2) /\ typeV l a = (s : Int) := ⟨(typeV l a).toNat, by omega, by omega⟩
  rw [es] at hT ⊢
  rw [Int.toNat_natCast]
  have d1 : decide ((s : Int) < 0) = false := decide_eq_false (by omega)
  have d2 : ((s : Int) == 0) = false := by rw [beq_eq_false_iff_ne]; omega
  rw [d1, d2]
  dsimp only
  obtain ⟨m, hm⟩ : ∃ m, m = l.length - 1 := ⟨_, rfl⟩
  have em : IntKind.i64.wrap (((itEs l).length : Int) - 1) = (m : Int) := by rw [IntWalk.i64_in _ (by omega)]; omega
  rw [<- hm]
  obtain ⟨⟨k1, n1, b1, l1⟩, hy⟩ : ∃ y, l[m]? = some y := ⟨_, List.getElem?_eq_getElem (by omega)⟩
  have hv : (itEs l)[((m : Nat) : Int).toNat]? = some (.agg [.int .i64 k1, .int .u64 (n1 : Int), .sl (b1.map E.byte), .sl (itEs l1)]) := by
   rw [Int.toNat_natCast, itEs_map, List.getElem?_map, hy]; rfl
  rw [hy]
  dsimp only
  have hw1 := wfs_mem hws _ (List.mem_of_getElem? hy)
  have hbl : (b1.map E.byte).length = b1.length := List.length_map ..
  have hB := av_bytes b1 (by have := hw1.2.1; omega)
  have hS := av_same (.mk k1 n1 b1 l1) hw1 (.mk 2 0 b1 []) ⟨by decide, by have := hw1.2.1; omega, by simp, trivial⟩
  have hZ := av_sumSize s hs
  rw [<- hbl]
  cases t1 : decide ((m : Int) <= a) with
  | true =>
   rw [Bool.true_or]
   refine AP.ofA ?_
   refine AC_of Tryz.func44 rfl Tryz.ntmps44 rfl rfl ?_
   repeat' (first | (apply AL_callPw (hR); kernel_rfl; (iterate 4 exact rfl)) | (apply AL_callPw (hT); kernel_rfl; (iterate 4 exact rfl)) | rw [em] | (apply AL_go ttok; exact rfl) | (apply AW_go ttok; exact rfl) | (apply K_go ttok; exact rfl) | (apply AL_guardT; (iterate 3 exact rfl); (first | with_reducible assumption | decide +kernel)) | (apply AL_guardFf; (iterate 3 exact rfl); (first | with_reducible assumption | decide +kernel)) | (apply AL_pickT; exact rfl; (first | with_reducible assumption | decide +kernel); exact rfl; exact rfl) | (apply AL_pickF; exact rfl; (first | with_reducible assumption | decide +kernel); exact rfl; exact rfl) | (apply AW_condA; exact rfl; (first | with_reducible assumption | decide +kernel)) | (apply AW_condB; exact rfl; (first | with_reducible assumption | decide +kernel)) | (apply AL_len ttok; (iterate 4 exact rfl)) | (apply AW_drawE 17 hmix; (decide +kernel); (kernel_rfl); (kernel_rfl); (kernel_rfl); exact rfl; exact rfl) | (apply AE_consZ; (iterate 4 exact rfl)) | exact AE.nil _ _ _ _ | (apply AEk_puT; exact rfl) | (apply AOt_mk; exact rfl; exact rfl; (decide +kernel); exact rfl) | (apply AO_puT; exact rfl) | exact AO.nil _ _ _ | (apply AOs_skip; (decide +kernel)) | exact AOs.nil | exact qY_ok rfl rfl | (apply AL_idx ttok; (iterate 6 exact rfl); (first | with_reducible assumption | decide +kernel | exact Int.natCast_nonneg _ | (guard_target = (0:Int) <= (OfNat.ofNat _ : Int); decide) | rotate_left); (first | with_reducible assumption | decide +kernel | exact rfl); (first | exact uniB_ok rfl | with_reducible assumption | decide +kernel | rotate_left)))
   all_goals (apply endQ []; (apply resG_ok ttok; exact rfl); (iterate 4 exact rfl))
   all_goals rfl
  | false =>
  rw [Bool.false_or]
  cases t2 : It.beq (.mk k1 n1 b1 l1) (.mk 2 0 b1 []) with
  | false =>
   rw [t2] at hS
   rw [Bool.not_false, Bool.true_or]
   refine AP.ofA ?_
   refine AC_of Tryz.func44 rfl Tryz.ntmps44 rfl rfl ?_
   repeat' (first | (apply AL_callPw (hR); kernel_rfl; (iterate 4 exact rfl)) | (apply AL_callPw (hT); kernel_rfl; (iterate 4 exact rfl)) | rw [em] | (apply AL_callPw (hB); kernel_rfl; (iterate 4 exact rfl)) | (apply AL_callPw (hS); kernel_rfl; (iterate 4 exact rfl)) | (apply AL_go ttok; exact rfl) | (apply AW_go ttok; exact rfl) | (apply K_go ttok; exact rfl) | (apply AL_guardT; (iterate 3 exact rfl); (first | with_reducible assumption | decide +kernel)) | (apply AL_guardFf; (iterate 3 exact rfl); (first | with_reducible assumption | decide +kernel)) | (apply AL_pickT; exact rfl; (first | with_reducible assumption | decide +kernel); exact rfl; exact rfl) | (apply AL_pickF; exact rfl; (first | with_reducible assumption | decide +kernel); exact rfl; exact rfl) | (apply AW_condA; exact rfl; (first | with_reducible assumption | decide +kernel)) | (apply AW_condB; exact rfl; (first | with_reducible assumption | decide +kernel)) | (apply AL_len ttok; (iterate 4 exact rfl)) | (apply AW_drawE 17 hmix; (decide +kernel); (kernel_rfl); (kernel_rfl); (kernel_rfl); exact rfl; exact rfl) | (apply AE_consZ; (iterate 4 exact rfl)) | exact AE.nil _ _ _ _ | (apply AEk_puT; exact rfl) | (apply AOt_mk; exact rfl; exact rfl; (decide +kernel); exact rfl) | (apply AO_puT; exact rfl) | exact AO.nil _ _ _ | (apply AOs_skip; (decide +kernel)) | exact AOs.nil | exact qY_ok rfl rfl | (apply AL_idx ttok; (iterate 6 exact rfl); (first | with_reducible assumption | decide +kernel | exact Int.natCast_nonneg _ | (guard_target = (0:Int) <= (OfNat.ofNat _ : Int); decide) | rotate_left); (first | with_reducible assumption | decide +kernel | exact rfl); (first | exact uniB_ok rfl | with_reducible assumption | decide +kernel | rotate_left)))
   all_goals (apply endQ []; (apply resG_ok ttok; exact rfl); (iterate 4 exact rfl))
   all_goals rfl
  | true =>
  rw [t2] at hS
  rw [Bool.not_true, Bool.false_or]
  cases t3 : (((b1.map E.byte).length : Int) != ((2 * s : Nat) : Int)) with
  | true =>
   refine AP.ofA ?_
   refine AC_of Tryz.func44 rfl Tryz.ntmps44 rfl rfl ?_
   repeat' (first | (apply AL_callPw (hR); kernel_rfl; (iterate 4 exact rfl)) | (apply AL_callPw (hT); kernel_rfl; (iterate 4 exact rfl)) | rw [em] | (apply AL_callPw (hB); kernel_rfl; (iterate 4 exact rfl)) | (apply AL_callPw (hS); kernel_rfl; (iterate 4 exact rfl)) | (apply AL_callPw (hZ); kernel_rfl; (iterate 4 exact rfl)) | (apply AL_go ttok; exact rfl) | (apply AW_go ttok; exact rfl) | (apply K_go ttok; exact rfl) | (apply AL_guardT; (iterate 3 exact rfl); (first | with_reducible assumption | decide +kernel)) | (apply AL_pickF; exact rfl; (first | with_reducible assumption | decide +kernel); exact rfl; exact rfl) | (apply AW_condA; exact rfl; (first | with_reducible assumption | decide +kernel)) | (apply AW_condB; exact rfl; (first | with_reducible assumption | decide +kernel)) | (apply AL_len ttok; (iterate 4 exact rfl)) | (apply AW_drawE 17 hmix; (decide +kernel); (kernel_rfl); (kernel_rfl); (kernel_rfl); exact rfl; exact rfl) | (apply AE_consZ; (iterate 4 exact rfl)) | exact AE.nil _ _ _ _ | (apply AEk_puT; exact rfl) | (apply AOt_mk; exact rfl; exact rfl; (decide +kernel); exact rfl) | (apply AO_puT; exact rfl) | exact AO.nil _ _ _ | (apply AOs_skip; (decide +kernel)) | exact AOs.nil | exact qY_ok rfl rfl | (apply AL_idx ttok; (iterate 6 exact rfl); (first | with_reducible assumption | decide +kernel | exact Int.natCast_nonneg _ | (guard_target = (0:Int) <= (OfNat.ofNat _ : Int); decide) | rotate_left); (first | with_reducible assumption | decide +kernel | exact rfl); (first | exact uniB_ok rfl | with_reducible assumption | decide +kernel | rotate_left)))
   all_goals (apply endQ []; (apply resG_ok ttok; exact rfl); (iterate 4 exact rfl))
   all_goals rfl
  | false =>
  dsimp only
  have hne : l.take m ≠ [] := by
   intro h
   have h9 := congrArg List.length h
   rw [List.length_take, List.length_nil] at h9
   have := of_decide_eq_false t1
   omega
  have htl : (l.take m).length <= 1000000 := by rw [List.length_take]; omega
  have hSu := av_sumOf (l.take m) s hs hne (wfs_take m hws) htl (hlim s m hs)
  have eT : itEs (l.take m) = (itEs l).take m := by rw [itEs_map, itEs_map, List.map_take]
  have hmle : ((m : Nat) : Int).toNat <= (itEs l).length := by rw [Int.toNat_natCast]; omega
  rw [eT] at hSu
  cases hz : rightI (zeroL s (l.take m)) with
  | false =>
   rw [hz] at hSu
   dsimp only at hSu
   refine AP.ofA ?_
   refine AC_of Tryz.func44 rfl Tryz.ntmps44 rfl rfl ?_
   repeat' (first | (apply AL_callPw (hR); kernel_rfl; (iterate 4 exact rfl)) | (apply AL_callPw (hT); kernel_rfl; (iterate 4 exact rfl)) | rw [em] | (apply AL_callPw (hB); kernel_rfl; (iterate 4 exact rfl)) | (apply AL_callPw (hS); kernel_rfl; (iterate 4 exact rfl)) | (apply AL_callPw (hZ); kernel_rfl; (iterate 4 exact rfl)) | (apply AL_callPw (hSu); kernel_rfl; (iterate 4 exact rfl)) | (apply AL_uptoE ttok; (iterate 6 exact rfl); exact hU; exact Int.natCast_nonneg _; exact hmle; exact rfl) | (apply AL_go ttok; exact rfl) | (apply AW_go ttok; exact rfl) | (apply K_go ttok; exact rfl) | (apply AL_guardT; (iterate 3 exact rfl); (first | with_reducible assumption | decide +kernel)) | (apply AL_pickF; exact rfl; (first | with_reducible assumption | decide +kernel); exact rfl; exact rfl) | (apply AW_condA; exact rfl; (first | with_reducible assumption | decide +kernel)) | (apply AW_condB; exact rfl; (first | with_reducible assumption | decide +kernel)) | (apply AL_len ttok; (iterate 4 exact rfl)) | (apply AW_drawE 17 hmix; (decide +kernel); (kernel_rfl); (kernel_rfl); (kernel_rfl); exact rfl; exact rfl) | (apply AE_consZ; (iterate 4 exact rfl)) | exact AE.nil _ _ _ _ | (apply AEk_puT; exact rfl) | (apply AOt_mk; exact rfl; exact rfl; (decide +kernel); exact rfl) | (apply AO_puT; exact rfl) | exact AO.nil _ _ _ | (apply AOs_skip; (decide +kernel)) | exact AOs.nil | exact qY_ok rfl rfl | (apply AL_idx ttok; (iterate 6 exact rfl); (first | with_reducible assumption | decide +kernel | exact Int.natCast_nonneg _ | (guard_target = (0:Int) <= (OfNat.ofNat _ : Int); decide) | rotate_left); (first | with_reducible assumption | decide +kernel | exact rfl); (first | exact uniB_ok rfl | with_reducible assumption | decide +kernel | rotate_left)))
   all_goals (apply endQ []; (apply resG_ok ttok; exact rfl); (iterate 4 exact rfl))
   all_goals rfl
  | true =>
  rw [hz] at hSu
  dsimp only at hSu ⊢
  generalize sumB s (putI (zeroL s (l.take m))) = SB at *
  have hE := av_bEq SB b1
  cases t4 : (SB == b1) with
  | false =>
   rw [t4] at hE
   refine AP.ofA ?_
   refine AC_of Tryz.func44 rfl Tryz.ntmps44 rfl rfl ?_
   repeat' (first | (apply AL_callPw (hR); kernel_rfl; (iterate 4 exact rfl)) | (apply AL_callPw (hT); kernel_rfl; (iterate 4 exact rfl)) | rw [em] | (apply AL_callPw (hB); kernel_rfl; (iterate 4 exact rfl)) | (apply AL_callPw (hS); kernel_rfl; (iterate 4 exact rfl)) | (apply AL_callPw (hZ); kernel_rfl; (iterate 4 exact rfl)) | (apply AL_callPw (hSu); kernel_rfl; (iterate 4 exact rfl)) | (apply AL_callPw (hE); kernel_rfl; (iterate 4 exact rfl)) | (apply AL_uptoE ttok; (iterate 6 exact rfl); exact hU; exact Int.natCast_nonneg _; exact hmle; exact rfl) | (apply AL_go ttok; exact rfl) | (apply AW_go ttok; exact rfl) | (apply K_go ttok; exact rfl) | (apply AL_guardT; (iterate 3 exact rfl); (first | with_reducible assumption | decide +kernel)) | (apply AL_pickF; exact rfl; (first | with_reducible assumption | decide +kernel); exact rfl; exact rfl) | (apply AW_condA; exact rfl; (first | with_reducible assumption | decide +kernel)) | (apply AW_condB; exact rfl; (first | with_reducible assumption | decide +kernel)) | (apply AL_len ttok; (iterate 4 exact rfl)) | (apply AW_drawE 17 hmix; (decide +kernel); (kernel_rfl); (kernel_rfl); (kernel_rfl); exact rfl; exact rfl) | (apply AE_consZ; (iterate 4 exact rfl)) | exact AE.nil _ _ _ _ | (apply AEk_puT; exact rfl) | (apply AOt_mk; exact rfl; exact rfl; (decide +kernel); exact rfl) | (apply AO_puT; exact rfl) | exact AO.nil _ _ _ | (apply AOs_skip; (decide +kernel)) | exact AOs.nil | exact qY_ok rfl rfl | (apply AL_idx ttok; (iterate 6 exact rfl); (first | with_reducible assumption | decide +kernel | exact Int.natCast_nonneg _ | (guard_target = (0:Int) <= (OfNat.ofNat _ : Int); decide) | rotate_left); (first | with_reducible assumption | decide +kernel | exact rfl); (first | exact uniB_ok rfl | with_reducible assumption | decide +kernel | rotate_left)))
   all_goals (apply endQ []; (apply resG_ok ttok; exact rfl); (iterate 4 exact rfl))
   all_goals rfl
  | true =>
   rw [t4] at hE
   have hL := av_list (l.take m) (by omega) (wfs_take m hws)
   rw [eT] at hL
   replace hL : AP Tryz.prog 47 [.sl .ext ((itEs l).take m)] (.agg [.int .i64 4, .int .u64 0, .sl .ext [], .sl .ext (itEs (l.take m))]) [] := hL
   refine AP.ofA ?_
   refine AC_of Tryz.func44 rfl Tryz.ntmps44 rfl rfl ?_
   repeat' (first | (apply AL_callPw (hR); kernel_rfl; (iterate 4 exact rfl)) | (apply AL_callPw (hT); kernel_rfl; (iterate 4 exact rfl)) | rw [em] | (apply AL_callPw (hB); kernel_rfl; (iterate 4 exact rfl)) | (apply AL_callPw (hS); kernel_rfl; (iterate 4 exact rfl)) | (apply AL_callPw (hZ); kernel_rfl; (iterate 4 exact rfl)) | (apply AL_callPw (hSu); kernel_rfl; (iterate 4 exact rfl)) | (apply AL_callPw (hE); kernel_rfl; (iterate 4 exact rfl)) | (apply AL_callPw (hL); kernel_rfl; (iterate 4 exact rfl)) | (apply AL_uptoE ttok; (iterate 6 exact rfl); exact hU; exact Int.natCast_nonneg _; exact hmle; exact rfl) | (apply AL_go ttok; exact rfl) | (apply AW_go ttok; exact rfl) | (apply K_go ttok; exact rfl) | (apply AL_guardT; (iterate 3 exact rfl); (first | with_reducible assumption | decide +kernel)) | (apply AL_pickF; exact rfl; (first | with_reducible assumption | decide +kernel); exact rfl; exact rfl) | (apply AW_condB; exact rfl; (first | with_reducible assumption | decide +kernel)) | (apply AL_len ttok; (iterate 4 exact rfl)) | (apply AW_drawE 17 hmix; (decide +kernel); (kernel_rfl); (kernel_rfl); (kernel_rfl); exact rfl; exact rfl) | (apply AE_consZ; (iterate 4 exact rfl)) | exact AE.nil _ _ _ _ | (apply AEk_puT; exact rfl) | (apply AOt_mk; exact rfl; exact rfl; (decide +kernel); exact rfl) | (apply AO_puT; exact rfl) | exact AO.nil _ _ _ | (apply AOs_skip; (decide +kernel)) | exact AOs.nil | exact qY_ok rfl rfl | (apply AL_idx ttok; (iterate 6 exact rfl); (first | with_reducible assumption | decide +kernel | exact Int.natCast_nonneg _ | (guard_target = (0:Int) <= (OfNat.ofNat _ : Int); decide) | rotate_left); (first | with_reducible assumption | decide +kernel | exact rfl); (first | exact uniB_ok rfl | with_reducible assumption | decide +kernel | rotate_left)))
   all_goals (apply endQ []; (apply resG_ok ttok; exact rfl); (iterate 4 exact rfl))
   all_goals rfl
end Go.Proofs.YtfkmicjlaedlkaaGreatDoor
end
section
open Go.RowKit Go.Pl Go.Av
namespace Go.Proofs.YtfkmicjlaedlkaaGreatDoor
set_option maxHeartbeats 1000000
abbrev iC (x : EidV) (t q : Nat) : List D := [.bool x.i, .int .u64 (x.n : Int), .int .u64 (x.s : Int), .str x.h, .str x.d, .int .u64 (t : Int), .int .u64 (q : Int)]
def iRight (x : EidV) (t q : Nat) : Bool := eRight x && decide ((t : Int) <= 1099511627776) && decide ((q : Int) <= 1099511627776)
theorem av_iRight [Known] (x : EidV) (t q : Nat) : AP Tryz.prog 51 [.agg (iC x t q)] (.bool (iRight x t q)) [] := by
 refine AP.ofA ?_
 refine AC_of Tryz.func51 rfl Tryz.ntmps51 rfl rfl ?_
 repeat' (first | (apply AL_callPw (av_eRight x); kernel_rfl; (iterate 4 exact rfl)) | (apply AL_go ttok; exact rfl) | (apply AW_go ttok; exact rfl) | (apply AL_guardT; (iterate 3 exact rfl); (first | with_reducible assumption | (solve | simp only [bn]))) | (apply AL_guardFt; (iterate 3 exact rfl); (first | with_reducible assumption | (solve | simp only [bn]))) | (apply AL_guardS; exact rfl; exact rfl; all_goals intro hb) | (apply AL_pickT; exact rfl; (first | with_reducible assumption | (solve | simp only [bn])); exact rfl; exact rfl) | (apply AL_pickF; exact rfl; (first | with_reducible assumption | (solve | simp only [bn])); exact rfl; exact rfl))
 all_goals (apply endQ []; (apply resG_ok ttok; exact rfl); (iterate 4 exact rfl))
 all_goals first | rfl | (unfold iRight; simp only [*]; done) | (unfold iRight; simp only [*]; simp only [Bool.and_true, Bool.true_and, Bool.and_false, Bool.false_and]; done)
theorem av_greatN [Known] (x : EidV) (t q : Nat) : AP Tryz.prog 37 [.agg (iC x t q)] (.bool (decide (IntKind.i64.wrap ((x.h.length : Int) + (x.d.length : Int)) > 300))) [] := by
 refine AP.ofA ?_
 refine AC_of Tryz.func37 rfl Tryz.ntmps37 rfl rfl ?_
 repeat' (first | (apply AL_go ttok; exact rfl) | (apply AW_go ttok; exact rfl) | (apply AL_lens ttok; (iterate 4 exact rfl)))
 (apply endQ []; (apply resG_ok ttok; exact rfl); (iterate 4 exact rfl))
 all_goals rfl
end Go.Proofs.YtfkmicjlaedlkaaGreatDoor
end
section
open Go.RowKit Go.Pl
namespace Go.Pl
variable {P : Program} {t : TypeId}
theorem opens_prod5 {α β γ δ ε : Type} {R0 : Rep α} {R1 : Rep β} {R2 : Rep γ} {R3 : Rep δ} {R4 : Rep ε} {fs : Array Field} {f0 f1 f2 f3 f4 : Field} (hs : P.underlying t = some (.struct fs)) (hfs : fs = #[f0, f1, f2, f3, f4])
  (h00 : f0.offset = 0) (h01 : f1.offset = R0.n) (h02 : f2.offset = R0.n + R1.n) (h03 : f3.offset = R0.n + R1.n + R2.n) (h04 : f4.offset = R0.n + R1.n + R2.n + R3.n)
  (hc0 : P.cellsOf f0.type = R0.n) (hc1 : P.cellsOf f1.type = R1.n) (hc2 : P.cellsOf f2.type = R2.n) (hc3 : P.cellsOf f3.type = R3.n) (hc4 : P.cellsOf f4.type = R4.n) (hc : P.cellsOf t = R0.n + (R1.n + (R2.n + (R3.n + R4.n))))
  (h0 : Opens P f0.type R0) (h1 : Opens P f1.type R1) (h2 : Opens P f2.type R2) (h3 : Opens P f3.type R3) (h4 : Opens P f4.type R4) : Opens P t (R0.prod (R1.prod (R2.prod (R3.prod R4)))) := by
 intro H enc W spare held fuel cs y h
 obtain ⟨xs, n, _, _, hl, hxl, hg⟩ := DataW.trod_struct hs h
 subst hfs
 have e0 := hg 0 f0 rfl
 have e1 := hg 1 f1 rfl
 have e2 := hg 2 f2 rfl
 have e3 := hg 3 f3 rfl
 have e4 := hg 4 f4 rfl
 rw [h00, hc0, List.drop_zero] at e0
 rw [h01, hc1] at e1
 rw [h02, hc2] at e2
 rw [h03, hc3] at e3
 rw [h04, hc4] at e4
 have hn : xs.length = 5 := hxl
 have hx0 : xs[0]? = some (xs[0]'(by omega)) := List.getElem?_eq_getElem (by omega)
 have hx1 : xs[1]? = some (xs[1]'(by omega)) := List.getElem?_eq_getElem (by omega)
 have hx2 : xs[2]? = some (xs[2]'(by omega)) := List.getElem?_eq_getElem (by omega)
 have hx3 : xs[3]? = some (xs[3]'(by omega)) := List.getElem?_eq_getElem (by omega)
 have hx4 : xs[4]? = some (xs[4]'(by omega)) := List.getElem?_eq_getElem (by omega)
 obtain ⟨x0, k0⟩ := h0 H enc W spare held n _ _ (e0.trans hx0)
 obtain ⟨x1, k1⟩ := h1 H enc W spare held n _ _ (e1.trans hx1)
 obtain ⟨x2, k2⟩ := h2 H enc W spare held n _ _ (e2.trans hx2)
 obtain ⟨x3, k3⟩ := h3 H enc W spare held n _ _ (e3.trans hx3)
 obtain ⟨x4, k4⟩ := h4 H enc W spare held n _ _ (e4.trans hx4)
 refine ⟨(x0, x1, x2, x3, x4), cs.take R0.n, cs.drop R0.n, (List.take_append_drop _ _).symm, k0, (cs.drop R0.n).take R1.n, (cs.drop R0.n).drop R1.n, (List.take_append_drop _ _).symm, k1,
  ((cs.drop R0.n).drop R1.n).take R2.n, ((cs.drop R0.n).drop R1.n).drop R2.n, (List.take_append_drop _ _).symm, ?_, (((cs.drop R0.n).drop R1.n).drop R2.n).take R3.n, (((cs.drop R0.n).drop R1.n).drop R2.n).drop R3.n, (List.take_append_drop _ _).symm, ?_, ?_⟩
 ·rw [List.drop_drop]; exact k2
 ·rw [List.drop_drop, List.drop_drop, show R0.n + (R1.n + R2.n) = R0.n + R1.n + R2.n from by omega]; exact k3
 ·rw [List.drop_drop, List.drop_drop, List.drop_drop, show R0.n + (R1.n + (R2.n + R3.n)) = R0.n + R1.n + R2.n + R3.n from by omega]
  rw [List.take_of_length_le (i := R4.n) (by rw [List.length_drop]; omega)] at k4
  exact k4
abbrev RE : Rep (Bool × Nat × Nat × List UInt8 × List UInt8) := Rep.bool.prod (Rep.u64.prod (Rep.u64.prod (Rep.str.prod Rep.str)))
abbrev RI : Rep ((Bool × Nat × Nat × List UInt8 × List UInt8) × Nat × Nat) := RE.prod (Rep.u64.prod Rep.u64)
end Go.Pl
end
section
open Go.RowKit Go.Pl
namespace Go.Proofs.YtfkmicjlaedlkaaGreatDoor
theorem openE : Opens Tryz.prog 24 RE :=
 opens_prod5 Tryz.underlying24 rfl rfl rfl rfl rfl rfl (by kernel_rfl) (by kernel_rfl) (by kernel_rfl) (by kernel_rfl) (by kernel_rfl) (by kernel_rfl) (opens_bool Tryz.underlying4) (opens_u64 Tryz.underlying22) (opens_u64 Tryz.underlying22) (opens_str Tryz.underlying9) (opens_str Tryz.underlying9)
theorem openI : Opens Tryz.prog 26 RI :=
 opens_prod3 Tryz.underlying26 rfl (by kernel_rfl) rfl rfl rfl (by kernel_rfl) (by kernel_rfl) (by kernel_rfl) openE (opens_u64 Tryz.underlying22) (opens_u64 Tryz.underlying22)
end Go.Proofs.YtfkmicjlaedlkaaGreatDoor
end
section
open Go.RowKit Go.Pl Go.Av
namespace Go.Proofs.YtfkmicjlaedlkaaGreatDoor
set_option maxHeartbeats 4000000
theorem toE_eid : ToE RE (fun x => .agg [.bool x.1, .int .u64 (x.2.1 : Int), .int .u64 (x.2.2.1 : Int), .str x.2.2.2.1, .str x.2.2.2.2]) :=
 ToE.bool.prod (ToE.u64.prod (ToE.u64.prod (ToE.str.prod ToE.str)))
abbrev XE := Bool × Nat × Nat × List UInt8 × List UInt8
def XE.v (x : XE) : EidV := ⟨x.1, x.2.1, x.2.2.1, x.2.2.2.1, x.2.2.2.2⟩
end Go.Proofs.YtfkmicjlaedlkaaGreatDoor
end
section
open Go.RowKit Go.Pl Go.Av
namespace Go.Proofs.YtfkmicjlaedlkaaGreatDoor
set_option maxHeartbeats 4000000
structure PriV where
 fl : Nat
 sum : Int
 dest : EidV
 rep : EidV
 src : EidV
 t : Nat
 q : Nat
 life : Nat
abbrev prC (p : PriV) : List D := [.int .u64 (p.fl : Int), .int .i64 p.sum, .bool p.dest.i, .int .u64 (p.dest.n : Int), .int .u64 (p.dest.s : Int), .str p.dest.h, .str p.dest.d, .bool p.rep.i, .int .u64 (p.rep.n : Int), .int .u64 (p.rep.s : Int), .str p.rep.h, .str p.rep.d, .bool p.src.i, .int .u64 (p.src.n : Int), .int .u64 (p.src.s : Int), .str p.src.h, .str p.src.d, .int .u64 (p.t : Int), .int .u64 (p.q : Int), .int .u64 (p.life : Int)]
def rightP (p : PriV) : Bool := (bits .andNot .u64 (p.fl : Int) 409638 == 0) && (decide (p.sum ≥ 0) && (decide (p.sum <= 2) && (eRight p.dest && (eRight p.rep && (iRight p.src p.t p.q && decide ((p.life : Int) <= 1099511627776))))))
theorem av_pRight [Known] (p : PriV) : AP Tryz.prog 16 [.agg (prC p)] (.bool (rightP p)) [] := by
 have hD := av_eRight p.dest
 have hR := av_eRight p.rep
 have hI := av_iRight p.src p.t p.q
 unfold rightP
 generalize eRight p.dest = e1 at *
 generalize eRight p.rep = e2 at *
 generalize iRight p.src p.t p.q = e3 at *
 obtain ⟨fl, sum, ⟨di, dn, ds, dh, dd⟩, ⟨ri, rn, rs, rh, rd⟩, ⟨xi, xn, xs, xh, xd⟩, t, q, life⟩ := p
 dsimp only at *
 cases t1 : (bits .andNot .u64 (fl : Int) 409638 == 0) with
 | false =>
  refine AP.ofA ?_
  refine AC_of Tryz.func16 rfl Tryz.ntmps16 rfl rfl ?_
  repeat' (first | (apply AL_go ttok; exact rfl) | (apply AW_go ttok; exact rfl) | (apply AL_guardFt; (iterate 3 exact rfl); (first | with_reducible assumption | decide +kernel)) | (apply AL_pickF; exact rfl; (first | with_reducible assumption | decide +kernel); exact rfl; exact rfl))
  all_goals (apply endQ []; (apply resG_ok ttok; exact rfl); (iterate 4 exact rfl))
  all_goals rfl
 | true =>
 cases t2 : decide (sum ≥ 0) with
 | false =>
  refine AP.ofA ?_
  refine AC_of Tryz.func16 rfl Tryz.ntmps16 rfl rfl ?_
  repeat' (first | (apply AL_go ttok; exact rfl) | (apply AW_go ttok; exact rfl) | (apply AL_guardT; (iterate 3 exact rfl); (first | with_reducible assumption | decide +kernel)) | (apply AL_guardFt; (iterate 3 exact rfl); (first | with_reducible assumption | decide +kernel)) | (apply AL_pickT; exact rfl; (first | with_reducible assumption | decide +kernel); exact rfl; exact rfl) | (apply AL_pickF; exact rfl; (first | with_reducible assumption | decide +kernel); exact rfl; exact rfl))
  all_goals (apply endQ []; (apply resG_ok ttok; exact rfl); (iterate 4 exact rfl))
  all_goals rfl
 | true =>
 cases t3 : decide (sum <= 2) with
 | false =>
  refine AP.ofA ?_
  refine AC_of Tryz.func16 rfl Tryz.ntmps16 rfl rfl ?_
  repeat' (first | (apply AL_go ttok; exact rfl) | (apply AW_go ttok; exact rfl) | (apply AL_guardT; (iterate 3 exact rfl); (first | with_reducible assumption | decide +kernel)) | (apply AL_guardFt; (iterate 3 exact rfl); (first | with_reducible assumption | decide +kernel)) | (apply AL_pickT; exact rfl; (first | with_reducible assumption | decide +kernel); exact rfl; exact rfl) | (apply AL_pickF; exact rfl; (first | with_reducible assumption | decide +kernel); exact rfl; exact rfl))
  all_goals (apply endQ []; (apply resG_ok ttok; exact rfl); (iterate 4 exact rfl))
  all_goals rfl
 | true =>
 cases e1
 ·refine AP.ofA ?_
  refine AC_of Tryz.func16 rfl Tryz.ntmps16 rfl rfl ?_
  repeat' (first | (apply AL_callPw (hD); kernel_rfl; (iterate 4 exact rfl)) | (apply AL_go ttok; exact rfl) | (apply AW_go ttok; exact rfl) | (apply AL_guardT; (iterate 3 exact rfl); (first | with_reducible assumption | decide +kernel)) | (apply AL_guardFt; (iterate 3 exact rfl); (first | with_reducible assumption | decide +kernel)) | (apply AL_pickT; exact rfl; (first | with_reducible assumption | decide +kernel); exact rfl; exact rfl) | (apply AL_pickF; exact rfl; (first | with_reducible assumption | decide +kernel); exact rfl; exact rfl))
  all_goals (apply endQ []; (apply resG_ok ttok; exact rfl); (iterate 4 exact rfl))
  all_goals rfl
 cases e2
 ·refine AP.ofA ?_
  refine AC_of Tryz.func16 rfl Tryz.ntmps16 rfl rfl ?_
  repeat' (first | (apply AL_callPw (hD); kernel_rfl; (iterate 4 exact rfl)) | (apply AL_callPw (hR); kernel_rfl; (iterate 4 exact rfl)) | (apply AL_go ttok; exact rfl) | (apply AW_go ttok; exact rfl) | (apply AL_guardT; (iterate 3 exact rfl); (first | with_reducible assumption | decide +kernel)) | (apply AL_guardFt; (iterate 3 exact rfl); (first | with_reducible assumption | decide +kernel)) | (apply AL_pickT; exact rfl; (first | with_reducible assumption | decide +kernel); exact rfl; exact rfl) | (apply AL_pickF; exact rfl; (first | with_reducible assumption | decide +kernel); exact rfl; exact rfl))
  all_goals (apply endQ []; (apply resG_ok ttok; exact rfl); (iterate 4 exact rfl))
  all_goals rfl
 cases e3
 ·refine AP.ofA ?_
  refine AC_of Tryz.func16 rfl Tryz.ntmps16 rfl rfl ?_
  repeat' (first | (apply AL_callPw (hD); kernel_rfl; (iterate 4 exact rfl)) | (apply AL_callPw (hR); kernel_rfl; (iterate 4 exact rfl)) | (apply AL_callPw (hI); kernel_rfl; (iterate 4 exact rfl)) | (apply AL_go ttok; exact rfl) | (apply AW_go ttok; exact rfl) | (apply AL_guardT; (iterate 3 exact rfl); (first | with_reducible assumption | decide +kernel)) | (apply AL_guardFt; (iterate 3 exact rfl); (first | with_reducible assumption | decide +kernel)) | (apply AL_pickT; exact rfl; (first | with_reducible assumption | decide +kernel); exact rfl; exact rfl) | (apply AL_pickF; exact rfl; (first | with_reducible assumption | decide +kernel); exact rfl; exact rfl))
  all_goals (apply endQ []; (apply resG_ok ttok; exact rfl); (iterate 4 exact rfl))
  all_goals rfl
 refine AP.ofA ?_
 refine AC_of Tryz.func16 rfl Tryz.ntmps16 rfl rfl ?_
 repeat' (first | (apply AL_callPw (hD); kernel_rfl; (iterate 4 exact rfl)) | (apply AL_callPw (hR); kernel_rfl; (iterate 4 exact rfl)) | (apply AL_callPw (hI); kernel_rfl; (iterate 4 exact rfl)) | (apply AL_go ttok; exact rfl) | (apply AW_go ttok; exact rfl) | (apply AL_guardT; (iterate 3 exact rfl); (first | with_reducible assumption | decide +kernel)) | (apply AL_pickT; exact rfl; (first | with_reducible assumption | decide +kernel); exact rfl; exact rfl))
 all_goals (apply endQ []; (apply resG_ok ttok; exact rfl); (iterate 4 exact rfl))
 all_goals rfl
end Go.Proofs.YtfkmicjlaedlkaaGreatDoor
end
section
open Go.RowKit Go.Pl Go.Av
namespace Go.Proofs.YtfkmicjlaedlkaaGreatDoor
set_option maxHeartbeats 4000000
theorem uniU (l : List Nat) : Uni 1 (l.map fun n : Nat => E.int .u64 (n : Int)) := Uni.map (f := fun n : Nat => E.int .u64 (n : Int)) (fun _ => rfl) l
def badN (n : Nat) : Bool := decide ((n : Int) < 1) || decide ((n : Int) > 255)
theorem av_within1 [Known] (n : Nat) : AP Tryz.prog 146 [.int .u64 (n : Int)] (.bool (badN n)) [] := by
 unfold badN
 refine AP.ofA ?_
 refine AC_of Tryz.func146 rfl Tryz.ntmps146 rfl rfl ?_
 repeat' (first | (apply AL_go ttok; exact rfl) | (apply AW_go ttok; exact rfl) | (apply AL_guardT; (iterate 3 exact rfl); (first | with_reducible assumption | (solve | simp only [bn]))) | (apply AL_guardFf; (iterate 3 exact rfl); (first | with_reducible assumption | (solve | simp only [bn]))) | (apply AL_guardS; exact rfl; exact rfl; all_goals intro hb) | (apply AL_pickT; exact rfl; (first | with_reducible assumption | (solve | simp only [bn])); exact rfl; exact rfl) | (apply AL_pickF; exact rfl; (first | with_reducible assumption | (solve | simp only [bn])); exact rfl; exact rfl))
 all_goals (apply endQ []; (apply resG_ok ttok; exact rfl); (iterate 4 exact rfl))
 all_goals first | rfl | (simp only [*]; done) | (simp only [*]; rfl)
def idx2 : Bool -> Bool -> Int
 | true, _ => 0
 | false, true => 1
 | false, false => -1
theorem av_idxU [Known] (a b : Nat) (x y : Bool) (hx : badN a = x) (hy : badN b = y) : AP Tryz.prog 156 [.sl .ext [.int .u64 (a : Int), .int .u64 (b : Int)], .fn 146 []] (.int .i64 (idx2 x y)) [] := by
 have ga := av_within1 a
 have gb := av_within1 b
 rw [hx] at ga
 rw [hy] at gb
 have hU := uniU [a, b]
 have q0 : decide ((0 : Int) < (([.int .u64 (a : Int), .int .u64 (b : Int)] : List E).length : Int)) = true := rfl
 have q1 : decide ((1 : Int) < (([.int .u64 (a : Int), .int .u64 (b : Int)] : List E).length : Int)) = true := rfl
 have q2 : decide ((2 : Int) < (([.int .u64 (a : Int), .int .u64 (b : Int)] : List E).length : Int)) = false := rfl
 have e1 : IntKind.i64.wrap (0 + 1) = 1 := by decide
 have e2 : IntKind.i64.wrap (1 + 1) = 2 := by decide
 cases x <;> cases y
 all_goals
  refine AP.ofA ?_
  refine AC_of Tryz.func156 rfl Tryz.ntmps156 rfl rfl ?_
  repeat' (first | rw [e1] | rw [e2] | (apply AL_callPv (ga); exact rfl; kernel_rfl; (iterate 3 exact rfl)) | (apply AL_callPv (gb); exact rfl; kernel_rfl; (iterate 3 exact rfl)) | (apply AL_idx ttok; (iterate 6 exact rfl); exact (by decide); exact rfl; exact hU) | refine AW_loopN 20 ?_ | refine AN_succ ?_ | (apply AL_go ttok; exact rfl) | (apply AW_go ttok; exact rfl) | (apply K_go ttok; exact rfl) | (apply AW_condA; exact rfl; (first | with_reducible assumption | decide +kernel)) | (apply AW_condB; exact rfl; (first | with_reducible assumption | decide +kernel)) | refine then_ret ?_ | (apply AL_len ttok; (iterate 4 exact rfl)))
  all_goals (apply endQ []; (apply resG_ok ttok; exact rfl); (iterate 4 exact rfl))
  all_goals rfl
theorem av_contU [Known] (a b : Nat) : AP Tryz.prog 145 [.sl .ext [.int .u64 (a : Int), .int .u64 (b : Int)], .fn 146 []] (.bool (badN a || badN b)) [] := by
 cases hx : badN a <;> cases hy : badN b
 all_goals
  have hI := av_idxU a b _ _ hx hy
  refine AP.ofA ?_
  refine AC_of Tryz.func145 rfl Tryz.ntmps145 rfl rfl ?_
  repeat' (first | (apply AL_callPw (hI); kernel_rfl; (iterate 4 exact rfl)) | (apply AL_go ttok; exact rfl) | (apply AW_go ttok; exact rfl))
  all_goals (apply endQ []; (apply resG_ok ttok; exact rfl); (iterate 4 exact rfl))
  all_goals rfl
theorem av_within2 [Known] (a b : Nat) : AP Tryz.prog 129 [.sl .ext [.int .u64 (a : Int), .int .u64 (b : Int)]] (.bool (!(badN a || badN b))) [] := by
 have hI := av_contU a b
 refine AP.ofA ?_
 refine AC_of Tryz.func129 rfl Tryz.ntmps129 rfl rfl ?_
 repeat' (first | (apply AL_callPw (hI); kernel_rfl; (iterate 4 exact rfl)) | (apply AL_go ttok; exact rfl) | (apply AW_go ttok; exact rfl))
 all_goals (apply endQ []; (apply resG_ok ttok; exact rfl); (iterate 4 exact rfl))
 all_goals rfl
theorem av_list0 [Known] : AT Tryz.prog 47 [.sl .nil []] [] [] (.agg [.int .i64 4, .int .u64 0, .sl .nil [], .sl .nil []]) [] [] := by
 refine AC_of Tryz.func47 rfl Tryz.ntmps47 rfl rfl ?_
 repeat' (first | refine AW_loopN 20 ?_ | refine AN_succ ?_ | (apply AL_go ttok; exact rfl) | (apply AW_go ttok; exact rfl) | (apply AW_condB; exact rfl; (first | with_reducible assumption | decide +kernel)) | (apply AL_len ttok; (iterate 4 exact rfl)))
 all_goals (apply endT [] []; (apply resG_ok ttok; exact rfl); (iterate 7 exact rfl))
 all_goals rfl
abbrev nmE (n : Nat) : E := .agg [.int .i64 0, .int .u64 (n : Int), .sl [], .sl []]
theorem av_numbers2 [Known] (a b : Nat) : AP Tryz.prog 111 [.sl .ext [.int .u64 (a : Int), .int .u64 (b : Int)]] (.agg [.int .i64 4, .int .u64 0, .sl .ext [], .sl .ext [nmE a, nmE b]]) [] := by
 have ga := av_num a
 have gb := av_num b
 have hL := av_list0
 have hU := uniU [a, b]
 have e1 : IntKind.i64.wrap (0 + 1) = 1 := by decide
 have e2 : IntKind.i64.wrap (1 + 1) = 2 := by decide
 have hU4 : ∀ (l : List Nat), Uni 4 (l.map nmE) := fun l => Uni.map (f := nmE) (fun _ => rfl) l
 have q0 : decide ((0 : Int) < (([.int .u64 (a : Int), .int .u64 (b : Int)] : List E).length : Int)) = true := rfl
 have q1 : decide ((1 : Int) < (([.int .u64 (a : Int), .int .u64 (b : Int)] : List E).length : Int)) = true := rfl
 have q2 : decide ((2 : Int) < (([.int .u64 (a : Int), .int .u64 (b : Int)] : List E).length : Int)) = false := rfl
 have hu1 := hU4 [a]
 have hu2 := hU4 [a, b]
 refine AP.ofA ?_
 refine AC_of Tryz.func111 rfl Tryz.ntmps111 rfl rfl ?_
 repeat' (first | rw [e1] | rw [e2] | (apply AL_callT [] [] (hL); kernel_rfl; (iterate 10 exact rfl)) | (apply AL_callPw (ga); kernel_rfl; (iterate 4 exact rfl)) | (apply AL_callPw (gb); kernel_rfl; (iterate 4 exact rfl)) | (apply AL_idx ttok; (iterate 6 exact rfl); exact (by decide); exact rfl; exact hU) | refine AW_loopN 20 ?_ | refine AN_succ ?_ | (apply AL_appendZ ttok; (iterate 11 exact rfl); exact uniB_ok rfl; exact uniB_ok rfl; exact List.cons_ne_nil _ _; decide +kernel; decide +kernel; exact rfl; exact rfl) | (apply AL_append_nilZ ttok; (iterate 6 exact rfl); exact uniB_ok rfl; exact List.cons_ne_nil _ _; exact rfl; decide +kernel; decide +kernel; (iterate 3 exact rfl)) | (apply AL_go ttok; exact rfl) | (apply AW_go ttok; exact rfl) | (apply K_go ttok; exact rfl) | (apply AW_condA; exact rfl; (first | with_reducible assumption | decide +kernel)) | (apply AW_condB; exact rfl; (first | with_reducible assumption | decide +kernel)) | (apply AL_len ttok; (iterate 4 exact rfl)) | (apply AL_bsZ ttok; (iterate 12 exact rfl)) | (apply AW_drawE 5 hmix; (decide +kernel); (kernel_rfl); (kernel_rfl); (kernel_rfl); exact rfl; exact rfl) | (apply AE_consZ; (iterate 4 exact rfl)) | exact AE.nil _ _ _ _ | (apply AEk_puT; exact rfl) | (apply AOt_mk; exact rfl; exact rfl; (decide +kernel); exact rfl) | (apply AO_puT; exact rfl) | exact AO.nil _ _ _ | (apply AOs_skip; (decide +kernel)) | exact AOs.nil | exact qY_ok rfl rfl | exact qY_wk rfl rfl rfl rfl rfl)
 all_goals (apply endQ []; (apply resG_ok ttok; exact rfl); (iterate 4 exact rfl))
 all_goals rfl
theorem av_numbers4 [Known] (a b c d : Nat) : AT Tryz.prog 111 [.sl .ext [.int .u64 (a : Int), .int .u64 (b : Int), .int .u64 (c : Int), .int .u64 (d : Int)]] [] [] (.agg [.int .i64 4, .int .u64 0, .sl .nil [], .sl (.own 0) [nmE a, nmE b, nmE c, nmE d]]) [] [⟨4, 4, 32⟩] := by
 have ga := av_num a
 have gb := av_num b
 have gc := av_num c
 have gd := av_num d
 have hL := av_list0
 have hU := uniU [a, b, c, d]
 have e1 : IntKind.i64.wrap (0 + 1) = 1 := by decide
 have e2 : IntKind.i64.wrap (1 + 1) = 2 := by decide
 have e3 : IntKind.i64.wrap (2 + 1) = 3 := by decide
 have e4 : IntKind.i64.wrap (3 + 1) = 4 := by decide
 have hU4 : ∀ (l : List Nat), Uni 4 (l.map nmE) := fun l => Uni.map (f := nmE) (fun _ => rfl) l
 have q0 : decide ((0 : Int) < (([.int .u64 (a : Int), .int .u64 (b : Int), .int .u64 (c : Int), .int .u64 (d : Int)] : List E).length : Int)) = true := rfl
 have q1 : decide ((1 : Int) < (([.int .u64 (a : Int), .int .u64 (b : Int), .int .u64 (c : Int), .int .u64 (d : Int)] : List E).length : Int)) = true := rfl
 have q2 : decide ((2 : Int) < (([.int .u64 (a : Int), .int .u64 (b : Int), .int .u64 (c : Int), .int .u64 (d : Int)] : List E).length : Int)) = true := rfl
 have q3 : decide ((3 : Int) < (([.int .u64 (a : Int), .int .u64 (b : Int), .int .u64 (c : Int), .int .u64 (d : Int)] : List E).length : Int)) = true := rfl
 have q4 : decide ((4 : Int) < (([.int .u64 (a : Int), .int .u64 (b : Int), .int .u64 (c : Int), .int .u64 (d : Int)] : List E).length : Int)) = false := rfl
 have hu1 := hU4 [a]
 have hu2 := hU4 [a, b]
 have hu3 := hU4 [a, b, c]
 have hu4 := hU4 [a, b, c, d]
 refine AC_of Tryz.func111 rfl Tryz.ntmps111 rfl rfl ?_
 repeat' (first | rw [e1] | rw [e2] | rw [e3] | rw [e4] | (apply AL_callT [] [] (hL); kernel_rfl; (iterate 10 exact rfl)) | (apply AL_callPw (ga); kernel_rfl; (iterate 4 exact rfl)) | (apply AL_callPw (gb); kernel_rfl; (iterate 4 exact rfl)) | (apply AL_callPw (gc); kernel_rfl; (iterate 4 exact rfl)) | (apply AL_callPw (gd); kernel_rfl; (iterate 4 exact rfl)) | (apply AL_idx ttok; (iterate 6 exact rfl); exact (by decide); exact rfl; exact hU) | refine AW_loopN 20 ?_ | refine AN_succ ?_ | (apply AL_appendZ ttok; (iterate 11 exact rfl); exact uniB_ok rfl; exact uniB_ok rfl; exact List.cons_ne_nil _ _; decide +kernel; decide +kernel; exact rfl; exact rfl) | (apply AL_append_nilZ ttok; (iterate 6 exact rfl); exact uniB_ok rfl; exact List.cons_ne_nil _ _; exact rfl; decide +kernel; decide +kernel; (iterate 3 exact rfl)) | (apply AL_go ttok; exact rfl) | (apply AW_go ttok; exact rfl) | (apply K_go ttok; exact rfl) | (apply AW_condA; exact rfl; (first | with_reducible assumption | decide +kernel)) | (apply AW_condB; exact rfl; (first | with_reducible assumption | decide +kernel)) | (apply AL_len ttok; (iterate 4 exact rfl)) | (apply AL_bsZ ttok; (iterate 12 exact rfl)) | (apply AW_drawE 5 hmix; (decide +kernel); (kernel_rfl); (kernel_rfl); (kernel_rfl); exact rfl; exact rfl) | (apply AE_consZ; (iterate 4 exact rfl)) | exact AE.nil _ _ _ _ | (apply AEk_puT; exact rfl) | (apply AOt_mk; exact rfl; exact rfl; (decide +kernel); exact rfl) | (apply AO_puT; exact rfl) | exact AO.nil _ _ _ | (apply AOs_skip; (decide +kernel)) | exact AOs.nil | exact qY_ok rfl rfl | exact qY_wk rfl rfl rfl rfl rfl)
 all_goals (apply endT [] [0]; (apply resG_ok ttok; exact rfl); (iterate 7 exact rfl))
 all_goals rfl
end Go.Proofs.YtfkmicjlaedlkaaGreatDoor
end
section
open Go.RowKit Go.Pl Go.Av
namespace Go.Proofs.YtfkmicjlaedlkaaGreatDoor
def cutV (c : UInt8) : List UInt8 -> List UInt8 × List UInt8 × Bool
 | [] => ([], [], false)
 | x :: s => if x = c then ([], s, true) else (x :: (cutV c s).1, (cutV c s).2.1, (cutV c s).2.2)
theorem cutV_no {c : UInt8} : ∀ {s : List UInt8}, c ∉ s -> cutV c s = (s, [], false)
 | [], _ => rfl
 | x :: s, h => by
  have h1 : ¬ x = c := fun e => h (by rw [e]; exact List.mem_cons_self ..)
  have h2 := cutV_no (c := c) (s := s) fun hm => h (List.mem_cons_of_mem _ hm)
  rw [cutV, if_neg h1, h2]
theorem cutV_yes {c : UInt8} : ∀ {a b : List UInt8}, c ∉ a -> cutV c (a ++ c :: b) = (a, b, true)
 | [], b, _ => by rw [List.nil_append, cutV, if_pos rfl]
 | x :: a, b, h => by
  have h1 : ¬ x = c := fun e => h (by rw [e]; exact List.mem_cons_self ..)
  have h2 := cutV_yes (c := c) (a := a) (b := b) fun hm => h (List.mem_cons_of_mem _ hm)
  rw [List.cons_append, cutV, if_neg h1, h2]
def preV (p s : List UInt8) : List UInt8 × Bool := if s.take p.length == p then (s.drop p.length, true) else (s, false)
theorem preV_app (p r : List UInt8) : preV p (p ++ r) = (r, true) := by
 unfold preV
 rw [List.take_left, beq_self_eq_true, if_pos rfl, List.drop_left]
theorem preV_no {p s : List UInt8} (h : (s.take p.length == p) = false) : preV p s = (s, false) := by
 unfold preV; rw [h]; rfl
def ppV (s : List UInt8) : EidV × Bool :=
 (⟨false, 0, 0, (cutV 47 (preV [47, 47] s).1).1, (cutV 47 (preV [47, 47] s).1).2.1⟩, (preV [47, 47] s).2 && ((cutV 47 (preV [47, 47] s).1).2.2 && ((cutV 47 (preV [47, 47] s).1).1 != [] && eRight ⟨false, 0, 0, (cutV 47 (preV [47, 47] s).1).1, (cutV 47 (preV [47, 47] s).1).2.1⟩)))
theorem isZ_iff {x : EidV} : isZ x = true ↔ x = eidZ := by
 obtain ⟨i, n, s, h, d⟩ := x
 simp only [isZ, eidZ, Bool.and_eq_true, beq_iff_eq, EidV.mk.injEq]
 constructor
 ·rintro ⟨h1, h2, h3, h4, h5, _⟩
  exact ⟨h1, by omega, by omega, h4, h5⟩
 ·rintro ⟨h1, h2, h3, h4, h5⟩
  exact ⟨h1, by omega, by omega, h4, h5, trivial⟩
theorem not_mem_ok {m : Nat} {c : UInt8} {l : List UInt8} (hl : l.all (okB m) = true) (h : okB m c = false) : c ∉ l := fun hm => by
 have := List.all_eq_true.1 hl c hm
 rw [h] at this; cases this
end Go.Proofs.YtfkmicjlaedlkaaGreatDoor
end
section
open Go.RowKit Go.Pl Go.Av
namespace Go.Proofs.YtfkmicjlaedlkaaGreatDoor
set_option maxHeartbeats 4000000
set_option maxRecDepth 100000 in
theorem ixb_walk (s : ByteArray) (c : Int) (w : World) : Calls Tryz.prog 163 #[.string s, .int .u8 c] w fun e w' => e = .returned (.int .i64 (Lib.indexByte s.data.toList c.toNat.toUInt8)) /\ w' = w := by
 go_enter Tryz.func163, Tryz.ntmps163
 go_wp2
 rw [run_callFunc_extern Tryz.func168 (by kernel_rfl) (by kernel_rfl) (by kernel_rfl) (e := Extern.BytealgIndexByte.indexByte) (by kernel_rfl), Lib.run_indexByteString]
 simp only [Result.andThen]
 rw [Oper.upon_value]
 go_wp2
 go_ret
 exact ⟨rfl, rfl⟩
theorem av_ixb [Known] (s : List UInt8) (c : Int) : AP Tryz.prog 163 [.str s, .int .u8 c] (.int .i64 (Lib.indexByte s c.toNat.toUInt8)) [] := by
 refine ⟨fun g w vs hmem hl hv => ?_⟩
 obtain ⟨v0, v1, rfl⟩ : ∃ v0 v1, vs = [v0, v1] := by
  match vs, hl with
  | [v0, v1], _ => exact ⟨v0, v1, rfl⟩
 have h0 := (hv 0 _ _ rfl rfl).str_inv.1
 have h1 := (hv 1 _ _ rfl rfl).int_inv
 subst h0 h1
 exact (ixb_walk ⟨s.toArray⟩ c w).mono fun e w' ⟨he, hb⟩ => endBelow hmem (hb ▸ Below.refl _ _) he (.int _ _)
end Go.Proofs.YtfkmicjlaedlkaaGreatDoor
end

/- Package primary: a sealed list, opened. -/
import Derived.Test.YtfkmicjlaedlkaaDoorG17
import Derived.Test.YtfkmicjlaedlkaaDoorG15
import Derived.Test.YtfkmicjlaedlkaaDoorG01
import Derived.Test.YtfkmicjlaedlkaaDoorG06
import Derived.Test.YtfkmicjlaedlkaaDoorProg
import Derived.Laws.BitsAllLaws
set_option linter.unusedVariables false
set_option linter.unusedSimpArgs false
section
open Go.RowKit Go.Pl Go.Av
namespace Go.Proofs.YtfkmicjlaedlkaaDoor
set_option maxHeartbeats 4000000
def openV (x : It) (a : Int) : List It × Int := match x with
 | .mk k n b l => match rightI (.mk k n b l) && (k == 4) with
  | false => ([], 3)
  | true => match decide (typeV l a < 0) with
   | true => ([], 3)
   | false => match typeV l a == 0 with
    | true => (l, 0)
    | false => match l[l.length - 1]? with
     | none => ([], 3)
     | some (.mk k1 n1 b1 l1) => match decide (((l.length - 1 : Nat) : Int) <= a) || (!(It.beq (.mk k1 n1 b1 l1) (.mk 2 0 b1 [])) || ((b1.length : Int) != ((2 * (typeV l a).toNat : Nat) : Int))) with
      | true => ([], 3)
      | false => match rightI (zeroL (typeV l a).toNat (l.take (l.length - 1))) with
       | false => ([], 3)
       | true => match sumB (typeV l a).toNat (putI (zeroL (typeV l a).toNat (l.take (l.length - 1)))) == b1 with
        | false => ([], 10)
        | true => (l.take (l.length - 1), 0)
abbrev openD (r : List It × Int) : D := .tup [.sl .ext (itEs r.1), .int .i64 r.2]
theorem wfs_take : ∀ {l : List It} (m : Nat), wfs l -> wfs (l.take m)
 | _, 0, _ => trivial
 | [], m + 1, h => h
 | x :: l, m + 1, h => ⟨h.1, wfs_take m h.2⟩
theorem av_open [Known] [KnownU8] (x : It) (a : Int) (hw : wfI x) (hxl : x.l.length <= 1000000) (hlim : ∀ s m, s = 1 \/ s = 2 -> (putI (zeroL s (x.l.take m))).length <= 1000000000) : AP Tryd.prog 20 [itD x, .int .i64 a] (openD (openV x a)) [] := by
 have hR := av_rightI x hw
 obtain ⟨k, n, b, l⟩ := x
 have hws : wfs l := hw.2.2.2
 have hlen := itEs_len l
 have hU := uniI l
 dsimp only [It.l] at hxl hlim
 have hT := av_typeAt l hws a
 unfold openV
 dsimp only
 cases hr : rightI (.mk k n b l) with
 | false =>
  rw [hr] at hR
  rw [Bool.false_and]
  refine AP.ofA ?_
  refine AC_of Tryd.func20 rfl Tryd.ntmps20 rfl rfl ?_
  repeat' (first | (apply AL_callPw (hR); kernel_rfl; (iterate 4 exact rfl)) | (apply AL_go ttok; exact rfl) | (apply AW_go ttok; exact rfl) | (apply K_go ttok; exact rfl) | (apply AL_guardFf; (iterate 3 exact rfl); (first | with_reducible assumption | decide +kernel)) | (apply AL_pickT; exact rfl; (first | with_reducible assumption | decide +kernel); exact rfl; exact rfl) | (apply AW_condA; exact rfl; (first | with_reducible assumption | decide +kernel)))
  all_goals (apply endQ []; (apply resG_ok ttok; exact rfl); (iterate 4 exact rfl))
  all_goals rfl
 | true =>
 rw [hr] at hR
 rw [Bool.true_and]
 cases tk : (k == 4) with
 | false =>
  have tk2 : (k != 4) = true := by rw [bne, tk]; rfl
  refine AP.ofA ?_
  refine AC_of Tryd.func20 rfl Tryd.ntmps20 rfl rfl ?_
  repeat' (first | (apply AL_callPw (hR); kernel_rfl; (iterate 4 exact rfl)) | (apply AL_go ttok; exact rfl) | (apply AW_go ttok; exact rfl) | (apply K_go ttok; exact rfl) | (apply AL_guardT; (iterate 3 exact rfl); (first | with_reducible assumption | decide +kernel)) | (apply AL_pickF; exact rfl; (first | with_reducible assumption | decide +kernel); exact rfl; exact rfl) | (apply AW_condA; exact rfl; (first | with_reducible assumption | decide +kernel)))
  all_goals (apply endQ []; (apply resG_ok ttok; exact rfl); (iterate 4 exact rfl))
  all_goals rfl
 | true =>
 have tk2 : (k != 4) = false := by rw [bne, tk]; rfl
 rcases typeV_cases l a with e | ⟨e | e, h0, h1⟩
 ·rw [e] at hT ⊢
  refine AP.ofA ?_
  refine AC_of Tryd.func20 rfl Tryd.ntmps20 rfl rfl ?_
  repeat' (first | (apply AL_callPw (hR); kernel_rfl; (iterate 4 exact rfl)) | (apply AL_callPw (hT); kernel_rfl; (iterate 4 exact rfl)) | (apply AL_go ttok; exact rfl) | (apply AW_go ttok; exact rfl) | (apply K_go ttok; exact rfl) | (apply AL_guardT; (iterate 3 exact rfl); (first | with_reducible assumption | decide +kernel)) | (apply AL_pickF; exact rfl; (first | with_reducible assumption | decide +kernel); exact rfl; exact rfl) | (apply AW_condA; exact rfl; (first | with_reducible assumption | decide +kernel)) | (apply AW_condB; exact rfl; (first | with_reducible assumption | decide +kernel)))
  all_goals (apply endQ []; (apply resG_ok ttok; exact rfl); (iterate 4 exact rfl))
  all_goals rfl
 ·rw [e] at hT ⊢
  have hL := av_list l (by omega) hws
  replace hL : AP Tryd.prog 12 [.sl .ext (itEs l)] (.agg [.int .i64 4, .int .u64 0, .sl .ext [], .sl .ext (itEs l)]) [] := hL
  refine AP.ofA ?_
  refine AC_of Tryd.func20 rfl Tryd.ntmps20 rfl rfl ?_
  repeat' (first | (apply AL_callPw (hR); kernel_rfl; (iterate 4 exact rfl)) | (apply AL_callPw (hT); kernel_rfl; (iterate 4 exact rfl)) | (apply AL_callPw (hL); kernel_rfl; (iterate 4 exact rfl)) | (apply AL_go ttok; exact rfl) | (apply AW_go ttok; exact rfl) | (apply K_go ttok; exact rfl) | (apply AL_guardT; (iterate 3 exact rfl); (first | with_reducible assumption | decide +kernel)) | (apply AL_pickF; exact rfl; (first | with_reducible assumption | decide +kernel); exact rfl; exact rfl) | (apply AW_condA; exact rfl; (first | with_reducible assumption | decide +kernel)) | (apply AW_condB; exact rfl; (first | with_reducible assumption | decide +kernel)))
  all_goals (apply endQ []; (apply resG_ok ttok; exact rfl); (iterate 4 exact rfl))
  all_goals rfl
 ·obtain ⟨s, hs, es⟩ : ∃ s : Nat, (s = 1 \/ s = 2) /\ typeV l a = (s : Int) := ⟨(typeV l a).toNat, by omega, by omega⟩
  rw [es] at hT ⊢
  rw [Int.toNat_natCast]
  have d1 : decide ((s : Int) < 0) = false := decide_eq_false (by omega)
  have d2 : ((s : Int) == 0) = false := by rw [beq_eq_false_iff_ne]; omega
  rw [d1, d2]
  dsimp only
  obtain ⟨m, hm⟩ : ∃ m, m = l.length - 1 := ⟨_, rfl⟩
  have em : IntKind.i64.wrap (((itEs l).length : Int) - 1) = (m : Int) := by rw [IntWalk.i64_in _ (by omega)]; omega
  rw [<- hm]
  obtain ⟨⟨k1, n1, b1, l1⟩, hy⟩ : ∃ y, l[m]? = some y := ⟨_, List.getElem?_eq_getElem (by omega)⟩
  have hv : (itEs l)[((m : Nat) : Int).toNat]? = some (.agg [.int .i64 k1, .int .u64 (n1 : Int), .sl (b1.map E.byte), .sl (itEs l1)]) := by
   rw [Int.toNat_natCast, itEs_map, List.getElem?_map, hy]; rfl
  rw [hy]
  dsimp only
  have hw1 := wfs_mem hws _ (List.mem_of_getElem? hy)
  have hbl : (b1.map E.byte).length = b1.length := List.length_map ..
  have hB := av_bytes b1 (by have := hw1.2.1; omega)
  have hS := av_same (.mk k1 n1 b1 l1) hw1 (.mk 2 0 b1 []) ⟨by decide, by have := hw1.2.1; omega, by simp, trivial⟩
  have hZ := av_sumSize s hs
  rw [<- hbl]
  cases t1 : decide ((m : Int) <= a) with
  | true =>
   rw [Bool.true_or]
   refine AP.ofA ?_
   refine AC_of Tryd.func20 rfl Tryd.ntmps20 rfl rfl ?_
   repeat' (first | (apply AL_callPw (hR); kernel_rfl; (iterate 4 exact rfl)) | (apply AL_callPw (hT); kernel_rfl; (iterate 4 exact rfl)) | rw [em] | (apply AL_go ttok; exact rfl) | (apply AW_go ttok; exact rfl) | (apply K_go ttok; exact rfl) | (apply AL_guardT; (iterate 3 exact rfl); (first | with_reducible assumption | decide +kernel)) | (apply AL_guardFf; (iterate 3 exact rfl); (first | with_reducible assumption | decide +kernel)) | (apply AL_pickT; exact rfl; (first | with_reducible assumption | decide +kernel); exact rfl; exact rfl) | (apply AL_pickF; exact rfl; (first | with_reducible assumption | decide +kernel); exact rfl; exact rfl) | (apply AW_condA; exact rfl; (first | with_reducible assumption | decide +kernel)) | (apply AW_condB; exact rfl; (first | with_reducible assumption | decide +kernel)) | (apply AL_len ttok; (iterate 4 exact rfl)) | (apply AW_drawE 17 hmix; (decide +kernel); (kernel_rfl); (kernel_rfl); (kernel_rfl); exact rfl; exact rfl) | (apply AE_consZ; (iterate 4 exact rfl)) | exact AE.nil _ _ _ _ | (apply AEk_puT; exact rfl) | (apply AOt_mk; exact rfl; exact rfl; (decide +kernel); exact rfl) | (apply AO_puT; exact rfl) | exact AO.nil _ _ _ | (apply AOs_skip; (decide +kernel)) | exact AOs.nil | exact qY_ok rfl rfl | (apply AL_idx ttok; (iterate 6 exact rfl); (first | with_reducible assumption | decide +kernel | exact Int.natCast_nonneg _ | (guard_target = (0:Int) <= (OfNat.ofNat _ : Int); decide) | rotate_left); (first | with_reducible assumption | decide +kernel | exact rfl); (first | exact uniB_ok rfl | with_reducible assumption | decide +kernel | rotate_left)))
   all_goals (apply endQ []; (apply resG_ok ttok; exact rfl); (iterate 4 exact rfl))
   all_goals rfl
  | false =>
  rw [Bool.false_or]
  cases t2 : It.beq (.mk k1 n1 b1 l1) (.mk 2 0 b1 []) with
  | false =>
   rw [t2] at hS
   rw [Bool.not_false, Bool.true_or]
   refine AP.ofA ?_
   refine AC_of Tryd.func20 rfl Tryd.ntmps20 rfl rfl ?_
   repeat' (first | (apply AL_callPw (hR); kernel_rfl; (iterate 4 exact rfl)) | (apply AL_callPw (hT); kernel_rfl; (iterate 4 exact rfl)) | rw [em] | (apply AL_callPw (hB); kernel_rfl; (iterate 4 exact rfl)) | (apply AL_callPw (hS); kernel_rfl; (iterate 4 exact rfl)) | (apply AL_go ttok; exact rfl) | (apply AW_go ttok; exact rfl) | (apply K_go ttok; exact rfl) | (apply AL_guardT; (iterate 3 exact rfl); (first | with_reducible assumption | decide +kernel)) | (apply AL_guardFf; (iterate 3 exact rfl); (first | with_reducible assumption | decide +kernel)) | (apply AL_pickT; exact rfl; (first | with_reducible assumption | decide +kernel); exact rfl; exact rfl) | (apply AL_pickF; exact rfl; (first | with_reducible assumption | decide +kernel); exact rfl; exact rfl) | (apply AW_condA; exact rfl; (first | with_reducible assumption | decide +kernel)) | (apply AW_condB; exact rfl; (first | with_reducible assumption | decide +kernel)) | (apply AL_len ttok; (iterate 4 exact rfl)) | (apply AW_drawE 17 hmix; (decide +kernel); (kernel_rfl); (kernel_rfl); (kernel_rfl); exact rfl; exact rfl) | (apply AE_consZ; (iterate 4 exact rfl)) | exact AE.nil _ _ _ _ | (apply AEk_puT; exact rfl) | (apply AOt_mk; exact rfl; exact rfl; (decide +kernel); exact rfl) | (apply AO_puT; exact rfl) | exact AO.nil _ _ _ | (apply AOs_skip; (decide +kernel)) | exact AOs.nil | exact qY_ok rfl rfl | (apply AL_idx ttok; (iterate 6 exact rfl); (first | with_reducible assumption | decide +kernel | exact Int.natCast_nonneg _ | (guard_target = (0:Int) <= (OfNat.ofNat _ : Int); decide) | rotate_left); (first | with_reducible assumption | decide +kernel | exact rfl); (first | exact uniB_ok rfl | with_reducible assumption | decide +kernel | rotate_left)))
   all_goals (apply endQ []; (apply resG_ok ttok; exact rfl); (iterate 4 exact rfl))
   all_goals rfl
  | true =>
  rw [t2] at hS
  rw [Bool.not_true, Bool.false_or]
  cases t3 : (((b1.map E.byte).length : Int) != ((2 * s : Nat) : Int)) with
  | true =>
   refine AP.ofA ?_
   refine AC_of Tryd.func20 rfl Tryd.ntmps20 rfl rfl ?_
   repeat' (first | (apply AL_callPw (hR); kernel_rfl; (iterate 4 exact rfl)) | (apply AL_callPw (hT); kernel_rfl; (iterate 4 exact rfl)) | rw [em] | (apply AL_callPw (hB); kernel_rfl; (iterate 4 exact rfl)) | (apply AL_callPw (hS); kernel_rfl; (iterate 4 exact rfl)) | (apply AL_callPw (hZ); kernel_rfl; (iterate 4 exact rfl)) | (apply AL_go ttok; exact rfl) | (apply AW_go ttok; exact rfl) | (apply K_go ttok; exact rfl) | (apply AL_guardT; (iterate 3 exact rfl); (first | with_reducible assumption | decide +kernel)) | (apply AL_pickF; exact rfl; (first | with_reducible assumption | decide +kernel); exact rfl; exact rfl) | (apply AW_condA; exact rfl; (first | with_reducible assumption | decide +kernel)) | (apply AW_condB; exact rfl; (first | with_reducible assumption | decide +kernel)) | (apply AL_len ttok; (iterate 4 exact rfl)) | (apply AW_drawE 17 hmix; (decide +kernel); (kernel_rfl); (kernel_rfl); (kernel_rfl); exact rfl; exact rfl) | (apply AE_consZ; (iterate 4 exact rfl)) | exact AE.nil _ _ _ _ | (apply AEk_puT; exact rfl) | (apply AOt_mk; exact rfl; exact rfl; (decide +kernel); exact rfl) | (apply AO_puT; exact rfl) | exact AO.nil _ _ _ | (apply AOs_skip; (decide +kernel)) | exact AOs.nil | exact qY_ok rfl rfl | (apply AL_idx ttok; (iterate 6 exact rfl); (first | with_reducible assumption | decide +kernel | exact Int.natCast_nonneg _ | (guard_target = (0:Int) <= (OfNat.ofNat _ : Int); decide) | rotate_left); (first | with_reducible assumption | decide +kernel | exact rfl); (first | exact uniB_ok rfl | with_reducible assumption | decide +kernel | rotate_left)))
   all_goals (apply endQ []; (apply resG_ok ttok; exact rfl); (iterate 4 exact rfl))
   all_goals rfl
  | false =>
  dsimp only
  have hne : l.take m ≠ [] := by
   intro h
   have h9 := congrArg List.length h
   rw [List.length_take, List.length_nil] at h9
   have := of_decide_eq_false t1
   omega
  have htl : (l.take m).length <= 1000000 := by rw [List.length_take]; omega
  have hSu := av_sumOf (l.take m) s hs hne (wfs_take m hws) htl (hlim s m hs)
  have eT : itEs (l.take m) = (itEs l).take m := by rw [itEs_map, itEs_map, List.map_take]
  have hmle : ((m : Nat) : Int).toNat <= (itEs l).length := by rw [Int.toNat_natCast]; omega
  rw [eT] at hSu
  cases hz : rightI (zeroL s (l.take m)) with
  | false =>
   rw [hz] at hSu
   dsimp only at hSu
   refine AP.ofA ?_
   refine AC_of Tryd.func20 rfl Tryd.ntmps20 rfl rfl ?_
   repeat' (first | (apply AL_callPw (hR); kernel_rfl; (iterate 4 exact rfl)) | (apply AL_callPw (hT); kernel_rfl; (iterate 4 exact rfl)) | rw [em] | (apply AL_callPw (hB); kernel_rfl; (iterate 4 exact rfl)) | (apply AL_callPw (hS); kernel_rfl; (iterate 4 exact rfl)) | (apply AL_callPw (hZ); kernel_rfl; (iterate 4 exact rfl)) | (apply AL_callPw (hSu); kernel_rfl; (iterate 4 exact rfl)) | (apply AL_uptoE ttok; (iterate 6 exact rfl); exact hU; exact Int.natCast_nonneg _; exact hmle; exact rfl) | (apply AL_go ttok; exact rfl) | (apply AW_go ttok; exact rfl) | (apply K_go ttok; exact rfl) | (apply AL_guardT; (iterate 3 exact rfl); (first | with_reducible assumption | decide +kernel)) | (apply AL_pickF; exact rfl; (first | with_reducible assumption | decide +kernel); exact rfl; exact rfl) | (apply AW_condA; exact rfl; (first | with_reducible assumption | decide +kernel)) | (apply AW_condB; exact rfl; (first | with_reducible assumption | decide +kernel)) | (apply AL_len ttok; (iterate 4 exact rfl)) | (apply AW_drawE 17 hmix; (decide +kernel); (kernel_rfl); (kernel_rfl); (kernel_rfl); exact rfl; exact rfl) | (apply AE_consZ; (iterate 4 exact rfl)) | exact AE.nil _ _ _ _ | (apply AEk_puT; exact rfl) | (apply AOt_mk; exact rfl; exact rfl; (decide +kernel); exact rfl) | (apply AO_puT; exact rfl) | exact AO.nil _ _ _ | (apply AOs_skip; (decide +kernel)) | exact AOs.nil | exact qY_ok rfl rfl | (apply AL_idx ttok; (iterate 6 exact rfl); (first | with_reducible assumption | decide +kernel | exact Int.natCast_nonneg _ | (guard_target = (0:Int) <= (OfNat.ofNat _ : Int); decide) | rotate_left); (first | with_reducible assumption | decide +kernel | exact rfl); (first | exact uniB_ok rfl | with_reducible assumption | decide +kernel | rotate_left)))
   all_goals (apply endQ []; (apply resG_ok ttok; exact rfl); (iterate 4 exact rfl))
   all_goals rfl
  | true =>
  rw [hz] at hSu
  dsimp only at hSu ⊢
  generalize sumB s (putI (zeroL s (l.take m))) = SB at *
  have hE := av_bEq SB b1
  cases t4 : (SB == b1) with
  | false =>
   rw [t4] at hE
   refine AP.ofA ?_
   refine AC_of Tryd.func20 rfl Tryd.ntmps20 rfl rfl ?_
   repeat' (first | (apply AL_callPw (hR); kernel_rfl; (iterate 4 exact rfl)) | (apply AL_callPw (hT); kernel_rfl; (iterate 4 exact rfl)) | rw [em] | (apply AL_callPw (hB); kernel_rfl; (iterate 4 exact rfl)) | (apply AL_callPw (hS); kernel_rfl; (iterate 4 exact rfl)) | (apply AL_callPw (hZ); kernel_rfl; (iterate 4 exact rfl)) | (apply AL_callPw (hSu); kernel_rfl; (iterate 4 exact rfl)) | (apply AL_callPw (hE); kernel_rfl; (iterate 4 exact rfl)) | (apply AL_uptoE ttok; (iterate 6 exact rfl); exact hU; exact Int.natCast_nonneg _; exact hmle; exact rfl) | (apply AL_go ttok; exact rfl) | (apply AW_go ttok; exact rfl) | (apply K_go ttok; exact rfl) | (apply AL_guardT; (iterate 3 exact rfl); (first | with_reducible assumption | decide +kernel)) | (apply AL_pickF; exact rfl; (first | with_reducible assumption | decide +kernel); exact rfl; exact rfl) | (apply AW_condA; exact rfl; (first | with_reducible assumption | decide +kernel)) | (apply AW_condB; exact rfl; (first | with_reducible assumption | decide +kernel)) | (apply AL_len ttok; (iterate 4 exact rfl)) | (apply AW_drawE 17 hmix; (decide +kernel); (kernel_rfl); (kernel_rfl); (kernel_rfl); exact rfl; exact rfl) | (apply AE_consZ; (iterate 4 exact rfl)) | exact AE.nil _ _ _ _ | (apply AEk_puT; exact rfl) | (apply AOt_mk; exact rfl; exact rfl; (decide +kernel); exact rfl) | (apply AO_puT; exact rfl) | exact AO.nil _ _ _ | (apply AOs_skip; (decide +kernel)) | exact AOs.nil | exact qY_ok rfl rfl | (apply AL_idx ttok; (iterate 6 exact rfl); (first | with_reducible assumption | decide +kernel | exact Int.natCast_nonneg _ | (guard_target = (0:Int) <= (OfNat.ofNat _ : Int); decide) | rotate_left); (first | with_reducible assumption | decide +kernel | exact rfl); (first | exact uniB_ok rfl | with_reducible assumption | decide +kernel | rotate_left)))
   all_goals (apply endQ []; (apply resG_ok ttok; exact rfl); (iterate 4 exact rfl))
   all_goals rfl
  | true =>
   rw [t4] at hE
   have hL := av_list (l.take m) (by omega) (wfs_take m hws)
   rw [eT] at hL
   replace hL : AP Tryd.prog 12 [.sl .ext ((itEs l).take m)] (.agg [.int .i64 4, .int .u64 0, .sl .ext [], .sl .ext (itEs (l.take m))]) [] := hL
   refine AP.ofA ?_
   refine AC_of Tryd.func20 rfl Tryd.ntmps20 rfl rfl ?_
   repeat' (first | (apply AL_callPw (hR); kernel_rfl; (iterate 4 exact rfl)) | (apply AL_callPw (hT); kernel_rfl; (iterate 4 exact rfl)) | rw [em] | (apply AL_callPw (hB); kernel_rfl; (iterate 4 exact rfl)) | (apply AL_callPw (hS); kernel_rfl; (iterate 4 exact rfl)) | (apply AL_callPw (hZ); kernel_rfl; (iterate 4 exact rfl)) | (apply AL_callPw (hSu); kernel_rfl; (iterate 4 exact rfl)) | (apply AL_callPw (hE); kernel_rfl; (iterate 4 exact rfl)) | (apply AL_callPw (hL); kernel_rfl; (iterate 4 exact rfl)) | (apply AL_uptoE ttok; (iterate 6 exact rfl); exact hU; exact Int.natCast_nonneg _; exact hmle; exact rfl) | (apply AL_go ttok; exact rfl) | (apply AW_go ttok; exact rfl) | (apply K_go ttok; exact rfl) | (apply AL_guardT; (iterate 3 exact rfl); (first | with_reducible assumption | decide +kernel)) | (apply AL_pickF; exact rfl; (first | with_reducible assumption | decide +kernel); exact rfl; exact rfl) | (apply AW_condB; exact rfl; (first | with_reducible assumption | decide +kernel)) | (apply AL_len ttok; (iterate 4 exact rfl)) | (apply AW_drawE 17 hmix; (decide +kernel); (kernel_rfl); (kernel_rfl); (kernel_rfl); exact rfl; exact rfl) | (apply AE_consZ; (iterate 4 exact rfl)) | exact AE.nil _ _ _ _ | (apply AEk_puT; exact rfl) | (apply AOt_mk; exact rfl; exact rfl; (decide +kernel); exact rfl) | (apply AO_puT; exact rfl) | exact AO.nil _ _ _ | (apply AOs_skip; (decide +kernel)) | exact AOs.nil | exact qY_ok rfl rfl | (apply AL_idx ttok; (iterate 6 exact rfl); (first | with_reducible assumption | decide +kernel | exact Int.natCast_nonneg _ | (guard_target = (0:Int) <= (OfNat.ofNat _ : Int); decide) | rotate_left); (first | with_reducible assumption | decide +kernel | exact rfl); (first | exact uniB_ok rfl | with_reducible assumption | decide +kernel | rotate_left)))
   all_goals (apply endQ []; (apply resG_ok ttok; exact rfl); (iterate 4 exact rfl))
   all_goals rfl
end Go.Proofs.YtfkmicjlaedlkaaDoor
end
section
open Go.RowKit Go.Pl Go.Av
namespace Go.Proofs.YtfkmicjlaedlkaaDoor
set_option maxHeartbeats 1000000
abbrev iC (x : EidV) (t q : Nat) : List D := [.bool x.i, .int .u64 (x.n : Int), .int .u64 (x.s : Int), .str x.h, .str x.d, .int .u64 (t : Int), .int .u64 (q : Int)]
def iRight (x : EidV) (t q : Nat) : Bool := eRight x && decide ((t : Int) <= 1099511627776) && decide ((q : Int) <= 1099511627776)
theorem av_iRight [Known] (x : EidV) (t q : Nat) : AP Tryd.prog 60 [.agg (iC x t q)] (.bool (iRight x t q)) [] := by
 refine AP.ofA ?_
 refine AC_of Tryd.func60 rfl Tryd.ntmps60 rfl rfl ?_
 repeat' (first | (apply AL_callPw (av_eRight x); kernel_rfl; (iterate 4 exact rfl)) | (apply AL_go ttok; exact rfl) | (apply AW_go ttok; exact rfl) | (apply AL_guardT; (iterate 3 exact rfl); (first | with_reducible assumption | (solve | simp only [bn]))) | (apply AL_guardFt; (iterate 3 exact rfl); (first | with_reducible assumption | (solve | simp only [bn]))) | (apply AL_guardS; exact rfl; exact rfl; all_goals intro hb) | (apply AL_pickT; exact rfl; (first | with_reducible assumption | (solve | simp only [bn])); exact rfl; exact rfl) | (apply AL_pickF; exact rfl; (first | with_reducible assumption | (solve | simp only [bn])); exact rfl; exact rfl))
 all_goals (apply endQ []; (apply resG_ok ttok; exact rfl); (iterate 4 exact rfl))
 all_goals first | rfl | (unfold iRight; simp only [*]; done) | (unfold iRight; simp only [*]; simp only [Bool.and_true, Bool.true_and, Bool.and_false, Bool.false_and]; done)
theorem av_greatN [Known] (x : EidV) (t q : Nat) : AP Tryd.prog 53 [.agg (iC x t q)] (.bool (decide (IntKind.i64.wrap ((x.h.length : Int) + (x.d.length : Int)) > 300))) [] := by
 refine AP.ofA ?_
 refine AC_of Tryd.func53 rfl Tryd.ntmps53 rfl rfl ?_
 repeat' (first | (apply AL_go ttok; exact rfl) | (apply AW_go ttok; exact rfl) | (apply AL_lens ttok; (iterate 4 exact rfl)))
 (apply endQ []; (apply resG_ok ttok; exact rfl); (iterate 4 exact rfl))
 all_goals rfl
end Go.Proofs.YtfkmicjlaedlkaaDoor
end
section
open Go.RowKit Go.Pl
namespace Go.Pl
variable {P : Program} {t : TypeId}
theorem opens_prod5 {α β γ δ ε : Type} {R0 : Rep α} {R1 : Rep β} {R2 : Rep γ} {R3 : Rep δ} {R4 : Rep ε} {fs : Array Field} {f0 f1 f2 f3 f4 : Field} (hs : P.underlying t = some (.struct fs)) (hfs : fs = #[f0, f1, f2, f3, f4])
  (h00 : f0.offset = 0) (h01 : f1.offset = R0.n) (h02 : f2.offset = R0.n + R1.n) (h03 : f3.offset = R0.n + R1.n + R2.n) (h04 : f4.offset = R0.n + R1.n + R2.n + R3.n)
  (hc0 : P.cellsOf f0.type = R0.n) (hc1 : P.cellsOf f1.type = R1.n) (hc2 : P.cellsOf f2.type = R2.n) (hc3 : P.cellsOf f3.type = R3.n) (hc4 : P.cellsOf f4.type = R4.n) (hc : P.cellsOf t = R0.n + (R1.n + (R2.n + (R3.n + R4.n))))
  (h0 : Opens P f0.type R0) (h1 : Opens P f1.type R1) (h2 : Opens P f2.type R2) (h3 : Opens P f3.type R3) (h4 : Opens P f4.type R4) : Opens P t (R0.prod (R1.prod (R2.prod (R3.prod R4)))) := by
 intro H enc W spare held fuel cs y h
 obtain ⟨xs, n, _, _, hl, hxl, hg⟩ := DataW.trod_struct hs h
 subst hfs
 have e0 := hg 0 f0 rfl
 have e1 := hg 1 f1 rfl
 have e2 := hg 2 f2 rfl
 have e3 := hg 3 f3 rfl
 have e4 := hg 4 f4 rfl
 rw [h00, hc0, List.drop_zero] at e0
 rw [h01, hc1] at e1
 rw [h02, hc2] at e2
 rw [h03, hc3] at e3
 rw [h04, hc4] at e4
 have hn : xs.length = 5 := hxl
 have hx0 : xs[0]? = some (xs[0]'(by omega)) := List.getElem?_eq_getElem (by omega)
 have hx1 : xs[1]? = some (xs[1]'(by omega)) := List.getElem?_eq_getElem (by omega)
 have hx2 : xs[2]? = some (xs[2]'(by omega)) := List.getElem?_eq_getElem (by omega)
 have hx3 : xs[3]? = some (xs[3]'(by omega)) := List.getElem?_eq_getElem (by omega)
 have hx4 : xs[4]? = some (xs[4]'(by omega)) := List.getElem?_eq_getElem (by omega)
 obtain ⟨x0, k0⟩ := h0 H enc W spare held n _ _ (e0.trans hx0)
 obtain ⟨x1, k1⟩ := h1 H enc W spare held n _ _ (e1.trans hx1)
 obtain ⟨x2, k2⟩ := h2 H enc W spare held n _ _ (e2.trans hx2)
 obtain ⟨x3, k3⟩ := h3 H enc W spare held n _ _ (e3.trans hx3)
 obtain ⟨x4, k4⟩ := h4 H enc W spare held n _ _ (e4.trans hx4)
 refine ⟨(x0, x1, x2, x3, x4), cs.take R0.n, cs.drop R0.n, (List.take_append_drop _ _).symm, k0, (cs.drop R0.n).take R1.n, (cs.drop R0.n).drop R1.n, (List.take_append_drop _ _).symm, k1,
  ((cs.drop R0.n).drop R1.n).take R2.n, ((cs.drop R0.n).drop R1.n).drop R2.n, (List.take_append_drop _ _).symm, ?_, (((cs.drop R0.n).drop R1.n).drop R2.n).take R3.n, (((cs.drop R0.n).drop R1.n).drop R2.n).drop R3.n, (List.take_append_drop _ _).symm, ?_, ?_⟩
 ·rw [List.drop_drop]; exact k2
 ·rw [List.drop_drop, List.drop_drop, show R0.n + (R1.n + R2.n) = R0.n + R1.n + R2.n from by omega]; exact k3
 ·rw [List.drop_drop, List.drop_drop, List.drop_drop, show R0.n + (R1.n + (R2.n + R3.n)) = R0.n + R1.n + R2.n + R3.n from by omega]
  rw [List.take_of_length_le (i := R4.n) (by rw [List.length_drop]; omega)] at k4
  exact k4
abbrev RE : Rep (Bool × Nat × Nat × List UInt8 × List UInt8) := Rep.bool.prod (Rep.u64.prod (Rep.u64.prod (Rep.str.prod Rep.str)))
abbrev RI : Rep ((Bool × Nat × Nat × List UInt8 × List UInt8) × Nat × Nat) := RE.prod (Rep.u64.prod Rep.u64)
end Go.Pl
end
section
open Go.RowKit Go.Pl
namespace Go.Proofs.YtfkmicjlaedlkaaDoor
theorem openE : Opens Tryd.prog 51 RE :=
 opens_prod5 Tryd.underlying51 rfl rfl rfl rfl rfl rfl (by kernel_rfl) (by kernel_rfl) (by kernel_rfl) (by kernel_rfl) (by kernel_rfl) (by kernel_rfl) (opens_bool Tryd.underlying4) (opens_u64 Tryd.underlying22) (opens_u64 Tryd.underlying22) (opens_str Tryd.underlying9) (opens_str Tryd.underlying9)
theorem openI : Opens Tryd.prog 53 RI :=
 opens_prod3 Tryd.underlying53 rfl (by kernel_rfl) rfl rfl rfl (by kernel_rfl) (by kernel_rfl) (by kernel_rfl) openE (opens_u64 Tryd.underlying22) (opens_u64 Tryd.underlying22)
end Go.Proofs.YtfkmicjlaedlkaaDoor
end
section
open Go.RowKit Go.Pl Go.Av
namespace Go.Proofs.YtfkmicjlaedlkaaDoor
set_option maxHeartbeats 4000000
theorem toE_eid : ToE RE (fun x => .agg [.bool x.1, .int .u64 (x.2.1 : Int), .int .u64 (x.2.2.1 : Int), .str x.2.2.2.1, .str x.2.2.2.2]) :=
 ToE.bool.prod (ToE.u64.prod (ToE.u64.prod (ToE.str.prod ToE.str)))
abbrev XE := Bool × Nat × Nat × List UInt8 × List UInt8
def XE.v (x : XE) : EidV := ⟨x.1, x.2.1, x.2.2.1, x.2.2.2.1, x.2.2.2.2⟩
end Go.Proofs.YtfkmicjlaedlkaaDoor
end
section
open Go.RowKit Go.Pl Go.Av
namespace Go.Proofs.YtfkmicjlaedlkaaDoor
set_option maxHeartbeats 4000000
structure PriV where
 fl : Nat
 sum : Int
 dest : EidV
 rep : EidV
 src : EidV
 t : Nat
 q : Nat
 life : Nat
abbrev prC (p : PriV) : List D := [.int .u64 (p.fl : Int), .int .i64 p.sum, .bool p.dest.i, .int .u64 (p.dest.n : Int), .int .u64 (p.dest.s : Int), .str p.dest.h, .str p.dest.d, .bool p.rep.i, .int .u64 (p.rep.n : Int), .int .u64 (p.rep.s : Int), .str p.rep.h, .str p.rep.d, .bool p.src.i, .int .u64 (p.src.n : Int), .int .u64 (p.src.s : Int), .str p.src.h, .str p.src.d, .int .u64 (p.t : Int), .int .u64 (p.q : Int), .int .u64 (p.life : Int)]
def rightP (p : PriV) : Bool := (bits .andNot .u64 (p.fl : Int) 409638 == 0) && (decide (p.sum ≥ 0) && (decide (p.sum <= 2) && (eRight p.dest && (eRight p.rep && (iRight p.src p.t p.q && decide ((p.life : Int) <= 1099511627776))))))
theorem av_pRight [Known] (p : PriV) : AP Tryd.prog 28 [.agg (prC p)] (.bool (rightP p)) [] := by
 have hD := av_eRight p.dest
 have hR := av_eRight p.rep
 have hI := av_iRight p.src p.t p.q
 unfold rightP
 generalize eRight p.dest = e1 at *
 generalize eRight p.rep = e2 at *
 generalize iRight p.src p.t p.q = e3 at *
 obtain ⟨fl, sum, ⟨di, dn, ds, dh, dd⟩, ⟨ri, rn, rs, rh, rd⟩, ⟨xi, xn, xs, xh, xd⟩, t, q, life⟩ := p
 dsimp only at *
 cases t1 : (bits .andNot .u64 (fl : Int) 409638 == 0) with
 | false =>
  refine AP.ofA ?_
  refine AC_of Tryd.func28 rfl Tryd.ntmps28 rfl rfl ?_
  repeat' (first | (apply AL_go ttok; exact rfl) | (apply AW_go ttok; exact rfl) | (apply AL_guardFt; (iterate 3 exact rfl); (first | with_reducible assumption | decide +kernel)) | (apply AL_pickF; exact rfl; (first | with_reducible assumption | decide +kernel); exact rfl; exact rfl))
  all_goals (apply endQ []; (apply resG_ok ttok; exact rfl); (iterate 4 exact rfl))
  all_goals rfl
 | true =>
 cases t2 : decide (sum ≥ 0) with
 | false =>
  refine AP.ofA ?_
  refine AC_of Tryd.func28 rfl Tryd.ntmps28 rfl rfl ?_
  repeat' (first | (apply AL_go ttok; exact rfl) | (apply AW_go ttok; exact rfl) | (apply AL_guardT; (iterate 3 exact rfl); (first | with_reducible assumption | decide +kernel)) | (apply AL_guardFt; (iterate 3 exact rfl); (first | with_reducible assumption | decide +kernel)) | (apply AL_pickT; exact rfl; (first | with_reducible assumption | decide +kernel); exact rfl; exact rfl) | (apply AL_pickF; exact rfl; (first | with_reducible assumption | decide +kernel); exact rfl; exact rfl))
  all_goals (apply endQ []; (apply resG_ok ttok; exact rfl); (iterate 4 exact rfl))
  all_goals rfl
 | true =>
 cases t3 : decide (sum <= 2) with
 | false =>
  refine AP.ofA ?_
  refine AC_of Tryd.func28 rfl Tryd.ntmps28 rfl rfl ?_
  repeat' (first | (apply AL_go ttok; exact rfl) | (apply AW_go ttok; exact rfl) | (apply AL_guardT; (iterate 3 exact rfl); (first | with_reducible assumption | decide +kernel)) | (apply AL_guardFt; (iterate 3 exact rfl); (first | with_reducible assumption | decide +kernel)) | (apply AL_pickT; exact rfl; (first | with_reducible assumption | decide +kernel); exact rfl; exact rfl) | (apply AL_pickF; exact rfl; (first | with_reducible assumption | decide +kernel); exact rfl; exact rfl))
  all_goals (apply endQ []; (apply resG_ok ttok; exact rfl); (iterate 4 exact rfl))
  all_goals rfl
 | true =>
 cases e1
 ·refine AP.ofA ?_
  refine AC_of Tryd.func28 rfl Tryd.ntmps28 rfl rfl ?_
  repeat' (first | (apply AL_callPw (hD); kernel_rfl; (iterate 4 exact rfl)) | (apply AL_go ttok; exact rfl) | (apply AW_go ttok; exact rfl) | (apply AL_guardT; (iterate 3 exact rfl); (first | with_reducible assumption | decide +kernel)) | (apply AL_guardFt; (iterate 3 exact rfl); (first | with_reducible assumption | decide +kernel)) | (apply AL_pickT; exact rfl; (first | with_reducible assumption | decide +kernel); exact rfl; exact rfl) | (apply AL_pickF; exact rfl; (first | with_reducible assumption | decide +kernel); exact rfl; exact rfl))
  all_goals (apply endQ []; (apply resG_ok ttok; exact rfl); (iterate 4 exact rfl))
  all_goals rfl
 cases e2
 ·refine AP.ofA ?_
  refine AC_of Tryd.func28 rfl Tryd.ntmps28 rfl rfl ?_
  repeat' (first | (apply AL_callPw (hD); kernel_rfl; (iterate 4 exact rfl)) | (apply AL_callPw (hR); kernel_rfl; (iterate 4 exact rfl)) | (apply AL_go ttok; exact rfl) | (apply AW_go ttok; exact rfl) | (apply AL_guardT; (iterate 3 exact rfl); (first | with_reducible assumption | decide +kernel)) | (apply AL_guardFt; (iterate 3 exact rfl); (first | with_reducible assumption | decide +kernel)) | (apply AL_pickT; exact rfl; (first | with_reducible assumption | decide +kernel); exact rfl; exact rfl) | (apply AL_pickF; exact rfl; (first | with_reducible assumption | decide +kernel); exact rfl; exact rfl))
  all_goals (apply endQ []; (apply resG_ok ttok; exact rfl); (iterate 4 exact rfl))
  all_goals rfl
 cases e3
 ·refine AP.ofA ?_
  refine AC_of Tryd.func28 rfl Tryd.ntmps28 rfl rfl ?_
  repeat' (first | (apply AL_callPw (hD); kernel_rfl; (iterate 4 exact rfl)) | (apply AL_callPw (hR); kernel_rfl; (iterate 4 exact rfl)) | (apply AL_callPw (hI); kernel_rfl; (iterate 4 exact rfl)) | (apply AL_go ttok; exact rfl) | (apply AW_go ttok; exact rfl) | (apply AL_guardT; (iterate 3 exact rfl); (first | with_reducible assumption | decide +kernel)) | (apply AL_guardFt; (iterate 3 exact rfl); (first | with_reducible assumption | decide +kernel)) | (apply AL_pickT; exact rfl; (first | with_reducible assumption | decide +kernel); exact rfl; exact rfl) | (apply AL_pickF; exact rfl; (first | with_reducible assumption | decide +kernel); exact rfl; exact rfl))
  all_goals (apply endQ []; (apply resG_ok ttok; exact rfl); (iterate 4 exact rfl))
  all_goals rfl
 refine AP.ofA ?_
 refine AC_of Tryd.func28 rfl Tryd.ntmps28 rfl rfl ?_
 repeat' (first | (apply AL_callPw (hD); kernel_rfl; (iterate 4 exact rfl)) | (apply AL_callPw (hR); kernel_rfl; (iterate 4 exact rfl)) | (apply AL_callPw (hI); kernel_rfl; (iterate 4 exact rfl)) | (apply AL_go ttok; exact rfl) | (apply AW_go ttok; exact rfl) | (apply AL_guardT; (iterate 3 exact rfl); (first | with_reducible assumption | decide +kernel)) | (apply AL_pickT; exact rfl; (first | with_reducible assumption | decide +kernel); exact rfl; exact rfl))
 all_goals (apply endQ []; (apply resG_ok ttok; exact rfl); (iterate 4 exact rfl))
 all_goals rfl
end Go.Proofs.YtfkmicjlaedlkaaDoor
end
section
open Go.RowKit Go.Pl Go.Av
namespace Go.Proofs.YtfkmicjlaedlkaaDoor
set_option maxHeartbeats 4000000
theorem pt_e [Known] (pfl pdn pds prn prs pxn pxs pt pq plife : Nat) (psum : Int) (pdi pri pxi : Bool) (pdh pdd prh prd pxh pxd : List UInt8) (b : Nat) (a0 : UInt8) (s L : Nat) (G R Z : Bool)
  (es : IntKind.i64.wrap (1 + bits .and .i64 psum 1) = (s : Int)) (eL : bits .or .u64 2147483648 (bits .and .u64 (plife : Int) 2147483647) = (L : Int))
  (hA : AP Tryd.prog 16 [] (.bool true) [])
  (hG : AP Tryd.prog 24 [.agg [.int .u64 (pfl : Int), .int .i64 (s : Int), .bool pdi, .int .u64 (pdn : Int), .int .u64 (pds : Int), .str pdh, .str pdd, .bool pri, .int .u64 (prn : Int), .int .u64 (prs : Int), .str prh, .str prd, .bool pxi, .int .u64 (pxn : Int), .int .u64 (pxs : Int), .str pxh, .str pxd, .int .u64 (pt : Int), .int .u64 (pq : Int), .int .u64 (L : Int)]] (.bool G) [])
  (hR : AP Tryd.prog 28 [.agg [.int .u64 (pfl : Int), .int .i64 (s : Int), .bool pdi, .int .u64 (pdn : Int), .int .u64 (pds : Int), .str pdh, .str pdd, .bool pri, .int .u64 (prn : Int), .int .u64 (prs : Int), .str prh, .str prd, .bool pxi, .int .u64 (pxn : Int), .int .u64 (pxs : Int), .str pxh, .str pxd, .int .u64 (pt : Int), .int .u64 (pq : Int), .int .u64 (L : Int)]] (.bool R) [])
  (tz : ((b : Int) == 0) = Z) (hall : (!G && (R && !Z)) = false) :
  AP Tryd.prog 6 [.agg [.int .u64 (pfl : Int), .int .i64 psum, .bool pdi, .int .u64 (pdn : Int), .int .u64 (pds : Int), .str pdh, .str pdd, .bool pri, .int .u64 (prn : Int), .int .u64 (prs : Int), .str prh, .str prd, .bool pxi, .int .u64 (pxn : Int), .int .u64 (pxs : Int), .str pxh, .str pxd, .int .u64 (pt : Int), .int .u64 (pq : Int), .int .u64 (plife : Int)], .int .u16 (b : Int), .int .u8 (a0.toNat : Int)] (.bool true) [] := by
 cases G <;> cases R <;> cases Z
 case false.true.false => simp at hall
 all_goals
  refine AP.ofA ?_
  refine AC_of Tryd.func6 rfl Tryd.ntmps6 rfl rfl ?_
  repeat' (first | rw [es] | rw [eL] | (apply AL_callPw (hA); kernel_rfl; (iterate 4 exact rfl)) | (apply AL_callPw (hG); kernel_rfl; (iterate 4 exact rfl)) | (apply AL_callPw (hR); kernel_rfl; (iterate 4 exact rfl)) | (apply AL_go ttok; exact rfl) | (apply AW_go ttok; exact rfl) | (apply K_go ttok; exact rfl) | (apply AL_guardT; (iterate 3 exact rfl); (first | with_reducible assumption | decide +kernel)) | (apply AL_guardFf; (iterate 3 exact rfl); (first | with_reducible assumption | decide +kernel)) | (apply AL_pickT; exact rfl; (first | with_reducible assumption | decide +kernel); exact rfl; exact rfl) | (apply AL_pickF; exact rfl; (first | with_reducible assumption | decide +kernel); exact rfl; exact rfl) | (apply AW_condA; exact rfl; (first | with_reducible assumption | decide +kernel)))
  all_goals (apply endQ []; (apply resG_ok ttok; exact rfl); (iterate 4 exact rfl))
  all_goals rfl
end Go.Proofs.YtfkmicjlaedlkaaDoor
end
section
open Go.RowKit Go.Pl Go.Av
namespace Go.Proofs.YtfkmicjlaedlkaaDoor
def hN (p s : Nat) : Nat := (s >>> 1) ^^^ (if s.testBit 0 then p else 0)
def itN (p : Nat) : Nat -> Nat -> Nat
 | 0, s => s
 | k + 1, s => itN p k (hN p s)
def byN (p s c : Nat) : Nat := itN p 8 (s ^^^ c)
def ruN (p s : Nat) (b : List Nat) : Nat := b.foldl (byN p) s
theorem hN_xor (p a b : Nat) : hN p (a ^^^ b) = hN p a ^^^ hN p b := by
 unfold hN
 rw [Nat.shiftRight_xor_distrib, Nat.testBit_xor]
 cases ha : a.testBit 0 <;> cases hb : b.testBit 0
 ·show _ ^^^ 0 = (_ ^^^ 0) ^^^ (_ ^^^ 0)
  rw [Nat.xor_zero, Nat.xor_zero, Nat.xor_zero]
 ·show _ ^^^ p = (_ ^^^ 0) ^^^ (_ ^^^ p)
  rw [Nat.xor_zero, Nat.xor_assoc]
 ·show _ ^^^ p = (_ ^^^ p) ^^^ (_ ^^^ 0)
  rw [Nat.xor_zero, Nat.xor_assoc, Nat.xor_comm (b >>> 1) p, <- Nat.xor_assoc]
 ·show _ ^^^ 0 = (_ ^^^ p) ^^^ (_ ^^^ p)
  rw [Nat.xor_zero, Nat.xor_assoc (a >>> 1) p, Nat.xor_comm (b >>> 1) p, <- Nat.xor_assoc p p, Nat.xor_self, Nat.zero_xor]
theorem itN_xor (p : Nat) : ∀ (k a b : Nat), itN p k (a ^^^ b) = itN p k a ^^^ itN p k b
 | 0, a, b => rfl
 | k + 1, a, b => by rw [itN, itN, itN, hN_xor, itN_xor p k]
theorem itN_add (p : Nat) : ∀ (j k s : Nat), itN p (j + k) s = itN p k (itN p j s)
 | 0, k, s => by rw [Nat.zero_add]; rfl
 | j + 1, k, s => by rw [show j + 1 + k = (j + k) + 1 from by omega, itN, itN_add p j k]; rfl
theorem hN_ne {p s W : Nat} (hp : 2 ^ W <= p) (hp2 : p < 2 ^ (W + 1)) (hs : s < 2 ^ (W + 1)) (h0 : s ≠ 0) : hN p s ≠ 0 /\ hN p s < 2 ^ (W + 1) := by
 have h1 : s >>> 1 < 2 ^ W := by
  rw [Nat.shiftRight_eq_div_pow]
  have : 2 ^ (W + 1) = 2 ^ W * 2 := Nat.pow_succ ..
  omega
 unfold hN
 refine ⟨fun h => ?_, Nat.xor_lt_two_pow (by have : 2 ^ W <= 2 ^ (W + 1) := Nat.pow_le_pow_right (by omega) (by omega); omega) (by split; exact hp2; exact Nat.two_pow_pos _)⟩
 cases hb : s.testBit 0 with
 | true =>
  rw [hb] at h
  have h : s >>> 1 ^^^ p = 0 := h
  have h2 : (s >>> 1 ^^^ p) ^^^ p = 0 ^^^ p := by rw [h]
  rw [Nat.xor_assoc, Nat.xor_self, Nat.xor_zero, Nat.zero_xor] at h2
  omega
 | false =>
  rw [hb] at h
  have h : s >>> 1 ^^^ 0 = 0 := h
  rw [Nat.xor_zero, Nat.shiftRight_eq_div_pow] at h
  rw [Nat.testBit_zero] at hb
  have hb : s % 2 ≠ 1 := by simpa using hb
  omega
theorem itN_ne {p W : Nat} (hp : 2 ^ W <= p) (hp2 : p < 2 ^ (W + 1)) : ∀ (k s : Nat), s < 2 ^ (W + 1) -> s ≠ 0 -> itN p k s ≠ 0 /\ itN p k s < 2 ^ (W + 1)
 | 0, s, h, h0 => ⟨h0, h⟩
 | k + 1, s, h, h0 => by
  obtain ⟨h1, h2⟩ := hN_ne hp hp2 h h0
  exact itN_ne hp hp2 k _ h2 h1
theorem itN_shl (p : Nat) : ∀ (k y : Nat), itN p k (y <<< k) = y
 | 0, y => by rw [Nat.shiftLeft_zero]; rfl
 | k + 1, y => by
  rw [itN]
  have h1 : hN p (y <<< (k + 1)) = y <<< k := by
   unfold hN
   have hb : (y <<< (k + 1)).testBit 0 = false := by rw [Nat.testBit_shiftLeft]; simp
   rw [hb]
   show y <<< (k + 1) >>> 1 ^^^ 0 = _
   rw [Nat.xor_zero, Nat.shiftLeft_succ, Nat.shiftRight_eq_div_pow]
   omega
  rw [h1, itN_shl p k y]
theorem by_xor (p a b c d : Nat) : byN p (a ^^^ b) (c ^^^ d) = byN p a c ^^^ byN p b d := by
 unfold byN
 rw [<- itN_xor]
 congr 1
 rw [Nat.xor_assoc, Nat.xor_assoc, <- Nat.xor_assoc b, Nat.xor_comm b c, Nat.xor_assoc]
theorem ru_xor (p : Nat) : ∀ (l : List (Nat × Nat)) (a b : Nat), ruN p (a ^^^ b) (l.map fun q => q.1 ^^^ q.2) = ruN p a (l.map (·.1)) ^^^ ruN p b (l.map (·.2))
 | [], a, b => rfl
 | q :: l, a, b => by
  simp only [List.map_cons, ruN, List.foldl_cons]
  rw [by_xor]
  exact ru_xor p l _ _
theorem ru_four (p d0 d1 d2 d3 : Nat) : ruN p 0 [d0, d1, d2, d3] = itN p 32 (d0 ^^^ (d1 <<< 8) ^^^ (d2 <<< 16) ^^^ (d3 <<< 24)) := by
 simp only [ruN, List.foldl_cons, List.foldl_nil, byN]
 have h1 : itN p 8 (itN p 8 d0 ^^^ d1) = itN p 16 (d0 ^^^ (d1 <<< 8)) := by
  rw [show itN p 8 d0 ^^^ d1 = itN p 8 (d0 ^^^ (d1 <<< 8)) from by rw [itN_xor, itN_shl], <- itN_add]
 have h2 : ∀ x, itN p 8 (itN p 16 x ^^^ d2) = itN p 24 (x ^^^ (d2 <<< 16)) := fun x => by
  rw [show itN p 16 x ^^^ d2 = itN p 16 (x ^^^ (d2 <<< 16)) from by rw [itN_xor, itN_shl], <- itN_add]
 have h3 : ∀ x, itN p 8 (itN p 24 x ^^^ d3) = itN p 32 (x ^^^ (d3 <<< 24)) := fun x => by
  rw [show itN p 24 x ^^^ d3 = itN p 24 (x ^^^ (d3 <<< 24)) from by rw [itN_xor, itN_shl], <- itN_add]
 rw [Nat.zero_xor, h1, h2, h3]
theorem burst {p W : Nat} (hp : 2 ^ W <= p) (hp2 : p < 2 ^ (W + 1)) (hW : 15 <= W) {d0 d1 d2 d3 by_ a : Nat} (ha : a <= 15) (hb : by_ ≠ 0) (hb2 : by_ < 65536) (hd : d0 ^^^ (d1 <<< 8) ^^^ (d2 <<< 16) ^^^ (d3 <<< 24) = by_ <<< a) : ruN p 0 [d0, d1, d2, d3] ≠ 0 /\ ruN p 0 [d0, d1, d2, d3] < 2 ^ (W + 1) := by
 rw [ru_four, hd, show 32 = a + (32 - a) from by omega, itN_add, itN_shl]
 have : 2 ^ 16 <= 2 ^ (W + 1) := Nat.pow_le_pow_right (by omega) (by omega)
 exact itN_ne hp hp2 _ _ (by omega) hb
theorem ru_zeros {p W : Nat} (hp : 2 ^ W <= p) (hp2 : p < 2 ^ (W + 1)) : ∀ (n s : Nat), s < 2 ^ (W + 1) -> s ≠ 0 -> ruN p s (List.replicate n 0) ≠ 0
 | 0, s, _, h => h
 | n + 1, s, hs, h => by
  obtain ⟨h1, h2⟩ := itN_ne hp hp2 8 s hs h
  rw [List.replicate_succ]
  show ruN p (byN p s 0) (List.replicate n 0) ≠ 0
  have e : byN p s 0 = itN p 8 s := by unfold byN; rw [Nat.xor_zero]
  rw [e]
  exact ru_zeros hp hp2 n _ h2 h1
theorem ru_differ {p W : Nat} (hp : 2 ^ W <= p) (hp2 : p < 2 ^ (W + 1)) (hW : 15 <= W) {s : Nat} {pre post : List Nat} {a0 a1 a2 a3 b0 b1 b2 b3 by_ a : Nat} (ha : a <= 15) (hb : by_ ≠ 0) (hb2 : by_ < 65536)
  (hd : (a0 ^^^ b0) ^^^ ((a1 ^^^ b1) <<< 8) ^^^ ((a2 ^^^ b2) <<< 16) ^^^ ((a3 ^^^ b3) <<< 24) = by_ <<< a) : ruN p s (pre ++ ([a0, a1, a2, a3] ++ post)) ≠ ruN p s (pre ++ ([b0, b1, b2, b3] ++ post)) := by
 intro he
 have happ : ∀ (s : Nat) (l r : List Nat), ruN p s (l ++ r) = ruN p (ruN p s l) r := fun s l r => List.foldl_append ..
 rw [happ, happ, happ s pre, happ (ruN p s pre) [b0, b1, b2, b3]] at he
 generalize ruN p s pre = u at he
 obtain ⟨h1, h2⟩ := burst hp hp2 hW ha hb hb2 hd
 have h3 := ru_xor p [(a0, b0), (a1, b1), (a2, b2), (a3, b3)] u u
 rw [Nat.xor_self] at h3
 have h3 : ruN p 0 [a0 ^^^ b0, a1 ^^^ b1, a2 ^^^ b2, a3 ^^^ b3] = ruN p u [a0, a1, a2, a3] ^^^ ruN p u [b0, b1, b2, b3] := h3
 have h4 := ru_xor p (post.map fun c => (c, c)) (ruN p u [a0, a1, a2, a3]) (ruN p u [b0, b1, b2, b3])
 rw [List.map_map, List.map_map, List.map_map, <- h3] at h4
 have e1 : post.map ((fun q : Nat × Nat => q.1) ∘ fun c => (c, c)) = post := by rw [show ((fun q : Nat × Nat => q.1) ∘ fun c : Nat => (c, c)) = id from rfl, List.map_id]
 have e2 : post.map ((fun q : Nat × Nat => q.2) ∘ fun c => (c, c)) = post := by rw [show ((fun q : Nat × Nat => q.2) ∘ fun c : Nat => (c, c)) = id from rfl, List.map_id]
 have e3 : post.map ((fun q : Nat × Nat => q.1 ^^^ q.2) ∘ fun c => (c, c)) = List.replicate post.length 0 := by
  rw [show ((fun q : Nat × Nat => q.1 ^^^ q.2) ∘ fun c : Nat => (c, c)) = fun _ => 0 from funext fun c => Nat.xor_self c]
  exact List.map_const' ..
 rw [e1, e2, e3, he, Nat.xor_self] at h4
 exact ru_zeros hp hp2 _ _ h2 h1 h4
end Go.Proofs.YtfkmicjlaedlkaaDoor
end
section
open Go.RowKit Go.Pl Go.Av
namespace Go.Proofs.YtfkmicjlaedlkaaDoor
theorem hN_lt {p s : Nat} (hp : p < 4294967296) (hs : s < 4294967296) : hN p s < 4294967296 := by
 unfold hN
 refine Nat.xor_lt_two_pow (n := 32) ?_ ?_
 ·rw [Nat.shiftRight_eq_div_pow]; omega
 ·split <;> omega
theorem halveI_eq {p s : Nat} (hp : p < 4294967296) (hs : s < 4294967296) : halveI (s : Int) (p : Int) = (hN p s : Int) := by
 have h1 : bits .and .u32 (s : Int) 1 = ((s &&& 1 : Nat) : Int) := u32_and_nat s 1 hs (by decide)
 have h2 : half (s : Int) = ((s >>> 1 : Nat) : Int) := by
  unfold half
  rw [Nat.shiftRight_eq_div_pow, show min (Int.toNat 1) IntKind.u32.bits = 1 from rfl, Int.fdiv_eq_ediv_of_nonneg _ (by decide)]
  rfl
 unfold halveI hN
 rw [h1, h2, Nat.testBit_zero, Nat.and_one_is_mod]
 by_cases e : s % 2 = 1
 ·rw [e]
  show bits .xor .u32 _ _ = _
  rw [u32_xor_nat _ _ (by rw [Nat.shiftRight_eq_div_pow]; omega) hp]
  simp
 ·have e0 : s % 2 = 0 := by omega
  rw [e0]
  show ((s >>> 1 : Nat) : Int) = _
  simp
theorem byteI_eq {p s : Nat} (c : UInt8) (hp : p < 4294967296) (hs : s < 4294967296) : byteI (s : Int) c (p : Int) = (byN p s c.toNat : Int) /\ byN p s c.toNat < 4294967296 := by
 have hc := c.toNat_lt
 have h1 : bits .xor .u32 (s : Int) (IntKind.u32.wrap (c.toNat : Int)) = ((s ^^^ c.toNat : Nat) : Int) := by
  rw [IntWalk.u32_in _ (by omega)]
  exact u32_xor_nat s c.toNat hs (by omega)
 have h2 : s ^^^ c.toNat < 4294967296 := Nat.xor_lt_two_pow (n := 32) hs (by omega)
 unfold byteI byN
 rw [h1]
 generalize s ^^^ c.toNat = x at *
 have key : ∀ y : Nat, y < 4294967296 -> halveI (y : Int) (p : Int) = (hN p y : Int) /\ hN p y < 4294967296 := fun y hy => ⟨halveI_eq hp hy, hN_lt hp hy⟩
 obtain ⟨k1, l1⟩ := key x h2
 obtain ⟨k2, l2⟩ := key _ l1
 obtain ⟨k3, l3⟩ := key _ l2
 obtain ⟨k4, l4⟩ := key _ l3
 obtain ⟨k5, l5⟩ := key _ l4
 obtain ⟨k6, l6⟩ := key _ l5
 obtain ⟨k7, l7⟩ := key _ l6
 obtain ⟨k8, l8⟩ := key _ l7
 rw [k1, k2, k3, k4, k5, k6, k7, k8]
 exact ⟨rfl, l8⟩
theorem runI_eq {p : Nat} (hp : p < 4294967296) : ∀ (b : List UInt8) (s : Nat), s < 4294967296 -> runI (s : Int) (p : Int) b = (ruN p s (b.map UInt8.toNat) : Int) /\ ruN p s (b.map UInt8.toNat) < 4294967296
 | [], s, h => ⟨rfl, h⟩
 | c :: b, s, h => by
  obtain ⟨h1, h2⟩ := byteI_eq c hp h
  have ih := runI_eq hp b (byN p s c.toNat) h2
  rw [<- h1] at ih
  exact ih
theorem itN_lt {p W : Nat} (hp2 : p < 2 ^ (W + 1)) : ∀ (k s : Nat), s < 2 ^ (W + 1) -> itN p k s < 2 ^ (W + 1)
 | 0, s, h => h
 | k + 1, s, h => itN_lt hp2 k _ (by
  unfold hN
  refine Nat.xor_lt_two_pow ?_ ?_
  ·rw [Nat.shiftRight_eq_div_pow]
   exact Nat.lt_of_le_of_lt (Nat.div_le_self ..) h
  ·split
   ·exact hp2
   ·exact Nat.two_pow_pos _)
theorem ru_lt {p W : Nat} (hp2 : p < 2 ^ (W + 1)) (hW : 7 <= W) : ∀ (b : List UInt8) (s : Nat), s < 2 ^ (W + 1) -> ruN p s (b.map UInt8.toNat) < 2 ^ (W + 1)
 | [], s, h => h
 | c :: b, s, h => by
  have hc := c.toNat_lt
  have : 2 ^ 8 <= 2 ^ (W + 1) := Nat.pow_le_pow_right (by omega) (by omega)
  exact ru_lt hp2 hW b _ (itN_lt hp2 8 _ (Nat.xor_lt_two_pow h (by omega)))
theorem xor_inj {m a b : Nat} (h : m ^^^ a = m ^^^ b) : a = b := by
 have := congrArg (m ^^^ ·) h
 simpa [<- Nat.xor_assoc] using this
theorem shortV_eq (b : List UInt8) : shortV b = ((65535 ^^^ ruN 33800 65535 (b.map UInt8.toNat) : Nat) : Int) /\ 65535 ^^^ ruN 33800 65535 (b.map UInt8.toNat) < 65536 := by
 have h1 := (runI_eq (p := 33800) (by decide) b 65535 (by decide)).1
 have h2 := ru_lt (p := 33800) (W := 15) (by decide) (by decide) b 65535 (by decide)
 unfold shortV
 rw [show runI 65535 33800 b = _ from h1, IntWalk.u16_in _ (by omega)]
 exact ⟨u16_xor_nat 65535 _ (by decide) h2, Nat.xor_lt_two_pow (n := 16) (by decide) h2⟩
theorem longV_eq (b : List UInt8) : longV b = ((4294967295 ^^^ ruN 2197175160 4294967295 (b.map UInt8.toNat) : Nat) : Int) /\ 4294967295 ^^^ ruN 2197175160 4294967295 (b.map UInt8.toNat) < 4294967296 := by
 have h1 := (runI_eq (p := 2197175160) (by decide) b 4294967295 (by decide)).1
 have h2 := ru_lt (p := 2197175160) (W := 31) (by decide) (by decide) b 4294967295 (by decide)
 unfold longV
 rw [show runI 4294967295 2197175160 b = _ from h1]
 exact ⟨u32_xor_nat 4294967295 _ (by decide) h2, Nat.xor_lt_two_pow (n := 32) (by decide) h2⟩
theorem by8_inj {a b : Int} (h : by8 a = by8 b) : a % 256 = b % 256 := by
 have h1 : E.byte (by8 a) = E.byte (by8 b) := by rw [h]
 rw [by8_E, by8_E] at h1
 have h2 : IntKind.u8.wrap a = IntKind.u8.wrap b := by injection h1
 simpa only [IntKind.wrap_u8] using h2
theorem sum_ne1 {b c : List UInt8} (h : ruN 33800 65535 (b.map UInt8.toNat) ≠ ruN 33800 65535 (c.map UInt8.toNat)) : sumB 1 b ≠ sumB 1 c := by
 intro e
 obtain ⟨e1, l1⟩ := shortV_eq b
 obtain ⟨e2, l2⟩ := shortV_eq c
 unfold sumB at e
 rw [if_pos rfl, if_pos rfl, e1, e2] at e
 generalize hx : (65535 ^^^ ruN 33800 65535 (b.map UInt8.toNat) : Nat) = x at *
 generalize hy : (65535 ^^^ ruN 33800 65535 (c.map UInt8.toNat) : Nat) = y at *
 injection e with q1 q2
 injection q2 with q2 _
 have q1 := by8_inj q1
 have q2 := by8_inj q2
 rw [show min (8 : Int).toNat IntKind.u16.bits = 8 from rfl, Int.fdiv_eq_ediv_of_nonneg _ (by decide), Int.fdiv_eq_ediv_of_nonneg _ (by decide)] at q1
 have hxy : x = y := by omega
 exact h (xor_inj (hx.trans (hxy.trans hy.symm)))
theorem sum_ne2 {b c : List UInt8} (h : ruN 2197175160 4294967295 (b.map UInt8.toNat) ≠ ruN 2197175160 4294967295 (c.map UInt8.toNat)) : sumB 2 b ≠ sumB 2 c := by
 intro e
 obtain ⟨e1, l1⟩ := longV_eq b
 obtain ⟨e2, l2⟩ := longV_eq c
 unfold sumB at e
 rw [if_neg (by decide), if_neg (by decide), e1, e2] at e
 generalize hx : (4294967295 ^^^ ruN 2197175160 4294967295 (b.map UInt8.toNat) : Nat) = x at *
 generalize hy : (4294967295 ^^^ ruN 2197175160 4294967295 (c.map UInt8.toNat) : Nat) = y at *
 injection e with q1 e
 injection e with q2 e
 injection e with q3 e
 injection e with q4 _
 have q1 := by8_inj q1
 have q2 := by8_inj q2
 have q3 := by8_inj q3
 have q4 := by8_inj q4
 rw [show min (24 : Int).toNat IntKind.u32.bits = 24 from rfl, Int.fdiv_eq_ediv_of_nonneg _ (by decide), Int.fdiv_eq_ediv_of_nonneg _ (by decide)] at q1
 rw [show min (16 : Int).toNat IntKind.u32.bits = 16 from rfl, Int.fdiv_eq_ediv_of_nonneg _ (by decide), Int.fdiv_eq_ediv_of_nonneg _ (by decide)] at q2
 rw [show min (8 : Int).toNat IntKind.u32.bits = 8 from rfl, Int.fdiv_eq_ediv_of_nonneg _ (by decide), Int.fdiv_eq_ediv_of_nonneg _ (by decide)] at q3
 have hxy : x = y := by omega
 exact h (xor_inj (hx.trans (hxy.trans hy.symm)))
end Go.Proofs.YtfkmicjlaedlkaaDoor
end

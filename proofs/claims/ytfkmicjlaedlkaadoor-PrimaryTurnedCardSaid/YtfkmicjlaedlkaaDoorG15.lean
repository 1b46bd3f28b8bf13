/- Package primary: a list's items looked at; the type that a list says. -/
import Derived.Test.YtfkmicjlaedlkaaDoorG11
import Derived.Test.YtfkmicjlaedlkaaDoorG14
import Derived.Test.YtfkmicjlaedlkaaDoorG10
import Derived.Test.YtfkmicjlaedlkaaDoorG07
import Derived.Laws.RangeAny
import Derived.LoopTactic
import Derived.Test.YtfkmicjlaedlkaaDoorG09
set_option linter.unusedVariables false
set_option linter.unusedSimpArgs false
section
open Go.RowKit Go.Pl Go.Av
namespace Go.Proofs.YtfkmicjlaedlkaaDoor
set_option maxHeartbeats 4000000
theorem av_cloneI [Known] (l : List It) (hne : l ≠ []) (hl : l.length <= 1000000) : AT Tryd.prog 73 [.sl .ext (itEs l)] [] [] (.sl (.own 0) (itEs l)) [] [⟨l.length, 4, 27⟩] := by
 have hU := uniI l
 have hlen := itEs_len l
 rw [<- hlen]
 rw [<- hlen] at hl
 have hE : itEs l ≠ [] := fun h => hne (by rw [h] at hlen; exact List.length_eq_zero_iff.1 hlen.symm)
 refine AC_of Tryd.func73 rfl Tryd.ntmps73 rfl rfl ?_
 repeat' (first | (apply AL_snil ttok; (iterate 5 exact rfl); intro b hbn; (have hbn2 := hbn hE); subst hbn2; clear hbn) | (apply AL_go ttok; exact rfl) | (apply AW_go ttok; exact rfl) | (apply K_go ttok; exact rfl) | (apply AW_condB; exact rfl; (first | with_reducible assumption | (solve | simp only [bn]))) | (apply AL_bs ttok; (iterate 12 exact rfl)) | (apply AL_append ttok; (iterate 6 exact rfl); (first | with_reducible assumption | exact rfl | rotate_left); exact rfl; exact rfl; (first | exact uniB_ok rfl | with_reducible assumption | rotate_left); (first | exact uniB_ok rfl | with_reducible assumption | rotate_left); (first | exact List.cons_ne_nil _ _ | with_reducible assumption | rotate_left); (first | with_reducible assumption | rotate_left); (first | with_reducible assumption | rotate_left); exact rfl; exact rfl))
 all_goals first | (apply endT [] [0]; (apply resG_ok ttok; exact rfl); (iterate 7 exact rfl)) | skip
 all_goals first | rfl | (simp at hl ⊢; (try unfold maxLen); omega) | (simp at hl ⊢; done)
theorem av_wrong [Known] [KnownU8] (x : It) (hw : wfI x) : AP Tryd.prog 43 [itD x] (.bool (!rightI x)) [] := by
 have hR := av_rightI x hw
 obtain ⟨k, n, b, l⟩ := x
 refine AP.ofA ?_
 refine AC_of Tryd.func43 rfl Tryd.ntmps43 rfl rfl ?_
 repeat' (first | (apply AL_callPw (hR); kernel_rfl; (iterate 4 exact rfl)) | (apply AL_go ttok; exact rfl) | (apply AW_go ttok; exact rfl))
 all_goals (apply endQ []; (apply resG_ok ttok; exact rfl); (iterate 4 exact rfl))
 all_goals rfl
def fiI : List It -> Nat -> Int
 | [], _ => -1
 | x :: l, i => match rightI x with | true => fiI l (i + 1) | false => (i : Int)
theorem fiI_ge : ∀ (l : List It) (i : Nat), decide (fiI l i ≥ 0) = !(l.all rightI)
 | [], _ => rfl
 | x :: l, i => by
  rw [fiI, List.all_cons]
  cases rightI x with
  | true => simpa using fiI_ge l (i + 1)
  | false => simp
theorem av_idxF [Known] [KnownU8] (l : List It) (hws : wfs l) (hl : l.length <= 1000000) : AP Tryd.prog 72 [.sl .ext (itEs l), .fn 43 []] (.int .i64 (fiI l 0)) [] := by
 have hlen := itEs_len l
 have hU := uniI l
 generalize hfin : fiI l 0 = fin
 refine AP.ofA ?_
 refine AC_of Tryd.func72 rfl Tryd.ntmps72 rfl rfl ?_
 repeat' (first | (apply AL_go ttok; exact rfl) | (apply AW_go ttok; exact rfl) | (apply AL_len ttok; (iterate 4 exact rfl)))
 refine AW_loopJ (fun f tm bx fr => ∃ (i : Nat), f + i = l.length /\ fiI (l.drop i) i = fin /\ tm = [(0, .sl .ext (itEs l)), (1, .fn 43 []), (4, .int .i64 0), (7, .int .i64 ((itEs l).length : Int)), (8, .int .i64 (i : Int))] /\ bx = [] /\ fr = []) (l.length + 1) (Lands.mk' (m := l.length) (Nat.lt_succ_self _) ⟨0, by omega, hfin, rfl, rfl, rfl⟩ ?_ rfl rfl rfl rfl rfl rfl) ?_
 ·exact .cons rfl (.cons rfl (.cons rfl (.cons rfl (.cons rfl .nil))))
 rintro f tm bx fr ⟨i, hf, hq, rfl, rfl, rfl⟩
 rcases Nat.lt_or_ge i l.length with hlt | hge
 ·have hdl : decide ((i : Int) < ((itEs l).length : Int)) = true := decide_eq_true (by omega)
  obtain ⟨⟨k1, n1, b1, l1⟩, hy⟩ : ∃ y, l[i]? = some y := ⟨_, List.getElem?_eq_getElem hlt⟩
  have hv : (itEs l)[((i : Nat) : Int).toNat]? = some (.agg [.int .i64 k1, .int .u64 (n1 : Int), .sl (b1.map E.byte), .sl (itEs l1)]) := by
   rw [Int.toNat_natCast, itEs_map, List.getElem?_map, hy]; rfl
  have hc := av_wrong _ (wfs_mem hws _ (List.mem_of_getElem? hy))
  have hdr : l.drop i = It.mk k1 n1 b1 l1 :: l.drop (i + 1) := by
   rw [List.drop_eq_getElem_cons hlt]; congr 1
   exact (List.getElem?_eq_some_iff.1 hy).2
  rw [hdr, fiI] at hq
  have ei : IntKind.i64.wrap ((i : Int) + 1) = ((i + 1 : Nat) : Int) := by rw [IntWalk.i64_in _ (by omega)]; omega
  cases hb : rightI (.mk k1 n1 b1 l1) with
  | true =>
   rw [hb] at hq hc
   replace hc : AP Tryd.prog _ _ (.bool false) [] := hc
   repeat' (first | rw [ei] | (apply AL_callPv (hc); exact rfl; kernel_rfl; (iterate 3 exact rfl)) | (apply AL_go ttok; exact rfl) | (apply AW_go ttok; exact rfl) | (apply K_go ttok; exact rfl) | (apply AW_condA; exact rfl; (first | with_reducible assumption | decide +kernel)) | (apply AW_condB; exact rfl; (first | with_reducible assumption | decide +kernel)) | (apply AL_idx ttok; (iterate 6 exact rfl); (first | with_reducible assumption | decide +kernel | exact Int.natCast_nonneg _ | (guard_target = (0:Int) <= (OfNat.ofNat _ : Int); decide) | rotate_left); (first | with_reducible assumption | decide +kernel | exact rfl); (first | exact uniB_ok rfl | with_reducible assumption | decide +kernel | rotate_left)))
   refine Lands.mk' (m := f - 1) (by omega) ⟨i + 1, by omega, hq, rfl, rfl, rfl⟩ ?_ rfl rfl rfl rfl rfl rfl
   exact .cons rfl (.cons rfl (.cons rfl (.cons rfl (.cons rfl .nil))))
  | false =>
   rw [hb] at hq hc
   replace hc : AP Tryd.prog _ _ (.bool true) [] := hc
   have hq : (i : Int) = fin := hq
   subst hq
   repeat' (first | (apply AL_callPv (hc); exact rfl; kernel_rfl; (iterate 3 exact rfl)) | (apply AL_go ttok; exact rfl) | (apply AW_go ttok; exact rfl) | (apply K_go ttok; exact rfl) | (apply AW_condA; exact rfl; (first | with_reducible assumption | decide +kernel)) | refine then_ret ?_ | (apply AL_idx ttok; (iterate 6 exact rfl); (first | with_reducible assumption | decide +kernel | exact Int.natCast_nonneg _ | (guard_target = (0:Int) <= (OfNat.ofNat _ : Int); decide) | rotate_left); (first | with_reducible assumption | decide +kernel | exact rfl); (first | exact uniB_ok rfl | with_reducible assumption | decide +kernel | rotate_left)))
   all_goals (apply endQ []; (apply resG_ok ttok; exact rfl); (iterate 4 exact rfl))
   all_goals rfl
 ·have hdl : decide ((i : Int) < ((itEs l).length : Int)) = false := decide_eq_false (by omega)
  rw [List.drop_eq_nil_of_le hge] at hq
  have hq : (-1 : Int) = fin := hq
  subst hq
  repeat' (first | (apply AW_go ttok; exact rfl) | (apply AW_condB; exact rfl; (first | with_reducible assumption | decide +kernel)))
  all_goals (apply endQ []; (apply resG_ok ttok; exact rfl); (iterate 4 exact rfl))
  all_goals rfl
theorem av_contF [Known] [KnownU8] (l : List It) (hws : wfs l) (hl : l.length <= 1000000) : AP Tryd.prog 46 [.sl .ext (itEs l), .fn 43 []] (.bool (!(l.all rightI))) [] := by
 have hI := av_idxF l hws hl
 rw [<- fiI_ge l 0]
 refine AP.ofA ?_
 refine AC_of Tryd.func46 rfl Tryd.ntmps46 rfl rfl ?_
 repeat' (first | (apply AL_callPw (hI); kernel_rfl; (iterate 4 exact rfl)) | (apply AL_go ttok; exact rfl) | (apply AW_go ttok; exact rfl))
 all_goals (apply endQ []; (apply resG_ok ttok; exact rfl); (iterate 4 exact rfl))
 all_goals rfl
def typeV (l : List It) (a : Int) : Int := if a < 0 then -1 else match l[a.toNat]? with
 | none => -1
 | some (.mk k n b r) => match decide ((n : Int) > 2) with
  | true => -1
  | false => match It.beq (.mk k n b r) (.mk 0 n [] []) with
   | true => (n : Int)
   | false => -1
theorem av_typeAt [Known] (l : List It) (hws : wfs l) (a : Int) : AP Tryd.prog 45 [.sl .ext (itEs l), .int .i64 a] (.int .i64 (typeV l a)) [] := by
 have hlen := itEs_len l
 have hU := uniI l
 unfold typeV
 rcases Int.lt_or_le a 0 with h0 | h0
 ·have t1 : decide (a < 0) = true := decide_eq_true h0
  rw [if_pos h0]
  refine AP.ofA ?_
  refine AC_of Tryd.func45 rfl Tryd.ntmps45 rfl rfl ?_
  repeat' (first | (apply AL_go ttok; exact rfl) | (apply AW_go ttok; exact rfl) | (apply K_go ttok; exact rfl) | (apply AL_guardFf; (iterate 3 exact rfl); (first | with_reducible assumption | decide +kernel)) | (apply AL_pickT; exact rfl; (first | with_reducible assumption | decide +kernel); exact rfl; exact rfl) | (apply AW_condA; exact rfl; (first | with_reducible assumption | decide +kernel)) | (apply AW_drawE 27 hmix; (decide +kernel); (kernel_rfl); (kernel_rfl); (kernel_rfl); exact rfl; exact rfl) | (apply AE_consZ; (iterate 4 exact rfl)) | exact AE.nil _ _ _ _ | (apply AEk_puT; exact rfl) | (apply AOt_mk; exact rfl; exact rfl; (decide +kernel); exact rfl) | (apply AO_puT; exact rfl) | exact AO.nil _ _ _ | (apply AOs_skip; (decide +kernel)) | exact AOs.nil | exact qY_ok rfl rfl)
  all_goals (apply endQ []; (apply resG_ok ttok; exact rfl); (iterate 4 exact rfl))
  all_goals rfl
 have t1 : decide (a < 0) = false := decide_eq_false (by omega)
 rw [if_neg (by omega)]
 rcases Int.lt_or_le a l.length with h1 | h1
 case inr =>
  have t2 : decide (a ≥ ((itEs l).length : Int)) = true := decide_eq_true (by omega)
  rw [List.getElem?_eq_none (by omega)]
  refine AP.ofA ?_
  refine AC_of Tryd.func45 rfl Tryd.ntmps45 rfl rfl ?_
  repeat' (first | (apply AL_go ttok; exact rfl) | (apply AW_go ttok; exact rfl) | (apply K_go ttok; exact rfl) | (apply AL_guardT; (iterate 3 exact rfl); (first | with_reducible assumption | decide +kernel)) | (apply AL_guardFf; (iterate 3 exact rfl); (first | with_reducible assumption | decide +kernel)) | (apply AL_pickT; exact rfl; (first | with_reducible assumption | decide +kernel); exact rfl; exact rfl) | (apply AL_pickF; exact rfl; (first | with_reducible assumption | decide +kernel); exact rfl; exact rfl) | (apply AW_condA; exact rfl; (first | with_reducible assumption | decide +kernel)) | (apply AL_len ttok; (iterate 4 exact rfl)) | (apply AW_drawE 27 hmix; (decide +kernel); (kernel_rfl); (kernel_rfl); (kernel_rfl); exact rfl; exact rfl) | (apply AE_consZ; (iterate 4 exact rfl)) | exact AE.nil _ _ _ _ | (apply AEk_puT; exact rfl) | (apply AOt_mk; exact rfl; exact rfl; (decide +kernel); exact rfl) | (apply AO_puT; exact rfl) | exact AO.nil _ _ _ | (apply AOs_skip; (decide +kernel)) | exact AOs.nil | exact qY_ok rfl rfl)
  all_goals (apply endQ []; (apply resG_ok ttok; exact rfl); (iterate 4 exact rfl))
  all_goals rfl
 have t2 : decide (a ≥ ((itEs l).length : Int)) = false := decide_eq_false (by omega)
 obtain ⟨⟨k, n, b, l1⟩, hy⟩ : ∃ y, l[a.toNat]? = some y := ⟨_, List.getElem?_eq_getElem (by omega)⟩
 have hv : (itEs l)[a.toNat]? = some (.agg [.int .i64 k, .int .u64 (n : Int), .sl (b.map E.byte), .sl (itEs l1)]) := by
  rw [itEs_map, List.getElem?_map, hy]; rfl
 have hw := wfs_mem hws _ (List.mem_of_getElem? hy)
 have hS := av_same (.mk k n b l1) hw (.mk 0 n [] []) (by obtain ⟨h1, _⟩ := hw; exact ⟨h1, by simp, by simp, trivial⟩)
 have hN := av_num n
 rw [hy]
 dsimp only
 cases t3 : decide ((n : Int) > 2) with
 | true =>
  refine AP.ofA ?_
  refine AC_of Tryd.func45 rfl Tryd.ntmps45 rfl rfl ?_
  repeat' (first | (apply AL_go ttok; exact rfl) | (apply AW_go ttok; exact rfl) | (apply K_go ttok; exact rfl) | (apply AL_guardT; (iterate 3 exact rfl); (first | with_reducible assumption | decide +kernel)) | (apply AL_guardFf; (iterate 3 exact rfl); (first | with_reducible assumption | decide +kernel)) | (apply AL_pickT; exact rfl; (first | with_reducible assumption | decide +kernel); exact rfl; exact rfl) | (apply AL_pickF; exact rfl; (first | with_reducible assumption | decide +kernel); exact rfl; exact rfl) | (apply AW_condA; exact rfl; (first | with_reducible assumption | decide +kernel)) | (apply AL_len ttok; (iterate 4 exact rfl)) | (apply AW_drawE 27 hmix; (decide +kernel); (kernel_rfl); (kernel_rfl); (kernel_rfl); exact rfl; exact rfl) | (apply AE_consZ; (iterate 4 exact rfl)) | exact AE.nil _ _ _ _ | (apply AEk_puT; exact rfl) | (apply AOt_mk; exact rfl; exact rfl; (decide +kernel); exact rfl) | (apply AO_puT; exact rfl) | exact AO.nil _ _ _ | (apply AOs_skip; (decide +kernel)) | exact AOs.nil | exact qY_ok rfl rfl | (apply AL_idx ttok; (iterate 6 exact rfl); (first | with_reducible assumption | decide +kernel | exact Int.natCast_nonneg _ | (guard_target = (0:Int) <= (OfNat.ofNat _ : Int); decide) | rotate_left); (first | with_reducible assumption | decide +kernel | exact rfl); (first | exact uniB_ok rfl | with_reducible assumption | decide +kernel | rotate_left)))
  all_goals (apply endQ []; (apply resG_ok ttok; exact rfl); (iterate 4 exact rfl))
  all_goals rfl
 | false =>
  have en : IntKind.i64.wrap (n : Int) = (n : Int) := IntWalk.i64_in _ (by simp at t3; omega)
  cases t4 : It.beq (.mk k n b l1) (.mk 0 n [] []) with
  | true =>
   rw [t4] at hS
   refine AP.ofA ?_
   refine AC_of Tryd.func45 rfl Tryd.ntmps45 rfl rfl ?_
   repeat' (first | (apply AL_callPw (hN); kernel_rfl; (iterate 4 exact rfl)) | (apply AL_callPw (hS); kernel_rfl; (iterate 4 exact rfl)) | rw [en] | (apply AL_go ttok; exact rfl) | (apply AW_go ttok; exact rfl) | (apply K_go ttok; exact rfl) | (apply AL_guardT; (iterate 3 exact rfl); (first | with_reducible assumption | decide +kernel)) | (apply AL_pickF; exact rfl; (first | with_reducible assumption | decide +kernel); exact rfl; exact rfl) | (apply AW_condB; exact rfl; (first | with_reducible assumption | decide +kernel)) | (apply AL_len ttok; (iterate 4 exact rfl)) | (apply AW_drawE 27 hmix; (decide +kernel); (kernel_rfl); (kernel_rfl); (kernel_rfl); exact rfl; exact rfl) | (apply AE_consZ; (iterate 4 exact rfl)) | exact AE.nil _ _ _ _ | (apply AEk_puT; exact rfl) | (apply AOt_mk; exact rfl; exact rfl; (decide +kernel); exact rfl) | (apply AO_puT; exact rfl) | exact AO.nil _ _ _ | (apply AOs_skip; (decide +kernel)) | exact AOs.nil | exact qY_ok rfl rfl | (apply AL_idx ttok; (iterate 6 exact rfl); (first | with_reducible assumption | decide +kernel | exact Int.natCast_nonneg _ | (guard_target = (0:Int) <= (OfNat.ofNat _ : Int); decide) | rotate_left); (first | with_reducible assumption | decide +kernel | exact rfl); (first | exact uniB_ok rfl | with_reducible assumption | decide +kernel | rotate_left)))
   all_goals (apply endQ []; (apply resG_ok ttok; exact rfl); (iterate 4 exact rfl))
   all_goals rfl
  | false =>
   rw [t4] at hS
   refine AP.ofA ?_
   refine AC_of Tryd.func45 rfl Tryd.ntmps45 rfl rfl ?_
   repeat' (first | (apply AL_callPw (hN); kernel_rfl; (iterate 4 exact rfl)) | (apply AL_callPw (hS); kernel_rfl; (iterate 4 exact rfl)) | (apply AL_go ttok; exact rfl) | (apply AW_go ttok; exact rfl) | (apply K_go ttok; exact rfl) | (apply AL_guardT; (iterate 3 exact rfl); (first | with_reducible assumption | decide +kernel)) | (apply AL_pickF; exact rfl; (first | with_reducible assumption | decide +kernel); exact rfl; exact rfl) | (apply AW_condA; exact rfl; (first | with_reducible assumption | decide +kernel)) | (apply AL_len ttok; (iterate 4 exact rfl)) | (apply AW_drawE 27 hmix; (decide +kernel); (kernel_rfl); (kernel_rfl); (kernel_rfl); exact rfl; exact rfl) | (apply AE_consZ; (iterate 4 exact rfl)) | exact AE.nil _ _ _ _ | (apply AEk_puT; exact rfl) | (apply AOt_mk; exact rfl; exact rfl; (decide +kernel); exact rfl) | (apply AO_puT; exact rfl) | exact AO.nil _ _ _ | (apply AOs_skip; (decide +kernel)) | exact AOs.nil | exact qY_ok rfl rfl | (apply AL_idx ttok; (iterate 6 exact rfl); (first | with_reducible assumption | decide +kernel | exact Int.natCast_nonneg _ | (guard_target = (0:Int) <= (OfNat.ofNat _ : Int); decide) | rotate_left); (first | with_reducible assumption | decide +kernel | exact rfl); (first | exact uniB_ok rfl | with_reducible assumption | decide +kernel | rotate_left)))
   all_goals (apply endQ []; (apply resG_ok ttok; exact rfl); (iterate 4 exact rfl))
   all_goals rfl
end Go.Proofs.YtfkmicjlaedlkaaDoor
end
section
open Go.RowKit Go.Pl Go.Av
namespace Go.Proofs.YtfkmicjlaedlkaaDoor
set_option maxHeartbeats 1000000
def okB (m : Nat) (c : UInt8) : Bool := (97 <= c.toNat && c.toNat <= 122) || (48 <= c.toNat && c.toNat <= 57) || c.toNat == 45 || c.toNat == m
theorem okB_true {m : Nat} {c : UInt8} : okB m c = true ↔ (97 <= (c.toNat : Int) /\ (c.toNat : Int) <= 122) \/ (48 <= (c.toNat : Int) /\ (c.toNat : Int) <= 57) \/ (c.toNat : Int) = 45 \/ (c.toNat : Int) = (m : Int) := by
 simp only [okB, Bool.or_eq_true, Bool.and_eq_true, decide_eq_true_eq, beq_iff_eq]
 omega
theorem plain_walk (s : ByteArray) (m : Nat) (hm : m < 128) (w : World) (B : Bool) (hB : s.data.toList.all (okB m) = B) :
  Calls Tryd.prog 87 #[.string s, .int .i32 (m : Int)] w fun e w' => e = .returned (.bool B) /\ Below w.heap.size w w' := by
 have hT : (∀ j, j < s.size -> ∀ c, s.data.toList[j]? = some c -> okB m c = true) -> B = true := fun h => by
  rw [<- hB, List.all_eq_true]
  intro x hx
  obtain ⟨j, hj⟩ := List.getElem?_of_mem hx
  have hlt := (List.getElem?_eq_some_iff.1 hj).1
  exact h j (by simpa using hlt) x hj
 have hF : ∀ (j : Nat) (c : UInt8), s.data.toList[j]? = some c -> ¬ okB m c = true -> B = false := fun j c hj hc => by
  rw [<- hB, List.all_eq_false]
  exact ⟨c, List.mem_of_getElem? hj, hc⟩
 clear hB
 go_enter Tryd.func87, Tryd.ntmps87
 go_wp2
 go_loopw [] (fun w' => ∃ pos, w' = w.iter s pos /\ pos <= s.size /\ Hid (∀ j, j < pos -> ∀ c, s.data.toList[j]? = some c -> okB m c = true)) (fun w' => s.size - w'.iterPos w.heap.size)
 case atStart => exact ⟨0, rfl, Nat.zero_le _, fun j hj => by omega⟩
 case round =>
  obtain ⟨pos, rfl, hps, hall⟩ := hrel
  have hb : ∀ p, Below w.heap.size w (w.iter s p) := fun p => (Below.refl _ _).alloc (Nat.le_refl _) _
  by_cases hp : pos < s.size
  ·have hget : s.data.toList[pos]? = some (s[pos]'hp) := by
    have hlt : pos < s.data.toList.length := by simpa using hp
    rw [List.getElem?_eq_getElem hlt]; rfl
   by_cases ha : (s[pos]'hp).toNat < 128
   ·obtain ⟨c, hc⟩ : ∃ c, c = s[pos]'hp := ⟨_, rfl⟩
    have hnx : ∀ ty, (Instr.next (.pointer (some ⟨w.heap.size, 0, none⟩)) true ty).run Tryd.prog (w.iter s pos) = .ok (.tuple #[.bool true, .int .i64 pos, .int .i32 (c.toNat : Int)]) (w.iter s (pos + 1)) := fun ty => by
     rw [hc]; exact run_next_ascii w s pos ty hp ha
    rw [<- hc] at hget ha
    clear hc
    have hbad := hid (hF pos c hget)
    have hstep : Hid (okB m c = true -> ∀ j, j < pos + 1 -> ∀ c, s.data.toList[j]? = some c -> okB m c = true) := fun hc j hj c' hj' => by
     rcases Nat.lt_or_ge j pos with h | h
     ·exact hall j h c' hj'
     ·have : j = pos := by omega
      subst this
      rw [hget] at hj'
      injection hj' with hj'
      subst hj'
      exact hc
    clear hT hF hget
    go_wp2
    all_goals first
     | (go_ret
        have hBf := hbad (fun h => by rw [okB_true] at h; clear hbad hstep hnx; (try simp only [bne_iff_ne, ne_eq, bne_eq_false_iff_eq] at *); omega)
        subst hBf
        exact ⟨rfl, hb _⟩)
     | (refine ⟨⟨pos + 1, rfl, by omega, hstep ?_⟩, ?_⟩
        ·rw [okB_true]
         clear hbad hstep hnx
         try simp only [bne_iff_ne, ne_eq, bne_eq_false_iff_eq] at *
         omega
        ·simp; omega)
   ·obtain ⟨hd1, hd2⟩ := decode_high s pos hp (by omega)
    have hle := decode_le s pos
    have hnx : ∀ ty, (Instr.next (.pointer (some ⟨w.heap.size, 0, none⟩)) true ty).run Tryd.prog (w.iter s pos) = _ := fun ty => run_next_any w s pos ty hp
    have hBf := hF pos _ hget (fun h => by rw [okB_true] at h; omega)
    clear hT hF hget
    subst hBf
    generalize Utf8.decode s pos = dd at hd1 hd2 hle hnx
    have n1 : ¬ ((dd.1 : Int) < 97) := by omega
    have n2 : ((dd.1 : Int) > 122) := by omega
    have n3 : ¬ ((dd.1 : Int) < 48) := by omega
    have n4 : ((dd.1 : Int) > 57) := by omega
    have n5 : ¬ ((dd.1 : Int) = 45) := by omega
    have n6 : ¬ ((dd.1 : Int) = (m : Int)) := by omega
    go_wp2
    all_goals first
     | (go_ret; exact ⟨rfl, hb _⟩)
     | (exfalso; clear hnx hb hall; (try simp only [bne_iff_ne, ne_eq, bne_eq_false_iff_eq] at *); omega)
  ·have hnx : ∀ ty, (Instr.next (.pointer (some ⟨w.heap.size, 0, none⟩)) true ty).run Tryd.prog (w.iter s pos) = _ := fun ty => run_next_end w s pos ty hp
   have hBt := hT (fun j hj => hall j (by omega))
   subst hBt
   go_wp2
   go_ret
   exact ⟨rfl, hb _⟩
end Go.Proofs.YtfkmicjlaedlkaaDoor
end
section
open Go.RowKit Go.Pl Go.Av
namespace Go.Proofs.YtfkmicjlaedlkaaDoor
set_option maxHeartbeats 1000000
theorem av_plain [Known] (s : List UInt8) (m : Nat) (hm : m < 128) : AP Tryd.prog 87 [.str s, .int .i32 (m : Int)] (.bool (s.all (okB m))) [] := by
 refine ⟨fun g w vs hmem hl hv => ?_⟩
 obtain ⟨v0, v1, rfl⟩ : ∃ v0 v1, vs = [v0, v1] := by
  match vs, hl with
  | [v0, v1], _ => exact ⟨v0, v1, rfl⟩
 have h0 := (hv 0 _ _ rfl rfl).str_inv.1
 have h1 := (hv 1 _ _ rfl rfl).int_inv
 subst h0 h1
 exact (plain_walk ⟨s.toArray⟩ m hm w _ rfl).mono fun e w' ⟨he, hb⟩ => endBelow hmem hb he (.bool _)
structure EidV where
 i : Bool
 n : Nat
 s : Nat
 h : List UInt8
 d : List UInt8
 deriving DecidableEq
abbrev eC (x : EidV) : List D := [.bool x.i, .int .u64 (x.n : Int), .int .u64 (x.s : Int), .str x.h, .str x.d]
def eidZ : EidV := ⟨false, 0, 0, [], []⟩
def isZ (x : EidV) : Bool := x.i == false && ((x.n : Int) == 0 && ((x.s : Int) == 0 && (x.h == [] && (x.d == [] && true))))
def eRight (x : EidV) : Bool :=
 if isZ x then true
 else if x.i then (x.i == true && ((x.n : Int) == (x.n : Int) && ((x.s : Int) == (x.s : Int) && (x.h == [] && (x.d == [] && true))))) && decide ((x.n : Int) ≥ 1) && decide ((x.n : Int) <= 4294967295) && decide ((x.s : Int) <= 4294967295)
 else (x.i == false && ((x.n : Int) == 0 && ((x.s : Int) == 0 && (x.h == x.h && (x.d == x.d && true))))) && decide ((x.h.length : Int) ≥ 1) && decide ((x.h.length : Int) <= 16) && decide ((x.d.length : Int) <= 24) && x.h.all (okB 45) && x.d.all (okB 47)
theorem eRight_Z {x : EidV} (h : isZ x = true) : eRight x = true := by unfold eRight; rw [if_pos h]
theorem eRight_I {x : EidV} (h : isZ x = false) (hi : x.i = true) : eRight x = ((x.i == true && ((x.n : Int) == (x.n : Int) && ((x.s : Int) == (x.s : Int) && (x.h == [] && (x.d == [] && true))))) && decide ((x.n : Int) ≥ 1) && decide ((x.n : Int) <= 4294967295) && decide ((x.s : Int) <= 4294967295)) := by
 unfold eRight; rw [if_neg (by rw [h]; decide), if_pos hi]
theorem eRight_T {x : EidV} (h : isZ x = false) (hi : x.i = false) : eRight x = ((x.i == false && ((x.n : Int) == 0 && ((x.s : Int) == 0 && (x.h == x.h && (x.d == x.d && true))))) && decide ((x.h.length : Int) ≥ 1) && decide ((x.h.length : Int) <= 16) && decide ((x.d.length : Int) <= 24) && x.h.all (okB 45) && x.d.all (okB 47)) := by
 unfold eRight; rw [if_neg (by rw [h]; decide), if_neg (by rw [hi]; decide)]
theorem av_eRight [Known] (x : EidV) : AP Tryd.prog 59 [.agg (eC x)] (.bool (eRight x)) [] := by
 refine AP.ofA ?_
 refine AC_of Tryd.func59 rfl Tryd.ntmps59 rfl rfl ?_
 cases hz : isZ x with
 | true =>
  rw [eRight_Z hz]
  unfold isZ at hz
  repeat' (first | (apply AL_go ttok; exact rfl) | (apply AW_go ttok; exact rfl) | (apply K_go ttok; exact rfl) | (apply AW_condA; exact rfl; (first | with_reducible assumption | (solve | simp only [bn]))) | (apply AL_eqS ttok; (iterate 4 exact rfl); (kernel_rfl); (kernel_rfl); (iterate 3 exact rfl)))
  (apply endQ []; (apply resG_ok ttok; exact rfl); (iterate 4 exact rfl))
  all_goals rfl
 | false =>
  cases hi : x.i with
  | true =>
   rw [eRight_I hz hi]
   unfold isZ at hz
   repeat' (first | (apply AL_go ttok; exact rfl) | (apply AW_go ttok; exact rfl) | (apply K_go ttok; exact rfl) | (apply AL_guardT; (iterate 3 exact rfl); (first | with_reducible assumption | (solve | simp only [bn]))) | (apply AL_guardFt; (iterate 3 exact rfl); (first | with_reducible assumption | (solve | simp only [bn]))) | (apply AL_guardS; exact rfl; exact rfl; all_goals intro hb) | (apply AL_pickT; exact rfl; (first | with_reducible assumption | (solve | simp only [bn])); exact rfl; exact rfl) | (apply AL_pickF; exact rfl; (first | with_reducible assumption | (solve | simp only [bn])); exact rfl; exact rfl) | (apply AW_condA; exact rfl; (first | with_reducible assumption | (solve | simp only [bn]))) | (apply AW_condB; exact rfl; (first | with_reducible assumption | (solve | simp only [bn]))) | (apply AL_eqS ttok; (iterate 4 exact rfl); (kernel_rfl); (kernel_rfl); (iterate 3 exact rfl)))
   all_goals (apply endQ []; (apply resG_ok ttok; exact rfl); (iterate 4 exact rfl))
   all_goals first | rfl | (clear hi hz; simp only [*]; done) | (clear hi hz; simp only [*]; simp only [Bool.and_true, Bool.true_and, Bool.and_false, Bool.false_and]; done)
  | false =>
   rw [eRight_T hz hi]
   unfold isZ at hz
   repeat' (first | (apply AL_callPw (av_plain x.h 45 (by decide)); kernel_rfl; (iterate 4 exact rfl)) | (apply AL_callPw (av_plain x.d 47 (by decide)); kernel_rfl; (iterate 4 exact rfl)) | (apply AL_go ttok; exact rfl) | (apply AW_go ttok; exact rfl) | (apply K_go ttok; exact rfl) | (apply AL_guardT; (iterate 3 exact rfl); (first | with_reducible assumption | (solve | simp only [bn]))) | (apply AL_guardFt; (iterate 3 exact rfl); (first | with_reducible assumption | (solve | simp only [bn]))) | (apply AL_guardS; exact rfl; exact rfl; all_goals intro hb) | (apply AL_pickT; exact rfl; (first | with_reducible assumption | (solve | simp only [bn])); exact rfl; exact rfl) | (apply AL_pickF; exact rfl; (first | with_reducible assumption | (solve | simp only [bn])); exact rfl; exact rfl) | (apply AW_condB; exact rfl; (first | with_reducible assumption | (solve | simp only [bn]))) | (apply AL_lens ttok; (iterate 4 exact rfl)) | (apply AL_eqS ttok; (iterate 4 exact rfl); (kernel_rfl); (kernel_rfl); (iterate 3 exact rfl)))
   all_goals (apply endQ []; (apply resG_ok ttok; exact rfl); (iterate 4 exact rfl))
   all_goals first | rfl | (clear hi hz; simp only [*]; done) | (clear hi hz; simp only [*]; simp only [Bool.and_true, Bool.true_and, Bool.and_false, Bool.false_and]; done)
end Go.Proofs.YtfkmicjlaedlkaaDoor
end
section
open Go.RowKit Go.Pl Go.Av
namespace Go.Proofs.YtfkmicjlaedlkaaDoor
set_option maxHeartbeats 4000000
abbrev half (s : Int) : Int := s.fdiv (2 ^ (min (Int.toNat 1) IntKind.u32.bits))
def halveI (s p : Int) : Int := match (bits .and .u32 s 1 == 1) with
 | true => bits .xor .u32 (half s) p
 | false => half s
theorem av_halve [Known] (s p : Int) : AP Tryd.prog 128 [.int .u32 s, .int .u32 p] (.int .u32 (halveI s p)) [] := by
 unfold halveI
 cases t : (bits .and .u32 s 1 == 1)
 all_goals
  refine AP.ofA ?_
  refine AC_of Tryd.func128 rfl Tryd.ntmps128 rfl rfl ?_
  repeat' (first | (apply AL_go ttok; exact rfl) | (apply AW_go ttok; exact rfl) | (apply AW_condA; exact rfl; (first | with_reducible assumption | decide +kernel)) | (apply AW_condB; exact rfl; (first | with_reducible assumption | decide +kernel)) | (apply AL_shr; exact rfl; exact rfl; (first | with_reducible assumption | decide +kernel | exact Int.natCast_nonneg _ | (exact (by decide)) | rotate_left); exact rfl))
  all_goals (apply endQ []; (apply resG_ok ttok; exact rfl); (iterate 4 exact rfl))
  all_goals rfl
def byteI (s : Int) (c : UInt8) (p : Int) : Int :=
 halveI (halveI (halveI (halveI (halveI (halveI (halveI (halveI (bits .xor .u32 s (IntKind.u32.wrap (c.toNat : Int))) p) p) p) p) p) p) p) p
theorem av_byteOn [Known] (s p : Int) (c : UInt8) : AP Tryd.prog 115 [.int .u32 s, .int .u8 (c.toNat : Int), .int .u32 p] (.int .u32 (byteI s c p)) [] := by
 refine AP.ofA ?_
 refine AC_of Tryd.func115 rfl Tryd.ntmps115 rfl rfl ?_
 repeat' (first | (apply AL_callPw (av_halve _ _); kernel_rfl; (iterate 4 exact rfl)) | refine AW_loopN 20 ?_ | refine AN_succ ?_ | (apply AL_go ttok; exact rfl) | (apply AW_go ttok; exact rfl) | (apply AW_condA; exact rfl; (first | with_reducible assumption | decide +kernel)) | (apply AW_condB; exact rfl; (first | with_reducible assumption | decide +kernel)))
 all_goals (apply endQ []; (apply resG_ok ttok; exact rfl); (iterate 4 exact rfl))
 all_goals rfl
def runI (s p : Int) (b : List UInt8) : Int := b.foldl (fun s c => byteI s c p) s
theorem av_run [Known] (s p : Int) (b : List UInt8) (hb : b.length <= 1000000000) : AP Tryd.prog 99 [.int .u32 s, byE b, .int .u32 p] (.int .u32 (runI s p b)) [] := by
 have hl : (b.map E.byte).length = b.length := List.length_map ..
 have hU := uniB1 b
 generalize hfin : runI s p b = fin
 refine AP.ofA ?_
 refine AC_of Tryd.func99 rfl Tryd.ntmps99 rfl rfl ?_
 repeat' (first | (apply AL_go ttok; exact rfl) | (apply AW_go ttok; exact rfl) | (apply AL_len ttok; (iterate 4 exact rfl)))
 refine AW_loopJ (fun k tm bx fr => ∃ (i : Nat) (q : Int) (o : D), k + i = b.length /\ runI q p (b.drop i) = fin /\ tm = [(0, .int .u32 q), (1, byE b), (2, .int .u32 p), (6, .int .u32 0), (9, byE b), (10, .int .i64 (b.length : Int)), (11, .int .i64 (i : Int))] /\ bx = [] /\ fr = []) (b.length + 1) (Lands.mk' (m := b.length) (Nat.lt_succ_self _) ⟨0, s, .tup [], by omega, hfin, rfl, rfl, rfl⟩ ?_ rfl rfl rfl rfl rfl rfl) ?_
 ·exact .cons rfl (.cons rfl (.cons rfl (.cons rfl (.cons rfl (.cons (by rw [<- hl]; rfl) (.cons rfl .nil))))))
 rintro k tm bx fr ⟨i, q, o, hk, hq, rfl, rfl, rfl⟩
 rcases Nat.lt_or_ge i b.length with hlt | hge
 ·have hd : decide ((i : Int) < (b.length : Int)) = true := decide_eq_true (by omega)
  obtain ⟨c, hc⟩ : ∃ c, b[i]? = some c := ⟨_, List.getElem?_eq_getElem hlt⟩
  have hv : (b.map E.byte)[((i : Nat) : Int).toNat]? = some (E.byte c) := by
   rw [Int.toNat_natCast, List.getElem?_map, hc]; rfl
  have hdr : b.drop i = c :: b.drop (i + 1) := by
   rw [List.drop_eq_getElem_cons hlt]; congr 1
   exact (List.getElem?_eq_some_iff.1 hc).2
  rw [hdr] at hq
  have hq2 : runI (byteI q c p) p (b.drop (i + 1)) = fin := hq
  have ei : IntKind.i64.wrap ((i : Int) + 1) = ((i + 1 : Nat) : Int) := by rw [IntWalk.i64_in _ (by omega)]; omega
  repeat' (first | (apply AL_callPw (av_byteOn _ _ _); kernel_rfl; (iterate 4 exact rfl)) | rw [ei] | (apply AL_go ttok; exact rfl) | (apply AW_go ttok; exact rfl) | (apply AW_condA; exact rfl; (first | with_reducible assumption | decide +kernel)) | (apply AL_idx ttok; (iterate 6 exact rfl); (first | with_reducible assumption | decide +kernel | exact Int.natCast_nonneg _ | (guard_target = (0:Int) <= (OfNat.ofNat _ : Int); decide) | rotate_left); (first | with_reducible assumption | decide +kernel | exact rfl); (first | exact uniB_ok rfl | with_reducible assumption | decide +kernel | rotate_left)))
  refine Lands.mk' (m := k - 1) (by omega) ⟨i + 1, _, .tup [], by omega, hq2, rfl, rfl, rfl⟩ ?_ rfl rfl rfl rfl rfl rfl
  exact .cons rfl (.cons rfl (.cons rfl (.cons rfl (.cons rfl (.cons rfl (.cons rfl .nil))))))
 ·have hd : decide ((i : Int) < (b.length : Int)) = false := decide_eq_false (by omega)
  rw [List.drop_eq_nil_of_le hge] at hq
  have hq : q = fin := hq
  subst hq
  repeat' (first | (apply AW_go ttok; exact rfl) | (apply AW_condB; exact rfl; (first | with_reducible assumption | decide +kernel)))
  all_goals (apply endQ []; (apply resG_ok ttok; exact rfl); (iterate 4 exact rfl))
  all_goals rfl
def shortV (b : List UInt8) : Int := bits .xor .u16 (if IntKind.u16.signed then -1 else IntKind.u16.max) (IntKind.u16.wrap (runI 65535 33800 b))
def longV (b : List UInt8) : Int := bits .xor .u32 (if IntKind.u32.signed then -1 else IntKind.u32.max) (runI 4294967295 2197175160 b)
theorem av_short [Known] (b : List UInt8) (hb : b.length <= 1000000000) : AP Tryd.prog 74 [byE b] (.int .u16 (shortV b)) [] := by
 have hR := av_run 65535 33800 b hb
 refine AP.ofA ?_
 refine AC_of Tryd.func74 rfl Tryd.ntmps74 rfl rfl ?_
 repeat' (first | (apply AL_callPw (hR); kernel_rfl; (iterate 4 exact rfl)) | (apply AL_unx; exact rfl; exact rfl) | (apply AL_go ttok; exact rfl) | (apply AW_go ttok; exact rfl))
 all_goals (apply endQ []; (apply resG_ok ttok; exact rfl); (iterate 4 exact rfl))
 all_goals rfl
theorem av_long [Known] (b : List UInt8) (hb : b.length <= 1000000000) : AP Tryd.prog 75 [byE b] (.int .u32 (longV b)) [] := by
 have hR := av_run 4294967295 2197175160 b hb
 refine AP.ofA ?_
 refine AC_of Tryd.func75 rfl Tryd.ntmps75 rfl rfl ?_
 repeat' (first | (apply AL_callPw (hR); kernel_rfl; (iterate 4 exact rfl)) | (apply AL_unx; exact rfl; exact rfl) | (apply AL_go ttok; exact rfl) | (apply AW_go ttok; exact rfl))
 all_goals (apply endQ []; (apply resG_ok ttok; exact rfl); (iterate 4 exact rfl))
 all_goals rfl
end Go.Proofs.YtfkmicjlaedlkaaDoor
end
section
open Go.RowKit Go.Pl Go.Av
namespace Go.Proofs.YtfkmicjlaedlkaaDoor
set_option maxHeartbeats 1000000
theorem av_follow [Known] (n : Nat) : AP Tryd.prog 110 [.int .u64 (n : Int)] (.int .i64 (followN n)) [] := by
 refine AC_of Tryd.func110 rfl Tryd.ntmps110 rfl rfl ?_
 repeat' (first | (apply AW_go ttok; exact rfl) | (apply K_go ttok; exact rfl) | (apply AW_cond'; exact rfl; all_goals intro hb))
 all_goals refine end0 (.cons _ _ _ _ (.tmp _ _ rfl) .nil) (okSel_nil _) rfl ?_ rfl
 all_goals simp only [decide_eq_true_eq, decide_eq_false_iff_not] at *
 all_goals (congr 1; unfold followN; (repeat' split) <;> omega)
theorem av_may [Known] (m : Int) : AP Tryd.prog 126 [.int .i64 m] (.bool (mayB m)) [] := by
 refine AC_of Tryd.func126 rfl Tryd.ntmps126 rfl rfl ?_
 repeat' (first | (apply AL_go ttok; exact rfl) | (apply AW_go ttok; exact rfl) | (apply AL_guardT; (iterate 3 exact rfl); (first | with_reducible assumption | (solve | simp only [bn]))) | (apply AL_guardFt; (iterate 3 exact rfl); (first | with_reducible assumption | (solve | simp only [bn]))) | (apply AL_guardFf; (iterate 3 exact rfl); (first | with_reducible assumption | (solve | simp only [bn]))) | (apply AL_guardS; exact rfl; exact rfl; all_goals intro hb) | (apply AL_pickT; exact rfl; (first | with_reducible assumption | (solve | simp only [bn])); exact rfl; exact rfl) | (apply AL_pickF; exact rfl; (first | with_reducible assumption | (solve | simp only [bn])); exact rfl; exact rfl))
 all_goals refine end0 (.cons _ _ _ _ (.tmp _ _ rfl) .nil) (okSel_nil _) rfl ?_ rfl
 all_goals (congr 1; rw [Bool.eq_iff_iff]; simp [mayB] at *; omega)
def hd (h : Hd) : D := .agg [.int .i64 h.1, .int .u64 (h.2.1 : Int), .bool h.2.2]
theorem av_right [Known] (h : Hd) : AP Tryd.prog 108 [hd h] (.bool (rightB h)) [] := by
 refine AC_of Tryd.func108 rfl Tryd.ntmps108 rfl rfl ?_
 repeat' (first | (apply AL_callP (av_may _); kernel_rfl; (iterate 4 exact rfl)) | (apply AL_go ttok; exact rfl) | (apply AW_go ttok; exact rfl) | (apply AL_guardT; (iterate 3 exact rfl); (first | with_reducible assumption | (solve | simp only [bn]))) | (apply AL_guardFt; (iterate 3 exact rfl); (first | with_reducible assumption | (solve | simp only [bn]))) | (apply AL_guardS; exact rfl; exact rfl; all_goals intro hb) | (apply AL_pickT; exact rfl; (first | with_reducible assumption | (solve | simp only [bn])); exact rfl; exact rfl) | (apply AL_pickF; exact rfl; (first | with_reducible assumption | (solve | simp only [bn])); exact rfl; exact rfl) | (apply AW_cond'; exact rfl; all_goals intro hb) | (apply AL_eqS ttok; (iterate 4 exact rfl); (kernel_rfl); (kernel_rfl); (iterate 3 exact rfl)))
 all_goals refine end0 (.cons _ _ _ _ (.tmp _ _ rfl) .nil) (okSel_nil _) rfl ?_ rfl
 all_goals (obtain ⟨m, n, o⟩ := h; congr 1; rw [Bool.eq_iff_iff]; simp_all [rightB, mayB]; try omega)
theorem info_of (n : Nat) : (followN n = 0 /\ infoN n = n /\ n < 24) \/ (followN n = 1 /\ infoN n = 24) \/ (followN n = 2 /\ infoN n = 25) \/ (followN n = 4 /\ infoN n = 26) \/ (followN n = 8 /\ infoN n = 27) := by
 unfold followN infoN
 by_cases h1 : n < 24
 ·simp [h1]
 by_cases h2 : n < 256
 ·simp [h1, h2]
 by_cases h3 : n < 65536
 ·simp [h1, h2, h3]
 by_cases h4 : n < 4294967296
 ·simp [h1, h2, h3, h4]
 ·simp [h1, h2, h3, h4]
theorem av_info [Known] (n : Nat) : AP Tryd.prog 109 [.int .u64 (n : Int)] (.int .u8 (infoN n)) [] := by
 refine AC_of Tryd.func109 rfl Tryd.ntmps109 rfl rfl ?_
 repeat' (first | (apply AL_callP (av_follow _); kernel_rfl; (iterate 4 exact rfl)) | (apply AL_go ttok; exact rfl) | (apply AW_go ttok; exact rfl) | (apply K_go ttok; exact rfl) | (apply AW_cond'; exact rfl; all_goals intro hb))
 all_goals refine end0 (.cons _ _ _ _ (.tmp _ _ rfl) .nil) (okSel_nil _) rfl ?_ rfl
 all_goals (rcases info_of n with ⟨h1, h2, h3⟩ | ⟨h1, h2⟩ | ⟨h1, h2⟩ | ⟨h1, h2⟩ | ⟨h1, h2⟩ <;> simp_all)
 all_goals (rw [IntKind.wrap_u8']; omega)
theorem first_eq (m : Int) (i : Nat) (hm : 0 <= m /\ m <= 7) (hi : i < 32) : bits .or .u8 (IntKind.u8.wrap (IntKind.u8.wrap m * 2 ^ min (Int.toNat 5) IntKind.u8.bits)) (i : Int) = ((firstB m.toNat i).toNat : Int) := by
 have e2 : IntKind.u8.wrap (IntKind.u8.wrap m * 2 ^ min (Int.toNat 5) IntKind.u8.bits) = (m.toNat : Int) * 32 := by
  rw [show min (Int.toNat 5) IntKind.u8.bits = 5 from rfl, IntKind.wrap_u8', IntKind.wrap_u8']; omega
 rw [e2, or32 m.toNat i (by omega) hi]
 unfold firstB
 rw [UInt8.toNat_ofNat']
 omega
theorem right_m {h : Hd} (hr : rightB h = true) : 0 <= h.1 /\ h.1 <= 7 := by
 obtain ⟨m, n, o⟩ := h
 cases o <;> simp [rightB, mayB] at hr <;> omega
theorem byte_eq (n q : Nat) (hq : q < 8) : E.int .u8 (IntKind.u8.wrap ((n : Int).fdiv (2 ^ min (IntKind.i64.wrap (8 * (q : Int))).toNat IntKind.u64.bits))) = E.byte (UInt8.ofNat (n / 256 ^ q)) := by
 have e : IntKind.i64.wrap (8 * (q : Int)) = ((8 * q : Nat) : Int) := by rw [IntWalk.i64_in _ (by omega)]; omega
 rw [e, Int.toNat_natCast, show min (8 * q) IntKind.u64.bits = 8 * q from Nat.min_eq_left (by show 8 * q <= 64; omega)]
 rw [show ((n : Int).fdiv (2 ^ (8 * q))) = ((n / 256 ^ q : Nat) : Int) from by
  have e : (2 : Int) ^ (8 * q) = ((256 ^ q : Nat) : Int) := by
   rw [show (256 : Nat) = 2 ^ 8 from rfl, <- Nat.pow_mul]
   simp
  rw [e, Int.fdiv_eq_ediv_of_nonneg _ (Int.natCast_nonneg _), <- Int.natCast_ediv]]
 rw [IntKind.wrap_u8']
 unfold E.byte
 rw [UInt8.toNat_ofNat']
 congr 1
theorem av_write [Known] (h : Hd) (hn : h.2.1 < 18446744073709551616) : AP Tryd.prog 93 [hd h] (.tup [byE (if rightB h then writeL h else []), .int .i64 (if rightB h then 0 else 3)]) [] := by
 refine AP.weak ?_
 have HR := @right_m h
 have HN := hid hn
 clear hn
 refine AC_of Tryd.func93 rfl Tryd.ntmps93 rfl rfl ?_
 repeat' (first | (apply AL_callP (av_right h); kernel_rfl; (iterate 4 exact rfl)) | (apply AL_callP (av_info _); kernel_rfl; (iterate 4 exact rfl)) | (apply AL_callP (av_follow _); kernel_rfl; (iterate 4 exact rfl)) | (apply AL_shl; exact rfl; exact rfl; (exact (by decide)); exact rfl) | (apply AL_go ttok; exact rfl) | (apply AW_go ttok; exact rfl) | (apply K_go ttok; exact rfl) | (apply AW_cond'; exact rfl; all_goals intro hb) | (apply AL_bs ttok; (iterate 12 exact rfl)) | (apply AW_drawM 7 hmix; (decide +kernel); (kernel_rfl); (kernel_rfl); exact rfl; exact rfl) | (apply AD_cons; (iterate 3 exact rfl)) | refine AD.nil _ | exact qp_ok rfl)
 ·refine endW (.cons _ _ _ _ (.tmp _ _ rfl) (.cons _ _ _ _ (.tmp _ _ rfl) .nil)) rfl ?_
  simp_all [byE]
 ·refine endW (.cons _ _ _ _ (.tmp _ _ rfl) (.cons _ _ _ _ (.tmp _ _ rfl) .nil)) rfl ?_
  have hr : rightB h = true := by simpa using (‹(!rightB h) = false›)
  rw [if_pos hr, if_pos hr, show writeL h = [firstB h.1.toNat 31] by simp [writeL, hb], show E.int IntKind.u8 (bits .or .u8 (IntKind.u8.wrap (IntKind.u8.wrap h.1 * 2 ^ min (Int.toNat 5) IntKind.u8.bits)) 31) = E.byte (firstB h.1.toNat 31) from congrArg _ (first_eq h.1 31 (HR hr) (by omega))]
  rfl
 rename_i hb1
 have hr : rightB h = true := by simpa using hb1
 have hw : writeL h = firstB h.1.toNat (infoN h.2.1) :: beN h.2.1 (followN h.2.1) := by simp [writeL, hb]
 have hlen : (beN h.2.1 (followN h.2.1)).length = followN h.2.1 := beN_length _ _
 have hf8 := followN_le h.2.1
 refine AW_loopJ (fun k tm bx fr => ∃ (i c : Nat) (L : List E), k + i = followN h.2.1 /\ c = L.length /\ c = i + 1 /\ L = ((writeL h).take (i + 1)).map E.byte /\ tm = [(33, .int .i64 (i : Int)), (32, .int .i64 (followN h.2.1 : Int)), (5, .int .i64 (followN h.2.1 : Int)), (4, .sl (.own 0) L), (3, .int .i64 0), (1, .ptr 0 0)] /\ bx = [[.int .i64 h.1, .int .u64 (h.2.1 : Int), .bool h.2.2]] /\ fr = [⟨c, 1, 5⟩]) (followN h.2.1 + 1) (Lands.mk' (m := followN h.2.1) (Nat.lt_succ_self _) ⟨0, 1, [E.byte (firstB h.1.toNat (infoN h.2.1))], rfl, rfl, rfl, by rw [hw]; rfl, rfl, rfl, rfl⟩ ?_ rfl rfl rfl rfl rfl rfl) ?_
 ·repeat' (first | exact Av.Sub.nil | refine Av.Sub.cons rfl ?_ | refine Av.Sub.cons ?_ ?_)
  have e := congrArg (fun x : Int => D.sl (.own 0) [E.int .u8 x]) (first_eq h.1 (infoN h.2.1) (HR hr) (by have := infoN_le h.2.1; omega))
  exact e
 rintro k tm bx fr ⟨i, c, L, hk, hc, hi, hL, rfl, rfl, rfl⟩
 have hU : Uni 1 L := hL ▸ uniB1 _
 repeat' (first | (apply AL_shr; exact rfl; exact rfl; rotate_left; exact rfl) | (apply AL_go ttok; exact rfl) | (apply AW_go ttok; exact rfl) | (apply AW_cond'; exact rfl; all_goals intro hb) | (apply AL_bs ttok; (iterate 12 exact rfl)) | (apply AL_append ttok; (iterate 6 exact rfl); (first | with_reducible assumption | exact rfl | rotate_left); exact rfl; exact rfl; (first | exact uniB_ok rfl | with_reducible assumption | rotate_left); (first | exact uniB_ok rfl | with_reducible assumption | rotate_left); (first | exact List.cons_ne_nil _ _ | with_reducible assumption | rotate_left); (first | with_reducible assumption | rotate_left); (first | with_reducible assumption | rotate_left); exact rfl; exact rfl))
 ·have hlt : i < followN h.2.1 := by have := of_decide_eq_true hb; omega
  have hx : IntKind.i64.wrap (IntKind.i64.wrap (↑(followN h.2.1) - 1) - ↑i) = ((followN h.2.1 - 1 - i : Nat) : Int) := by
   rw [IntWalk.i64_in ((followN h.2.1 : Int) - 1) (by omega), IntWalk.i64_in _ (by omega)]; omega
  refine Lands.mk' (m := k - 1) (by omega) ⟨i + 1, L.length + 1, L ++ [E.byte (UInt8.ofNat (h.2.1 / 256 ^ (followN h.2.1 - 1 - i)))], by omega, by simp, by omega, ?_, rfl, rfl, rfl⟩ ?_ rfl rfl rfl rfl rfl rfl
  ·rw [hL, hw, List.take_succ_cons, List.take_succ_cons, beN_take_succ _ _ _ hlt]
   simp
  ·refine .cons ?_ (.cons rfl (.cons rfl (.cons ?_ (.cons rfl (.cons rfl .nil)))))
   ·exact congrArg (D.int .i64) (IntWalk.i64_in _ (by omega))
   ·have e := congrArg (fun x => D.sl (.own 0) (L ++ [x])) (byte_eq h.2.1 (followN h.2.1 - 1 - i) (by omega))
    rw [<- hx] at e
    exact e
 ·have := of_decide_eq_true hb; show L.length + 1 <= maxLen; unfold maxLen; omega
 ·have := of_decide_eq_true hb; show (L.length + 1) * 1 <= 140737488355328; omega
 ·have := of_decide_eq_true hb
  have hx : IntKind.i64.wrap (IntKind.i64.wrap (↑(followN h.2.1) - 1) - ↑i) = ((followN h.2.1 - 1 - i : Nat) : Int) := by
   rw [IntWalk.i64_in ((followN h.2.1 : Int) - 1) (by omega), IntWalk.i64_in _ (by omega)]; omega
  rw [hx, IntWalk.i64_in _ (by omega)]; omega
 ·refine endW (.cons _ _ _ _ (.tmp _ _ rfl) (.cons _ _ _ _ (.tmp _ _ rfl) .nil)) rfl ?_
  rw [if_pos hr, if_pos hr, hL]
  have := of_decide_eq_false hb
  rw [List.take_of_length_le (by rw [hw, List.length_cons, hlen]; omega)]
end Go.Proofs.YtfkmicjlaedlkaaDoor
end

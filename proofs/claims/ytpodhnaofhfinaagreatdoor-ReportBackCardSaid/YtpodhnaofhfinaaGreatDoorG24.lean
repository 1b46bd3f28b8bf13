/- Items: what is shortest. -/
import Derived.Test.YtpodhnaofhfinaaGreatDoorG13
import Derived.Test.YtpodhnaofhfinaaGreatDoorG22
import Derived.Test.YtpodhnaofhfinaaGreatDoorG23
import Derived.Test.YtpodhnaofhfinaaGreatDoorG19
import Derived.Test.YtpodhnaofhfinaaGreatDoorG16
import Derived.Test.YtpodhnaofhfinaaGreatDoorG09
import Derived.Test.YtpodhnaofhfinaaGreatDoorG12
import Derived.Test.YtpodhnaofhfinaaGreatDoorG10
set_option linter.unusedVariables false
set_option linter.unusedSimpArgs false
section
open Go.RowKit Go.Pl Go.Av
namespace Go.Proofs.YtpodhnaofhfinaaGreatDoor
set_option maxHeartbeats 4000000
theorem rdE0 {s : List UInt8} {e : Nat} (h : rdS s = .error e) : e ≠ 0 := by
 cases s with
 | nil => simp only [rdS, Except.error.injEq] at h; omega
 | cons c r =>
  simp only [rdS] at h
  repeat' split at h
  all_goals (cases h; try omega)
theorem piece_err {p : Hd} {s : List UInt8} {e : Nat} (h : pieceS p s = .error e) : e ≠ 0 := by
 simp only [pieceS] at h
 repeat' split at h
 all_goals (cases h; try omega)
theorem str_err (m : Int) : ∀ (f : Nat) (acc s : List UInt8) (e : Nat), strS m f acc s = .error e -> e ≠ 0
 | 0, _, _, e, h => by simp only [strS, Except.error.injEq] at h; omega
 | f + 1, acc, s, e, h => by
  rw [strS] at h
  cases hb : endB s <;> rw [hb] at h
  ·cases hr : rdS s with
   | error c => rw [hr] at h; dsimp only at h; simp only [Except.error.injEq] at h; exact h ▸ rdE0 hr
   | ok y =>
    obtain ⟨p, r⟩ := y
    rw [hr] at h; dsimp only at h
    split at h
    ·cases hp : pieceS p r with
     | error c => rw [hp] at h; dsimp only at h; simp only [Except.error.injEq] at h; exact h ▸ piece_err hp
     | ok z => rw [hp] at h; exact str_err m f _ _ e h
    ·simp only [Except.error.injEq] at h; omega
  ·exact nomatch h
theorem lstN_err {it : Nat -> List UInt8 -> Res (It × List UInt8 × Nat)} (hi : ∀ m s e, it m s = .error e -> e ≠ 0) : ∀ (f : Nat) (acc : List It) (m : Nat) (s : List UInt8) (e : Nat), lstN it f acc m s = .error e -> e ≠ 0
 | 0, _, _, _, _, h => nomatch h
 | f + 1, acc, m, s, e, h => by
  rw [lstN] at h
  cases hr : it m s with
  | error c => rw [hr] at h; dsimp only at h; simp only [Except.error.injEq] at h; exact h ▸ hi _ _ _ hr
  | ok y => obtain ⟨x, r, m'⟩ := y; rw [hr] at h; exact lstN_err hi f _ _ _ e h
theorem lstO_err {it : Nat -> List UInt8 -> Res (It × List UInt8 × Nat)} (hi : ∀ m s e, it m s = .error e -> e ≠ 0) : ∀ (f : Nat) (acc : List It) (m : Nat) (s : List UInt8) (e : Nat), lstO it f acc m s = .error e -> e ≠ 0
 | 0, _, _, _, e, h => by simp only [lstO, Except.error.injEq] at h; omega
 | f + 1, acc, m, s, e, h => by
  rw [lstO] at h
  cases hb : endB s <;> rw [hb] at h
  ·cases hr : it m s with
   | error c => rw [hr] at h; dsimp only at h; simp only [Except.error.injEq] at h; exact h ▸ hi _ _ _ hr
   | ok y => obtain ⟨x, r, m'⟩ := y; rw [hr] at h; exact lstO_err hi f _ _ _ e h
  ·exact nomatch h
theorem body_err {it : Nat -> List UInt8 -> Res (It × List UInt8 × Nat)} (hi : ∀ m s e, it m s = .error e -> e ≠ 0) {p : Hd} {m : Nat} {r : List UInt8} {e : Nat} (h : bodyS it p m r = .error e) : e ≠ 0 := by
 have h1 : ∀ e, txtS p r = .error e -> e ≠ 0 := by
  intro e h; simp only [txtS] at h
  split at h
  ·exact str_err _ _ _ _ _ h
  ·exact piece_err h
 have h2 : ∀ e, lisS it p m r = .error e -> e ≠ 0 := by
  intro e h; simp only [lisS] at h
  split at h
  ·exact lstO_err hi _ _ _ _ _ h
  ·split at h
   ·exact lstN_err hi _ _ _ _ _ h
   ·cases h; omega
 simp only [bodyS] at h
 repeat' split at h
 all_goals first
  | (cases h; done)
  | (rename_i hq; cases h; exact h1 _ hq)
  | (rename_i hq; cases h; exact h2 _ hq)
theorem item_err : ∀ (d m : Nat) (s : List UInt8) (e : Nat), itemS d m s = .error e -> e ≠ 0
 | 0, m, s, e, h => by
  rw [itemS] at h
  cases hr : rdS s with
  | error c => rw [hr] at h; dsimp only at h; simp only [Except.error.injEq] at h; exact h ▸ rdE0 hr
  | ok y =>
   obtain ⟨p, r⟩ := y
   rw [hr] at h; dsimp only at h
   split at h <;> (simp only [Except.error.injEq] at h; omega)
 | d + 1, m, s, e, h => by
  rw [itemS] at h
  cases hr : rdS s with
  | error c => rw [hr] at h; dsimp only at h; simp only [Except.error.injEq] at h; exact h ▸ rdE0 hr
  | ok y =>
   obtain ⟨p, r⟩ := y
   rw [hr] at h; dsimp only at h
   split at h
   ·simp only [Except.error.injEq] at h; omega
   ·split at h
    ·simp only [Except.error.injEq] at h; omega
    ·exact body_err (item_err d) h
theorem av_shortestI [Known] [KnownU8] (b : List UInt8) (hb : b.length < 4294967296) : AP Tryz.prog 75 [byE b] (.bool (shortI b)) [] := by
 have hR := av_readC b 0 (by omega)
 have e : readI b 0 = match itemS 6 256 b with
   | .error e => (.mk 0 0 [] [], 0, e)
   | .ok (x, r, _) => (x, b.length - r.length, 0) := by rw [readI, if_neg (by omega)]; rfl
 rw [e] at hR
 unfold shortI
 cases hx : itemS 6 256 b with
 | error c =>
  rw [hx] at hR
  dsimp only
  have hc : ((c : Int) == 0) = false := by
   have h0 := item_err _ _ _ _ hx
   rw [<- Bool.not_eq_true, beq_iff_eq]; omega
  replace hR : AP Tryz.prog _ _ (.tup [itD (.mk 0 0 [] []), .int .i64 0, .int .i64 (c : Int)]) [] := hR
  refine AP.ofA ?_
  refine AC_of Tryz.func75 rfl Tryz.ntmps75 rfl rfl ?_
  repeat' (first | rw [hc] | (apply AL_callPw (hR); kernel_rfl; (iterate 4 exact rfl)) | (apply AL_go ttok; exact rfl) | (apply AW_go ttok; exact rfl) | (apply AL_guardFt; (iterate 3 exact rfl); (first | with_reducible assumption | decide +kernel)) | (apply AL_pickF; exact rfl; (first | with_reducible assumption | decide +kernel); exact rfl; exact rfl))
  all_goals (apply endQ []; (apply resG_ok ttok; exact rfl); (iterate 4 exact rfl))
  all_goals rfl
 | ok y =>
  obtain ⟨⟨k1, n1, b1, l1⟩, r, m1⟩ := y
  rw [hx] at hR
  replace hR : AP Tryz.prog _ _ (.tup [itD (.mk k1 n1 b1 l1), .int .i64 ((b.length - r.length : Nat) : Int), .int .i64 0]) [] := hR
  obtain ⟨hwk, hwf, pre, hpre, _, hlen⟩ := item_ok 6 (Nat.le_refl _) _ _ _ _ _ hx (by omega)
  have hle := hlen ⟨Nat.le_refl _, hb⟩
  have hpl := congrArg List.length hpre
  rw [List.length_append] at hpl
  have hP := av_putN (.mk k1 n1 b1 l1) hwf (walk_okx hwk) (by omega)
  have hB := av_bEq (putI (.mk k1 n1 b1 l1)) b
  have hn : (((b.length - r.length : Nat) : Int) == ((b.map E.byte).length : Int)) = r.isEmpty := by
   rw [List.length_map]
   cases r with
   | nil => simp
   | cons c r => simp at hpl ⊢; omega
  dsimp only
  cases hr : r.isEmpty
  all_goals
   rw [hr] at hn
   refine AP.ofA ?_
   refine AC_of Tryz.func75 rfl Tryz.ntmps75 rfl rfl ?_
   repeat' (first | rw [hn] | (apply AL_callPw (hR); kernel_rfl; (iterate 4 exact rfl)) | (apply AL_callT [] [] (hP); kernel_rfl; (iterate 10 exact rfl)) | (apply AL_callPw (hB); kernel_rfl; (iterate 4 exact rfl)) | (apply AL_go ttok; exact rfl) | (apply AW_go ttok; exact rfl) | (apply AL_guardT; (iterate 3 exact rfl); (first | with_reducible assumption | decide +kernel)) | (apply AL_guardFt; (iterate 3 exact rfl); (first | with_reducible assumption | decide +kernel)) | (apply AL_pickT; exact rfl; (first | with_reducible assumption | decide +kernel); exact rfl; exact rfl) | (apply AL_pickF; exact rfl; (first | with_reducible assumption | decide +kernel); exact rfl; exact rfl) | (apply AL_len ttok; (iterate 4 exact rfl)))
   all_goals (apply endQ []; (apply resG_ok ttok; exact rfl); (iterate 4 exact rfl))
   all_goals rfl
end Go.Proofs.YtpodhnaofhfinaaGreatDoor
end
section
open Go.RowKit Go.Pl Go.Av
namespace Go.Proofs.YtpodhnaofhfinaaGreatDoor
set_option maxHeartbeats 4000000
theorem av_writeT [Known] [KnownU8] (x : It) (hw : wfI x) (hr : rightI x = true) (hlim : (putI x).length <= 1099511627776) : AT Tryz.prog 46 [itD x] [] [] (.tup [.sl (.own 0) ((putI x).map E.byte), .int .i64 0]) [] [⟨(putI x).length, 1, 5⟩] := by
 have hR := av_rightI x hw
 rw [hr] at hR
 have hp := av_putN x hw (right_okx hr) hlim
 obtain ⟨k, n, b, l⟩ := x
 refine AC_of Tryz.func46 rfl Tryz.ntmps46 rfl rfl ?_
 repeat' (first | (apply AL_callPw (hR); kernel_rfl; (iterate 4 exact rfl)) | (apply AL_callT [] [] (hp); kernel_rfl; (iterate 10 exact rfl)) | (apply AL_go ttok; exact rfl) | (apply AW_go ttok; exact rfl) | (apply K_go ttok; exact rfl) | (apply AW_condB; exact rfl; (first | with_reducible assumption | decide +kernel)))
 all_goals (apply endT [] [0]; (apply resG_ok ttok; exact rfl); (iterate 7 exact rfl))
 all_goals rfl
end Go.Proofs.YtpodhnaofhfinaaGreatDoor
end
section
open Go.RowKit Go.Pl Go.Av
namespace Go.Proofs.YtpodhnaofhfinaaGreatDoor
set_option maxHeartbeats 4000000
theorem read_put {x : It} (hw : wfI x) (hr : rightI x = true) (r : List UInt8) : itemS 6 256 (putI x ++ r) = .ok (x, r, ((walkI x 1 256).getD 0)) := by
 unfold rightI at hr
 cases h : walkI x 1 256 with
 | none => rw [h] at hr; cases hr
 | some m => exact item_put x 6 256 m r hw (Nat.le_refl _) h
theorem read_put0 {x : It} (hw : wfI x) (hr : rightI x = true) (r : List UInt8) : readI (putI x ++ r) 0 = (x, (putI x).length, 0) := by
 rw [readI, if_neg (by omega), show (0 : Int).toNat = 0 from rfl, List.drop_zero, read_put hw hr]
 dsimp only
 rw [List.length_append, Nat.add_sub_cancel]
theorem av_writeYes [Known] [KnownU8] (x : It) (hw : wfI x) (hlim : (putI x).length <= 1099511627776) (hr : rightI x = true) : AP Tryz.prog 46 [itD x] (.tup [byE (putI x), .int .i64 0]) [] := by
 have h := av_writeI x hw hlim (av_rightI x hw)
 rw [hr] at h
 exact h
theorem put_ne (x : It) (hw : wfI x) (hr : rightI x = true) : ∃ c t, putI x = c :: t := by
 cases hp : putI x with
 | cons c t => exact ⟨c, t, rfl⟩
 | nil =>
  have h := read_put hw hr []
  rw [hp] at h
  have e : itemS 6 256 [] = .error 8 := rfl
  rw [List.append_nil, e] at h
  cases h
end Go.Proofs.YtpodhnaofhfinaaGreatDoor
end
section
open Go.RowKit Go.Pl Go.Av
namespace Go.Proofs.YtpodhnaofhfinaaGreatDoor
set_option maxHeartbeats 4000000
theorem av_cloneI [Known] (l : List It) (hne : l ≠ []) (hl : l.length <= 1000000) : AT Tryz.prog 101 [.sl .ext (itEs l)] [] [] (.sl (.own 0) (itEs l)) [] [⟨l.length, 4, 83⟩] := by
 have hU := uniI l
 have hlen := itEs_len l
 rw [<- hlen]
 rw [<- hlen] at hl
 have hE : itEs l ≠ [] := fun h => hne (by rw [h] at hlen; exact List.length_eq_zero_iff.1 hlen.symm)
 refine AC_of Tryz.func101 rfl Tryz.ntmps101 rfl rfl ?_
 repeat' (first | (apply AL_snil ttok; (iterate 5 exact rfl); intro b hbn; (have hbn2 := hbn hE); subst hbn2; clear hbn) | (apply AL_go ttok; exact rfl) | (apply AW_go ttok; exact rfl) | (apply K_go ttok; exact rfl) | (apply AW_condB; exact rfl; (first | with_reducible assumption | (solve | simp only [bn]))) | (apply AL_bs ttok; (iterate 12 exact rfl)) | (apply AL_append ttok; (iterate 6 exact rfl); (first | with_reducible assumption | exact rfl | rotate_left); exact rfl; exact rfl; (first | exact uniB_ok rfl | with_reducible assumption | rotate_left); (first | exact uniB_ok rfl | with_reducible assumption | rotate_left); (first | exact List.cons_ne_nil _ _ | with_reducible assumption | rotate_left); (first | with_reducible assumption | rotate_left); (first | with_reducible assumption | rotate_left); exact rfl; exact rfl))
 all_goals first | (apply endT [] [0]; (apply resG_ok ttok; exact rfl); (iterate 7 exact rfl)) | skip
 all_goals first | rfl | (simp at hl ⊢; (try unfold maxLen); omega) | (simp at hl ⊢; done)
theorem av_wrong [Known] [KnownU8] (x : It) (hw : wfI x) : AP Tryz.prog 96 [itD x] (.bool (!rightI x)) [] := by
 have hR := av_rightI x hw
 obtain ⟨k, n, b, l⟩ := x
 refine AP.ofA ?_
 refine AC_of Tryz.func96 rfl Tryz.ntmps96 rfl rfl ?_
 repeat' (first | (apply AL_callPw (hR); kernel_rfl; (iterate 4 exact rfl)) | (apply AL_go ttok; exact rfl) | (apply AW_go ttok; exact rfl))
 all_goals (apply endQ []; (apply resG_ok ttok; exact rfl); (iterate 4 exact rfl))
 all_goals rfl
def fiI : List It -> Nat -> Int
 | [], _ => -1
 | x :: l, i => match rightI x with | true => fiI l (i + 1) | false => (i : Int)
theorem fiI_ge : ∀ (l : List It) (i : Nat), decide (fiI l i ≥ 0) = !(l.all rightI)
 | [], _ => rfl
 | x :: l, i => by
  rw [fiI, List.all_cons]
  cases rightI x with
  | true => simpa using fiI_ge l (i + 1)
  | false => simp
theorem av_idxF [Known] [KnownU8] (l : List It) (hws : wfs l) (hl : l.length <= 1000000) : AP Tryz.prog 111 [.sl .ext (itEs l), .fn 96 []] (.int .i64 (fiI l 0)) [] := by
 have hlen := itEs_len l
 have hU := uniI l
 generalize hfin : fiI l 0 = fin
 refine AP.ofA ?_
 refine AC_of Tryz.func111 rfl Tryz.ntmps111 rfl rfl ?_
 repeat' (first | (apply AL_go ttok; exact rfl) | (apply AW_go ttok; exact rfl) | (apply AL_len ttok; (iterate 4 exact rfl)))
 refine AW_loopJ (fun f tm bx fr => ∃ (i : Nat), f + i = l.length /\ fiI (l.drop i) i = fin /\ tm = [(0, .sl .ext (itEs l)), (1, .fn 96 []), (4, .int .i64 0), (7, .int .i64 ((itEs l).length : Int)), (8, .int .i64 (i : Int))] /\ bx = [] /\ fr = []) (l.length + 1) (Lands.mk' (m := l.length) (Nat.lt_succ_self _) ⟨0, by omega, hfin, rfl, rfl, rfl⟩ ?_ rfl rfl rfl rfl rfl rfl) ?_
 ·exact .cons rfl (.cons rfl (.cons rfl (.cons rfl (.cons rfl .nil))))
 rintro f tm bx fr ⟨i, hf, hq, rfl, rfl, rfl⟩
 rcases Nat.lt_or_ge i l.length with hlt | hge
 ·have hdl : decide ((i : Int) < ((itEs l).length : Int)) = true := decide_eq_true (by omega)
  obtain ⟨⟨k1, n1, b1, l1⟩, hy⟩ : ∃ y, l[i]? = some y := ⟨_, List.getElem?_eq_getElem hlt⟩
  have hv : (itEs l)[((i : Nat) : Int).toNat]? = some (.agg [.int .i64 k1, .int .u64 (n1 : Int), .sl (b1.map E.byte), .sl (itEs l1)]) := by
   rw [Int.toNat_natCast, itEs_map, List.getElem?_map, hy]; rfl
  have hc := av_wrong _ (wfs_mem hws _ (List.mem_of_getElem? hy))
  have hdr : l.drop i = It.mk k1 n1 b1 l1 :: l.drop (i + 1) := by
   rw [List.drop_eq_getElem_cons hlt]; congr 1
   exact (List.getElem?_eq_some_iff.1 hy).2
  rw [hdr, fiI] at hq
  have ei : IntKind.i64.wrap ((i : Int) + 1) = ((i + 1 : Nat) : Int) := by rw [IntWalk.i64_in _ (by omega)]; omega
  cases hb : rightI (.mk k1 n1 b1 l1) with
  | true =>
   rw [hb] at hq hc
   replace hc : AP Tryz.prog _ _ (.bool false) [] := hc
   repeat' (first | rw [ei] | (apply AL_callPv (hc); exact rfl; kernel_rfl; (iterate 3 exact rfl)) | (apply AL_go ttok; exact rfl) | (apply AW_go ttok; exact rfl) | (apply K_go ttok; exact rfl) | (apply AW_condA; exact rfl; (first | with_reducible assumption | decide +kernel)) | (apply AW_condB; exact rfl; (first | with_reducible assumption | decide +kernel)) | (apply AL_idx ttok; (iterate 6 exact rfl); (first | with_reducible assumption | decide +kernel | exact Int.natCast_nonneg _ | (guard_target = (0:Int) <= (OfNat.ofNat _ : Int); decide) | rotate_left); (first | with_reducible assumption | decide +kernel | exact rfl); (first | exact uniB_ok rfl | with_reducible assumption | decide +kernel | rotate_left)))
   refine Lands.mk' (m := f - 1) (by omega) ⟨i + 1, by omega, hq, rfl, rfl, rfl⟩ ?_ rfl rfl rfl rfl rfl rfl
   exact .cons rfl (.cons rfl (.cons rfl (.cons rfl (.cons rfl .nil))))
  | false =>
   rw [hb] at hq hc
   replace hc : AP Tryz.prog _ _ (.bool true) [] := hc
   have hq : (i : Int) = fin := hq
   subst hq
   repeat' (first | (apply AL_callPv (hc); exact rfl; kernel_rfl; (iterate 3 exact rfl)) | (apply AL_go ttok; exact rfl) | (apply AW_go ttok; exact rfl) | (apply K_go ttok; exact rfl) | (apply AW_condA; exact rfl; (first | with_reducible assumption | decide +kernel)) | refine then_ret ?_ | (apply AL_idx ttok; (iterate 6 exact rfl); (first | with_reducible assumption | decide +kernel | exact Int.natCast_nonneg _ | (guard_target = (0:Int) <= (OfNat.ofNat _ : Int); decide) | rotate_left); (first | with_reducible assumption | decide +kernel | exact rfl); (first | exact uniB_ok rfl | with_reducible assumption | decide +kernel | rotate_left)))
   all_goals (apply endQ []; (apply resG_ok ttok; exact rfl); (iterate 4 exact rfl))
   all_goals rfl
 ·have hdl : decide ((i : Int) < ((itEs l).length : Int)) = false := decide_eq_false (by omega)
  rw [List.drop_eq_nil_of_le hge] at hq
  have hq : (-1 : Int) = fin := hq
  subst hq
  repeat' (first | (apply AW_go ttok; exact rfl) | (apply AW_condB; exact rfl; (first | with_reducible assumption | decide +kernel)))
  all_goals (apply endQ []; (apply resG_ok ttok; exact rfl); (iterate 4 exact rfl))
  all_goals rfl
theorem av_contF [Known] [KnownU8] (l : List It) (hws : wfs l) (hl : l.length <= 1000000) : AP Tryz.prog 97 [.sl .ext (itEs l), .fn 96 []] (.bool (!(l.all rightI))) [] := by
 have hI := av_idxF l hws hl
 rw [<- fiI_ge l 0]
 refine AP.ofA ?_
 refine AC_of Tryz.func97 rfl Tryz.ntmps97 rfl rfl ?_
 repeat' (first | (apply AL_callPw (hI); kernel_rfl; (iterate 4 exact rfl)) | (apply AL_go ttok; exact rfl) | (apply AW_go ttok; exact rfl))
 all_goals (apply endQ []; (apply resG_ok ttok; exact rfl); (iterate 4 exact rfl))
 all_goals rfl
def typeV (l : List It) (a : Int) : Int := if a < 0 then -1 else match l[a.toNat]? with
 | none => -1
 | some (.mk k n b r) => match decide ((n : Int) > 2) with
  | true => -1
  | false => match It.beq (.mk k n b r) (.mk 0 n [] []) with
   | true => (n : Int)
   | false => -1
theorem av_typeAt [Known] (l : List It) (hws : wfs l) (a : Int) : AP Tryz.prog 87 [.sl .ext (itEs l), .int .i64 a] (.int .i64 (typeV l a)) [] := by
 have hlen := itEs_len l
 have hU := uniI l
 unfold typeV
 rcases Int.lt_or_le a 0 with h0 | h0
 ·have t1 : decide (a < 0) = true := decide_eq_true h0
  rw [if_pos h0]
  refine AP.ofA ?_
  refine AC_of Tryz.func87 rfl Tryz.ntmps87 rfl rfl ?_
  repeat' (first | (apply AL_go ttok; exact rfl) | (apply AW_go ttok; exact rfl) | (apply K_go ttok; exact rfl) | (apply AL_guardFf; (iterate 3 exact rfl); (first | with_reducible assumption | decide +kernel)) | (apply AL_pickT; exact rfl; (first | with_reducible assumption | decide +kernel); exact rfl; exact rfl) | (apply AW_condA; exact rfl; (first | with_reducible assumption | decide +kernel)) | (apply AW_drawE 27 hmix; (decide +kernel); (kernel_rfl); (kernel_rfl); (kernel_rfl); exact rfl; exact rfl) | (apply AE_consZ; (iterate 4 exact rfl)) | exact AE.nil _ _ _ _ | (apply AEk_puT; exact rfl) | (apply AOt_mk; exact rfl; exact rfl; (decide +kernel); exact rfl) | (apply AO_puT; exact rfl) | exact AO.nil _ _ _ | (apply AOs_skip; (decide +kernel)) | exact AOs.nil | exact qY_ok rfl rfl)
  all_goals (apply endQ []; (apply resG_ok ttok; exact rfl); (iterate 4 exact rfl))
  all_goals rfl
 have t1 : decide (a < 0) = false := decide_eq_false (by omega)
 rw [if_neg (by omega)]
 rcases Int.lt_or_le a l.length with h1 | h1
 case inr =>
  have t2 : decide (a ≥ ((itEs l).length : Int)) = true := decide_eq_true (by omega)
  rw [List.getElem?_eq_none (by omega)]
  refine AP.ofA ?_
  refine AC_of Tryz.func87 rfl Tryz.ntmps87 rfl rfl ?_
  repeat' (first | (apply AL_go ttok; exact rfl) | (apply AW_go ttok; exact rfl) | (apply K_go ttok; exact rfl) | (apply AL_guardT; (iterate 3 exact rfl); (first | with_reducible assumption | decide +kernel)) | (apply AL_guardFf; (iterate 3 exact rfl); (first | with_reducible assumption | decide +kernel)) | (apply AL_pickT; exact rfl; (first | with_reducible assumption | decide +kernel); exact rfl; exact rfl) | (apply AL_pickF; exact rfl; (first | with_reducible assumption | decide +kernel); exact rfl; exact rfl) | (apply AW_condA; exact rfl; (first | with_reducible assumption | decide +kernel)) | (apply AL_len ttok; (iterate 4 exact rfl)) | (apply AW_drawE 27 hmix; (decide +kernel); (kernel_rfl); (kernel_rfl); (kernel_rfl); exact rfl; exact rfl) | (apply AE_consZ; (iterate 4 exact rfl)) | exact AE.nil _ _ _ _ | (apply AEk_puT; exact rfl) | (apply AOt_mk; exact rfl; exact rfl; (decide +kernel); exact rfl) | (apply AO_puT; exact rfl) | exact AO.nil _ _ _ | (apply AOs_skip; (decide +kernel)) | exact AOs.nil | exact qY_ok rfl rfl)
  all_goals (apply endQ []; (apply resG_ok ttok; exact rfl); (iterate 4 exact rfl))
  all_goals rfl
 have t2 : decide (a ≥ ((itEs l).length : Int)) = false := decide_eq_false (by omega)
 obtain ⟨⟨k, n, b, l1⟩, hy⟩ : ∃ y, l[a.toNat]? = some y := ⟨_, List.getElem?_eq_getElem (by omega)⟩
 have hv : (itEs l)[a.toNat]? = some (.agg [.int .i64 k, .int .u64 (n : Int), .sl (b.map E.byte), .sl (itEs l1)]) := by
  rw [itEs_map, List.getElem?_map, hy]; rfl
 have hw := wfs_mem hws _ (List.mem_of_getElem? hy)
 have hS := av_same (.mk k n b l1) hw (.mk 0 n [] []) (by obtain ⟨h1, _⟩ := hw; exact ⟨h1, by simp, by simp, trivial⟩)
 have hN := av_num n
 rw [hy]
 dsimp only
 cases t3 : decide ((n : Int) > 2) with
 | true =>
  refine AP.ofA ?_
  refine AC_of Tryz.func87 rfl Tryz.ntmps87 rfl rfl ?_
  repeat' (first | (apply AL_go ttok; exact rfl) | (apply AW_go ttok; exact rfl) | (apply K_go ttok; exact rfl) | (apply AL_guardT; (iterate 3 exact rfl); (first | with_reducible assumption | decide +kernel)) | (apply AL_guardFf; (iterate 3 exact rfl); (first | with_reducible assumption | decide +kernel)) | (apply AL_pickT; exact rfl; (first | with_reducible assumption | decide +kernel); exact rfl; exact rfl) | (apply AL_pickF; exact rfl; (first | with_reducible assumption | decide +kernel); exact rfl; exact rfl) | (apply AW_condA; exact rfl; (first | with_reducible assumption | decide +kernel)) | (apply AL_len ttok; (iterate 4 exact rfl)) | (apply AW_drawE 27 hmix; (decide +kernel); (kernel_rfl); (kernel_rfl); (kernel_rfl); exact rfl; exact rfl) | (apply AE_consZ; (iterate 4 exact rfl)) | exact AE.nil _ _ _ _ | (apply AEk_puT; exact rfl) | (apply AOt_mk; exact rfl; exact rfl; (decide +kernel); exact rfl) | (apply AO_puT; exact rfl) | exact AO.nil _ _ _ | (apply AOs_skip; (decide +kernel)) | exact AOs.nil | exact qY_ok rfl rfl | (apply AL_idx ttok; (iterate 6 exact rfl); (first | with_reducible assumption | decide +kernel | exact Int.natCast_nonneg _ | (guard_target = (0:Int) <= (OfNat.ofNat _ : Int); decide) | rotate_left); (first | with_reducible assumption | decide +kernel | exact rfl); (first | exact uniB_ok rfl | with_reducible assumption | decide +kernel | rotate_left)))
  all_goals (apply endQ []; (apply resG_ok ttok; exact rfl); (iterate 4 exact rfl))
  all_goals rfl
 | false =>
  have en : IntKind.i64.wrap (n : Int) = (n : Int) := IntWalk.i64_in _ (by simp at t3; omega)
  cases t4 : It.beq (.mk k n b l1) (.mk 0 n [] []) with
  | true =>
   rw [t4] at hS
   refine AP.ofA ?_
   refine AC_of Tryz.func87 rfl Tryz.ntmps87 rfl rfl ?_
   repeat' (first | (apply AL_callPw (hN); kernel_rfl; (iterate 4 exact rfl)) | (apply AL_callPw (hS); kernel_rfl; (iterate 4 exact rfl)) | rw [en] | (apply AL_go ttok; exact rfl) | (apply AW_go ttok; exact rfl) | (apply K_go ttok; exact rfl) | (apply AL_guardT; (iterate 3 exact rfl); (first | with_reducible assumption | decide +kernel)) | (apply AL_pickF; exact rfl; (first | with_reducible assumption | decide +kernel); exact rfl; exact rfl) | (apply AW_condB; exact rfl; (first | with_reducible assumption | decide +kernel)) | (apply AL_len ttok; (iterate 4 exact rfl)) | (apply AW_drawE 27 hmix; (decide +kernel); (kernel_rfl); (kernel_rfl); (kernel_rfl); exact rfl; exact rfl) | (apply AE_consZ; (iterate 4 exact rfl)) | exact AE.nil _ _ _ _ | (apply AEk_puT; exact rfl) | (apply AOt_mk; exact rfl; exact rfl; (decide +kernel); exact rfl) | (apply AO_puT; exact rfl) | exact AO.nil _ _ _ | (apply AOs_skip; (decide +kernel)) | exact AOs.nil | exact qY_ok rfl rfl | (apply AL_idx ttok; (iterate 6 exact rfl); (first | with_reducible assumption | decide +kernel | exact Int.natCast_nonneg _ | (guard_target = (0:Int) <= (OfNat.ofNat _ : Int); decide) | rotate_left); (first | with_reducible assumption | decide +kernel | exact rfl); (first | exact uniB_ok rfl | with_reducible assumption | decide +kernel | rotate_left)))
   all_goals (apply endQ []; (apply resG_ok ttok; exact rfl); (iterate 4 exact rfl))
   all_goals rfl
  | false =>
   rw [t4] at hS
   refine AP.ofA ?_
   refine AC_of Tryz.func87 rfl Tryz.ntmps87 rfl rfl ?_
   repeat' (first | (apply AL_callPw (hN); kernel_rfl; (iterate 4 exact rfl)) | (apply AL_callPw (hS); kernel_rfl; (iterate 4 exact rfl)) | (apply AL_go ttok; exact rfl) | (apply AW_go ttok; exact rfl) | (apply K_go ttok; exact rfl) | (apply AL_guardT; (iterate 3 exact rfl); (first | with_reducible assumption | decide +kernel)) | (apply AL_pickF; exact rfl; (first | with_reducible assumption | decide +kernel); exact rfl; exact rfl) | (apply AW_condA; exact rfl; (first | with_reducible assumption | decide +kernel)) | (apply AL_len ttok; (iterate 4 exact rfl)) | (apply AW_drawE 27 hmix; (decide +kernel); (kernel_rfl); (kernel_rfl); (kernel_rfl); exact rfl; exact rfl) | (apply AE_consZ; (iterate 4 exact rfl)) | exact AE.nil _ _ _ _ | (apply AEk_puT; exact rfl) | (apply AOt_mk; exact rfl; exact rfl; (decide +kernel); exact rfl) | (apply AO_puT; exact rfl) | exact AO.nil _ _ _ | (apply AOs_skip; (decide +kernel)) | exact AOs.nil | exact qY_ok rfl rfl | (apply AL_idx ttok; (iterate 6 exact rfl); (first | with_reducible assumption | decide +kernel | exact Int.natCast_nonneg _ | (guard_target = (0:Int) <= (OfNat.ofNat _ : Int); decide) | rotate_left); (first | with_reducible assumption | decide +kernel | exact rfl); (first | exact uniB_ok rfl | with_reducible assumption | decide +kernel | rotate_left)))
   all_goals (apply endQ []; (apply resG_ok ttok; exact rfl); (iterate 4 exact rfl))
   all_goals rfl
end Go.Proofs.YtpodhnaofhfinaaGreatDoor
end
section
open Go.RowKit Go.Pl Go.Av
namespace Go.Proofs.YtpodhnaofhfinaaGreatDoor
set_option maxHeartbeats 4000000
abbrev half (s : Int) : Int := s.fdiv (2 ^ (min (Int.toNat 1) IntKind.u32.bits))
def halveI (s p : Int) : Int := match (bits .and .u32 s 1 == 1) with
 | true => bits .xor .u32 (half s) p
 | false => half s
theorem av_halve [Known] (s p : Int) : AP Tryz.prog 121 [.int .u32 s, .int .u32 p] (.int .u32 (halveI s p)) [] := by
 unfold halveI
 cases t : (bits .and .u32 s 1 == 1)
 all_goals
  refine AP.ofA ?_
  refine AC_of Tryz.func121 rfl Tryz.ntmps121 rfl rfl ?_
  repeat' (first | (apply AL_go ttok; exact rfl) | (apply AW_go ttok; exact rfl) | (apply AW_condA; exact rfl; (first | with_reducible assumption | decide +kernel)) | (apply AW_condB; exact rfl; (first | with_reducible assumption | decide +kernel)) | (apply AL_shr; exact rfl; exact rfl; (first | with_reducible assumption | decide +kernel | exact Int.natCast_nonneg _ | (exact (by decide)) | rotate_left); exact rfl))
  all_goals (apply endQ []; (apply resG_ok ttok; exact rfl); (iterate 4 exact rfl))
  all_goals rfl
def byteI (s : Int) (c : UInt8) (p : Int) : Int :=
 halveI (halveI (halveI (halveI (halveI (halveI (halveI (halveI (bits .xor .u32 s (IntKind.u32.wrap (c.toNat : Int))) p) p) p) p) p) p) p) p
theorem av_byteOn [Known] (s p : Int) (c : UInt8) : AP Tryz.prog 118 [.int .u32 s, .int .u8 (c.toNat : Int), .int .u32 p] (.int .u32 (byteI s c p)) [] := by
 refine AP.ofA ?_
 refine AC_of Tryz.func118 rfl Tryz.ntmps118 rfl rfl ?_
 repeat' (first | (apply AL_callPw (av_halve _ _); kernel_rfl; (iterate 4 exact rfl)) | refine AW_loopN 20 ?_ | refine AN_succ ?_ | (apply AL_go ttok; exact rfl) | (apply AW_go ttok; exact rfl) | (apply AW_condA; exact rfl; (first | with_reducible assumption | decide +kernel)) | (apply AW_condB; exact rfl; (first | with_reducible assumption | decide +kernel)))
 all_goals (apply endQ []; (apply resG_ok ttok; exact rfl); (iterate 4 exact rfl))
 all_goals rfl
def runI (s p : Int) (b : List UInt8) : Int := b.foldl (fun s c => byteI s c p) s
theorem av_run [Known] (s p : Int) (b : List UInt8) (hb : b.length <= 1000000000) : AP Tryz.prog 114 [.int .u32 s, byE b, .int .u32 p] (.int .u32 (runI s p b)) [] := by
 have hl : (b.map E.byte).length = b.length := List.length_map ..
 have hU := uniB1 b
 generalize hfin : runI s p b = fin
 refine AP.ofA ?_
 refine AC_of Tryz.func114 rfl Tryz.ntmps114 rfl rfl ?_
 repeat' (first | (apply AL_go ttok; exact rfl) | (apply AW_go ttok; exact rfl) | (apply AL_len ttok; (iterate 4 exact rfl)))
 refine AW_loopJ (fun k tm bx fr => ∃ (i : Nat) (q : Int) (o : D), k + i = b.length /\ runI q p (b.drop i) = fin /\ tm = [(0, .int .u32 q), (1, byE b), (2, .int .u32 p), (6, .int .u32 0), (9, byE b), (10, .int .i64 (b.length : Int)), (11, .int .i64 (i : Int))] /\ bx = [] /\ fr = []) (b.length + 1) (Lands.mk' (m := b.length) (Nat.lt_succ_self _) ⟨0, s, .tup [], by omega, hfin, rfl, rfl, rfl⟩ ?_ rfl rfl rfl rfl rfl rfl) ?_
 ·exact .cons rfl (.cons rfl (.cons rfl (.cons rfl (.cons rfl (.cons (by rw [<- hl]; rfl) (.cons rfl .nil))))))
 rintro k tm bx fr ⟨i, q, o, hk, hq, rfl, rfl, rfl⟩
 rcases Nat.lt_or_ge i b.length with hlt | hge
 ·have hd : decide ((i : Int) < (b.length : Int)) = true := decide_eq_true (by omega)
  obtain ⟨c, hc⟩ : ∃ c, b[i]? = some c := ⟨_, List.getElem?_eq_getElem hlt⟩
  have hv : (b.map E.byte)[((i : Nat) : Int).toNat]? = some (E.byte c) := by
   rw [Int.toNat_natCast, List.getElem?_map, hc]; rfl
  have hdr : b.drop i = c :: b.drop (i + 1) := by
   rw [List.drop_eq_getElem_cons hlt]; congr 1
   exact (List.getElem?_eq_some_iff.1 hc).2
  rw [hdr] at hq
  have hq2 : runI (byteI q c p) p (b.drop (i + 1)) = fin := hq
  have ei : IntKind.i64.wrap ((i : Int) + 1) = ((i + 1 : Nat) : Int) := by rw [IntWalk.i64_in _ (by omega)]; omega
  repeat' (first | (apply AL_callPw (av_byteOn _ _ _); kernel_rfl; (iterate 4 exact rfl)) | rw [ei] | (apply AL_go ttok; exact rfl) | (apply AW_go ttok; exact rfl) | (apply AW_condA; exact rfl; (first | with_reducible assumption | decide +kernel)) | (apply AL_idx ttok; (iterate 6 exact rfl); (first | with_reducible assumption | decide +kernel | exact Int.natCast_nonneg _ | (guard_target = (0:Int) <= (OfNat.ofNat _ : Int); decide) | rotate_left); (first | with_reducible assumption | decide +kernel | exact rfl); (first | exact uniB_ok rfl | with_reducible assumption | decide +kernel | rotate_left)))
  refine Lands.mk' (m := k - 1) (by omega) ⟨i + 1, _, .tup [], by omega, hq2, rfl, rfl, rfl⟩ ?_ rfl rfl rfl rfl rfl rfl
  exact .cons rfl (.cons rfl (.cons rfl (.cons rfl (.cons rfl (.cons rfl (.cons rfl .nil))))))
 ·have hd : decide ((i : Int) < (b.length : Int)) = false := decide_eq_false (by omega)
  rw [List.drop_eq_nil_of_le hge] at hq
  have hq : q = fin := hq
  subst hq
  repeat' (first | (apply AW_go ttok; exact rfl) | (apply AW_condB; exact rfl; (first | with_reducible assumption | decide +kernel)))
  all_goals (apply endQ []; (apply resG_ok ttok; exact rfl); (iterate 4 exact rfl))
  all_goals rfl
def shortV (b : List UInt8) : Int := bits .xor .u16 (if IntKind.u16.signed then -1 else IntKind.u16.max) (IntKind.u16.wrap (runI 65535 33800 b))
def longV (b : List UInt8) : Int := bits .xor .u32 (if IntKind.u32.signed then -1 else IntKind.u32.max) (runI 4294967295 2197175160 b)
theorem av_short [Known] (b : List UInt8) (hb : b.length <= 1000000000) : AP Tryz.prog 102 [byE b] (.int .u16 (shortV b)) [] := by
 have hR := av_run 65535 33800 b hb
 refine AP.ofA ?_
 refine AC_of Tryz.func102 rfl Tryz.ntmps102 rfl rfl ?_
 repeat' (first | (apply AL_callPw (hR); kernel_rfl; (iterate 4 exact rfl)) | (apply AL_unx; exact rfl; exact rfl) | (apply AL_go ttok; exact rfl) | (apply AW_go ttok; exact rfl))
 all_goals (apply endQ []; (apply resG_ok ttok; exact rfl); (iterate 4 exact rfl))
 all_goals rfl
theorem av_long [Known] (b : List UInt8) (hb : b.length <= 1000000000) : AP Tryz.prog 103 [byE b] (.int .u32 (longV b)) [] := by
 have hR := av_run 4294967295 2197175160 b hb
 refine AP.ofA ?_
 refine AC_of Tryz.func103 rfl Tryz.ntmps103 rfl rfl ?_
 repeat' (first | (apply AL_callPw (hR); kernel_rfl; (iterate 4 exact rfl)) | (apply AL_unx; exact rfl; exact rfl) | (apply AL_go ttok; exact rfl) | (apply AW_go ttok; exact rfl))
 all_goals (apply endQ []; (apply resG_ok ttok; exact rfl); (iterate 4 exact rfl))
 all_goals rfl
end Go.Proofs.YtpodhnaofhfinaaGreatDoor
end
section
open Go.RowKit Go.Pl Go.Av
namespace Go.Proofs.YtpodhnaofhfinaaGreatDoor
set_option maxHeartbeats 4000000
def zeroL (s : Nat) (l : List It) : It := .mk 4 0 [] (l ++ [.mk 2 0 (List.replicate (2 * s) 0) []])
abbrev shU (k : IntKind) (z : Int) (q : Int) : Int := IntKind.u8.wrap (z.fdiv (2 ^ (min q.toNat k.bits)))
def sumE (s : Nat) (b : List UInt8) : List E :=
 if s = 1 then [.int .u8 (shU .u16 (shortV b) 8), .int .u8 (IntKind.u8.wrap (shortV b))]
 else [.int .u8 (shU .u32 (longV b) 24), .int .u8 (shU .u32 (longV b) 16), .int .u8 (shU .u32 (longV b) 8), .int .u8 (IntKind.u8.wrap (longV b))]
def by8 (z : Int) : UInt8 := UInt8.ofNat (IntKind.u8.wrap z).toNat
theorem by8_E (z : Int) : E.byte (by8 z) = .int .u8 (IntKind.u8.wrap z) := by
 have h : 0 <= IntKind.u8.wrap z /\ IntKind.u8.wrap z < 256 := by
  rw [IntKind.wrap_u8]; omega
 show E.int .u8 ((by8 z).toNat : Int) = _
 have e : ((by8 z).toNat : Int) = IntKind.u8.wrap z := by
  unfold by8
  rw [UInt8.toNat_ofNat']
  omega
 rw [e]
def sumB (s : Nat) (b : List UInt8) : List UInt8 :=
 if s = 1 then [by8 ((shortV b).fdiv (2 ^ (min (8 : Int).toNat IntKind.u16.bits))), by8 (shortV b)]
 else [by8 ((longV b).fdiv (2 ^ (min (24 : Int).toNat IntKind.u32.bits))), by8 ((longV b).fdiv (2 ^ (min (16 : Int).toNat IntKind.u32.bits))), by8 ((longV b).fdiv (2 ^ (min (8 : Int).toNat IntKind.u32.bits))), by8 (longV b)]
theorem sumB_E (s : Nat) (b : List UInt8) : (sumB s b).map E.byte = sumE s b := by
 unfold sumB sumE
 split <;> simp only [List.map_cons, List.map_nil, by8_E]
theorem sumB_len (s : Nat) (b : List UInt8) (hs : s = 1 \/ s = 2) : (sumB s b).length = 2 * s := by
 unfold sumB
 rcases hs with rfl | rfl <;> rfl
theorem wfs_app : ∀ {l r : List It}, wfs l -> wfs r -> wfs (l ++ r)
 | [], r, _, h => h
 | x :: l, r, h1, h2 => ⟨h1.1, wfs_app h1.2 h2⟩
theorem wf_zero {s : Nat} {l : List It} (hs : s = 1 \/ s = 2) (hws : wfs l) (hl : l.length <= 1000000) : wfI (zeroL s l) := by
 refine ⟨by decide, by simp, by simp; omega, wfs_app hws ⟨⟨by decide, ?_, by simp, trivial⟩, trivial⟩⟩
 rcases hs with rfl | rfl <;> decide
theorem av_sumSize [Known] (s : Nat) (hs : s = 1 \/ s = 2) : AP Tryz.prog 88 [.int .i64 (s : Int)] (.int .i64 ((2 * s : Nat) : Int)) [] := by
 rcases hs with rfl | rfl
 all_goals
  refine AP.ofA ?_
  refine AC_of Tryz.func88 rfl Tryz.ntmps88 rfl rfl ?_
  repeat' (first | (apply AW_go ttok; exact rfl))
  all_goals (apply endQ []; (apply resG_ok ttok; exact rfl); (iterate 4 exact rfl))
  all_goals rfl
theorem av_sumOf [Known] [KnownU8] (l : List It) (s : Nat) (hs : s = 1 \/ s = 2) (hne : l ≠ []) (hws : wfs l) (hl : l.length <= 1000000) (hlim : (putI (zeroL s l)).length <= 1000000000) :
  AP Tryz.prog 89 [.sl .ext (itEs l), .int .i64 (s : Int)] (match rightI (zeroL s l) with | true => .tup [byE (sumB s (putI (zeroL s l))), .int .i64 0] | false => .tup [.sl .ext [], .int .i64 3]) [] := by
 have hwz := wf_zero hs hws hl
 have hC := av_cloneI l hne hl
 have hW := av_writeI (zeroL s l) hwz (by omega) (av_rightI _ hwz)
 have hU := uniI l
 have hlen := itEs_len l
 have hmx : (itEs l).length <= 1000000 := by omega
 have hZ := av_sumSize s hs
 have hB := av_bytes (List.replicate (2 * s) 0) (by rcases hs with rfl | rfl <;> decide)
 have hL := av_list (l ++ [.mk 2 0 (List.replicate (2 * s) 0) []]) (by simp; omega) hwz.2.2.2
 have hSh := av_short (putI (zeroL s l)) hlim
 have hLo := av_long (putI (zeroL s l)) hlim
 rw [itEs_app] at hL
 have eZ : itD (.mk 4 0 [] (l ++ [.mk 2 0 (List.replicate (2 * s) 0) []])) = itD (zeroL s l) := rfl
 rw [eZ] at hL
 unfold byE
 rw [sumB_E]
 rw [<- hlen] at hC
 cases hr : rightI (zeroL s l) with
 | false =>
  rw [hr] at hW
  replace hW : AP Tryz.prog 46 [itD (zeroL s l)] (.tup [.sl .ext [], .int .i64 3]) [] := hW
  have eL : itD (zeroL s l) = .agg [.int .i64 4, .int .u64 0, .sl .ext [], .sl .ext (itEs (l ++ [.mk 2 0 (List.replicate (2 * s) 0) []]))] := rfl
  rw [eL] at hL hW
  generalize itEs (l ++ [.mk 2 0 (List.replicate (2 * s) 0) []]) = ZL at *
  clear hSh hLo hlim hwz eZ eL
  rcases hs with rfl | rfl
  all_goals
   refine AP.ofA ?_
   refine AC_of Tryz.func89 rfl Tryz.ntmps89 rfl rfl ?_
   repeat' (first | (apply AL_callT [] [] (hC); kernel_rfl; (iterate 10 exact rfl)) | (apply AL_callPw (hZ); kernel_rfl; (iterate 4 exact rfl)) | (apply AL_make0 ttok (l := 2); (iterate 12 exact rfl)) | (apply AL_make0 ttok (l := 4); (iterate 12 exact rfl)) | (apply AL_callPw (hB); kernel_rfl; (iterate 4 exact rfl)) | (apply AL_callPw (hL); kernel_rfl; (iterate 4 exact rfl)) | (apply AL_callPw (hW); kernel_rfl; (iterate 4 exact rfl)) | (apply AL_go ttok; exact rfl) | (apply AW_go ttok; exact rfl) | (apply K_go ttok; exact rfl) | (apply AW_condA; exact rfl; (first | with_reducible assumption | decide +kernel)) | (apply AL_bsZ ttok; (iterate 12 exact rfl)) | (apply AL_append ttok; (iterate 6 exact rfl); (first | with_reducible assumption | decide +kernel | exact rfl | rotate_left); exact rfl; exact rfl; (first | exact uniB_ok rfl | with_reducible assumption | decide +kernel | rotate_left); (first | exact uniB_ok rfl | with_reducible assumption | decide +kernel | rotate_left); (first | exact List.cons_ne_nil _ _ | with_reducible assumption | decide +kernel | rotate_left); (first | with_reducible assumption | decide +kernel | rotate_left); (first | with_reducible assumption | decide +kernel | rotate_left); exact rfl; exact rfl))
   all_goals first | ((apply endQ []; (apply resG_ok ttok; exact rfl); (iterate 4 exact rfl))) | skip
   all_goals first | rfl | (first | rfl | (simp only [List.length_append, List.length_cons, List.length_nil, List.length_map, itEs_len]; done) | (simp only [List.length_append, List.length_cons, List.length_nil, List.length_map, itEs_len] at *; (try unfold maxLen); (try simp only [Nat.add_mul]); omega)) | (simp; done) | (simp; omega) | (simp; unfold maxLen; omega)
 | true =>
  rw [hr] at hW
  replace hW : AP Tryz.prog 46 [itD (zeroL s l)] (.tup [byE (putI (zeroL s l)), .int .i64 0]) [] := hW
  have eL : itD (zeroL s l) = .agg [.int .i64 4, .int .u64 0, .sl .ext [], .sl .ext (itEs (l ++ [.mk 2 0 (List.replicate (2 * s) 0) []]))] := rfl
  rw [eL] at hL hW
  generalize itEs (l ++ [.mk 2 0 (List.replicate (2 * s) 0) []]) = ZL at *
  generalize putI (zeroL s l) = PZ at *
  clear hlim hwz eZ eL hr
  rcases hs with rfl | rfl
  all_goals
   refine AP.ofA ?_
   refine AC_of Tryz.func89 rfl Tryz.ntmps89 rfl rfl ?_
   repeat' (first | (apply AL_callT [] [] (hC); kernel_rfl; (iterate 10 exact rfl)) | (apply AL_callPw (hZ); kernel_rfl; (iterate 4 exact rfl)) | (apply AL_make0 ttok (l := 2); (iterate 12 exact rfl)) | (apply AL_make0 ttok (l := 4); (iterate 12 exact rfl)) | (apply AL_callPw (hB); kernel_rfl; (iterate 4 exact rfl)) | (apply AL_callPw (hL); kernel_rfl; (iterate 4 exact rfl)) | (apply AL_callPw (hW); kernel_rfl; (iterate 4 exact rfl)) | (apply AL_callPw (hSh); kernel_rfl; (iterate 4 exact rfl)) | (apply AL_callPw (hLo); kernel_rfl; (iterate 4 exact rfl)) | (apply AL_go ttok; exact rfl) | (apply AW_go ttok; exact rfl) | (apply AW_condA; exact rfl; (first | with_reducible assumption | decide +kernel)) | (apply AW_condB; exact rfl; (first | with_reducible assumption | decide +kernel)) | (apply AL_bsZ ttok; (iterate 12 exact rfl)) | (apply AL_append ttok; (iterate 6 exact rfl); (first | with_reducible assumption | decide +kernel | exact rfl | rotate_left); exact rfl; exact rfl; (first | exact uniB_ok rfl | with_reducible assumption | decide +kernel | rotate_left); (first | exact uniB_ok rfl | with_reducible assumption | decide +kernel | rotate_left); (first | exact List.cons_ne_nil _ _ | with_reducible assumption | decide +kernel | rotate_left); (first | with_reducible assumption | decide +kernel | rotate_left); (first | with_reducible assumption | decide +kernel | rotate_left); exact rfl; exact rfl) | (apply AL_shr; exact rfl; exact rfl; (first | with_reducible assumption | decide +kernel | exact Int.natCast_nonneg _ | (exact (by decide)) | rotate_left); exact rfl))
   all_goals first | ((apply endQ []; (apply resG_ok ttok; exact rfl); (iterate 4 exact rfl))) | skip
   all_goals first | rfl | (first | rfl | (simp only [List.length_append, List.length_cons, List.length_nil, List.length_map, itEs_len]; done) | (simp only [List.length_append, List.length_cons, List.length_nil, List.length_map, itEs_len] at *; (try unfold maxLen); (try simp only [Nat.add_mul]); omega)) | (simp; done) | (simp; omega) | (simp; unfold maxLen; omega)
end Go.Proofs.YtpodhnaofhfinaaGreatDoor
end

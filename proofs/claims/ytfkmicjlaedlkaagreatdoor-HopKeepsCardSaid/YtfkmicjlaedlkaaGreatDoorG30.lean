/- Package hop: the blocks that are sent on, if one tells the previous name. -/
import Derived.Test.YtfkmicjlaedlkaaGreatDoorG29
import Derived.Test.YtfkmicjlaedlkaaGreatDoorG28
import Derived.Test.YtfkmicjlaedlkaaGreatDoorG26
import Derived.Test.YtfkmicjlaedlkaaGreatDoorG15
set_option linter.unusedVariables false
set_option linter.unusedSimpArgs false
section
open Go.RowKit Go.Pl Go.Av
namespace Go.Proofs.YtfkmicjlaedlkaaGreatDoor
set_option maxHeartbeats 4000000
theorem on_8 [Known] [KnownU8] (fl : Nat) (sum : Int) (di ri xi : Bool) (dn ds rn rs xn xs t q life : Nat) (dh dd rh rd xh xd : List UInt8) (bl : List BlkV) (si : Bool) (sn ss : Nat) (sh sd : List UInt8) (since now e : Int)
  (hK : AP Tryz.prog 71 [.agg [.int .u64 (fl : Int), .int .i64 sum, .bool di, .int .u64 (dn : Int), .int .u64 (ds : Int), .str dh, .str dd, .bool ri, .int .u64 (rn : Int), .int .u64 (rs : Int), .str rh, .str rd, .bool xi, .int .u64 (xn : Int), .int .u64 (xs : Int), .str xh, .str xd, .int .u64 (t : Int), .int .u64 (q : Int), .int .u64 (life : Int), .sl .ext (bksE bl)], .int .u64 since, .int .u64 now] (.int .i64 e) [])
  (hO : AP Tryz.prog 30 [.agg [.int .u64 (fl : Int), .int .i64 sum, .bool di, .int .u64 (dn : Int), .int .u64 (ds : Int), .str dh, .str dd, .bool ri, .int .u64 (rn : Int), .int .u64 (rs : Int), .str rh, .str rd, .bool xi, .int .u64 (xn : Int), .int .u64 (xs : Int), .str xh, .str xd, .int .u64 (t : Int), .int .u64 (q : Int), .int .u64 (life : Int), .sl .ext (bksE bl)], .int .u64 since, .int .u64 now] (.tup [.bool false, .int .i64 e]) []) (t1 : (e == 3) = false)
  (hE : AP Tryz.prog 32 [.agg [.bool si, .int .u64 (sn : Int), .int .u64 (ss : Int), .str sh, .str sd]] (.bool true) []) (t2 : ((si == false) && (((sn : Int) == 0) && (((ss : Int) == 0) && ((sh == []) && ((sd == []) && true))))) = false) (t3 : (e != 0) = false)
  (hS : AP Tryz.prog 72 [.agg [.int .u64 (fl : Int), .int .i64 sum, .bool di, .int .u64 (dn : Int), .int .u64 (ds : Int), .str dh, .str dd, .bool ri, .int .u64 (rn : Int), .int .u64 (rs : Int), .str rh, .str rd, .bool xi, .int .u64 (xn : Int), .int .u64 (xs : Int), .str xh, .str xd, .int .u64 (t : Int), .int .u64 (q : Int), .int .u64 (life : Int), .sl .ext (bksE bl)]] (.bool false) [])
  (hbl : bl.length <= 1000) (hok : ∀ c ∈ bl, okB3 c) (hfl : fl < 18446744073709551616)
  (c0 : BlkV) (hF : AP Tryz.prog 28 [.agg [.int .u64 (fl : Int), .int .i64 sum, .bool di, .int .u64 (dn : Int), .int .u64 (ds : Int), .str dh, .str dd, .bool ri, .int .u64 (rn : Int), .int .u64 (rs : Int), .str rh, .str rd, .bool xi, .int .u64 (xn : Int), .int .u64 (xs : Int), .str xh, .str xd, .int .u64 (t : Int), .int .u64 (q : Int), .int .u64 (life : Int), .sl .ext (bksE bl)], .int .u64 6] (findD (some c0)) []) (d : D) (hd : onD (onEnd ⟨fl, sum, ⟨di, dn, ds, dh, dd⟩, ⟨ri, rn, rs, rh, rd⟩, ⟨xi, xn, xs, xh, xd⟩, t, q, life⟩ (onC ⟨si, sn, ss, sh, sd⟩ (IntKind.u64.wrap (now - since)) [] bl)) = d) :
  AP Tryz.prog 31 [.agg [.int .u64 (fl : Int), .int .i64 sum, .bool di, .int .u64 (dn : Int), .int .u64 (ds : Int), .str dh, .str dd, .bool ri, .int .u64 (rn : Int), .int .u64 (rs : Int), .str rh, .str rd, .bool xi, .int .u64 (xn : Int), .int .u64 (xs : Int), .str xh, .str xd, .int .u64 (t : Int), .int .u64 (q : Int), .int .u64 (life : Int), .sl .ext (bksE bl)], .agg [.bool si, .int .u64 (sn : Int), .int .u64 (ss : Int), .str sh, .str sd], .int .u64 since, .int .u64 now] d [] := by
 have hlen := bks_len bl
 have hU := uniK bl
 generalize hFq : onC ⟨si, sn, ss, sh, sd⟩ (IntKind.u64.wrap (now - since)) [] bl = F at hd
 obtain ⟨cty0, cnum0, cfl0, csum0, cdata0⟩ := c0
 dsimp only [findD] at hF
 refine AP.ofA ?_
 refine AC_of Tryz.func31 rfl Tryz.ntmps31 rfl rfl ?_
 repeat' (first | (apply AL_callPw (hK); kernel_rfl; (iterate 4 exact rfl)) | (apply AL_callPw (hO); kernel_rfl; (iterate 4 exact rfl)) | (apply AL_callPw (hE); kernel_rfl; (iterate 4 exact rfl)) | (apply AL_callPw (hS); kernel_rfl; (iterate 4 exact rfl)) | (apply AL_callPw (hF); kernel_rfl; (iterate 4 exact rfl)) | (apply AL_go ttok; exact rfl) | (apply AW_go ttok; exact rfl) | (apply K_go ttok; exact rfl) | (apply AL_guardT; (iterate 3 exact rfl); (first | with_reducible assumption | decide +kernel)) | (apply AL_pickF; exact rfl; (first | with_reducible assumption | decide +kernel); exact rfl; exact rfl) | (apply AW_condB; exact rfl; (first | with_reducible assumption | decide +kernel)) | (apply AL_len ttok; (iterate 4 exact rfl)) | (apply AL_eqS ttok; (iterate 4 exact rfl); (kernel_rfl); (kernel_rfl); (iterate 3 exact rfl)))
 show AW _ _ _ _
 refine AW_loopJ (fun f tm bx fr => ∃ (i c : Nat) (acc : List BlkV) (f0 : Fr), f + i = bl.length /\ c = (bksE acc).length /\ (∀ c ∈ acc, okB3 c) /\ acc.length <= i + 1 /\ onC ⟨si, sn, ss, sh, sd⟩ (IntKind.u64.wrap (now - since)) acc (bl.drop i) = F /\ tm = [(2, .int .u64 since), (3, .int .u64 now), (4, .ptr 0 0), (5, .ptr 1 0), (8, .ptr 2 0), (13, .ptr 3 0), (83, .sl .ext (bksE bl)), (84, .int .i64 ((bksE bl).length : Int)), (85, .int .i64 (i : Int))] /\
   ((acc = [] /\ bx = [[.int .u64 (fl : Int), .int .i64 sum, .bool di, .int .u64 (dn : Int), .int .u64 (ds : Int), .str dh, .str dd, .bool ri, .int .u64 (rn : Int), .int .u64 (rs : Int), .str rh, .str rd, .bool xi, .int .u64 (xn : Int), .int .u64 (xs : Int), .str xh, .str xd, .int .u64 (t : Int), .int .u64 (q : Int), .int .u64 (life : Int), .sl .ext (bksE bl)], [.bool si, .int .u64 (sn : Int), .int .u64 (ss : Int), .str sh, .str sd], [.int .u64 0, .int .i64 0, .bool false, .int .u64 0, .int .u64 0, .str [], .str [], .bool false, .int .u64 0, .int .u64 0, .str [], .str [], .bool false, .int .u64 0, .int .u64 0, .str [], .str [], .int .u64 0, .int .u64 0, .int .u64 0, .sl .nil []], [.int .u64 (fl : Int), .int .i64 sum, .bool di, .int .u64 (dn : Int), .int .u64 (ds : Int), .str dh, .str dd, .bool ri, .int .u64 (rn : Int), .int .u64 (rs : Int), .str rh, .str rd, .bool xi, .int .u64 (xn : Int), .int .u64 (xs : Int), .str xh, .str xd, .int .u64 (t : Int), .int .u64 (q : Int), .int .u64 (life : Int), .sl .nil []]] /\ fr = []) \/
   (bx = [[.int .u64 (fl : Int), .int .i64 sum, .bool di, .int .u64 (dn : Int), .int .u64 (ds : Int), .str dh, .str dd, .bool ri, .int .u64 (rn : Int), .int .u64 (rs : Int), .str rh, .str rd, .bool xi, .int .u64 (xn : Int), .int .u64 (xs : Int), .str xh, .str xd, .int .u64 (t : Int), .int .u64 (q : Int), .int .u64 (life : Int), .sl .ext (bksE bl)], [.bool si, .int .u64 (sn : Int), .int .u64 (ss : Int), .str sh, .str sd], [.int .u64 0, .int .i64 0, .bool false, .int .u64 0, .int .u64 0, .str [], .str [], .bool false, .int .u64 0, .int .u64 0, .str [], .str [], .bool false, .int .u64 0, .int .u64 0, .str [], .str [], .int .u64 0, .int .u64 0, .int .u64 0, .sl .nil []], [.int .u64 (fl : Int), .int .i64 sum, .bool di, .int .u64 (dn : Int), .int .u64 (ds : Int), .str dh, .str dd, .bool ri, .int .u64 (rn : Int), .int .u64 (rs : Int), .str rh, .str rd, .bool xi, .int .u64 (xn : Int), .int .u64 (xs : Int), .str xh, .str xd, .int .u64 (t : Int), .int .u64 (q : Int), .int .u64 (life : Int), .sl (.own 1) (bksE acc)]] /\ fr = [f0, ⟨c, 5, 69⟩]))) (bl.length + 1) (Lands.mk' (m := bl.length) (Nat.lt_succ_self _) ⟨0, 0, [], default, by omega, rfl, by simp, by simp, hFq, rfl, .inl ⟨rfl, rfl, rfl⟩⟩ ?_ rfl rfl rfl rfl rfl rfl) ?_
 ·exact .cons rfl (.cons rfl (.cons rfl (.cons rfl (.cons rfl (.cons rfl (.cons rfl (.cons rfl (.cons rfl .nil))))))))
 rintro f tm bx fr ⟨i, c, acc, f0, hf, hc, hab, hal, hq, rfl, hst⟩
 rcases Nat.lt_or_ge i bl.length with hlt | hge
 ·have hdl : decide ((i : Int) < ((bksE bl).length : Int)) = true := decide_eq_true (by omega)
  obtain ⟨z, hy⟩ : ∃ y, bl[i]? = some y := ⟨_, List.getElem?_eq_getElem hlt⟩
  have hzo := hok z (List.mem_of_getElem? hy)
  have hG := av_hChange z ⟨si, sn, ss, sh, sd⟩ (IntKind.u64.wrap (now - since)) (Nat.le_trans hzo.2 (by omega)) (hops_lt (Nat.le_trans hzo.2 (by omega)))
  have hco := change_ok ⟨si, sn, ss, sh, sd⟩ (IntKind.u64.wrap (now - since)) hzo
  have hdr : bl.drop i = z :: bl.drop (i + 1) := by
   rw [List.drop_eq_getElem_cons hlt]; congr 1
   exact (List.getElem?_eq_some_iff.1 hy).2
  rw [hdr, onC] at hq
  have ei : IntKind.i64.wrap ((i : Int) + 1) = ((i + 1 : Nat) : Int) := by rw [IntWalk.i64_in _ (by omega)]; omega
  have hv := bks_get hy
  generalize changeH z ⟨si, sn, ss, sh, sd⟩ (IntKind.u64.wrap (now - since)) = r at *
  obtain ⟨cb, ok⟩ := r
  obtain ⟨zty, znum, zfl, zsum, zdata⟩ := z
  dsimp only at hq hco
  cases ok with
  | false =>
   replace hG : AP Tryz.prog 74 _ (.tup [.agg (bkC cb), .bool false]) [] := hG
   dsimp only at hq
   subst hq
   dsimp only [onEnd] at hd
   subst hd
   rcases hst with ⟨rfl, rfl, rfl⟩ | ⟨rfl, rfl⟩
   ·repeat' (first | (apply AL_callPw (hG); kernel_rfl; (iterate 4 exact rfl)) | (apply AL_go ttok; exact rfl) | (apply AW_go ttok; exact rfl) | (apply K_go ttok; exact rfl) | (apply AW_condA; exact rfl; (first | with_reducible assumption | decide +kernel)) | (apply AL_idx ttok; (iterate 6 exact rfl); (first | with_reducible assumption | decide +kernel | exact Int.natCast_nonneg _ | (guard_target = (0:Int) <= (OfNat.ofNat _ : Int); decide) | rotate_left); (first | with_reducible assumption | decide +kernel | exact rfl); (first | exact uniB_ok rfl | with_reducible assumption | decide +kernel | rotate_left)))
    all_goals (apply endQ []; (apply resG_ok ttok; exact rfl); (iterate 4 exact rfl))
    all_goals rfl
   ·repeat' (first | (apply AL_callPw (hG); kernel_rfl; (iterate 4 exact rfl)) | (apply AL_go ttok; exact rfl) | (apply AW_go ttok; exact rfl) | (apply K_go ttok; exact rfl) | (apply AW_condA; exact rfl; (first | with_reducible assumption | decide +kernel)) | (apply AL_idx ttok; (iterate 6 exact rfl); (first | with_reducible assumption | decide +kernel | exact Int.natCast_nonneg _ | (guard_target = (0:Int) <= (OfNat.ofNat _ : Int); decide) | rotate_left); (first | with_reducible assumption | decide +kernel | exact rfl); (first | exact uniB_ok rfl | with_reducible assumption | decide +kernel | rotate_left)))
    all_goals (apply endQ []; (apply resG_ok ttok; exact rfl); (iterate 4 exact rfl))
    all_goals rfl
  | true =>
   replace hG : AP Tryz.prog 74 _ (.tup [.agg (bkC cb), .bool true]) [] := hG
   dsimp only at hq
   have hab2 : ∀ c ∈ acc ++ [cb], okB3 c := fun c hc => by
    rcases List.mem_append.1 hc with hc | hc
    ·exact hab c hc
    ·simp at hc; subst hc; exact hco
   have hU5 := uniK acc
   have hUc := uniK [cb]
   subst hc
   have hbk := bks_len acc
   rcases hst with ⟨rfl, rfl, rfl⟩ | ⟨rfl, rfl⟩
   ·repeat' (first | (apply AL_callPw (hG); kernel_rfl; (iterate 4 exact rfl)) | rw [ei] | (apply AL_append_nilZ ttok; (iterate 6 exact rfl); exact uniB_ok rfl; exact List.cons_ne_nil _ _; exact rfl; decide +kernel; decide +kernel; (iterate 3 exact rfl)) | (apply AL_go ttok; exact rfl) | (apply AW_go ttok; exact rfl) | (apply AW_condA; exact rfl; (first | with_reducible assumption | decide +kernel)) | (apply AW_condB; exact rfl; (first | with_reducible assumption | decide +kernel)) | (apply AL_bsZ ttok; (iterate 12 exact rfl)) | (apply AL_idx ttok; (iterate 6 exact rfl); (first | with_reducible assumption | decide +kernel | exact Int.natCast_nonneg _ | (guard_target = (0:Int) <= (OfNat.ofNat _ : Int); decide) | rotate_left); (first | with_reducible assumption | decide +kernel | exact rfl); (first | exact uniB_ok rfl | with_reducible assumption | decide +kernel | rotate_left)))
    refine Lands.mk' (m := f - 1) (by omega) ⟨i + 1, 1, [cb], _, by omega, rfl, hab2, by simp, hq, rfl, .inr ⟨rfl, rfl⟩⟩ ?_ rfl rfl rfl rfl rfl rfl
    exact .cons rfl (.cons rfl (.cons rfl (.cons rfl (.cons rfl (.cons rfl (.cons rfl (.cons rfl (.cons rfl .nil))))))))
   ·have hs : bksE acc ++ [bkE cb] = bksE (acc ++ [cb]) := (List.map_append (f := bkE) (l₁ := acc) (l₂ := [cb])).symm
    repeat' (first | (apply AL_callPw (hG); kernel_rfl; (iterate 4 exact rfl)) | rw [ei] | (apply AL_go ttok; exact rfl) | (apply AW_go ttok; exact rfl) | (apply AW_condA; exact rfl; (first | with_reducible assumption | decide +kernel)) | (apply AW_condB; exact rfl; (first | with_reducible assumption | decide +kernel)) | (apply AL_bsZ ttok; (iterate 12 exact rfl)) | (apply AL_append ttok; (iterate 6 exact rfl); (first | with_reducible assumption | decide +kernel | exact rfl | rotate_left); exact rfl; exact rfl; (first | exact uniB_ok rfl | with_reducible assumption | decide +kernel | rotate_left); (first | exact uniB_ok rfl | with_reducible assumption | decide +kernel | rotate_left); (first | exact List.cons_ne_nil _ _ | with_reducible assumption | decide +kernel | rotate_left); (first | with_reducible assumption | decide +kernel | rotate_left); (first | with_reducible assumption | decide +kernel | rotate_left); exact rfl; exact rfl) | (apply AL_idx ttok; (iterate 6 exact rfl); (first | with_reducible assumption | decide +kernel | exact Int.natCast_nonneg _ | (guard_target = (0:Int) <= (OfNat.ofNat _ : Int); decide) | rotate_left); (first | with_reducible assumption | decide +kernel | exact rfl); (first | exact uniB_ok rfl | with_reducible assumption | decide +kernel | rotate_left)))
    ·refine Lands.mk' (m := f - 1) (by omega) ⟨i + 1, (bksE acc).length + 1, acc ++ [cb], f0, by omega, by rw [<- hs, List.length_append]; rfl, hab2, by simp; omega, hq, rfl, .inr ⟨by rw [<- hs], rfl⟩⟩ ?_ rfl rfl rfl rfl rfl rfl
     exact .cons rfl (.cons rfl (.cons rfl (.cons rfl (.cons rfl (.cons rfl (.cons rfl (.cons rfl (.cons rfl .nil))))))))
    all_goals (first | rfl | (simp only [List.length_append, List.length_cons, List.length_nil, List.length_map, itEs_len]; done) | (simp only [List.length_append, List.length_cons, List.length_nil, List.length_map, itEs_len] at *; (try unfold maxLen); (try simp only [Nat.add_mul]); omega))
 ·have hdl : decide ((i : Int) < ((bksE bl).length : Int)) = false := decide_eq_false (by omega)
  have hqn : F = some acc := by
   rw [<- hq, List.drop_eq_nil_of_le hge, onC]
  subst hqn
  dsimp only [onEnd] at hd
  have hRt := av_bnRight ⟨⟨fl, sum, ⟨di, dn, ds, dh, dd⟩, ⟨ri, rn, rs, rh, rd⟩, ⟨xi, xn, xs, xh, xd⟩, t, q, life⟩, acc⟩ ⟨hfl, by show acc.length <= _; omega, hab⟩
  cases t13 : rightBn ⟨⟨fl, sum, ⟨di, dn, ds, dh, dd⟩, ⟨ri, rn, rs, rh, rd⟩, ⟨xi, xn, xs, xh, xd⟩, t, q, life⟩, acc⟩ with
  | false =>
   rw [t13] at hRt hd
   dsimp only at hd
   subst hd
   rcases hst with ⟨rfl, rfl, rfl⟩ | ⟨rfl, rfl⟩
   ·repeat' (first | (apply AL_callPw (hRt); kernel_rfl; (iterate 4 exact rfl)) | (apply AL_go ttok; exact rfl) | (apply AW_go ttok; exact rfl) | (apply K_go ttok; exact rfl) | (apply AW_condA; exact rfl; (first | with_reducible assumption | decide +kernel)) | (apply AW_condB; exact rfl; (first | with_reducible assumption | decide +kernel)))
    all_goals (apply endQ []; (apply resG_ok ttok; exact rfl); (iterate 4 exact rfl))
    all_goals rfl
   ·repeat' (first | (apply AL_callPw (hRt); kernel_rfl; (iterate 4 exact rfl)) | (apply AL_go ttok; exact rfl) | (apply AW_go ttok; exact rfl) | (apply K_go ttok; exact rfl) | (apply AW_condA; exact rfl; (first | with_reducible assumption | decide +kernel)) | (apply AW_condB; exact rfl; (first | with_reducible assumption | decide +kernel)))
    all_goals (apply endQ []; (apply resG_ok ttok; exact rfl); (iterate 4 exact rfl))
    all_goals rfl
  | true =>
   rw [t13] at hRt hd
   dsimp only at hd
   subst hd
   rcases hst with ⟨rfl, rfl, rfl⟩ | ⟨rfl, rfl⟩
   ·repeat' (first | (apply AL_callPw (hRt); kernel_rfl; (iterate 4 exact rfl)) | (apply AL_go ttok; exact rfl) | (apply AW_go ttok; exact rfl) | (apply K_go ttok; exact rfl) | (apply AW_condB; exact rfl; (first | with_reducible assumption | decide +kernel)))
    all_goals (apply endQ []; (apply resG_ok ttok; exact rfl); (iterate 4 exact rfl))
    all_goals rfl
   ·repeat' (first | (apply AL_callPw (hRt); kernel_rfl; (iterate 4 exact rfl)) | (apply AL_go ttok; exact rfl) | (apply AW_go ttok; exact rfl) | (apply K_go ttok; exact rfl) | (apply AW_condB; exact rfl; (first | with_reducible assumption | decide +kernel)))
    all_goals (apply endQ []; (apply resG_ok ttok; exact rfl); (iterate 4 exact rfl))
    all_goals rfl
end Go.Proofs.YtfkmicjlaedlkaaGreatDoor
end
section
open Go.RowKit Go.Pl Go.Av
namespace Go.Proofs.YtfkmicjlaedlkaaGreatDoor
set_option maxHeartbeats 4000000
theorem LeftH_2 (b : BunV) (since now : Int) : (LeftH b since now).2 = askH b since now := by
 unfold LeftH
 split
 ·rfl
 ·rename_i h; simpa using (by simpa using h : askH b since now = 0).symm
theorem av_hOn [Known] [KnownU8] (b : BunV) (hb : BunOk b) (h1000 : b.bl.length <= 1000) (self : EidV) (since now : Int) : AP Tryz.prog 31 [.agg (bnC b), .agg (eC self), .int .u64 since, .int .u64 now] (onD (onH b self since now)) [] := by
 have hK := av_hask b hb since now
 have hO := av_hOver b hb since now
 rw [LeftH_2] at hO
 have hE := av_eRight self
 have hS := av_hSpent b hb
 have hN := av_hNumber b hb
 have hP : AP Tryz.prog 73 [.int .u64 (numH b.bl : Int), .int .i64 0, .agg (eC self)] (blkD (ofV 6 (numH b.bl) 0 (if eRight self then itemE self else .mk 0 0 [] []) (if eRight self then 0 else 3))) [] := av_ofPrev (numH b.bl) 0 self
 have hF := av_find b 6 hb.len (fun c hc => Nat.le_trans (hb.bl c hc).2 (by omega))
 have hpo := pre_ok b self
 have hfl := hb.fl
 have hbl : ∀ c ∈ b.bl, okB3 c := hb.bl
 unfold onH onPre
 have hpe : (ofV 6 (numH b.bl) 0 (if eRight self then itemE self else .mk 0 0 [] []) (if eRight self then 0 else 3)).1 = preH b self := rfl
 generalize preH b self = pb at *
 generalize (ofV 6 (numH b.bl) 0 (if eRight self then itemE self else .mk 0 0 [] []) (if eRight self then 0 else 3)) = pr at *
 subst hpe
 generalize numH b.bl = nn at *
 generalize askH b since now = e at *
 generalize overH b since now = ov at *
 generalize spentH b = sp at *
 generalize eRight self = er at *
 clear hb
 obtain ⟨⟨fl, sum, ⟨di, dn, ds, dh, dd⟩, ⟨ri, rn, rs, rh, rd⟩, ⟨xi, xn, xs, xh, xd⟩, t, q, life⟩, bl⟩ := b
 obtain ⟨si, sn, ss, sh, sd⟩ := self
 dsimp only at *
 cases t1 : (e == 3) with
 | true => exact on_1 (si := si) (sn := sn) (ss := ss) (sh := sh) (sd := sd) (hK := hK) (hO := hO) (t1 := t1)
 | false =>
 cases er with
 | false => exact on_2 (hK := hK) (hO := hO) (t1 := t1) (hE := hE)
 | true =>
 cases t2 : zE ⟨si, sn, ss, sh, sd⟩ with
 | true => exact on_3 (hK := hK) (hO := hO) (t1 := t1) (hE := hE) (t2 := t2)
 | false =>
 cases t3 : (e != 0) with
 | true => exact on_4 (hK := hK) (hO := hO) (t1 := t1) (hE := hE) (t2 := t2) (t3 := t3)
 | false =>
 cases ov with
 | true => exact on_5 (hK := hK) (hO := hO) (t1 := t1) (hE := hE) (t2 := t2) (t3 := t3)
 | false =>
 cases sp with
 | true => exact on_6 (hK := hK) (hO := hO) (t1 := t1) (hE := hE) (t2 := t2) (t3 := t3) (hS := hS)
 | false =>
 obtain ⟨pb, pe⟩ := pr
 cases hf : bl.find? (isTy 6) with
 | none =>
  rw [hf] at hF
  exact on_7 (hK := hK) (hO := hO) (t1 := t1) (hE := hE) (t2 := t2) (t3 := t3) (hS := hS) (hbl := h1000) (hok := hbl) (hfl := hfl) (hpre := hpo) (hN := hN) (hP := hP) (hF := hF) (hd := rfl)
 | some c =>
  rw [hf] at hF
  exact on_8 (hK := hK) (hO := hO) (t1 := t1) (hE := hE) (t2 := t2) (t3 := t3) (hS := hS) (hbl := h1000) (hok := hbl) (hfl := hfl) (hF := hF) (hd := rfl)
end Go.Proofs.YtfkmicjlaedlkaaGreatDoor
end
section
open Go.RowKit Go.Pl Go.Av
namespace Go.Proofs.YtfkmicjlaedlkaaGreatDoor
theorem age_le (c : BlkV) : ageB c <= 1099511627776 := by
 unfold ageB
 split
 ·omega
 ·rename_i h
  have h0 : askV c 7 = 0 := by simpa using h
  unfold askV at h0
  split at h0
  ·simp at h0
  ·rename_i hty
   split at h0
   ·simp at h0
   ·rename_i hr
    have hty : (c.ty : Int) = 7 := by simpa using hty
    unfold bkRight at hr
    simp only [Bool.and_eq_true] at hr
    have hd := hr.2.2.2.2
    unfold dataV at hd
    rw [Bool.and_eq_true] at hd
    have hk := hd.1
    unfold dataK at hk
    rw [hty] at hk
    have hk : (ageV c.data).2 = true := hk
    unfold ageV at hk ⊢
    simp only [Bool.and_eq_true, decide_eq_true_eq] at hk
    dsimp only
    omega
theorem ageH_le (b : BunV) : ageH b <= 1099511627776 := by
 unfold ageH
 split
 ·exact age_le _
 ·omega
theorem right_parts {b : BunV} (h : rightBn b = true) : b.p.life <= 1099511627776 /\ b.p.t <= 1099511627776 := by
 unfold rightBn okAll at h
 simp only [Bool.and_eq_true, beq_iff_eq] at h
 obtain ⟨hr, _⟩ := right_of_writeP (p := b.p) (x := (writeP b.p).1) (Prod.ext rfl h.2.1.1)
 obtain ⟨_, _, _, _, h5, h6⟩ := pr_facts hr
 exact ⟨h6, (iRight_iff.1 h5).2.1⟩
def leftN (t life past now : Nat) : Nat := if 0 < t then (if now < t then life + (t - now) else life - (now - t)) else life - past
theorem leftI_eq {t life old since now : Nat} (h1 : t <= 1099511627776) (h2 : life <= 1099511627776) (h3 : old <= 1099511627776) (h4 : since <= now) (h5 : now <= 1099511627776) :
  leftI t life (old : Int) (IntKind.u64.wrap ((now : Int) - (since : Int))) (now : Int) = (leftN t life (old + (now - since)) now : Int) := by
 have e1 : IntKind.u64.wrap ((now : Int) - (since : Int)) = (now : Int) - since := IntWalk.u64_in _ (by omega)
 rw [e1]
 have e2 : IntKind.u64.wrap ((old : Int) + ((now : Int) - since)) = (old : Int) + (now - since) := IntWalk.u64_in _ (by omega)
 unfold leftI leftN
 rw [e2]
 split
 ·rename_i c1
  have c1 := of_decide_eq_true c1
  rw [if_pos (by omega)]
  split
  ·rename_i c2
   have c2 := of_decide_eq_true c2
   rw [if_pos (by omega), IntWalk.u64_in ((t : Int) - now) (by omega), IntWalk.u64_in _ (by omega)]
   omega
  ·rename_i c2
   have c2 := of_decide_eq_false c2
   have e3 : IntKind.u64.wrap ((now : Int) - (t : Int)) = (now : Int) - t := IntWalk.u64_in _ (by omega)
   rw [if_neg (by omega), e3]
   split
   ·rename_i c3
    have c3 := of_decide_eq_true c3
    omega
   ·rename_i c3
    have c3 := of_decide_eq_false c3
    rw [IntWalk.u64_in _ (by omega)]
    omega
 ·rename_i c1
  have c1 := of_decide_eq_false c1
  rw [if_neg (by omega)]
  split
  ·rename_i c3
   have c3 := of_decide_eq_true c3
   omega
  ·rename_i c3
   have c3 := of_decide_eq_false c3
   rw [IntWalk.u64_in _ (by omega)]
   omega
theorem LeftH_ok {b : BunV} {since now : Nat} (h : rightBn b = true) (h4 : since <= now) (h5 : now <= 1099511627776) : LeftH b since now = ((leftN b.p.t b.p.life (ageH b + (now - since)) now : Int), 0) := by
 have ha : askH b since now = 0 := by
  unfold askH
  rw [h]
  have c1 : decide ((since : Int) > (now : Int)) = false := decide_eq_false (by omega)
  have c2 : decide ((now : Int) > 1099511627776) = false := decide_eq_false (by omega)
  rw [c1, c2]
  rfl
 unfold LeftH
 rw [ha]
 obtain ⟨h1, h2⟩ := right_parts h
 have := leftI_eq (old := ageH b) h2 h1 (ageH_le b) h4 h5
 rw [show ((0 : Int) != 0) = false from rfl]
 dsimp only
 rw [this]
theorem LeftH_right {b : BunV} {since now : Nat} (he : (LeftH b since now).2 = 0) : rightBn b = true /\ since <= now := by
 rw [LeftH_2] at he
 unfold askH at he
 cases hr : rightBn b with
 | false => rw [hr] at he; simp at he
 | true =>
  rw [hr] at he
  dsimp only at he
  cases c : (decide ((since : Int) > (now : Int)) || decide ((now : Int) > 1099511627776)) with
  | true => rw [c] at he; simp at he
  | false =>
   rw [Bool.or_eq_false_iff, decide_eq_false_iff_not] at c
   exact ⟨rfl, by omega⟩
end Go.Proofs.YtfkmicjlaedlkaaGreatDoor
end
section
open Go.RowKit Go.Pl Go.Av
namespace Go.Proofs.YtfkmicjlaedlkaaGreatDoor
abbrev chB (self : EidV) (here : Int) (c : BlkV) : BlkV := (changeH c self here).1
theorem onC_map (self : EidV) (here : Int) : ∀ {bl acc l : List BlkV}, onC self here acc bl = some l -> l = acc ++ bl.map (chB self here) /\ ∀ c ∈ bl, (changeH c self here).2 = true
 | [], acc, l, h => by rw [onC] at h; cases h; simp
 | c :: r, acc, l, h => by
  rw [onC] at h
  cases hc : (changeH c self here).2 with
  | false => rw [hc] at h; cases h
  | true =>
   rw [hc] at h
   obtain ⟨h1, h2⟩ := onC_map self here h
   refine ⟨by rw [h1]; simp [chB], fun y hy => ?_⟩
   rcases List.mem_cons.1 hy with rfl | hy
   ·exact hc
   ·exact h2 y hy
theorem ch_cases {c : BlkV} {self : EidV} {here : Int} (h : (changeH c self here).2 = true) :
  (c.ty = 6 /\ eRight self = true /\ chB self here c = ⟨6, c.num, c.fl, c.sum, putI (itemE self)⟩) \/
  (c.ty = 7 /\ chB self here c = ⟨7, c.num, c.fl, c.sum, putI (.mk 0 (add64 (ageB c : Int) here) [] [])⟩) \/
  (c.ty = 10 /\ chB self here c = ⟨10, c.num, c.fl, c.sum, putI (hopI (hopL c) (add64 (hopN c : Int) 1))⟩) \/
  (c.ty ≠ 6 /\ c.ty ≠ 7 /\ c.ty ≠ 10 /\ chB self here c = c) := by
 unfold chB
 unfold changeH at h ⊢
 cases t1 : ((c.ty : Int) == 6) with
 | true =>
  rw [t1] at h
  have h0 : (prevR c self).2 = 0 := by simpa [putFl] using h
  obtain ⟨he, hr1, _, hp⟩ := of_data (p := (prevR c self).1) (Prod.ext rfl h0)
  have hx : eRight self = true := by
   cases hx : eRight self with
   | true => rfl
   | false => rw [hx] at he; simp at he
  rw [hx] at hp
  have hty : c.ty = 6 := by have : (c.ty : Int) = 6 := by simpa using t1
                            omega
  exact .inl ⟨hty, hx, by simp only [putFl]; rw [hp]; rfl⟩
 | false =>
 rw [t1] at h
 have n6 : c.ty ≠ 6 := fun e => by rw [e] at t1; simp at t1
 cases t2 : ((c.ty : Int) == 7) with
 | true =>
  rw [t2] at h
  have h0 : (ofV 7 c.num c.sum (.mk 0 (add64 (ageB c : Int) here) [] []) 0).2 = 0 := by simpa [putFl] using h
  obtain ⟨_, _, _, hp⟩ := of_data (p := (ofV 7 c.num c.sum (.mk 0 (add64 (ageB c : Int) here) [] []) 0).1) (Prod.ext rfl h0)
  have hty : c.ty = 7 := by have : (c.ty : Int) = 7 := by simpa using t2
                            omega
  exact .inr (.inl ⟨hty, by simp only [putFl]; rw [hp]⟩)
 | false =>
 rw [t2] at h
 have n7 : c.ty ≠ 7 := fun e => by rw [e] at t2; simp at t2
 cases t3 : ((c.ty : Int) == 10) with
 | true =>
  rw [t3] at h
  have h0 : (ofV 10 c.num c.sum (hopI (hopL c) (add64 (hopN c : Int) 1)) 0).2 = 0 := by simpa [putFl] using h
  obtain ⟨_, _, _, hp⟩ := of_data (p := (ofV 10 c.num c.sum (hopI (hopL c) (add64 (hopN c : Int) 1)) 0).1) (Prod.ext rfl h0)
  have hty : c.ty = 10 := by have : (c.ty : Int) = 10 := by simpa using t3
                             omega
  exact .inr (.inr (.inl ⟨hty, by simp only [putFl]; rw [hp]⟩))
 | false =>
  have n10 : c.ty ≠ 10 := fun e => by rw [e] at t3; simp at t3
  exact .inr (.inr (.inr ⟨n6, n7, n10, rfl⟩))
theorem ch_ty {c : BlkV} {self : EidV} {here : Int} (h : (changeH c self here).2 = true) : (chB self here c).ty = c.ty := by
 rcases ch_cases h with ⟨e, _, h⟩ | ⟨e, h⟩ | ⟨e, h⟩ | ⟨_, _, _, h⟩ <;> rw [h] <;> simp [e]
theorem ask_0 {c : BlkV} {k : Nat} (hr : bkRight c = true) (ht : c.ty = k) : askV c k = 0 := by
 unfold askV
 rw [hr, ht]
 simp
theorem ch_age {c : BlkV} {self : EidV} {here : Int} (h : (changeH c self here).2 = true) (ht : c.ty = 7) (hr : bkRight (chB self here c) = true) : ageB (chB self here c) = add64 (ageB c : Int) here := by
 have hty := ch_ty h
 unfold ageB
 rw [ask_0 hr (hty.trans ht)]
 rcases ch_cases h with ⟨e, _, _⟩ | ⟨_, h⟩ | ⟨e, _⟩ | ⟨_, e, _⟩
 ·omega
 ·rw [h]
  unfold ageV
  dsimp only
  rw [read_put00 (num_wf (add64_lt _ _)) (num_right _)]
  rfl
 ·omega
 ·exact (e ht).elim
theorem ch_hops {c : BlkV} {self : EidV} {here : Int} (h : (changeH c self here).2 = true) (ht : c.ty = 10) (hL : hopL c < 18446744073709551616) (hr : bkRight (chB self here c) = true) : hopL (chB self here c) = hopL c /\ hopN (chB self here c) = add64 (hopN c : Int) 1 := by
 have hty := ch_ty h
 unfold hopL hopN
 rw [ask_0 hr (hty.trans ht)]
 rcases ch_cases h with ⟨e, _⟩ | ⟨e, _⟩ | ⟨_, h⟩ | ⟨_, _, e, _⟩
 ·omega
 ·omega
 ·rw [h]
  unfold hopsV
  dsimp only
  rw [read_put00 (hop_wf hL (add64_lt _ _)) (hop_right _ _), short_put (hop_wf hL (add64_lt _ _)) (hop_right _ _)]
  exact ⟨rfl, rfl⟩
 ·exact (e ht).elim
theorem find_map {self : EidV} {here : Int} {k : Nat} : ∀ {bl : List BlkV}, (∀ c ∈ bl, (changeH c self here).2 = true) -> (bl.map (chB self here)).find? (isTy k) = (bl.find? (isTy k)).map (chB self here)
 | [], _ => rfl
 | c :: bl, h => by
  have ht := ch_ty (h c (List.mem_cons_self ..))
  have ih := find_map (k := k) (fun y hy => h y (List.mem_cons_of_mem c hy))
  have e : isTy k (chB self here c) = isTy k c := by unfold isTy; rw [ht]
  rw [List.map_cons, List.find?_cons, List.find?_cons, e]
  cases isTy k c with
  | true => rfl
  | false => exact ih
theorem preH_ty (b : BunV) (self : EidV) : (preH b self).ty = 6 \/ preH b self = bk0 := by
 unfold preH
 rcases of_err (kind := 6) (number := numH b.bl) (sum := 0) (x := if eRight self then itemE self else .mk 0 0 [] []) (e := if eRight self then 0 else 3) with h | h
 ·obtain ⟨_, _, _, hp⟩ := of_data (p := (ofV 6 (numH b.bl) 0 (if eRight self then itemE self else .mk 0 0 [] []) (if eRight self then 0 else 3)).1) (Prod.ext rfl h)
  rw [hp]; exact .inl rfl
 ·rw [h]; exact .inr rfl
theorem find_pre {b : BunV} {self : EidV} {here : Int} {k : Nat} (hk : k = 7 \/ k = 10) (h : ∀ c ∈ b.bl, (changeH c self here).2 = true) : (onPre b self ++ b.bl.map (chB self here)).find? (isTy k) = (b.bl.find? (isTy k)).map (chB self here) := by
 rw [<- find_map h]
 unfold onPre
 split
 ·rfl
 ·have e : isTy k (preH b self) = false := by
   unfold isTy
   rcases preH_ty b self with h | h
   ·rw [h]; rcases hk with rfl | rfl <;> rfl
   ·rw [h]; rcases hk with rfl | rfl <;> rfl
  rw [List.cons_append, List.nil_append, List.find?_cons, e]
theorem isTy_eq {k : Nat} {c : BlkV} (h : isTy k c = true) : c.ty = k := by
 have : (c.ty : Int) = (k : Int) := by simpa [isTy] using h
 omega
structure Sent (b out : BunV) (sf : EidV) (since now : Nat) : Prop where
 right : rightBn out = true
 p : out.p = b.p
 bl : out.bl = onPre b sf ++ b.bl.map (chB sf (IntKind.u64.wrap ((now : Int) - (since : Int))))
 ch : ∀ c ∈ b.bl, (changeH c sf (IntKind.u64.wrap ((now : Int) - (since : Int)))).2 = true
 was : rightBn b = true
 le : since <= now
 top : now <= 1099511627776
 er : eRight sf = true
 ze : zE sf = false
 over : overH b since now = false
 spent : spentH b = false
theorem onEnd_ok {p : PriV} {o : Option (List BlkV)} {out : BunV} (h : onEnd p o = (out, 0)) : ∃ l, o = some l /\ rightBn ⟨p, l⟩ = true /\ out = ⟨p, l⟩ := by
 unfold onEnd at h
 cases o with
 | none => simp at h
 | some l =>
  dsimp only at h
  cases hr : rightBn ⟨p, l⟩ with
  | false => rw [hr] at h; simp at h
  | true => rw [hr] at h; simp at h; exact ⟨l, rfl, hr, h.symm⟩
theorem on_sent {b out : BunV} {self : EidV} {since now : Nat} (h : onH b self since now = (out, 0)) : Sent b out self since now := by
 unfold onH at h
 cases c1 : ((askH b since now == 3) || (!eRight self || zE self)) with
 | true => rw [c1] at h; simp at h
 | false =>
 rw [c1] at h
 dsimp only at h
 cases c2 : (askH b since now != 0) with
 | true =>
  rw [c2] at h
  dsimp only at h
  have c2 : askH b since now ≠ 0 := by simpa using c2
  simp at h; exact (c2 h.2).elim
 | false =>
 rw [c2] at h
 dsimp only at h
 cases c3 : overH b since now with
 | true => rw [c3] at h; simp at h
 | false =>
 rw [c3] at h
 dsimp only at h
 cases c4 : spentH b with
 | true => rw [c4] at h; simp at h
 | false =>
 rw [c4] at h
 dsimp only at h
 obtain ⟨l, hl, hr, rfl⟩ := onEnd_ok h
 obtain ⟨m1, m2⟩ := onC_map _ _ hl
 simp only [Bool.or_eq_false_iff, Bool.not_eq_false'] at c1
 have ha : askH b since now = 0 := by simpa using c2
 have hR : (LeftH b since now).2 = 0 := by rw [LeftH_2]; exact ha
 obtain ⟨w1, w2⟩ := LeftH_right hR
 have top : now <= 1099511627776 := by
  unfold askH at ha
  rw [w1] at ha
  dsimp only at ha
  cases c : (decide ((since : Int) > (now : Int)) || decide ((now : Int) > 1099511627776)) with
  | true => rw [c] at ha; simp at ha
  | false =>
   rw [Bool.or_eq_false_iff, decide_eq_false_iff_not, decide_eq_false_iff_not] at c
   omega
 exact ⟨hr, rfl, m1, m2, w1, w2, top, c1.2.1, c1.2.2, c3, c4⟩
theorem onEnd_err {p : PriV} {o : Option (List BlkV)} : onEnd p o = (bn0, 3) \/ ∃ l, onEnd p o = (⟨p, l⟩, 0) := by
 unfold onEnd
 repeat' split
 ·exact .inl rfl
 ·exact .inr ⟨_, rfl⟩
 ·exact .inl rfl
theorem on_err (b : BunV) (self : EidV) (since now : Int) : (onH b self since now).2 = 0 \/ (onH b self since now).1 = bn0 := by
 unfold onH
 repeat' split
 all_goals first | exact .inr rfl | skip
 rcases onEnd_err (p := b.p) (o := onC self (IntKind.u64.wrap (now - since)) (onPre b self) b.bl) with h | ⟨l, h⟩
 ·rw [h]; exact .inr rfl
 ·rw [h]; exact .inl rfl
theorem right_ok {b : BunV} (hb : BunOk b) {out : BunV} {self : EidV} {since now : Nat} (h : Sent b out self since now) : BunOk out := by
 refine ⟨by rw [h.p]; exact hb.fl, by have := (fit_right_all (Bool.and_eq_true_iff.1 h.right).1).1; omega, fun c hc => ?_⟩
 rw [h.bl] at hc
 rcases List.mem_append.1 hc with hc | hc
 ·unfold onPre at hc
  split at hc
  ·simp at hc
  ·simp at hc; subst hc; exact pre_ok b self
 ·obtain ⟨y, hy, rfl⟩ := List.mem_map.1 hc
  exact change_ok self _ (hb.bl y hy)
theorem sent_right {b out : BunV} {self : EidV} {since now : Nat} (h : Sent b out self since now) {c : BlkV} (hc : c ∈ b.bl) : bkRight (chB self (IntKind.u64.wrap ((now : Int) - (since : Int))) c) = true :=
 (fit_right_all (Bool.and_eq_true_iff.1 h.right).1).2 _ (by rw [h.bl]; exact List.mem_append_right _ (List.mem_map_of_mem hc))
theorem sent_age {b out : BunV} {self : EidV} {since now : Nat} (h : Sent b out self since now) : out.bl.find? (isTy 7) = (b.bl.find? (isTy 7)).map (chB self (IntKind.u64.wrap ((now : Int) - (since : Int)))) /\ ageH out = match b.bl.find? (isTy 7) with
  | some c => ageB c + (now - since)
  | none => 0 := by
 have hf := find_pre (k := 7) (.inl rfl) h.ch
 rw [<- h.bl] at hf
 refine ⟨hf, ?_⟩
 unfold ageH
 rw [hf]
 cases hb : b.bl.find? (isTy 7) with
 | none => rfl
 | some c =>
  have hm := List.mem_of_find?_eq_some hb
  show ageB (chB self _ c) = _
  rw [ch_age (h.ch c hm) (isTy_eq (List.find?_some hb)) (sent_right h hm)]
  show add64 _ _ = ageB c + (now - since)
  have := age_le c
  have h1 := h.le
  have h2 := h.top
  unfold add64
  rw [IntWalk.u64_in ((now : Int) - since) (by omega), IntWalk.u64_in _ (by omega)]
  omega
theorem sent_hops {b out : BunV} (hb : BunOk b) {self : EidV} {since now : Nat} (h : Sent b out self since now) : match b.bl.find? (isTy 10) with
  | some c => ∃ d, out.bl.find? (isTy 10) = some d /\ hopL d = hopL c /\ hopN d = add64 (hopN c : Int) 1 /\ askV d 10 = 0
  | none => out.bl.find? (isTy 10) = none := by
 have hf := find_pre (k := 10) (.inr rfl) h.ch
 rw [<- h.bl] at hf
 cases hb2 : b.bl.find? (isTy 10) with
 | none => rw [hb2] at hf; exact hf
 | some c =>
  rw [hb2] at hf
  have hm := List.mem_of_find?_eq_some hb2
  have ht := isTy_eq (List.find?_some hb2)
  obtain ⟨h1, h2⟩ := ch_hops (h.ch c hm) ht (hops_lt (Nat.le_trans (hb.bl c hm).2 (by omega))) (sent_right h hm)
  exact ⟨_, hf, h1, h2, ask_0 (sent_right h hm) ((ch_ty (h.ch c hm)).trans ht)⟩
end Go.Proofs.YtfkmicjlaedlkaaGreatDoor
end
section
open Go.RowKit Go.Pl Go.Av
namespace Go.Proofs.YtfkmicjlaedlkaaGreatDoor
set_option maxHeartbeats 4000000
end Go.Proofs.YtfkmicjlaedlkaaGreatDoor
end
section
open Go.RowKit Go.Pl Go.Av
namespace Go.Proofs.YtfkmicjlaedlkaaGreatDoor
set_option maxHeartbeats 4000000
def greatP (p : PriV) : Bool := decide (IntKind.i64.wrap (IntKind.i64.wrap (IntKind.i64.wrap ((p.dest.h.length : Int) + (p.dest.d.length : Int)) + (p.rep.h.length : Int)) + (p.rep.d.length : Int)) > 300) || decide (IntKind.i64.wrap ((p.src.h.length : Int) + (p.src.d.length : Int)) > 300)
theorem av_great6 [Known] (p : PriV) : AP Tryz.prog 8 [.agg (prC p)] (.bool (greatP p)) [] := by
 have hI := av_greatN p.src p.t p.q
 unfold greatP
 obtain ⟨fl, sum, ⟨di, dn, ds, dh, dd⟩, ⟨ri, rn, rs, rh, rd⟩, ⟨xi, xn, xs, xh, xd⟩, t, q, life⟩ := p
 try dsimp only at *
 generalize (IntKind.i64.wrap ((xh.length : Int) + (xd.length : Int))) = w2 at *
 cases t1 : decide (IntKind.i64.wrap (IntKind.i64.wrap (IntKind.i64.wrap ((dh.length : Int) + (dd.length : Int)) + (rh.length : Int)) + (rd.length : Int)) > 300) <;> cases t2 : decide (w2 > 300)
 all_goals
  rw [t2] at hI
  refine AP.ofA ?_
  refine AC_of Tryz.func8 rfl Tryz.ntmps8 rfl rfl ?_
  repeat' (first | (apply AL_callPw (hI); kernel_rfl; (iterate 4 exact rfl)) | (apply AL_go ttok; exact rfl) | (apply AW_go ttok; exact rfl) | (apply AL_guardT; (iterate 3 exact rfl); (first | with_reducible assumption | decide +kernel)) | (apply AL_guardFf; (iterate 3 exact rfl); (first | with_reducible assumption | decide +kernel)) | (apply AL_pickT; exact rfl; (first | with_reducible assumption | decide +kernel); exact rfl; exact rfl) | (apply AL_pickF; exact rfl; (first | with_reducible assumption | decide +kernel); exact rfl; exact rfl) | (apply AL_lens ttok; (iterate 4 exact rfl)))
  all_goals (apply endQ []; (apply resG_ok ttok; exact rfl); (iterate 4 exact rfl))
  all_goals rfl
end Go.Proofs.YtfkmicjlaedlkaaGreatDoor
end
section
open Go.RowKit Go.Pl Go.Av
namespace Go.Proofs.YtfkmicjlaedlkaaGreatDoor
set_option maxHeartbeats 4000000
def bigB (l : List BlkV) : Bool := l.any fun c => decide ((c.data.length : Int) > 400)
def greatBn (b : BunV) : Bool := decide ((b.bl.length : Int) > 20) || (greatP b.p || bigB b.bl)
theorem great_no {b : BunV} (h : greatBn b = false) : b.bl.length <= 20 /\ ∀ c ∈ b.bl, c.data.length <= 400 := by
 unfold greatBn bigB at h
 simp only [Bool.or_eq_false_iff, decide_eq_false_iff_not, List.any_eq_false, decide_eq_true_eq] at h
 refine ⟨by omega, fun c hc => ?_⟩
 have := h.2.2 c hc
 omega
theorem av_great8 [Known] (b : BunV) : AP Tryz.prog 20 [.agg (bnC b)] (.bool (greatBn b)) [] := by
 have hG := av_great6 b.p
 have hlen := bks_len b.bl
 unfold greatBn
 cases t0 : decide ((b.bl.length : Int) > 20) with
 | true =>
  have t1 : decide (((bksE b.bl).length : Int) > 20) = true := by rw [hlen]; exact t0
  obtain ⟨⟨fl, sum, ⟨di, dn, ds, dh, dd⟩, ⟨ri, rn, rs, rh, rd⟩, ⟨xi, xn, xs, xh, xd⟩, t, q, life⟩, bl⟩ := b
  try dsimp only at *
  refine AP.ofA ?_
  refine AC_of Tryz.func20 rfl Tryz.ntmps20 rfl rfl ?_
  repeat' (first | (apply AL_go ttok; exact rfl) | (apply AW_go ttok; exact rfl) | (apply K_go ttok; exact rfl) | (apply AL_guardFf; (iterate 3 exact rfl); (first | with_reducible assumption | decide +kernel)) | (apply AL_pickT; exact rfl; (first | with_reducible assumption | decide +kernel); exact rfl; exact rfl) | (apply AW_condA; exact rfl; (first | with_reducible assumption | decide +kernel)) | (apply AL_len ttok; (iterate 4 exact rfl)))
  all_goals (apply endQ []; (apply resG_ok ttok; exact rfl); (iterate 4 exact rfl))
  all_goals rfl
 | false =>
 have h20 := of_decide_eq_false t0
 have t1 : decide (((bksE b.bl).length : Int) > 20) = false := by rw [hlen]; exact t0
 generalize greatP b.p = gp at *
 cases gp with
 | true =>
  obtain ⟨⟨fl, sum, ⟨di, dn, ds, dh, dd⟩, ⟨ri, rn, rs, rh, rd⟩, ⟨xi, xn, xs, xh, xd⟩, t, q, life⟩, bl⟩ := b
  try dsimp only at *
  refine AP.ofA ?_
  refine AC_of Tryz.func20 rfl Tryz.ntmps20 rfl rfl ?_
  repeat' (first | (apply AL_callPw (hG); kernel_rfl; (iterate 4 exact rfl)) | (apply AL_go ttok; exact rfl) | (apply AW_go ttok; exact rfl) | (apply K_go ttok; exact rfl) | (apply AL_guardT; (iterate 3 exact rfl); (first | with_reducible assumption | decide +kernel)) | (apply AL_pickF; exact rfl; (first | with_reducible assumption | decide +kernel); exact rfl; exact rfl) | (apply AW_condA; exact rfl; (first | with_reducible assumption | decide +kernel)) | (apply AL_len ttok; (iterate 4 exact rfl)))
  all_goals (apply endQ []; (apply resG_ok ttok; exact rfl); (iterate 4 exact rfl))
  all_goals rfl
 | false =>
 rw [Bool.false_or, Bool.false_or]
 obtain ⟨⟨fl, sum, ⟨di, dn, ds, dh, dd⟩, ⟨ri, rn, rs, rh, rd⟩, ⟨xi, xn, xs, xh, xd⟩, t, q, life⟩, bl⟩ := b
 try dsimp only at *
 have hU := uniK bl
 generalize hF : bigB bl = F
 refine AP.ofA ?_
 refine AC_of Tryz.func20 rfl Tryz.ntmps20 rfl rfl ?_
 repeat' (first | (apply AL_callPw (hG); kernel_rfl; (iterate 4 exact rfl)) | (apply AL_go ttok; exact rfl) | (apply AW_go ttok; exact rfl) | (apply K_go ttok; exact rfl) | (apply AL_guardT; (iterate 3 exact rfl); (first | with_reducible assumption | decide +kernel)) | (apply AL_pickF; exact rfl; (first | with_reducible assumption | decide +kernel); exact rfl; exact rfl) | (apply AW_condB; exact rfl; (first | with_reducible assumption | decide +kernel)) | (apply AL_len ttok; (iterate 4 exact rfl)))
 show AW _ _ _ _
 refine AW_loopJ (fun f tm bx fr => ∃ (i : Nat), f + i = bl.length /\ bigB (bl.drop i) = F /\ tm = [(1, .ptr 0 0), (3, .int .i64 (i : Int))] /\ bx = [[.int .u64 (fl : Int), .int .i64 sum, .bool di, .int .u64 (dn : Int), .int .u64 (ds : Int), .str dh, .str dd, .bool ri, .int .u64 (rn : Int), .int .u64 (rs : Int), .str rh, .str rd, .bool xi, .int .u64 (xn : Int), .int .u64 (xs : Int), .str xh, .str xd, .int .u64 (t : Int), .int .u64 (q : Int), .int .u64 (life : Int), .sl .ext (bksE bl)]] /\ fr = []) (bl.length + 1) (Lands.mk' (m := bl.length) (Nat.lt_succ_self _) ⟨0, by omega, hF, rfl, rfl, rfl⟩ ?_ rfl rfl rfl rfl rfl rfl) ?_
 ·exact .cons rfl (.cons rfl .nil)
 rintro f tm bx fr ⟨i, hf, hq, rfl, rfl, rfl⟩
 rcases Nat.lt_or_ge i bl.length with hlt | hge
 ·have hdl : decide ((i : Int) < ((bksE bl).length : Int)) = true := decide_eq_true (by omega)
  obtain ⟨c, hy⟩ : ∃ y, bl[i]? = some y := ⟨_, List.getElem?_eq_getElem hlt⟩
  have hv := bks_get hy
  have hdr : bl.drop i = c :: bl.drop (i + 1) := by
   rw [List.drop_eq_getElem_cons hlt]; congr 1
   exact (List.getElem?_eq_some_iff.1 hy).2
  rw [hdr] at hq
  replace hq : (decide ((c.data.length : Int) > 400) || bigB (bl.drop (i + 1))) = F := hq
  have hcl : ((c.data.map E.byte).length : Int) = (c.data.length : Int) := by rw [List.length_map]
  have ei : IntKind.i64.wrap ((i : Int) + 1) = ((i + 1 : Nat) : Int) := by rw [IntWalk.i64_in _ (by omega)]; omega
  rw [<- hcl] at hq
  cases hb : decide (((c.data.map E.byte).length : Int) > 400) with
  | true =>
   rw [hb, Bool.true_or] at hq
   subst hq
   repeat' (first | (apply AL_go ttok; exact rfl) | (apply AW_go ttok; exact rfl) | (apply K_go ttok; exact rfl) | (apply AW_condA; exact rfl; (first | with_reducible assumption | decide +kernel)) | refine then_ret ?_ | (apply AL_len ttok; (iterate 4 exact rfl)) | (apply AL_idx ttok; (iterate 6 exact rfl); (first | with_reducible assumption | decide +kernel | exact Int.natCast_nonneg _ | (guard_target = (0:Int) <= (OfNat.ofNat _ : Int); decide) | rotate_left); (first | with_reducible assumption | decide +kernel | exact rfl); (first | exact uniB_ok rfl | with_reducible assumption | decide +kernel | rotate_left)))
   all_goals (apply endQ []; (apply resG_ok ttok; exact rfl); (iterate 4 exact rfl))
   all_goals rfl
  | false =>
   rw [hb, Bool.false_or] at hq
   repeat' (first | rw [ei] | (apply AL_go ttok; exact rfl) | (apply AW_go ttok; exact rfl) | (apply K_go ttok; exact rfl) | (apply AW_condA; exact rfl; (first | with_reducible assumption | decide +kernel)) | (apply AW_condB; exact rfl; (first | with_reducible assumption | decide +kernel)) | (apply AL_len ttok; (iterate 4 exact rfl)) | (apply AL_idx ttok; (iterate 6 exact rfl); (first | with_reducible assumption | decide +kernel | exact Int.natCast_nonneg _ | (guard_target = (0:Int) <= (OfNat.ofNat _ : Int); decide) | rotate_left); (first | with_reducible assumption | decide +kernel | exact rfl); (first | exact uniB_ok rfl | with_reducible assumption | decide +kernel | rotate_left)))
   refine Lands.mk' (m := f - 1) (by omega) ⟨i + 1, by omega, hq, rfl, rfl, rfl⟩ ?_ rfl rfl rfl rfl rfl rfl
   exact .cons rfl (.cons rfl .nil)
 ·have hdl : decide ((i : Int) < ((bksE bl).length : Int)) = false := decide_eq_false (by omega)
  rw [List.drop_eq_nil_of_le hge] at hq
  replace hq : false = F := hq
  subst hq
  repeat' (first | (apply AL_go ttok; exact rfl) | (apply AW_go ttok; exact rfl) | (apply K_go ttok; exact rfl) | (apply AW_condB; exact rfl; (first | with_reducible assumption | decide +kernel)) | (apply AL_len ttok; (iterate 4 exact rfl)))
  all_goals (apply endQ []; (apply resG_ok ttok; exact rfl); (iterate 4 exact rfl))
  all_goals rfl
end Go.Proofs.YtfkmicjlaedlkaaGreatDoor
end
section
open Go.RowKit Go.Pl Go.Av
namespace Go.Proofs.YtfkmicjlaedlkaaGreatDoor
set_option maxHeartbeats 4000000
def payV (b : BunV) : List UInt8 := match b.bl[b.bl.length - 1]? with
 | some c => c.data
 | none => []
theorem av_pay [Known] (b : BunV) (hb : BunOk b) : AP Tryz.prog 36 [.agg (bnC b)] (byE (payV b)) [] := by
 have hlen := bks_len b.bl
 have hU := uniK b.bl
 unfold payV
 obtain ⟨_, hl, hbl⟩ := hb
 cases hlast : b.bl[b.bl.length - 1]? with
 | none =>
  have h0 : b.bl.length = 0 := by have := List.getElem?_eq_none_iff.1 hlast; omega
  have t1 : (((bksE b.bl).length : Int) == 0) = true := by rw [hlen, h0]; rfl
  obtain ⟨⟨fl, sum, ⟨di, dn, ds, dh, dd⟩, ⟨ri, rn, rs, rh, rd⟩, ⟨xi, xn, xs, xh, xd⟩, t, q, life⟩, bl⟩ := b
  try dsimp only at *
  refine AP.ofA ?_
  refine AC_of Tryz.func36 rfl Tryz.ntmps36 rfl rfl ?_
  repeat' (first | (apply AL_go ttok; exact rfl) | (apply AW_go ttok; exact rfl) | (apply K_go ttok; exact rfl) | (apply AW_condA; exact rfl; (first | with_reducible assumption | decide +kernel)) | (apply AL_len ttok; (iterate 4 exact rfl)))
  all_goals (apply endQ []; (apply resG_ok ttok; exact rfl); (iterate 4 exact rfl))
  all_goals rfl
 | some c =>
 have hlt := (List.getElem?_eq_some_iff.1 hlast).1
 have hv := bks_get hlast
 rw [show ((b.bl.length - 1 : Nat) : Int) = (b.bl.length : Int) - 1 from by omega] at hv
 have t1 : (((bksE b.bl).length : Int) == 0) = false := by rw [hlen]; exact beq_eq_false_iff_ne.2 (by omega)
 have en : IntKind.i64.wrap (((bksE b.bl).length : Int) - 1) = (b.bl.length : Int) - 1 := by rw [IntWalk.i64_in _ (by omega)]; omega
 have i0 : (0 : Int) <= (b.bl.length : Int) - 1 := by omega
 have hC := av_cloneB c.data (by have := (hbl c (List.mem_of_getElem? hlast)).2; omega)
 obtain ⟨⟨fl, sum, ⟨di, dn, ds, dh, dd⟩, ⟨ri, rn, rs, rh, rd⟩, ⟨xi, xn, xs, xh, xd⟩, t, q, life⟩, bl⟩ := b
 try dsimp only at *
 refine AP.ofA ?_
 refine AC_of Tryz.func36 rfl Tryz.ntmps36 rfl rfl ?_
 repeat' (first | rw [en] | (apply AL_callPw (hC); kernel_rfl; (iterate 4 exact rfl)) | (apply AL_go ttok; exact rfl) | (apply AW_go ttok; exact rfl) | (apply K_go ttok; exact rfl) | (apply AW_condB; exact rfl; (first | with_reducible assumption | decide +kernel)) | (apply AL_len ttok; (iterate 4 exact rfl)) | (apply AL_idx ttok; (iterate 6 exact rfl); (first | with_reducible assumption | decide +kernel | exact Int.natCast_nonneg _ | (guard_target = (0:Int) <= (OfNat.ofNat _ : Int); decide) | rotate_left); (first | with_reducible assumption | decide +kernel | exact rfl); (first | exact uniB_ok rfl | with_reducible assumption | decide +kernel | rotate_left)))
 all_goals (apply endQ []; (apply resG_ok ttok; exact rfl); (iterate 4 exact rfl))
 all_goals rfl
abbrev hiC : List D := [.int .u64 0, .int .i64 0, .bool false, .int .u64 0, .int .u64 0, .str [], .str [], .bool false, .int .u64 0, .int .u64 0, .str [], .str [], .bool false, .int .u64 0, .int .u64 0, .str [], .str [], .int .u64 0, .int .u64 0, .int .u64 0, .sl .ext [.agg [.int .u64 1, .int .u64 1, .int .u64 0, .int .i64 0, .sl [.int .u8 104, .int .u8 105]]]]
theorem fh7 [Known] : AP Tryz.prog 57 [.sl .ext [.int .u8 104, .int .u8 105]] (.agg hiC) [] := by
 refine AP.ofA ?_
 refine AC_of Tryz.func57 rfl Tryz.ntmps57 rfl rfl ?_
 repeat' (first | (apply AL_go ttok; exact rfl) | (apply AW_go ttok; exact rfl) | (apply AL_bsZ ttok; (iterate 12 exact rfl)))
 all_goals (apply endQ []; (apply resG_ok ttok; exact rfl); (iterate 4 exact rfl))
 all_goals rfl
end Go.Proofs.YtfkmicjlaedlkaaGreatDoor
end

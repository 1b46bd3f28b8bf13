/- Package bundle: the payload; the law's fixed calls. -/
import Derived.Test.YtfkmicjlaedlkaaGreatDoorG30
import Derived.Test.YtfkmicjlaedlkaaGreatDoorG01
import Derived.Test.YtfkmicjlaedlkaaGreatDoorG06
import Derived.Test.YtfkmicjlaedlkaaGreatDoorG10
import Derived.Test.YtfkmicjlaedlkaaGreatDoorG26
import Derived.Test.YtfkmicjlaedlkaaGreatDoorG29
import Derived.Test.YtfkmicjlaedlkaaGreatDoorG22
import Derived.Test.YtfkmicjlaedlkaaGreatDoorProg
import Derived.Lib.LaidU8
set_option linter.unusedVariables false
set_option linter.unusedSimpArgs false
section
open Go.RowKit Go.Pl Go.Av
namespace Go.Proofs.YtfkmicjlaedlkaaGreatDoor
set_option maxHeartbeats 4000000
def payV (b : BunV) : List UInt8 := match b.bl[b.bl.length - 1]? with
 | some c => c.data
 | none => []
theorem av_pay [Known] (b : BunV) (hb : BunOk b) : AP Tryz.prog 36 [.agg (bnC b)] (byE (payV b)) [] := by
 have hlen := bks_len b.bl
 have hU := uniK b.bl
 unfold payV
 obtain ⟨_, hl, hbl⟩ := hb
 cases hlast : b.bl[b.bl.length - 1]? with
 | none =>
  have h0 : b.bl.length = 0 := by have := List.getElem?_eq_none_iff.1 hlast; omega
  have t1 : (((bksE b.bl).length : Int) == 0) = true := by rw [hlen, h0]; rfl
  obtain ⟨⟨fl, sum, ⟨di, dn, ds, dh, dd⟩, ⟨ri, rn, rs, rh, rd⟩, ⟨xi, xn, xs, xh, xd⟩, t, q, life⟩, bl⟩ := b
  try dsimp only at *
  refine AP.ofA ?_
  refine AC_of Tryz.func36 rfl Tryz.ntmps36 rfl rfl ?_
  repeat' (first | (apply AL_go ttok; exact rfl) | (apply AW_go ttok; exact rfl) | (apply K_go ttok; exact rfl) | (apply AW_condA; exact rfl; (first | with_reducible assumption | decide +kernel)) | (apply AL_len ttok; (iterate 4 exact rfl)))
  all_goals (apply endQ []; (apply resG_ok ttok; exact rfl); (iterate 4 exact rfl))
  all_goals rfl
 | some c =>
 have hlt := (List.getElem?_eq_some_iff.1 hlast).1
 have hv := bks_get hlast
 rw [show ((b.bl.length - 1 : Nat) : Int) = (b.bl.length : Int) - 1 from by omega] at hv
 have t1 : (((bksE b.bl).length : Int) == 0) = false := by rw [hlen]; exact beq_eq_false_iff_ne.2 (by omega)
 have en : IntKind.i64.wrap (((bksE b.bl).length : Int) - 1) = (b.bl.length : Int) - 1 := by rw [IntWalk.i64_in _ (by omega)]; omega
 have i0 : (0 : Int) <= (b.bl.length : Int) - 1 := by omega
 have hC := av_cloneB c.data (by have := (hbl c (List.mem_of_getElem? hlast)).2; omega)
 obtain ⟨⟨fl, sum, ⟨di, dn, ds, dh, dd⟩, ⟨ri, rn, rs, rh, rd⟩, ⟨xi, xn, xs, xh, xd⟩, t, q, life⟩, bl⟩ := b
 try dsimp only at *
 refine AP.ofA ?_
 refine AC_of Tryz.func36 rfl Tryz.ntmps36 rfl rfl ?_
 repeat' (first | rw [en] | (apply AL_callPw (hC); kernel_rfl; (iterate 4 exact rfl)) | (apply AL_go ttok; exact rfl) | (apply AW_go ttok; exact rfl) | (apply K_go ttok; exact rfl) | (apply AW_condB; exact rfl; (first | with_reducible assumption | decide +kernel)) | (apply AL_len ttok; (iterate 4 exact rfl)) | (apply AL_idx ttok; (iterate 6 exact rfl); (first | with_reducible assumption | decide +kernel | exact Int.natCast_nonneg _ | (guard_target = (0:Int) <= (OfNat.ofNat _ : Int); decide) | rotate_left); (first | with_reducible assumption | decide +kernel | exact rfl); (first | exact uniB_ok rfl | with_reducible assumption | decide +kernel | rotate_left)))
 all_goals (apply endQ []; (apply resG_ok ttok; exact rfl); (iterate 4 exact rfl))
 all_goals rfl
def hiB : BunV := ⟨pr0, [⟨1, 1, 0, 0, [104, 105]⟩]⟩
abbrev hiL : List UInt8 := [159, 136, 7, 0, 0, 130, 1, 0, 130, 1, 0, 130, 1, 0, 130, 0, 0, 0, 133, 1, 1, 0, 0, 66, 104, 105, 255]
theorem hi1 : rightBn hiB = true := by kernel_rfl
theorem hi2 : putBn hiB = hiL := by kernel_rfl
theorem hi3 : rightBn bn0 = false := by kernel_rfl
theorem hi4 : readBn [128] = (bn0, 3) := by kernel_rfl
theorem ok_hi : BunOk hiB := ⟨by decide, by decide, by decide⟩
theorem ok_bn0 : BunOk bn0 := ⟨by decide, by decide, by decide⟩
abbrev hiC : List D := [.int .u64 0, .int .i64 0, .bool false, .int .u64 0, .int .u64 0, .str [], .str [], .bool false, .int .u64 0, .int .u64 0, .str [], .str [], .bool false, .int .u64 0, .int .u64 0, .str [], .str [], .int .u64 0, .int .u64 0, .int .u64 0, .sl .ext [.agg [.int .u64 1, .int .u64 1, .int .u64 0, .int .i64 0, .sl [.int .u8 104, .int .u8 105]]]]
abbrev zeC : List D := [.int .u64 0, .int .i64 0, .bool false, .int .u64 0, .int .u64 0, .str [], .str [], .bool false, .int .u64 0, .int .u64 0, .str [], .str [], .bool false, .int .u64 0, .int .u64 0, .str [], .str [], .int .u64 0, .int .u64 0, .int .u64 0, .sl .ext []]
theorem fh1 [Known] [KnownU8] : AP Tryz.prog 22 [.agg hiC] (.tup [byE hiL, .int .i64 0]) [] := by
 have h := av_bnWrite hiB ok_hi
 unfold writeBnD at h
 rw [hi1, hi2] at h
 exact h
theorem fh2 [Known] [KnownU8] : AP Tryz.prog 22 [.agg zeC] (.tup [.sl .ext [], .int .i64 3]) [] := by
 have h := av_bnWrite bn0 ok_bn0
 unfold writeBnD at h
 rw [hi3] at h
 exact h
theorem fh3 [Known] [KnownU8] : AP Tryz.prog 23 [byE hiL] (.tup [.agg hiC, .int .i64 0]) [] := by
 have h := av_bnRead hiL (by decide)
 rw [<- hi2, bn_write_read hi1 (wfs_items ok_hi.fl ok_hi.bl), hi2] at h
 exact h
theorem fh4 [Known] [KnownU8] : AP Tryz.prog 23 [byE [128]] (.tup [.agg zeC, .int .i64 3]) [] := by
 have h := av_bnRead [128] (by decide)
 rw [hi4] at h
 exact h
theorem fh5 [Known] : AP Tryz.prog 36 [.agg hiC] (.sl .ext [.int .u8 104, .int .u8 105]) [] := av_pay hiB ok_hi
theorem fh6 [Known] [KnownU8] : AP Tryz.prog 25 [byE hiL] (.bool true) [] := by
 have h := av_bnShort hiL (by decide)
 rw [<- hi2, short_own hi1 (wfs_items ok_hi.fl ok_hi.bl), hi2] at h
 exact h
theorem fh7 [Known] : AP Tryz.prog 57 [.sl .ext [.int .u8 104, .int .u8 105]] (.agg hiC) [] := by
 refine AP.ofA ?_
 refine AC_of Tryz.func57 rfl Tryz.ntmps57 rfl rfl ?_
 repeat' (first | (apply AL_go ttok; exact rfl) | (apply AW_go ttok; exact rfl) | (apply AL_bsZ ttok; (iterate 12 exact rfl)))
 all_goals (apply endQ []; (apply resG_ok ttok; exact rfl); (iterate 4 exact rfl))
 all_goals rfl
theorem av_alive8 [Known] [KnownU8] : AP Tryz.prog 21 [] (.bool true) [] := by
 have h1 := fh1
 have h2 := fh2
 have h3 := fh3
 have h4 := fh4
 have h5 := fh5
 have h6 := fh6
 have h7 := fh7
 refine AP.ofA ?_
 refine AC_of Tryz.func21 rfl Tryz.ntmps21 rfl rfl ?_
 repeat' (first | (apply AL_callPw (h1); kernel_rfl; (iterate 4 exact rfl)) | (apply AL_callPw (h2); kernel_rfl; (iterate 4 exact rfl)) | (apply AL_callPw (h3); kernel_rfl; (iterate 4 exact rfl)) | (apply AL_callPw (h4); kernel_rfl; (iterate 4 exact rfl)) | (apply AL_callPw (h5); kernel_rfl; (iterate 4 exact rfl)) | (apply AL_callPw (h6); kernel_rfl; (iterate 4 exact rfl)) | (apply AL_callPw (h7); kernel_rfl; (iterate 4 exact rfl)) | (apply AL_b2sC ttok; (iterate 9 exact rfl)) | (apply AL_go ttok; exact rfl) | (apply AW_go ttok; exact rfl) | (apply K_go ttok; exact rfl) | (apply AL_guardT; (iterate 3 exact rfl); (first | with_reducible assumption | decide +kernel)) | (apply AL_pickT; exact rfl; (first | with_reducible assumption | decide +kernel); exact rfl; exact rfl) | (apply AW_condB; exact rfl; (first | with_reducible assumption | decide +kernel)) | (apply AL_len ttok; (iterate 4 exact rfl)) | (apply AL_cb ttok; (iterate 12 exact rfl)) | (apply AL_bsZ ttok; (iterate 12 exact rfl)) | (apply AL_idx ttok; (iterate 6 exact rfl); (first | with_reducible assumption | decide +kernel | exact Int.natCast_nonneg _ | (guard_target = (0:Int) <= (OfNat.ofNat _ : Int); decide) | rotate_left); (first | with_reducible assumption | decide +kernel | exact rfl); (first | exact uniB_ok rfl | with_reducible assumption | decide +kernel | rotate_left)))
 all_goals (apply endQ []; (apply resG_ok ttok; exact rfl); (iterate 4 exact rfl))
 all_goals rfl
end Go.Proofs.YtfkmicjlaedlkaaGreatDoor
end
section
open Go.RowKit Go.Pl Go.Av
namespace Go.Proofs.YtfkmicjlaedlkaaGreatDoor
set_option maxHeartbeats 4000000
theorem av_bundleBack [Known] [KnownU8] (b : BunV) (hb : b.p.fl < 18446744073709551616 /\ ∀ c ∈ b.bl, c.fl < 18446744073709551616) (x : List UInt8) : AP Tryz.prog 4 [.agg (bnC b), byE x] (.bool true) [] := by
 have hA := av_alive8
 have hG := av_great8 b
 have hlm : (x.map E.byte).length = x.length := List.length_map ..
 cases hg : greatBn b with
 | true =>
  rw [hg] at hG
  obtain ⟨⟨fl, sum, ⟨di, dn, ds, dh, dd⟩, ⟨ri, rn, rs, rh, rd⟩, ⟨xi, xn, xs, xh, xd⟩, t, q, life⟩, bl⟩ := b
  try dsimp only at *
  refine AP.ofA ?_
  refine AC_of Tryz.func4 rfl Tryz.ntmps4 rfl rfl ?_
  repeat' (first | (apply AL_callPw (hG); kernel_rfl; (iterate 4 exact rfl)) | (apply AL_callPw (hA); kernel_rfl; (iterate 4 exact rfl)) | (apply AL_go ttok; exact rfl) | (apply AW_go ttok; exact rfl) | (apply K_go ttok; exact rfl) | (apply AL_guardFf; (iterate 3 exact rfl); (first | with_reducible assumption | decide +kernel)) | (apply AL_pickT; exact rfl; (first | with_reducible assumption | decide +kernel); exact rfl; exact rfl) | (apply AW_condA; exact rfl; (first | with_reducible assumption | decide +kernel)))
  all_goals (apply endQ []; (apply resG_ok ttok; exact rfl); (iterate 4 exact rfl))
  all_goals rfl
 | false =>
 rw [hg] at hG
 have hok : BunOk b := ⟨hb.1, by have := (great_no hg).1; omega, fun c hc => ⟨hb.2 c hc, Nat.le_trans ((great_no hg).2 c hc) (by omega)⟩⟩
 clear hg
 rcases Nat.lt_or_ge 1300 x.length with h1 | h1
 ·have t1 : decide (((x.map E.byte).length : Int) > 1300) = true := decide_eq_true (by omega)
  clear hok hb
  obtain ⟨⟨fl, sum, ⟨di, dn, ds, dh, dd⟩, ⟨ri, rn, rs, rh, rd⟩, ⟨xi, xn, xs, xh, xd⟩, t, q, life⟩, bl⟩ := b
  try dsimp only at *
  refine AP.ofA ?_
  refine AC_of Tryz.func4 rfl Tryz.ntmps4 rfl rfl ?_
  repeat' (first | (apply AL_callPw (hG); kernel_rfl; (iterate 4 exact rfl)) | (apply AL_callPw (hA); kernel_rfl; (iterate 4 exact rfl)) | (apply AL_go ttok; exact rfl) | (apply AW_go ttok; exact rfl) | (apply K_go ttok; exact rfl) | (apply AL_guardT; (iterate 3 exact rfl); (first | with_reducible assumption | decide +kernel)) | (apply AL_pickF; exact rfl; (first | with_reducible assumption | decide +kernel); exact rfl; exact rfl) | (apply AW_condA; exact rfl; (first | with_reducible assumption | decide +kernel)) | (apply AL_len ttok; (iterate 4 exact rfl)))
  all_goals (apply endQ []; (apply resG_ok ttok; exact rfl); (iterate 4 exact rfl))
  all_goals rfl
 have t1 : decide (((x.map E.byte).length : Int) > 1300) = false := decide_eq_false (by omega)
 have hRx := av_bnRead x (by omega)
 have hSx := av_bnShort x (by omega)
 have hW := av_bnWrite b hok
 unfold writeBnD at hW
 rcases hrx : readBn x with ⟨c, e⟩
 rw [hrx] at hRx
 dsimp only [bnR] at hRx
 have hX : (e ≠ 0 /\ shortBn x = false) \/ (e = 0 /\ ∃ d2 : List UInt8, AP Tryz.prog 22 [.agg (bnC c)] (.tup [byE d2, .int .i64 0]) [] /\ AP Tryz.prog 23 [byE d2] (.tup [.agg (bnC c), .int .i64 0]) [] /\ AP Tryz.prog 26 [.agg (bnC c)] (.bool true) [] /\ AP Tryz.prog 24 [.agg (bnC c), .agg (bnC c)] (.bool true) [] /\ AP Tryz.prog 25 [byE d2] (.bool true) []) := by
  by_cases he : e = 0
  ·subst he
   have hc := read_ok (by omega) hrx
   have hr := read_right hrx
   have hw := wfs_items hc.fl hc.bl
   have hl := put_len600 hr
   have k1 := av_bnWrite c hc
   have k2 := av_bnRead (putBn c) (by omega)
   have k3 := av_bnRight c hc
   have k5 := av_bnShort (putBn c) (by omega)
   unfold writeBnD at k1
   rw [hr] at k1 k3
   rw [bn_write_read hr hw] at k2
   rw [short_own hr hw] at k5
   exact .inr ⟨rfl, putBn c, k1, k2, k3, av_bnSame c hc, k5⟩
  ·exact .inl ⟨he, short_none (by rw [hrx]; exact he)⟩
 have hB : (∃ d1 : List UInt8, rightBn b = true /\ d1 = putBn b /\ AP Tryz.prog 23 [byE d1] (.tup [.agg (bnC b), .int .i64 0]) [] /\ AP Tryz.prog 24 [.agg (bnC b), .agg (bnC b)] (.bool true) [] /\ AP Tryz.prog 25 [byE d1] (.bool true) [] /\ d1.length <= 600) \/ rightBn b = false := by
  cases hr : rightBn b with
  | false => exact .inr rfl
  | true =>
   have hw := wfs_items hok.fl hok.bl
   have hl := put_len600 hr
   have k2 := av_bnRead (putBn b) (by omega)
   have k5 := av_bnShort (putBn b) (by omega)
   rw [bn_write_read hr hw] at k2
   rw [short_own hr hw] at k5
   exact .inl ⟨putBn b, rfl, rfl, k2, av_bnSame b hok, k5, hl⟩
 clear hrx hok hb
 rcases hB with ⟨d1, hr, hd, b1, b2, b3, b4⟩ | hr
 ·rw [hr, <- hd] at hW
  have hl1 : (d1.map E.byte).length = d1.length := List.length_map ..
  have t2 : decide (((d1.map E.byte).length : Int) > 600) = false := decide_eq_false (by omega)
  clear hr hd
  rcases hX with ⟨he, hs⟩ | ⟨rfl, d2, c1, c2, c3, c4, c5⟩
  ·have te : (e != 0) = true := by simpa using he
   rw [hs] at hSx
   obtain ⟨⟨fl, sum, ⟨di, dn, ds, dh, dd⟩, ⟨ri, rn, rs, rh, rd⟩, ⟨xi, xn, xs, xh, xd⟩, t, q, life⟩, bl⟩ := b
   obtain ⟨⟨fl', sum', ⟨di', dn', ds', dh', dd'⟩, ⟨ri', rn', rs', rh', rd'⟩, ⟨xi', xn', xs', xh', xd'⟩, t', q', life'⟩, bl'⟩ := c
   try dsimp only at *
   refine AP.ofA ?_
   refine AC_of Tryz.func4 rfl Tryz.ntmps4 rfl rfl ?_
   repeat' (first | (apply AL_callPw (hG); kernel_rfl; (iterate 4 exact rfl)) | (apply AL_callPw (hA); kernel_rfl; (iterate 4 exact rfl)) | (apply AL_callPw (hW); kernel_rfl; (iterate 4 exact rfl)) | (apply AL_callPw (b1); kernel_rfl; (iterate 4 exact rfl)) | (apply AL_callPw (b2); kernel_rfl; (iterate 4 exact rfl)) | (apply AL_callPw (b3); kernel_rfl; (iterate 4 exact rfl)) | (apply AL_callPw (hRx); kernel_rfl; (iterate 4 exact rfl)) | (apply AL_callPw (hSx); kernel_rfl; (iterate 4 exact rfl)) | (apply AL_go ttok; exact rfl) | (apply AW_go ttok; exact rfl) | (apply K_go ttok; exact rfl) | (apply AL_guardT; (iterate 3 exact rfl); (first | with_reducible assumption | decide +kernel)) | (apply AL_pickT; exact rfl; (first | with_reducible assumption | decide +kernel); exact rfl; exact rfl) | (apply AL_pickF; exact rfl; (first | with_reducible assumption | decide +kernel); exact rfl; exact rfl) | (apply AW_condA; exact rfl; (first | with_reducible assumption | decide +kernel)) | (apply AW_condB; exact rfl; (first | with_reducible assumption | decide +kernel)) | (apply AL_len ttok; (iterate 4 exact rfl)))
   all_goals (apply endQ []; (apply resG_ok ttok; exact rfl); (iterate 4 exact rfl))
   all_goals rfl
  ·obtain ⟨⟨fl, sum, ⟨di, dn, ds, dh, dd⟩, ⟨ri, rn, rs, rh, rd⟩, ⟨xi, xn, xs, xh, xd⟩, t, q, life⟩, bl⟩ := b
   obtain ⟨⟨fl', sum', ⟨di', dn', ds', dh', dd'⟩, ⟨ri', rn', rs', rh', rd'⟩, ⟨xi', xn', xs', xh', xd'⟩, t', q', life'⟩, bl'⟩ := c
   try dsimp only at *
   refine AP.ofA ?_
   refine AC_of Tryz.func4 rfl Tryz.ntmps4 rfl rfl ?_
   repeat' (first | (apply AL_callPw (hG); kernel_rfl; (iterate 4 exact rfl)) | (apply AL_callPw (hA); kernel_rfl; (iterate 4 exact rfl)) | (apply AL_callPw (hW); kernel_rfl; (iterate 4 exact rfl)) | (apply AL_callPw (b1); kernel_rfl; (iterate 4 exact rfl)) | (apply AL_callPw (b2); kernel_rfl; (iterate 4 exact rfl)) | (apply AL_callPw (b3); kernel_rfl; (iterate 4 exact rfl)) | (apply AL_callPw (hRx); kernel_rfl; (iterate 4 exact rfl)) | (apply AL_callPw (c1); kernel_rfl; (iterate 4 exact rfl)) | (apply AL_callPw (c2); kernel_rfl; (iterate 4 exact rfl)) | (apply AL_callPw (c3); kernel_rfl; (iterate 4 exact rfl)) | (apply AL_callPw (c4); kernel_rfl; (iterate 4 exact rfl)) | (apply AL_callPw (c5); kernel_rfl; (iterate 4 exact rfl)) | (apply AL_go ttok; exact rfl) | (apply AW_go ttok; exact rfl) | (apply K_go ttok; exact rfl) | (apply AL_guardT; (iterate 3 exact rfl); (first | with_reducible assumption | decide +kernel)) | (apply AL_pickT; exact rfl; (first | with_reducible assumption | decide +kernel); exact rfl; exact rfl) | (apply AL_pickF; exact rfl; (first | with_reducible assumption | decide +kernel); exact rfl; exact rfl) | (apply AW_condA; exact rfl; (first | with_reducible assumption | decide +kernel)) | (apply AW_condB; exact rfl; (first | with_reducible assumption | decide +kernel)) | (apply AL_len ttok; (iterate 4 exact rfl)))
   all_goals (apply endQ []; (apply resG_ok ttok; exact rfl); (iterate 4 exact rfl))
   all_goals rfl
 ·rw [hr] at hW
  clear hr
  rcases hX with ⟨he, hs⟩ | ⟨rfl, d2, c1, c2, c3, c4, c5⟩
  ·have te : (e != 0) = true := by simpa using he
   rw [hs] at hSx
   obtain ⟨⟨fl, sum, ⟨di, dn, ds, dh, dd⟩, ⟨ri, rn, rs, rh, rd⟩, ⟨xi, xn, xs, xh, xd⟩, t, q, life⟩, bl⟩ := b
   obtain ⟨⟨fl', sum', ⟨di', dn', ds', dh', dd'⟩, ⟨ri', rn', rs', rh', rd'⟩, ⟨xi', xn', xs', xh', xd'⟩, t', q', life'⟩, bl'⟩ := c
   try dsimp only at *
   refine AP.ofA ?_
   refine AC_of Tryz.func4 rfl Tryz.ntmps4 rfl rfl ?_
   repeat' (first | (apply AL_callPw (hG); kernel_rfl; (iterate 4 exact rfl)) | (apply AL_callPw (hA); kernel_rfl; (iterate 4 exact rfl)) | (apply AL_callPw (hW); kernel_rfl; (iterate 4 exact rfl)) | (apply AL_callPw (hRx); kernel_rfl; (iterate 4 exact rfl)) | (apply AL_callPw (hSx); kernel_rfl; (iterate 4 exact rfl)) | (apply AL_go ttok; exact rfl) | (apply AW_go ttok; exact rfl) | (apply K_go ttok; exact rfl) | (apply AL_guardT; (iterate 3 exact rfl); (first | with_reducible assumption | decide +kernel)) | (apply AL_pickT; exact rfl; (first | with_reducible assumption | decide +kernel); exact rfl; exact rfl) | (apply AL_pickF; exact rfl; (first | with_reducible assumption | decide +kernel); exact rfl; exact rfl) | (apply AW_condA; exact rfl; (first | with_reducible assumption | decide +kernel)) | (apply AW_condB; exact rfl; (first | with_reducible assumption | decide +kernel)) | (apply AL_len ttok; (iterate 4 exact rfl)))
   all_goals (apply endQ []; (apply resG_ok ttok; exact rfl); (iterate 4 exact rfl))
   all_goals rfl
  ·obtain ⟨⟨fl, sum, ⟨di, dn, ds, dh, dd⟩, ⟨ri, rn, rs, rh, rd⟩, ⟨xi, xn, xs, xh, xd⟩, t, q, life⟩, bl⟩ := b
   obtain ⟨⟨fl', sum', ⟨di', dn', ds', dh', dd'⟩, ⟨ri', rn', rs', rh', rd'⟩, ⟨xi', xn', xs', xh', xd'⟩, t', q', life'⟩, bl'⟩ := c
   try dsimp only at *
   refine AP.ofA ?_
   refine AC_of Tryz.func4 rfl Tryz.ntmps4 rfl rfl ?_
   repeat' (first | (apply AL_callPw (hG); kernel_rfl; (iterate 4 exact rfl)) | (apply AL_callPw (hA); kernel_rfl; (iterate 4 exact rfl)) | (apply AL_callPw (hW); kernel_rfl; (iterate 4 exact rfl)) | (apply AL_callPw (hRx); kernel_rfl; (iterate 4 exact rfl)) | (apply AL_callPw (c1); kernel_rfl; (iterate 4 exact rfl)) | (apply AL_callPw (c2); kernel_rfl; (iterate 4 exact rfl)) | (apply AL_callPw (c3); kernel_rfl; (iterate 4 exact rfl)) | (apply AL_callPw (c4); kernel_rfl; (iterate 4 exact rfl)) | (apply AL_callPw (c5); kernel_rfl; (iterate 4 exact rfl)) | (apply AL_go ttok; exact rfl) | (apply AW_go ttok; exact rfl) | (apply K_go ttok; exact rfl) | (apply AL_guardT; (iterate 3 exact rfl); (first | with_reducible assumption | decide +kernel)) | (apply AL_pickT; exact rfl; (first | with_reducible assumption | decide +kernel); exact rfl; exact rfl) | (apply AL_pickF; exact rfl; (first | with_reducible assumption | decide +kernel); exact rfl; exact rfl) | (apply AW_condB; exact rfl; (first | with_reducible assumption | decide +kernel)) | (apply AL_len ttok; (iterate 4 exact rfl)))
   all_goals (apply endQ []; (apply resG_ok ttok; exact rfl); (iterate 4 exact rfl))
   all_goals rfl
end Go.Proofs.YtfkmicjlaedlkaaGreatDoor
end
section
open Go.RowKit Go.Pl
namespace Go.Pl
def OpensF {α : Type} (P : Program) (fs : Array Field) (i o : Nat) (R : Rep α) : Prop :=
 ∀ (H : Type) (enc : TypeId × Value -> H) (W : World) (spare : Nat -> Bool) (held : Bool) (n : Nat) (cs : List Value) (xs : List (DataW H × List MemPlace)), cs.length = o + R.n -> xs.length = fs.size ->
  (∀ (j : Nat) (f : Field), fs[j]? = some f -> DataW.trod enc P W 0 spare held n f.type ((cs.drop f.offset).take (P.cellsOf f.type)) = xs[j]?) -> ∃ x, R.ok W (· < W.heap.size) (cs.drop o) x
variable {P : Program} {t : TypeId} {fs : Array Field}
theorem opensF_at {α : Type} {R : Rep α} {i o : Nat} {f : Field} (hf : fs[i]? = some f) (ho : f.offset = o) (hc : P.cellsOf f.type = R.n) (h : Opens P f.type R) {H : Type} {enc : TypeId × Value -> H} {W : World} {spare : Nat -> Bool} {held : Bool} {n : Nat} {cs : List Value} {xs : List (DataW H × List MemPlace)} (hl : xs.length = fs.size)
  (hg : ∀ (j : Nat) (f : Field), fs[j]? = some f -> DataW.trod enc P W 0 spare held n f.type ((cs.drop f.offset).take (P.cellsOf f.type)) = xs[j]?) : ∃ x, R.ok W (· < W.heap.size) ((cs.drop o).take R.n) x := by
 have e := hg i f hf
 rw [ho, hc] at e
 have hi : i < xs.length := by
  rw [hl]
  exact (Array.getElem?_eq_some_iff.1 hf).1
 exact h H enc W spare held n _ _ (e.trans (List.getElem?_eq_getElem hi))
theorem opensF_one {α : Type} {R : Rep α} {i o : Nat} {f : Field} (hf : fs[i]? = some f) (ho : f.offset = o) (hc : P.cellsOf f.type = R.n) (h : Opens P f.type R) : OpensF P fs i o R := by
 intro H enc W spare held n cs xs hcl hl hg
 obtain ⟨x, hx⟩ := opensF_at hf ho hc h hl hg
 rw [List.take_of_length_le (by rw [List.length_drop]; omega)] at hx
 exact ⟨x, hx⟩
theorem opensF_cons {α β : Type} {R : Rep α} {R' : Rep β} {i o : Nat} {f : Field} (hf : fs[i]? = some f) (ho : f.offset = o) (hc : P.cellsOf f.type = R.n) (h : Opens P f.type R) (h' : OpensF P fs (i + 1) (o + R.n) R') : OpensF P fs i o (R.prod R') := by
 intro H enc W spare held n cs xs hcl hl hg
 obtain ⟨x, hx⟩ := opensF_at hf ho hc h hl hg
 have hn : (R.prod R').n = R.n + R'.n := rfl
 obtain ⟨x', hx'⟩ := h' H enc W spare held n cs xs (by rw [hn] at hcl; omega) hl hg
 refine ⟨(x, x'), (cs.drop o).take R.n, (cs.drop o).drop R.n, (List.take_append_drop _ _).symm, hx, ?_⟩
 rw [List.drop_drop]
 exact hx'
theorem opens_struct {α : Type} {R : Rep α} (hs : P.underlying t = some (.struct fs)) (hc : P.cellsOf t = R.n) (h : OpensF P fs 0 0 R) : Opens P t R := by
 intro H enc W spare held fuel cs y hy
 obtain ⟨xs, n, _, _, hl, hxl, hg⟩ := DataW.trod_struct hs hy
 exact h H enc W spare held n cs xs (by omega) hxl hg
end Go.Pl
end
section
open Go.RowKit Go.Pl Go.Av
namespace Go.Proofs.YtfkmicjlaedlkaaGreatDoor
set_option maxHeartbeats 4000000
theorem bytes_V {W : World} {v : Value} {b : List UInt8} (h : Sl Rep.byte W (· < W.heap.size) v b) : V W (g0 W) [] (byE b) v := .sl .ext _ _ (ToE.byte.sl (C := (g0 W).C) (fun k hk o => hk) h) trivial
end Go.Proofs.YtfkmicjlaedlkaaGreatDoor
end
section
open Go.RowKit Go.Pl Go.Av
namespace Go.Proofs.YtfkmicjlaedlkaaGreatDoor
set_option maxHeartbeats 4000000
abbrev RB : Rep (Nat × Nat × Nat × Int × List UInt8) := Rep.u64.prod (Rep.u64.prod (Rep.u64.prod (Rep.i64.prod (Rep.slice Rep.byte (by decide)))))
theorem openB : Opens Tryz.prog 69 RB :=
 opens_struct Tryz.underlying69 (by kernel_rfl) (opensF_cons rfl rfl (by kernel_rfl) (opens_u64 Tryz.underlying22) (opensF_cons rfl rfl (by kernel_rfl) (opens_u64 Tryz.underlying22)
  (opensF_cons rfl rfl (by kernel_rfl) (opens_u64 Tryz.underlying22) (opensF_cons rfl rfl (by kernel_rfl) (opens_i64 Tryz.underlying3)
   (opensF_one rfl rfl (by kernel_rfl) (opens_slice (R := Rep.byte) (by decide) Tryz.underlying29 (by kernel_rfl) (opens_byte Tryz.underlying5)))))))
abbrev XB := Nat × Nat × Nat × Int × List UInt8
def XB.v (x : XB) : BlkV := ⟨x.1, x.2.1, x.2.2.1, x.2.2.2.1, x.2.2.2.2⟩
end Go.Proofs.YtfkmicjlaedlkaaGreatDoor
end
section
open Go.RowKit Go.Pl Go.Av
namespace Go.Proofs.YtfkmicjlaedlkaaGreatDoor
set_option maxHeartbeats 4000000
abbrev RPr : Rep (Nat × Int × XE × XE × (XE × Nat × Nat) × Nat) := Rep.u64.prod (Rep.i64.prod (RE.prod (RE.prod (Go.Pl.RI.prod Rep.u64))))
abbrev RBn : Rep ((Nat × Int × XE × XE × (XE × Nat × Nat) × Nat) × List XB) := RPr.prod (Rep.slice RB (by decide))
theorem openPr : Opens Tryz.prog 28 RPr :=
 opens_struct Tryz.underlying28 (by kernel_rfl) (opensF_cons rfl rfl (by kernel_rfl) (opens_u64 Tryz.underlying22) (opensF_cons rfl rfl (by kernel_rfl) (opens_i64 Tryz.underlying3)
  (opensF_cons rfl rfl (by kernel_rfl) openE (opensF_cons rfl rfl (by kernel_rfl) openE (opensF_cons rfl rfl (by kernel_rfl) openI (opensF_one rfl rfl (by kernel_rfl) (opens_u64 Tryz.underlying22)))))))
theorem openBn : Opens Tryz.prog 59 RBn :=
 opens_struct Tryz.underlying59 (by kernel_rfl) (opensF_cons rfl rfl (by kernel_rfl) openPr (opensF_one rfl rfl (by kernel_rfl) (opens_slice (R := RB) (by decide) Tryz.underlying57 (by kernel_rfl) openB)))
abbrev XBn := (Nat × Int × XE × XE × (XE × Nat × Nat) × Nat) × List XB
def XBn.v (x : XBn) : BunV := ⟨⟨x.1.1, x.1.2.1, x.1.2.2.1.v, x.1.2.2.2.1.v, x.1.2.2.2.2.1.1.v, x.1.2.2.2.2.1.2.1, x.1.2.2.2.2.1.2.2, x.1.2.2.2.2.2⟩, x.2.map XB.v⟩
theorem toE_bk : ToE RB (fun x => .agg [.int .u64 (x.1 : Int), .int .u64 (x.2.1 : Int), .int .u64 (x.2.2.1 : Int), .int .i64 x.2.2.2.1, .sl (x.2.2.2.2.map E.byte)]) := ToE.u64.prod (ToE.u64.prod (ToE.u64.prod (ToE.i64.prod (ToE.byte.slice (by decide)))))
theorem bn_V [Known] {W : World} {cs : List Value} {x : XBn} (h : RBn.ok W (· < W.heap.size) cs x) : V W (g0 W) [] (.agg (bnC x.v)) (.agg cs.toArray) := by
 obtain ⟨⟨fl, sum, ⟨di, dn, ds, dh, dd⟩, ⟨ri, rn, rs, rh, rd⟩, ⟨⟨xi, xn, xs, xh, xd⟩, t, q⟩, life⟩, bl⟩ := x
 have te := (ToE.u64.prod (ToE.i64.prod (toE_eid.prod (toE_eid.prod ((toE_eid.prod (ToE.u64.prod ToE.u64)).prod ToE.u64))))).prod (toE_bk.slice (by decide))
 have h2 := ToE.agg te (l := [.int .u64 (fl : Int), .int .i64 sum, .bool di, .int .u64 (dn : Int), .int .u64 (ds : Int), .str dh, .str dd, .bool ri, .int .u64 (rn : Int), .int .u64 (rs : Int), .str rh, .str rd, .bool xi, .int .u64 (xn : Int), .int .u64 (xs : Int), .str xh, .str xd, .int .u64 (t : Int), .int .u64 (q : Int), .int .u64 (life : Int), .sl (bl.map fun x => .agg [.int .u64 (x.1 : Int), .int .u64 (x.2.1 : Int), .int .u64 (x.2.2.1 : Int), .int .i64 x.2.2.2.1, .sl (x.2.2.2.2.map E.byte)])]) rfl h
 have e : bksE (bl.map XB.v) = bl.map fun x => .agg [.int .u64 (x.1 : Int), .int .u64 (x.2.1 : Int), .int .u64 (x.2.2.1 : Int), .int .i64 x.2.2.2.1, .sl (x.2.2.2.2.map E.byte)] := List.map_map ..
 rw [<- e] at h2
 exact h2
theorem run_each {α : Type} {R : Rep α} {w : World} {S : Nat -> Prop} : ∀ {l : List α} {cs : List Value}, Run R w S cs l -> ∀ x ∈ l, ∃ c, R.ok w S c x
 | [], _, _, x, hx => by simp at hx
 | y :: l, cs, ⟨c1, c2, _, h1, h2⟩, x, hx => by
  rcases List.mem_cons.1 hx with rfl | hx
  ·exact ⟨c1, h1⟩
  ·exact run_each h2 x hx
theorem bk_fl1 {W : World} {S : Nat -> Prop} {cs : List Value} {x : XB} (h : RB.ok W S cs x) : x.v.fl < 18446744073709551616 := by
 obtain ⟨ty, num, fl, sum, data⟩ := x
 obtain ⟨_, _, _, _, _, _, _, _, _, _, _, ⟨_, h1⟩, _⟩ := h
 exact h1
theorem bn_fl {W : World} {cs : List Value} {x : XBn} (h : RBn.ok W (· < W.heap.size) cs x) : x.v.p.fl < 18446744073709551616 /\ ∀ c ∈ x.v.bl, c.fl < 18446744073709551616 := by
 obtain ⟨⟨fl, r⟩, bl⟩ := x
 obtain ⟨_, _, _, ⟨_, _, _, ⟨_, h1⟩, _⟩, ⟨v, _, A, cap, _, _, _, c3, hr, _⟩⟩ := h
 refine ⟨h1, fun c hc => ?_⟩
 obtain ⟨y, hy, rfl⟩ := List.mem_map.1 hc
 obtain ⟨c4, h4⟩ := run_each hr y hy
 exact bk_fl1 h4
end Go.Proofs.YtfkmicjlaedlkaaGreatDoor
end
section
open Go.RowKit Go.Pl Go.Av Go.Lib
namespace Go.Proofs.YtfkmicjlaedlkaaGreatDoor
theorem dcsl_ints (k : IntKind) : ∀ zs : List Int, dcsl (zs.map fun z => .lit (.int k z)) = zs.map fun z => Value.int k z
 | [] => rfl
 | z :: zs => by rw [List.map_cons, List.map_cons, dcsl, dcsl_ints k zs]; rfl
theorem cells_at {P : Program} {W : World} {n : String} {g : Nat} {t : TypeId} {d : DataW Unit} (hg : P.globalNamed n = some g) (ht : (P.globals[g]?).map (·.type) = some t) (h : VarReads P W n d)
  (key : ∀ (fuel : Nat) (cs : List Value) (p : List MemPlace), DataW.trod (fun _ => ()) P W 0 (fun _ => true) false fuel t cs = some (d, p) -> ∀ (j : Nat) (v : Value), (dcs d)[j]? = some v -> cs[j]? = some v) :
  ∀ (j : Nat) (v : Value), (dcs d)[j]? = some v -> (g0 W).C g j /\ W.cell? ⟨g, j, none⟩ = some v := by
 obtain ⟨g', t', cs, fuel, p, h1, h2, h3, h4⟩ := h
 obtain rfl := Option.some.inj (hg.symm.trans h1)
 obtain rfl := Option.some.inj (ht.symm.trans h2)
 intro j v hv
 have hc := key fuel cs.toList p h4 j v hv
 have hcell : W.cell? ⟨g, j, none⟩ = some v := by
  rw [World.var?_cell hg h3 j, <- Array.getElem?_toList]; exact hc
 exact ⟨World.block_lt_of_cell? W _ hcell, hcell⟩
theorem ints_at {P : Program} {W : World} {t e : TypeId} {n : Nat} {k : IntKind} {d : DataW Unit} (zs : List Int) (hd : d = tabData k zs) (ht : P.underlying t = some (.array n e)) (he : P.underlying e = some (.int k)) (hce : P.cellsOf e = 1) (hct : P.cellsOf t = n) :
  ∀ (fuel : Nat) (cs : List Value) (p : List MemPlace), DataW.trod (fun _ => ()) P W 0 (fun _ => true) false fuel t cs = some (d, p) -> ∀ (j : Nat) (v : Value), (dcs d)[j]? = some v -> cs[j]? = some v := by
 subst hd
 intro fuel cs p h j v hv
 rw [cells_of_tab ht he hce hct h]
 rw [tabData, dcs, dcsl_ints] at hv
 exact hv
theorem rows_at {P : Program} {W : World} {t e : TypeId} {n : Nat} {k : IntKind} {d : DataW Unit} {fs : Array Field} (rows : List (List Int)) (hd : d = .agg (rows.map fun r => .agg (r.map fun z => .lit (.int k z)))) (hn : rows.length = n) (ht : P.underlying t = some (.array n e)) (he : P.underlying e = some (.struct fs))
  (hf : ∀ (i : Nat) (f : Field), fs[i]? = some f -> P.underlying f.type = some (.int k) /\ f.offset = i /\ P.cellsOf f.type = 1) (hce : P.cellsOf e = fs.size) :
  ∀ (fuel : Nat) (cs : List Value) (p : List MemPlace), DataW.trod (fun _ => ()) P W 0 (fun _ => true) false fuel t cs = some (d, p) -> ∀ (j : Nat) (v : Value), (dcs d)[j]? = some v -> cs[j]? = some v := by
 subst hd
 intro fuel cs p h j v hv
 have key : ∀ i, i <= n -> cs.take (i * fs.size) = dcsl ((rows.take i).map fun r => .agg (r.map fun z => .lit (.int k z))) := by
  intro i
  induction i with
  | zero => intro _; rw [Nat.zero_mul, List.take_zero, List.take_zero]; rfl
  | succ i ih =>
   intro hi
   obtain ⟨fuel', d', q, hdi, he'⟩ := array_elem ht h i (by omega)
   rw [List.getElem?_map, List.getElem?_eq_getElem (by omega : i < rows.length)] at hdi
   simp only [Option.map_some, Option.some.injEq] at hdi
   subst hdi
   rw [hce] at he'
   have hcs := ints_of_struct he hf hce he'
   rw [Nat.succ_mul, List.take_add, ih (by omega), hcs, List.take_succ_eq_append_getElem (by omega : i < rows.length), List.map_append]
   have app : ∀ (a b : List (DataW Unit)), dcsl (a ++ b) = dcsl a ++ dcsl b := fun a b => by
    induction a with
    | nil => rfl
    | cons x a ih => rw [List.cons_append, dcsl, dcsl, ih, List.append_assoc]
   rw [app, List.map_cons, List.map_nil, dcsl, dcs, dcsl_ints]
   simp [dcsl]
 have h2 := key n (Nat.le_refl _)
 rw [<- hn, List.take_length] at h2
 rw [dcs, <- h2] at hv
 rw [List.getElem?_take] at hv
 split at hv
 ·exact hv
 ·cases hv
abbrev knownU8 : Known := ⟨[0, 1]⟩
theorem knownU8_ok : @KnownU8 knownU8 := @KnownU8.mk knownU8 (List.mem_cons_self ..) (List.mem_cons_of_mem _ (List.mem_cons_self ..))
def firstZ : List Int := Pinned.utf8FirstZ.map Int.ofNat
def acceptZ : List (List Int) := [[128, 191], [160, 191], [128, 159], [144, 191], [128, 143], [0, 0], [0, 0], [0, 0], [0, 0], [0, 0], [0, 0], [0, 0], [0, 0], [0, 0], [0, 0], [0, 0]]
theorem gls_u8 {W : World} {laid : List (String × DataW Unit)} (h1 : ("unicode/utf8.first", Rows.laid_unicode_utf8_first) ∈ laid) (h2 : ("unicode/utf8.acceptRanges", Rows.laid_unicode_utf8_acceptRanges) ∈ laid) (h : laidMet Tryz.prog laid W) : @Gls knownU8 (g0 W).C W := by
 have r1 := laidMet.reads h h1
 have r2 := laidMet.reads h h2
 have c1 := cells_at (P := Tryz.prog) (g := 0) (t := 222) (by kernel_rfl) (by kernel_rfl) r1 (ints_at firstZ (by kernel_rfl) (n := 256) (by kernel_rfl) Tryz.underlying5 (by kernel_rfl) (by kernel_rfl))
 have c2 := cells_at (P := Tryz.prog) (g := 1) (t := 225) (by kernel_rfl) (by kernel_rfl) r2 (rows_at acceptZ (by kernel_rfl) (n := 16) rfl Tryz.underlying225 Tryz.underlying224 (fun i f hf => by
  match i, hf with
  | 0, hf => simp at hf; subst hf; exact ⟨Tryz.underlying5, rfl, by kernel_rfl⟩
  | 1, hf => simp at hf; subst hf; exact ⟨Tryz.underlying5, rfl, by kernel_rfl⟩
  | i + 2, hf => simp at hf) (by kernel_rfl))
 refine ⟨fun k cs hk => ?_, fun k t hk => ?_⟩
 ·obtain ⟨hk, hm⟩ := hk
  simp only [tabs, List.mem_cons, List.not_mem_nil, or_false, Prod.mk.injEq] at hm
  have hk : k ∈ [0, 1] := hk
  simp only [List.mem_cons, List.not_mem_nil, or_false] at hk
  clear r1 r2 h1 h2 h
  rcases hk with rfl | rfl
  all_goals repeat' (refine Or.elim hm (fun hm => ?_) (fun hm => ?_))
  all_goals first
   | (obtain ⟨h, rfl⟩ := hm; exact c1)
   | (obtain ⟨h, rfl⟩ := hm; exact c2)
   | (obtain ⟨h, _⟩ := hm; exact absurd h (by decide))
 ·obtain ⟨hk, hm⟩ := hk
  have hk : k ∈ [0, 1] := hk
  simp only [List.mem_cons, List.not_mem_nil, or_false] at hk
  simp only [tabI, List.mem_cons, List.not_mem_nil, or_false, Prod.mk.injEq] at hm
  all_goals omega
end Go.Proofs.YtfkmicjlaedlkaaGreatDoor
end
section
open Go.RowKit Go.Pl Go.Av
namespace Go.Proofs.YtfkmicjlaedlkaaGreatDoor
theorem bundleBack_walk (c0 : List Value) (v1 : Value) (x0 : XBn) (x1 : List UInt8) (W : World) (h0 : RBn.ok W (· < W.heap.size) c0 x0) (h1 : Sl Rep.byte W (· < W.heap.size) v1 x1) (hl : laidMet Tryz.prog Rows.bundleBackRow.laid W) :
  Calls Tryz.prog 4 #[.agg c0.toArray, v1] W fun e w' => e = .returned (.bool true) /\ Below W.heap.size W w' := by
 have hg := gls_u8 (laid := Rows.bundleBackRow.laid) (by unfold Rows.bundleBackRow; repeat (first | exact List.mem_cons_self .. | apply List.mem_cons_of_mem)) (by unfold Rows.bundleBackRow; repeat (first | exact List.mem_cons_self .. | apply List.mem_cons_of_mem)) hl
 have h := @av_bundleBack knownU8 knownU8_ok x0.v (bn_fl h0) x1
 refine @topG knownU8 Tryz.prog 4 _ (@AC.mono knownU8 _ _ _ _ _ _ _ h fun r b t h => h.1) W [.agg c0.toArray, v1] hg rfl ?_
 intro j d v hd hv
 match j, hd, hv with
 | 0, hd, hv => cases hd; cases hv; exact @bn_V knownU8 _ _ _ h0
 | 1, hd, hv => cases hd; cases hv; exact bytes_V h1
 | j + 2, hd, hv => cases hd
end Go.Proofs.YtfkmicjlaedlkaaGreatDoor
end

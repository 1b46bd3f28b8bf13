/- Package sums: two check sums of bytes. -/
import Derived.Test.YtihkbilhgbmbhaaDoorG18
import Derived.Test.YtihkbilhgbmbhaaDoorG11
import Derived.Test.YtihkbilhgbmbhaaDoorG10
set_option linter.unusedVariables false
set_option linter.unusedSimpArgs false
section
open Go.RowKit Go.Pl Go.Av
namespace Go.Proofs.YtihkbilhgbmbhaaDoor
set_option maxHeartbeats 4000000
abbrev half (s : Int) : Int := s.fdiv (2 ^ (min (Int.toNat 1) IntKind.u32.bits))
def halveI (s p : Int) : Int := match (bits .and .u32 s 1 == 1) with
 | true => bits .xor .u32 (half s) p
 | false => half s
theorem av_halve [Known] (s p : Int) : AP Tryd.prog 122 [.int .u32 s, .int .u32 p] (.int .u32 (halveI s p)) [] := by
 unfold halveI
 cases t : (bits .and .u32 s 1 == 1)
 all_goals
  refine AP.ofA ?_
  refine AC_of Tryd.func122 rfl Tryd.ntmps122 rfl rfl ?_
  repeat' (first | (apply AL_move; exact rfl; exact rfl) | (apply AL_assign; exact rfl; exact rfl) | (apply AL_bin; (iterate 5 exact rfl)) | refine AL_nil ?_ | refine AW_region ?_ | refine AW_seq' ?_ | (apply AW_condA; exact rfl; (first | with_reducible assumption | decide +kernel)) | (apply AW_condB; exact rfl; (first | with_reducible assumption | decide +kernel)) | refine then_norm ?_ | refine AW_ret ?_ | refine then_ret ?_ | refine AW_skip ?_ | (apply AL_shr; exact rfl; exact rfl; (first | with_reducible assumption | decide +kernel | exact Int.natCast_nonneg _ | (exact (by decide)) | rotate_left); exact rfl))
  all_goals (apply endQ []; (repeat (first | exact ResL.nil | (apply ResL.cons; first | exact .tmp _ _ rfl | (apply res_n ttok; (iterate 6 exact rfl)) | (apply res_1 ttok; (iterate 5 exact rfl))))); (iterate 4 exact rfl))
  all_goals rfl
def byteI (s : Int) (c : UInt8) (p : Int) : Int :=
 halveI (halveI (halveI (halveI (halveI (halveI (halveI (halveI (bits .xor .u32 s (IntKind.u32.wrap (c.toNat : Int))) p) p) p) p) p) p) p) p
theorem av_byteOn [Known] (s p : Int) (c : UInt8) : AP Tryd.prog 114 [.int .u32 s, .int .u8 (c.toNat : Int), .int .u32 p] (.int .u32 (byteI s c p)) [] := by
 refine AP.ofA ?_
 refine AC_of Tryd.func114 rfl Tryd.ntmps114 rfl rfl ?_
 repeat' (first | (apply AL_callPw (av_halve _ _); kernel_rfl; (iterate 4 exact rfl)) | refine AW_loopN 20 ?_ | refine AN_succ ?_ | (apply AL_move; exact rfl; exact rfl) | (apply AL_assign; exact rfl; exact rfl) | (apply AL_bin; (iterate 5 exact rfl)) | (apply AL_convT ttok; (iterate 5 exact rfl)) | refine AL_nil ?_ | refine AW_region ?_ | refine AW_seq' ?_ | (apply AW_condA; exact rfl; (first | with_reducible assumption | decide +kernel)) | (apply AW_condB; exact rfl; (first | with_reducible assumption | decide +kernel)) | refine then_norm ?_ | refine AW_block ?_ | refine AW_exit ?_ | refine AW_ret ?_ | refine AW_skip ?_)
 all_goals (apply endQ []; (repeat (first | exact ResL.nil | (apply ResL.cons; first | exact .tmp _ _ rfl | (apply res_n ttok; (iterate 6 exact rfl)) | (apply res_1 ttok; (iterate 5 exact rfl))))); (iterate 4 exact rfl))
 all_goals rfl
def runI (s p : Int) (b : List UInt8) : Int := b.foldl (fun s c => byteI s c p) s
theorem av_run [Known] (s p : Int) (b : List UInt8) (hb : b.length <= 1000000000) : AP Tryd.prog 100 [.int .u32 s, byE b, .int .u32 p] (.int .u32 (runI s p b)) [] := by
 have hl : (b.map E.byte).length = b.length := List.length_map ..
 have hU := uniB1 b
 generalize hfin : runI s p b = fin
 refine AP.ofA ?_
 refine AC_of Tryd.func100 rfl Tryd.ntmps100 rfl rfl ?_
 repeat' (first | (apply AL_move; exact rfl; exact rfl) | (apply AL_assign; exact rfl; exact rfl) | refine AL_nil ?_ | refine AW_region ?_ | refine AW_seq' ?_ | refine then_norm ?_ | refine AW_block ?_ | (apply AL_len ttok; (iterate 4 exact rfl)))
 refine AW_loopJ (fun k tm bx fr => ∃ (i : Nat) (q : Int) (o : D), k + i = b.length /\ runI q p (b.drop i) = fin /\ tm = [(0, .int .u32 q), (1, byE b), (2, .int .u32 p), (6, .int .u32 0), (9, byE b), (10, .int .i64 (b.length : Int)), (11, .int .i64 (i : Int))] /\ bx = [] /\ fr = []) (b.length + 1) (Lands.mk' (m := b.length) (Nat.lt_succ_self _) ⟨0, s, .tup [], by omega, hfin, rfl, rfl, rfl⟩ ?_ rfl rfl rfl rfl rfl rfl) ?_
 ·exact .cons rfl (.cons rfl (.cons rfl (.cons rfl (.cons rfl (.cons (by rw [<- hl]; rfl) (.cons rfl .nil))))))
 rintro k tm bx fr ⟨i, q, o, hk, hq, rfl, rfl, rfl⟩
 rcases Nat.lt_or_ge i b.length with hlt | hge
 ·have hd : decide ((i : Int) < (b.length : Int)) = true := decide_eq_true (by omega)
  obtain ⟨c, hc⟩ : ∃ c, b[i]? = some c := ⟨_, List.getElem?_eq_getElem hlt⟩
  have hv : (b.map E.byte)[((i : Nat) : Int).toNat]? = some (E.byte c) := by
   rw [Int.toNat_natCast, List.getElem?_map, hc]; rfl
  have hdr : b.drop i = c :: b.drop (i + 1) := by
   rw [List.drop_eq_getElem_cons hlt]; congr 1
   exact (List.getElem?_eq_some_iff.1 hc).2
  rw [hdr] at hq
  have hq2 : runI (byteI q c p) p (b.drop (i + 1)) = fin := hq
  have ei : IntKind.i64.wrap ((i : Int) + 1) = ((i + 1 : Nat) : Int) := by rw [IntWalk.i64_in _ (by omega)]; omega
  repeat' (first | (apply AL_callPw (av_byteOn _ _ _); kernel_rfl; (iterate 4 exact rfl)) | rw [ei] | (apply AL_move; exact rfl; exact rfl) | (apply AL_assign; exact rfl; exact rfl) | (apply AL_bin; (iterate 5 exact rfl)) | refine AL_nil ?_ | refine AW_region ?_ | refine AW_seq' ?_ | (apply AW_condA; exact rfl; (first | with_reducible assumption | decide +kernel)) | refine then_norm ?_ | refine AW_block ?_ | (apply AL_eload1 ttok; (iterate 6 exact rfl)) | refine AW_skip ?_ | (apply AL_idx ttok; (iterate 6 exact rfl); (first | with_reducible assumption | decide +kernel | exact Int.natCast_nonneg _ | (guard_target = (0:Int) <= (OfNat.ofNat _ : Int); decide) | rotate_left); (first | with_reducible assumption | decide +kernel | exact rfl); (first | exact uniB_ok rfl | with_reducible assumption | decide +kernel | rotate_left)))
  refine Lands.mk' (m := k - 1) (by omega) ⟨i + 1, _, .tup [], by omega, hq2, rfl, rfl, rfl⟩ ?_ rfl rfl rfl rfl rfl rfl
  exact .cons rfl (.cons rfl (.cons rfl (.cons rfl (.cons rfl (.cons rfl (.cons rfl .nil))))))
 ·have hd : decide ((i : Int) < (b.length : Int)) = false := decide_eq_false (by omega)
  rw [List.drop_eq_nil_of_le hge] at hq
  have hq : q = fin := hq
  subst hq
  repeat' (first | (apply AL_move; exact rfl; exact rfl) | (apply AL_assign; exact rfl; exact rfl) | (apply AL_bin; (iterate 5 exact rfl)) | refine AL_nil ?_ | refine AW_region ?_ | refine AW_seq' ?_ | (apply AW_condB; exact rfl; (first | with_reducible assumption | decide +kernel)) | refine then_norm ?_ | refine AW_exit ?_ | refine AW_ret ?_)
  all_goals (apply endQ []; (repeat (first | exact ResL.nil | (apply ResL.cons; first | exact .tmp _ _ rfl | (apply res_n ttok; (iterate 6 exact rfl)) | (apply res_1 ttok; (iterate 5 exact rfl))))); (iterate 4 exact rfl))
  all_goals rfl
def shortV (b : List UInt8) : Int := bits .xor .u16 (if IntKind.u16.signed then -1 else IntKind.u16.max) (IntKind.u16.wrap (runI 65535 33800 b))
def longV (b : List UInt8) : Int := bits .xor .u32 (if IntKind.u32.signed then -1 else IntKind.u32.max) (runI 4294967295 2197175160 b)
theorem av_short [Known] (b : List UInt8) (hb : b.length <= 1000000000) : AP Tryd.prog 77 [byE b] (.int .u16 (shortV b)) [] := by
 have hR := av_run 65535 33800 b hb
 refine AP.ofA ?_
 refine AC_of Tryd.func77 rfl Tryd.ntmps77 rfl rfl ?_
 repeat' (first | (apply AL_callPw (hR); kernel_rfl; (iterate 4 exact rfl)) | (apply AL_unx; exact rfl; exact rfl) | (apply AL_move; exact rfl; exact rfl) | (apply AL_assign; exact rfl; exact rfl) | (apply AL_convT ttok; (iterate 5 exact rfl)) | refine AL_nil ?_ | refine AW_region ?_ | refine AW_seq' ?_ | refine then_norm ?_ | refine AW_ret ?_)
 all_goals (apply endQ []; (repeat (first | exact ResL.nil | (apply ResL.cons; first | exact .tmp _ _ rfl | (apply res_n ttok; (iterate 6 exact rfl)) | (apply res_1 ttok; (iterate 5 exact rfl))))); (iterate 4 exact rfl))
 all_goals rfl
theorem av_long [Known] (b : List UInt8) (hb : b.length <= 1000000000) : AP Tryd.prog 78 [byE b] (.int .u32 (longV b)) [] := by
 have hR := av_run 4294967295 2197175160 b hb
 refine AP.ofA ?_
 refine AC_of Tryd.func78 rfl Tryd.ntmps78 rfl rfl ?_
 repeat' (first | (apply AL_callPw (hR); kernel_rfl; (iterate 4 exact rfl)) | (apply AL_unx; exact rfl; exact rfl) | (apply AL_move; exact rfl; exact rfl) | (apply AL_assign; exact rfl; exact rfl) | refine AL_nil ?_ | refine AW_region ?_ | refine AW_seq' ?_ | refine then_norm ?_ | refine AW_ret ?_)
 all_goals (apply endQ []; (repeat (first | exact ResL.nil | (apply ResL.cons; first | exact .tmp _ _ rfl | (apply res_n ttok; (iterate 6 exact rfl)) | (apply res_1 ttok; (iterate 5 exact rfl))))); (iterate 4 exact rfl))
 all_goals rfl
end Go.Proofs.YtihkbilhgbmbhaaDoor
end
section
open Go.RowKit Go.Pl Go.Av
namespace Go.Proofs.YtihkbilhgbmbhaaDoor
set_option maxHeartbeats 1000000
theorem av_follow [Known] (n : Nat) : AP Tryd.prog 109 [.int .u64 (n : Int)] (.int .i64 (followN n)) [] := by
 refine AC_of Tryd.func109 rfl Tryd.ntmps109 rfl rfl ?_
 repeat' (first | (apply AL_move; exact rfl; exact rfl) | (apply AL_assign; exact rfl; exact rfl) | (apply AL_bin; (iterate 5 exact rfl)) | refine AL_nil ?_ | refine AW_region ?_ | refine AW_seq' ?_ | (apply AW_cond'; exact rfl; all_goals intro hb) | refine then_norm ?_ | refine AW_block ?_ | refine AW_ret ?_ | refine then_ret ?_ | refine blk_ret ?_ | refine AW_skip ?_)
 all_goals refine end0 (.cons _ _ _ _ (.tmp _ _ rfl) .nil) (okSel_nil _) rfl ?_ rfl
 all_goals simp only [decide_eq_true_eq, decide_eq_false_iff_not] at *
 all_goals (congr 1; unfold followN; (repeat' split) <;> omega)
theorem av_may [Known] (m : Int) : AP Tryd.prog 120 [.int .i64 m] (.bool (mayB m)) [] := by
 refine AC_of Tryd.func120 rfl Tryd.ntmps120 rfl rfl ?_
 repeat' (first | (apply AL_move; exact rfl; exact rfl) | (apply AL_assign; exact rfl; exact rfl) | (apply AL_bin; (iterate 5 exact rfl)) | refine AL_nil ?_ | (apply AL_guardT; (iterate 3 exact rfl); (first | with_reducible assumption | (guard_target =ₛ true = true; rfl) | (guard_target =ₛ false = false; rfl) | (guard_target =ₛ (!true) = false; rfl) | (guard_target =ₛ (!false) = true; rfl))) | (apply AL_guardFt; (iterate 3 exact rfl); (first | with_reducible assumption | (guard_target =ₛ true = true; rfl) | (guard_target =ₛ false = false; rfl) | (guard_target =ₛ (!true) = false; rfl) | (guard_target =ₛ (!false) = true; rfl))) | (apply AL_guardFf; (iterate 3 exact rfl); (first | with_reducible assumption | (guard_target =ₛ true = true; rfl) | (guard_target =ₛ false = false; rfl) | (guard_target =ₛ (!true) = false; rfl) | (guard_target =ₛ (!false) = true; rfl))) | (apply AL_guardS; exact rfl; exact rfl; all_goals intro hb) | (apply AL_pickT; exact rfl; (first | with_reducible assumption | (guard_target =ₛ true = true; rfl) | (guard_target =ₛ false = false; rfl) | (guard_target =ₛ (!true) = false; rfl) | (guard_target =ₛ (!false) = true; rfl)); exact rfl; exact rfl) | (apply AL_pickF; exact rfl; (first | with_reducible assumption | (guard_target =ₛ true = true; rfl) | (guard_target =ₛ false = false; rfl) | (guard_target =ₛ (!true) = false; rfl) | (guard_target =ₛ (!false) = true; rfl)); exact rfl; exact rfl) | refine AW_region ?_ | refine AW_seq' ?_ | refine then_norm ?_ | refine AW_ret ?_)
 all_goals refine end0 (.cons _ _ _ _ (.tmp _ _ rfl) .nil) (okSel_nil _) rfl ?_ rfl
 all_goals (congr 1; rw [Bool.eq_iff_iff]; simp [mayB] at *; omega)
def hd (h : Hd) : D := .agg [.int .i64 h.1, .int .u64 (h.2.1 : Int), .bool h.2.2]
theorem av_right [Known] (h : Hd) : AP Tryd.prog 107 [hd h] (.bool (rightB h)) [] := by
 refine AC_of Tryd.func107 rfl Tryd.ntmps107 rfl rfl ?_
 repeat' (first | (apply AL_callP (av_may _); kernel_rfl; (iterate 4 exact rfl)) | (apply AL_move; exact rfl; exact rfl) | (apply AL_assign; exact rfl; exact rfl) | (apply AL_bin; (iterate 5 exact rfl)) | (apply AL_load1 ttok; (iterate 6 exact rfl)) | (apply AL_loadn ttok; (iterate 7 exact rfl)) | (apply AL_fieldAddr ttok; (iterate 7 exact rfl)) | (apply AL_box; (iterate 5 exact rfl)) | refine AL_nil ?_ | (apply AL_guardT; (iterate 3 exact rfl); (first | with_reducible assumption | (guard_target =ₛ true = true; rfl) | (guard_target =ₛ false = false; rfl) | (guard_target =ₛ (!true) = false; rfl) | (guard_target =ₛ (!false) = true; rfl))) | (apply AL_guardFt; (iterate 3 exact rfl); (first | with_reducible assumption | (guard_target =ₛ true = true; rfl) | (guard_target =ₛ false = false; rfl) | (guard_target =ₛ (!true) = false; rfl) | (guard_target =ₛ (!false) = true; rfl))) | (apply AL_guardS; exact rfl; exact rfl; all_goals intro hb) | (apply AL_pickT; exact rfl; (first | with_reducible assumption | (guard_target =ₛ true = true; rfl) | (guard_target =ₛ false = false; rfl) | (guard_target =ₛ (!true) = false; rfl) | (guard_target =ₛ (!false) = true; rfl)); exact rfl; exact rfl) | (apply AL_pickF; exact rfl; (first | with_reducible assumption | (guard_target =ₛ true = true; rfl) | (guard_target =ₛ false = false; rfl) | (guard_target =ₛ (!true) = false; rfl) | (guard_target =ₛ (!false) = true; rfl)); exact rfl; exact rfl) | refine AW_region ?_ | refine AW_seq' ?_ | (apply AW_cond'; exact rfl; all_goals intro hb) | refine then_norm ?_ | refine AW_ret ?_ | refine then_ret ?_ | (apply AL_build ttok; (iterate 6 exact rfl)) | (apply AL_eqS ttok; (iterate 4 exact rfl); (kernel_rfl); (kernel_rfl); (iterate 3 exact rfl)) | refine AW_skip ?_)
 all_goals refine end0 (.cons _ _ _ _ (.tmp _ _ rfl) .nil) (okSel_nil _) rfl ?_ rfl
 all_goals (obtain ⟨m, n, o⟩ := h; congr 1; rw [Bool.eq_iff_iff]; simp_all [rightB, mayB]; try omega)
theorem info_of (n : Nat) : (followN n = 0 /\ infoN n = n /\ n < 24) \/ (followN n = 1 /\ infoN n = 24) \/ (followN n = 2 /\ infoN n = 25) \/ (followN n = 4 /\ infoN n = 26) \/ (followN n = 8 /\ infoN n = 27) := by
 unfold followN infoN
 by_cases h1 : n < 24
 ·simp [h1]
 by_cases h2 : n < 256
 ·simp [h1, h2]
 by_cases h3 : n < 65536
 ·simp [h1, h2, h3]
 by_cases h4 : n < 4294967296
 ·simp [h1, h2, h3, h4]
 ·simp [h1, h2, h3, h4]
theorem av_info [Known] (n : Nat) : AP Tryd.prog 108 [.int .u64 (n : Int)] (.int .u8 (infoN n)) [] := by
 refine AC_of Tryd.func108 rfl Tryd.ntmps108 rfl rfl ?_
 repeat' (first | (apply AL_callP (av_follow _); kernel_rfl; (iterate 4 exact rfl)) | (apply AL_move; exact rfl; exact rfl) | (apply AL_assign; exact rfl; exact rfl) | (apply AL_bin; (iterate 5 exact rfl)) | (apply AL_convT ttok; (iterate 5 exact rfl)) | refine AL_nil ?_ | refine AW_region ?_ | refine AW_seq' ?_ | (apply AW_cond'; exact rfl; all_goals intro hb) | refine then_norm ?_ | refine AW_block ?_ | refine AW_ret ?_ | refine then_ret ?_ | refine blk_ret ?_ | refine AW_skip ?_)
 all_goals refine end0 (.cons _ _ _ _ (.tmp _ _ rfl) .nil) (okSel_nil _) rfl ?_ rfl
 all_goals (rcases info_of n with ⟨h1, h2, h3⟩ | ⟨h1, h2⟩ | ⟨h1, h2⟩ | ⟨h1, h2⟩ | ⟨h1, h2⟩ <;> simp_all)
 all_goals (rw [IntKind.wrap_u8']; omega)
theorem first_eq (m : Int) (i : Nat) (hm : 0 <= m /\ m <= 7) (hi : i < 32) : bits .or .u8 (IntKind.u8.wrap (IntKind.u8.wrap m * 2 ^ min (Int.toNat 5) IntKind.u8.bits)) (i : Int) = ((firstB m.toNat i).toNat : Int) := by
 have e2 : IntKind.u8.wrap (IntKind.u8.wrap m * 2 ^ min (Int.toNat 5) IntKind.u8.bits) = (m.toNat : Int) * 32 := by
  rw [show min (Int.toNat 5) IntKind.u8.bits = 5 from rfl, IntKind.wrap_u8', IntKind.wrap_u8']; omega
 rw [e2, or32 m.toNat i (by omega) hi]
 unfold firstB
 rw [UInt8.toNat_ofNat']
 omega
theorem right_m {h : Hd} (hr : rightB h = true) : 0 <= h.1 /\ h.1 <= 7 := by
 obtain ⟨m, n, o⟩ := h
 cases o <;> simp [rightB, mayB] at hr <;> omega
theorem byte_eq (n q : Nat) (hq : q < 8) : E.int .u8 (IntKind.u8.wrap ((n : Int).fdiv (2 ^ min (IntKind.i64.wrap (8 * (q : Int))).toNat IntKind.u64.bits))) = E.byte (UInt8.ofNat (n / 256 ^ q)) := by
 have e : IntKind.i64.wrap (8 * (q : Int)) = ((8 * q : Nat) : Int) := by rw [IntWalk.i64_in _ (by omega)]; omega
 rw [e, Int.toNat_natCast, show min (8 * q) IntKind.u64.bits = 8 * q from Nat.min_eq_left (by show 8 * q <= 64; omega)]
 rw [show ((n : Int).fdiv (2 ^ (8 * q))) = ((n / 256 ^ q : Nat) : Int) from by
  have e : (2 : Int) ^ (8 * q) = ((256 ^ q : Nat) : Int) := by
   rw [show (256 : Nat) = 2 ^ 8 from rfl, <- Nat.pow_mul]
   simp
  rw [e, Int.fdiv_eq_ediv_of_nonneg _ (Int.natCast_nonneg _), <- Int.natCast_ediv]]
 rw [IntKind.wrap_u8']
 unfold E.byte
 rw [UInt8.toNat_ofNat']
 congr 1
theorem av_write [Known] (h : Hd) (hn : h.2.1 < 18446744073709551616) : AP Tryd.prog 94 [hd h] (.tup [byE (if rightB h then writeL h else []), .int .i64 (if rightB h then 0 else 3)]) [] := by
 refine AP.weak ?_
 have HR := @right_m h
 have HN := hid hn
 clear hn
 refine AC_of Tryd.func94 rfl Tryd.ntmps94 rfl rfl ?_
 repeat' (first | (apply AL_callP (av_right h); kernel_rfl; (iterate 4 exact rfl)) | (apply AL_callP (av_info _); kernel_rfl; (iterate 4 exact rfl)) | (apply AL_callP (av_follow _); kernel_rfl; (iterate 4 exact rfl)) | (apply AL_shl; exact rfl; exact rfl; (exact (by decide)); exact rfl) | (apply AL_move; exact rfl; exact rfl) | (apply AL_assign; exact rfl; exact rfl) | (apply AL_bin; (iterate 5 exact rfl)) | (apply AL_load1 ttok; (iterate 6 exact rfl)) | (apply AL_loadn ttok; (iterate 7 exact rfl)) | (apply AL_fieldAddr ttok; (iterate 7 exact rfl)) | (apply AL_box; (iterate 5 exact rfl)) | (apply AL_not; exact rfl; exact rfl) | (apply AL_convT ttok; (iterate 5 exact rfl)) | refine AL_nil ?_ | refine AW_region ?_ | refine AW_seq' ?_ | (apply AW_cond'; exact rfl; all_goals intro hb) | refine then_norm ?_ | refine AW_block ?_ | refine AW_ret ?_ | refine then_ret ?_ | refine blk_ret ?_ | (apply AL_bs ttok; (iterate 12 exact rfl)) | (apply AW_drawM 7 hmix; (decide +kernel); (kernel_rfl); (kernel_rfl); exact rfl; exact rfl) | (apply AD_cons; (iterate 3 exact rfl)) | refine AD.nil _ | exact qp_ok rfl | refine AW_skip ?_)
 ·refine endW (.cons _ _ _ _ (.tmp _ _ rfl) (.cons _ _ _ _ (.tmp _ _ rfl) .nil)) rfl ?_
  simp_all [byE]
 ·refine endW (.cons _ _ _ _ (.tmp _ _ rfl) (.cons _ _ _ _ (.tmp _ _ rfl) .nil)) rfl ?_
  have hr : rightB h = true := by simpa using (‹(!rightB h) = false›)
  rw [if_pos hr, if_pos hr, show writeL h = [firstB h.1.toNat 31] by simp [writeL, hb], show E.int IntKind.u8 (bits .or .u8 (IntKind.u8.wrap (IntKind.u8.wrap h.1 * 2 ^ min (Int.toNat 5) IntKind.u8.bits)) 31) = E.byte (firstB h.1.toNat 31) from congrArg _ (first_eq h.1 31 (HR hr) (by omega))]
  rfl
 rename_i hb1
 have hr : rightB h = true := by simpa using hb1
 have hw : writeL h = firstB h.1.toNat (infoN h.2.1) :: beN h.2.1 (followN h.2.1) := by simp [writeL, hb]
 have hlen : (beN h.2.1 (followN h.2.1)).length = followN h.2.1 := beN_length _ _
 have hf8 := followN_le h.2.1
 refine AW_loopJ (fun k tm bx fr => ∃ (i c : Nat) (L : List E), k + i = followN h.2.1 /\ c = L.length /\ c = i + 1 /\ L = ((writeL h).take (i + 1)).map E.byte /\ tm = [(33, .int .i64 (i : Int)), (32, .int .i64 (followN h.2.1 : Int)), (5, .int .i64 (followN h.2.1 : Int)), (4, .sl (.own 0) L), (3, .int .i64 0), (1, .ptr 0 0)] /\ bx = [[.int .i64 h.1, .int .u64 (h.2.1 : Int), .bool h.2.2]] /\ fr = [⟨c, 1, 5⟩]) (followN h.2.1 + 1) (Lands.mk' (m := followN h.2.1) (Nat.lt_succ_self _) ⟨0, 1, [E.byte (firstB h.1.toNat (infoN h.2.1))], rfl, rfl, rfl, by rw [hw]; rfl, rfl, rfl, rfl⟩ ?_ rfl rfl rfl rfl rfl rfl) ?_
 ·repeat' (first | exact Av.Sub.nil | refine Av.Sub.cons rfl ?_ | refine Av.Sub.cons ?_ ?_)
  have e := congrArg (fun x : Int => D.sl (.own 0) [E.int .u8 x]) (first_eq h.1 (infoN h.2.1) (HR hr) (by have := infoN_le h.2.1; omega))
  exact e
 rintro k tm bx fr ⟨i, c, L, hk, hc, hi, hL, rfl, rfl, rfl⟩
 have hU : Uni 1 L := hL ▸ uniB1 _
 repeat' (first | (apply AL_shr; exact rfl; exact rfl; rotate_left; exact rfl) | (apply AL_move; exact rfl; exact rfl) | (apply AL_assign; exact rfl; exact rfl) | (apply AL_bin; (iterate 5 exact rfl)) | (apply AL_load1 ttok; (iterate 6 exact rfl)) | (apply AL_fieldAddr ttok; (iterate 7 exact rfl)) | (apply AL_convT ttok; (iterate 5 exact rfl)) | refine AL_nil ?_ | refine AW_region ?_ | refine AW_seq' ?_ | (apply AW_cond'; exact rfl; all_goals intro hb) | refine then_norm ?_ | refine AW_block ?_ | refine AW_exit ?_ | refine AW_ret ?_ | (apply AL_bs ttok; (iterate 12 exact rfl)) | refine AW_skip ?_ | (apply AL_append ttok; (iterate 6 exact rfl); (first | with_reducible assumption | exact rfl | rotate_left); exact rfl; exact rfl; (first | exact uniB_ok rfl | with_reducible assumption | rotate_left); (first | exact uniB_ok rfl | with_reducible assumption | rotate_left); (first | exact List.cons_ne_nil _ _ | with_reducible assumption | rotate_left); (first | with_reducible assumption | rotate_left); (first | with_reducible assumption | rotate_left); exact rfl; exact rfl))
 ·have hlt : i < followN h.2.1 := by have := of_decide_eq_true hb; omega
  have hx : IntKind.i64.wrap (IntKind.i64.wrap (↑(followN h.2.1) - 1) - ↑i) = ((followN h.2.1 - 1 - i : Nat) : Int) := by
   rw [IntWalk.i64_in ((followN h.2.1 : Int) - 1) (by omega), IntWalk.i64_in _ (by omega)]; omega
  refine Lands.mk' (m := k - 1) (by omega) ⟨i + 1, L.length + 1, L ++ [E.byte (UInt8.ofNat (h.2.1 / 256 ^ (followN h.2.1 - 1 - i)))], by omega, by simp, by omega, ?_, rfl, rfl, rfl⟩ ?_ rfl rfl rfl rfl rfl rfl
  ·rw [hL, hw, List.take_succ_cons, List.take_succ_cons, beN_take_succ _ _ _ hlt]
   simp
  ·refine .cons ?_ (.cons rfl (.cons rfl (.cons ?_ (.cons rfl (.cons rfl .nil)))))
   ·exact congrArg (D.int .i64) (IntWalk.i64_in _ (by omega))
   ·have e := congrArg (fun x => D.sl (.own 0) (L ++ [x])) (byte_eq h.2.1 (followN h.2.1 - 1 - i) (by omega))
    rw [<- hx] at e
    exact e
 ·have := of_decide_eq_true hb; show L.length + 1 <= maxLen; unfold maxLen; omega
 ·have := of_decide_eq_true hb; show (L.length + 1) * 1 <= 140737488355328; omega
 ·have := of_decide_eq_true hb
  have hx : IntKind.i64.wrap (IntKind.i64.wrap (↑(followN h.2.1) - 1) - ↑i) = ((followN h.2.1 - 1 - i : Nat) : Int) := by
   rw [IntWalk.i64_in ((followN h.2.1 : Int) - 1) (by omega), IntWalk.i64_in _ (by omega)]; omega
  rw [hx, IntWalk.i64_in _ (by omega)]; omega
 ·refine endW (.cons _ _ _ _ (.tmp _ _ rfl) (.cons _ _ _ _ (.tmp _ _ rfl) .nil)) rfl ?_
  rw [if_pos hr, if_pos hr, hL]
  have := of_decide_eq_false hb
  rw [List.take_of_length_le (by rw [hw, List.length_cons, hlen]; omega)]
end Go.Proofs.YtihkbilhgbmbhaaDoor
end

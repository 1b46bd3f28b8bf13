/- The reader of items: lists, items. -/
import Derived.Test.YtihkbilhgbmbhaaDoorG25
set_option linter.unusedVariables false
set_option linter.unusedSimpArgs false
section
open Go.RowKit Go.Pl Go.Av
namespace Go.Proofs.YtihkbilhgbmbhaaDoor
set_option maxHeartbeats 4000000
abbrev itR (b : List UInt8) (d p m : Nat) : Except D (D × List (List D)) := match itemS d m (b.drop p) with
 | .error e => .error (faultD e)
 | .ok (x, r, m') => .ok (itD x, [rdC b (b.length - r.length) m'])
abbrev liB (b : List UInt8) (p m n : Nat) (o : Bool) (tk : Tok) (acc : List E) : List (List D) := [rdC b p m, [.int .i64 4, .int .u64 (n : Int), .bool o], [.int .i64 0, .int .u64 0, .sl .nil [], .sl .nil []], [.int .i64 4, .int .u64 0, .sl .nil [], .sl tk acc]]
theorem av_rlist [Known] [KnownU8] (d deep : Nat) (hdd : deep + d = 6) (b : List UInt8) (hb : b.length <= 1099511627776)
  (IH : ∀ p m, p <= b.length -> m <= 256 -> AR Tryd.prog 73 [.ptr 0 0, .int .i64 ((deep + 1 : Nat) : Int)] [rdC b p m] (itR b d p m))
  (n : Nat) (o : Bool) (p m : Nat) (hp : p <= b.length) (hm : m <= 256) (hn : n < 18446744073709551616) : AR Tryd.prog 97 [.ptr 0 0, hd (4, n, o), .int .i64 (deep : Int)] [rdC b p m] (match lisS (itemS d) (4, n, o) m (b.drop p) with
  | .error e => .error (faultD e)
  | .ok (l, r, m') => .ok (itD (.mk 4 0 [] l), [rdC b (b.length - r.length) m'])) := by
 show AR Tryd.prog _ [.ptr 0 0, .agg [.int .i64 4, .int .u64 (n : Int), .bool o], .int .i64 (deep : Int)] _ _
 have hR := item_ok d (by omega)
 have ed : IntKind.i64.wrap ((deep : Int) + 1) = ((deep + 1 : Nat) : Int) := by rw [IntWalk.i64_in _ (by omega)]; omega
 cases o with
 | true =>
  unfold lisS
  dsimp only
  generalize ho : lstO (itemS d) ((b.drop p).length + 1) [] m (b.drop p) = o
  refine AC_of Tryd.func97 rfl Tryd.ntmps97 rfl rfl ?_
  repeat' (first | (apply AL_load1 ttok; (iterate 6 exact rfl)) | (apply AL_fieldAddr ttok; (iterate 7 exact rfl)) | (apply AL_boxZ; (iterate 5 exact rfl)) | (apply AL_store ttok; (iterate 8 exact rfl)) | refine AL_nil ?_ | refine AW_region ?_ | refine AW_seq' ?_ | (apply AW_condA; exact rfl; (first | with_reducible assumption | decide +kernel)) | refine AW_block ?_ | (apply AL_build ttok; (iterate 6 exact rfl)) | (apply AL_allocZ ttok; (iterate 4 exact rfl)))
  refine AW_loopJ (fun f tm bx fr => ∃ (acc : List It) (p' m' c : Nat) (L : List E), p' <= b.length /\ m' <= 256 /\ c = L.length /\ L = itEs acc /\ acc.length + (b.length - p') <= b.length /\ (b.drop p').length < f /\ lstO (itemS d) f acc m' (b.drop p') = o /\ tm = [(0, .ptr 0 0), (2, .int .i64 (deep : Int)), (4, .ptr 1 0), (6, .ptr 2 0), (7, .ptr 3 0)] /\
   ((acc = [] /\ bx = liB b p' m' n true .nil [] /\ fr = []) \/ (bx = liB b p' m' n true (.own 0) L /\ fr = [⟨c, 4, 27⟩]))) ((b.drop p).length + 2) (Lands.mk' (m := (b.drop p).length + 1) (Nat.lt_succ_self _) ⟨[], p, m, 0, [], hp, hm, rfl, rfl, by simp, by omega, ho, rfl, .inl ⟨rfl, rfl, rfl⟩⟩ ?_ rfl rfl rfl rfl rfl rfl) ?_
  ·exact .cons rfl (.cons rfl (.cons rfl (.cons rfl (.cons rfl .nil))))
  rintro f tm bx fr ⟨acc, p', m', c, L, hp', hm', hc, hL, hsum, hf, hS, rfl, hst⟩
  obtain ⟨f, rfl⟩ : ∃ g, f = g + 1 := ⟨f - 1, by omega⟩
  have hends := av_ends b p' m' hb hp'
  rw [lstO] at hS
  have hlp : (b.drop p').length = b.length - p' := List.length_drop ..
  cases he : endB (b.drop p') with
  | true =>
   rw [he] at hS hends
   dsimp only at hS
   rw [if_pos rfl] at hends
   subst hS
   dsimp only
   obtain ⟨x, hx⟩ := tail_length _ he
   obtain ⟨q1, q2, q3⟩ := drop_suf (pre := [x]) hp' hx
   have q3 : b.length - (b.drop p').tail.length = p' + 1 := q3.symm
   rw [q3]
   subst hL
   rcases hst with ⟨rfl, rfl, rfl⟩ | ⟨rfl, rfl⟩
   ·repeat' (first | (apply AL_callQw [0] (hends); kernel_rfl; (iterate 7 exact rfl)) | (apply AL_move; exact rfl; exact rfl) | (apply AL_loadn ttok; (iterate 7 exact rfl)) | (apply AL_store ttok; (iterate 8 exact rfl)) | (apply AL_not; exact rfl; exact rfl) | refine AL_nil ?_ | refine AW_region ?_ | refine AW_seq' ?_ | (apply AW_condB; exact rfl; (first | with_reducible assumption | decide +kernel)) | refine then_norm ?_ | refine AW_exit ?_ | refine AW_ret ?_ | refine then_ret ?_)
    all_goals (apply endR (rfl) [0]; (repeat (first | exact ResL.nil | (apply ResL.cons; first | exact .tmp _ _ rfl | (apply res_n ttok; (iterate 6 exact rfl)) | (apply res_1 ttok; (iterate 5 exact rfl))))); (iterate 4 exact rfl))
    all_goals rfl
   ·repeat' (first | (apply AL_callQw [0] (hends); kernel_rfl; (iterate 7 exact rfl)) | (apply AL_move; exact rfl; exact rfl) | (apply AL_loadn ttok; (iterate 7 exact rfl)) | (apply AL_store ttok; (iterate 8 exact rfl)) | (apply AL_not; exact rfl; exact rfl) | refine AL_nil ?_ | refine AW_region ?_ | refine AW_seq' ?_ | (apply AW_condB; exact rfl; (first | with_reducible assumption | decide +kernel)) | refine then_norm ?_ | refine AW_exit ?_ | refine AW_ret ?_ | refine then_ret ?_)
    all_goals (apply endR (rfl) [0]; (repeat (first | exact ResL.nil | (apply ResL.cons; first | exact .tmp _ _ rfl | (apply res_n ttok; (iterate 6 exact rfl)) | (apply res_1 ttok; (iterate 5 exact rfl))))); (iterate 4 exact rfl))
    all_goals rfl
  | false =>
   rw [he] at hS hends
   dsimp only at hS
   rw [if_neg (by simp)] at hends
   have hit := IH p' m' hp' hm'
   unfold itR at hit
   cases hr : itemS d m' (b.drop p') with
   | error e =>
    rw [hr] at hS hit
    dsimp only at hS hit
    subst hS
    dsimp only
    rcases hst with ⟨rfl, rfl, rfl⟩ | ⟨rfl, rfl⟩
    ·repeat' (first | rw [ed] | (apply AL_callQw [0] (hends); kernel_rfl; (iterate 7 exact rfl)) | (apply AL_callX [0] (hit.x rfl); kernel_rfl; (iterate 6 exact rfl); intro bx2 fr2 hle2) | (apply AW_drawX 9 5 hmix; (decide +kernel); (kernel_rfl); (decide +kernel); exact rfl; exact rfl) | exact ADX.nil _ _ | (apply ADX_dead; (decide +kernel); exact rfl) | (apply ADX_pan; (iterate 3 exact rfl)) | (apply ADX_pu; (iterate 4 exact rfl)) | exact qx_pan rfl (by assumption) | intro tm2 bx2 fr2 hle2 | (apply AL_move; exact rfl; exact rfl) | (apply AL_bin; (iterate 5 exact rfl)) | (apply AL_load1 ttok; (iterate 6 exact rfl)) | (apply AL_fieldAddr ttok; (iterate 7 exact rfl)) | (apply AL_not; exact rfl; exact rfl) | refine AL_nil ?_ | refine AW_region ?_ | refine AW_seq' ?_ | (apply AW_condA; exact rfl; (first | with_reducible assumption | decide +kernel)) | refine then_norm ?_ | refine AW_block ?_ | exact qp_ok rfl | refine AW_skip ?_ | refine then_pan ?_ | refine blk_pan ?_)
     all_goals (apply endX; exact rfl; (first | exact Nat.zero_le _ | exact Nat.le_trans (Nat.le_of_ble_eq_true rfl) (by assumption)); exact rfl)
    ·repeat' (first | rw [ed] | (apply AL_callQw [0] (hends); kernel_rfl; (iterate 7 exact rfl)) | (apply AL_callX [0] (hit.x rfl); kernel_rfl; (iterate 6 exact rfl); intro bx2 fr2 hle2) | (apply AW_drawX 9 5 hmix; (decide +kernel); (kernel_rfl); (decide +kernel); exact rfl; exact rfl) | exact ADX.nil _ _ | (apply ADX_dead; (decide +kernel); exact rfl) | (apply ADX_pan; (iterate 3 exact rfl)) | (apply ADX_pu; (iterate 4 exact rfl)) | exact qx_pan rfl (by assumption) | intro tm2 bx2 fr2 hle2 | (apply AL_move; exact rfl; exact rfl) | (apply AL_bin; (iterate 5 exact rfl)) | (apply AL_load1 ttok; (iterate 6 exact rfl)) | (apply AL_fieldAddr ttok; (iterate 7 exact rfl)) | (apply AL_not; exact rfl; exact rfl) | refine AL_nil ?_ | refine AW_region ?_ | refine AW_seq' ?_ | (apply AW_condA; exact rfl; (first | with_reducible assumption | decide +kernel)) | refine then_norm ?_ | refine AW_block ?_ | exact qp_ok rfl | refine AW_skip ?_ | refine then_pan ?_ | refine blk_pan ?_)
     all_goals (apply endX; exact rfl; (first | exact Nat.zero_le _ | exact Nat.le_trans (Nat.le_of_ble_eq_true rfl) (by assumption)); exact rfl)
   | ok y =>
    obtain ⟨⟨k1, n1, b1, l1⟩, r, m1⟩ := y
    rw [hr] at hS hit
    dsimp only at hS hit
    obtain ⟨hwk, _, pre, hpre, hpos, _⟩ := hR _ _ _ _ _ hr (by omega)
    have hm1 := walkI_lt hwk
    obtain ⟨z1, z2, z3⟩ := drop_suf hp' hpre
    generalize hp3 : b.length - r.length = p3 at z1 z2 z3 hit
    have hpl := congrArg List.length hpre
    have hdl : (b.drop p3).length = r.length := by rw [z1]
    rw [List.length_append] at hpl
    rw [<- z1] at hS
    rw [List.length_drop] at hdl
    have hf3 : (b.drop p3).length < f := by rw [List.length_drop]; omega
    have hsum3 : (acc ++ [It.mk k1 n1 b1 l1]).length + (b.length - p3) <= b.length := by rw [List.length_append]; simp; omega
    rcases hst with ⟨rfl, rfl, rfl⟩ | ⟨rfl, rfl⟩
    ·repeat' (first | rw [ed] | (apply AL_callQw [0] (hends); kernel_rfl; (iterate 7 exact rfl)) | (apply AL_callQw [0] (hit.q rfl); kernel_rfl; (iterate 7 exact rfl)) | (apply AL_append_nilZ ttok; (iterate 6 exact rfl); exact uniB_ok rfl; exact List.cons_ne_nil _ _; exact rfl; decide +kernel; decide +kernel; (iterate 3 exact rfl)) | (apply AL_move; exact rfl; exact rfl) | (apply AL_bin; (iterate 5 exact rfl)) | (apply AL_load1 ttok; (iterate 6 exact rfl)) | (apply AL_fieldAddr ttok; (iterate 7 exact rfl)) | (apply AL_store ttok; (iterate 8 exact rfl)) | (apply AL_not; exact rfl; exact rfl) | refine AL_nil ?_ | refine AW_region ?_ | refine AW_seq' ?_ | (apply AW_condA; exact rfl; (first | with_reducible assumption | decide +kernel)) | refine then_norm ?_ | refine blk_norm ?_ | refine AW_block ?_ | (apply AL_bsZ ttok; (iterate 12 exact rfl)) | (apply AW_drawE 7 hmix; (decide +kernel); (kernel_rfl); (kernel_rfl); (kernel_rfl); exact rfl; exact rfl) | (apply AE_consZ; (iterate 4 exact rfl)) | exact AE.nil _ _ _ _ | (apply AEk_puT; exact rfl) | (apply AEk_efT; exact rfl) | (apply AOt_mk; exact rfl; exact rfl; (decide +kernel); exact rfl) | (apply AO_puT; exact rfl) | (apply AO_efT; exact rfl) | exact AO.nil _ _ _ | (apply AOs_skip; (decide +kernel)) | (apply AOs_goZ; (iterate 3 exact rfl)) | exact AOs.nil | exact qY_ok rfl rfl | exact qY_wk rfl rfl rfl rfl rfl | exact qY_ef rfl rfl | refine AW_skip ?_)
     refine Lands.mk' (m := f) (Nat.lt_succ_self _) ⟨[It.mk k1 n1 b1 l1], p3, m1, 1, itEs [It.mk k1 n1 b1 l1], z2, by omega, rfl, rfl, hsum3, hf3, hS, rfl, .inr ⟨rfl, rfl⟩⟩ ?_ rfl rfl rfl rfl rfl rfl
     exact .cons rfl (.cons rfl (.cons rfl (.cons rfl (.cons rfl .nil))))
    ·subst hc
     have hUa : Uni 4 L := hL ▸ uniI acc
     have hLl : L.length = acc.length := by rw [hL, itEs_len]
     repeat' (first | rw [ed] | (apply AL_callQw [0] (hends); kernel_rfl; (iterate 7 exact rfl)) | (apply AL_callQw [0] (hit.q rfl); kernel_rfl; (iterate 7 exact rfl)) | (apply AL_move; exact rfl; exact rfl) | (apply AL_bin; (iterate 5 exact rfl)) | (apply AL_load1 ttok; (iterate 6 exact rfl)) | (apply AL_fieldAddr ttok; (iterate 7 exact rfl)) | (apply AL_store ttok; (iterate 8 exact rfl)) | (apply AL_not; exact rfl; exact rfl) | refine AL_nil ?_ | refine AW_region ?_ | refine AW_seq' ?_ | (apply AW_condA; exact rfl; (first | with_reducible assumption | decide +kernel)) | refine then_norm ?_ | refine blk_norm ?_ | refine AW_block ?_ | (apply AL_bsZ ttok; (iterate 12 exact rfl)) | (apply AW_drawE 7 hmix; (decide +kernel); (kernel_rfl); (kernel_rfl); (kernel_rfl); exact rfl; exact rfl) | (apply AE_consZ; (iterate 4 exact rfl)) | exact AE.nil _ _ _ _ | (apply AEk_puT; exact rfl) | (apply AEk_efT; exact rfl) | (apply AOt_mk; exact rfl; exact rfl; (decide +kernel); exact rfl) | (apply AO_puT; exact rfl) | (apply AO_efT; exact rfl) | exact AO.nil _ _ _ | (apply AOs_skip; (decide +kernel)) | (apply AOs_goZ; (iterate 3 exact rfl)) | exact AOs.nil | exact qY_ok rfl rfl | exact qY_wk rfl rfl rfl rfl rfl | exact qY_ef rfl rfl | refine AW_skip ?_ | (apply AL_append ttok; (iterate 6 exact rfl); (first | with_reducible assumption | decide +kernel | exact rfl | rotate_left); exact rfl; exact rfl; (first | exact uniB_ok rfl | with_reducible assumption | decide +kernel | rotate_left); (first | exact uniB_ok rfl | with_reducible assumption | decide +kernel | rotate_left); (first | exact List.cons_ne_nil _ _ | with_reducible assumption | decide +kernel | rotate_left); (first | with_reducible assumption | decide +kernel | rotate_left); (first | with_reducible assumption | decide +kernel | rotate_left); exact rfl; exact rfl))
     ·refine Lands.mk' (m := f) (Nat.lt_succ_self _) ⟨acc ++ [It.mk k1 n1 b1 l1], p3, m1, L.length + 1, L ++ [E.agg [.int .i64 k1, .int .u64 (n1 : Int), .sl (b1.map E.byte), .sl (itEs l1)]], z2, by omega, by rw [List.length_append]; rfl, by rw [hL]; exact (itEs_app _ [It.mk k1 n1 b1 l1]).symm, hsum3, hf3, hS, rfl, .inr ⟨rfl, rfl⟩⟩ ?_ rfl rfl rfl rfl rfl rfl
      exact .cons rfl (.cons rfl (.cons rfl (.cons rfl (.cons rfl .nil))))
     all_goals (first | rfl | (simp only [List.length_append, List.length_cons, List.length_nil, List.length_map, itEs_len]; done) | (simp only [List.length_append, List.length_cons, List.length_nil, List.length_map, itEs_len] at *; (try unfold maxLen); (try simp only [Nat.add_mul]); omega))
 | false =>
  unfold lisS
  dsimp only
  have e1 : IntKind.i64.wrap (((b.map E.byte).length : Int) - (p : Int)) = ((b.length - p : Nat) : Int) := by rw [List.length_map, IntWalk.i64_in _ (by omega)]; omega
  have e2 : IntKind.u64.wrap ((b.length - p : Nat) : Int) = ((b.length - p : Nat) : Int) := by rw [IntKind.wrap_u64]; omega
  have hl : (b.drop p).length = b.length - p := List.length_drop ..
  rw [hl]
  by_cases hle : n <= b.length - p
  ·rw [if_pos hle]
   have d1 : decide ((n : Int) <= ((b.length - p : Nat) : Int)) = true := by simp; omega
   generalize ho : lstN (itemS d) n [] m (b.drop p) = o
   refine AC_of Tryd.func97 rfl Tryd.ntmps97 rfl rfl ?_
   repeat' (first | rw [d1] | rw [e1] | rw [e2] | (apply AL_callPw (av_need 8); kernel_rfl; (iterate 4 exact rfl)) | (apply AL_move; exact rfl; exact rfl) | (apply AL_bin; (iterate 5 exact rfl)) | (apply AL_load1 ttok; (iterate 6 exact rfl)) | (apply AL_fieldAddr ttok; (iterate 7 exact rfl)) | (apply AL_nilCheck; exact rfl; exact rfl) | (apply AL_boxZ; (iterate 5 exact rfl)) | (apply AL_store ttok; (iterate 8 exact rfl)) | (apply AL_convT ttok; (iterate 5 exact rfl)) | refine AL_nil ?_ | refine AW_region ?_ | refine AW_seq' ?_ | (apply AW_condB; exact rfl; (first | with_reducible assumption | decide +kernel)) | refine then_norm ?_ | refine AW_block ?_ | (apply AL_len ttok; (iterate 4 exact rfl)) | (apply AL_build ttok; (iterate 6 exact rfl)) | (apply AL_allocZ ttok; (iterate 4 exact rfl)) | (apply AW_drawE 13 hmix; (decide +kernel); (kernel_rfl); (kernel_rfl); (kernel_rfl); exact rfl; exact rfl) | (apply AE_consZ; (iterate 4 exact rfl)) | exact AE.nil _ _ _ _ | (apply AEk_puT; exact rfl) | (apply AOt_mk; exact rfl; exact rfl; (decide +kernel); exact rfl) | (apply AO_puT; exact rfl) | exact AO.nil _ _ _ | (apply AOs_skip; (decide +kernel)) | exact AOs.nil | exact qY_ok rfl rfl | refine AW_skip ?_)
   refine AW_loopJ (fun f tm bx fr => ∃ (i : Nat) (acc : List It) (p' m' c : Nat) (L : List E), f + i = n /\ p' <= b.length /\ m' <= 256 /\ c = L.length /\ L = itEs acc /\ acc.length + (b.length - p') <= b.length /\ lstN (itemS d) f acc m' (b.drop p') = o /\ tm = [(0, .ptr 0 0), (2, .int .i64 (deep : Int)), (4, .ptr 1 0), (6, .ptr 2 0), (7, .ptr 3 0), (40, .int .u64 (n : Int)), (41, .int .u64 (i : Int))] /\
    ((acc = [] /\ bx = liB b p' m' n false .nil [] /\ fr = []) \/ (bx = liB b p' m' n false (.own 0) L /\ fr = [⟨c, 4, 27⟩]))) (n + 1) (Lands.mk' (m := n) (Nat.lt_succ_self _) ⟨0, [], p, m, 0, [], rfl, hp, hm, rfl, rfl, by simp, ho, rfl, .inl ⟨rfl, rfl, rfl⟩⟩ ?_ rfl rfl rfl rfl rfl rfl) ?_
   ·exact .cons rfl (.cons rfl (.cons rfl (.cons rfl (.cons rfl (.cons rfl (.cons rfl .nil))))))
   rintro f tm bx fr ⟨i, acc, p', m', c, L, hfi, hp', hm', hc, hL, hsum, hS, rfl, hst⟩
   cases f with
   | zero =>
    have dn : decide ((i : Int) < (n : Int)) = false := by simp; omega
    rw [lstN] at hS
    subst hS
    dsimp only
    have q3 : b.length - (b.drop p').length = p' := by rw [List.length_drop]; omega
    rw [q3]
    subst hL
    rcases hst with ⟨rfl, rfl, rfl⟩ | ⟨rfl, rfl⟩
    ·repeat' (first | (apply AL_bin; (iterate 5 exact rfl)) | (apply AL_loadn ttok; (iterate 7 exact rfl)) | (apply AL_store ttok; (iterate 8 exact rfl)) | refine AL_nil ?_ | refine AW_region ?_ | refine AW_seq' ?_ | (apply AW_condB; exact rfl; (first | with_reducible assumption | decide +kernel)) | refine then_norm ?_ | refine AW_exit ?_ | refine AW_ret ?_)
     all_goals (apply endR (rfl) [0]; (repeat (first | exact ResL.nil | (apply ResL.cons; first | exact .tmp _ _ rfl | (apply res_n ttok; (iterate 6 exact rfl)) | (apply res_1 ttok; (iterate 5 exact rfl))))); (iterate 4 exact rfl))
     all_goals rfl
    ·repeat' (first | (apply AL_bin; (iterate 5 exact rfl)) | (apply AL_loadn ttok; (iterate 7 exact rfl)) | (apply AL_store ttok; (iterate 8 exact rfl)) | refine AL_nil ?_ | refine AW_region ?_ | refine AW_seq' ?_ | (apply AW_condB; exact rfl; (first | with_reducible assumption | decide +kernel)) | refine then_norm ?_ | refine AW_exit ?_ | refine AW_ret ?_)
     all_goals (apply endR (rfl) [0]; (repeat (first | exact ResL.nil | (apply ResL.cons; first | exact .tmp _ _ rfl | (apply res_n ttok; (iterate 6 exact rfl)) | (apply res_1 ttok; (iterate 5 exact rfl))))); (iterate 4 exact rfl))
     all_goals rfl
   | succ f =>
    have dn : decide ((i : Int) < (n : Int)) = true := by simp; omega
    have ei : IntKind.u64.wrap ((i : Int) + 1) = ((i + 1 : Nat) : Int) := by rw [IntKind.wrap_u64]; omega
    rw [lstN] at hS
    have hlp : (b.drop p').length = b.length - p' := List.length_drop ..
    have hit := IH p' m' hp' hm'
    unfold itR at hit
    cases hr : itemS d m' (b.drop p') with
    | error e =>
     rw [hr] at hS hit
     dsimp only at hS hit
     subst hS
     dsimp only
     rcases hst with ⟨rfl, rfl, rfl⟩ | ⟨rfl, rfl⟩
     ·repeat' (first | rw [ed] | (apply AL_callX [0] (hit.x rfl); kernel_rfl; (iterate 6 exact rfl); intro bx2 fr2 hle2) | (apply AW_drawX 9 5 hmix; (decide +kernel); (kernel_rfl); (decide +kernel); exact rfl; exact rfl) | exact ADX.nil _ _ | (apply ADX_dead; (decide +kernel); exact rfl) | (apply ADX_pan; (iterate 3 exact rfl)) | (apply ADX_pu; (iterate 4 exact rfl)) | exact qx_pan rfl (by assumption) | intro tm2 bx2 fr2 hle2 | (apply AL_move; exact rfl; exact rfl) | (apply AL_bin; (iterate 5 exact rfl)) | (apply AL_load1 ttok; (iterate 6 exact rfl)) | (apply AL_fieldAddr ttok; (iterate 7 exact rfl)) | refine AL_nil ?_ | refine AW_region ?_ | refine AW_seq' ?_ | (apply AW_condA; exact rfl; (first | with_reducible assumption | decide +kernel)) | refine AW_block ?_ | exact qp_ok rfl | refine AW_skip ?_ | refine then_pan ?_ | refine blk_pan ?_)
      all_goals (apply endX; exact rfl; (first | exact Nat.zero_le _ | exact Nat.le_trans (Nat.le_of_ble_eq_true rfl) (by assumption)); exact rfl)
     ·repeat' (first | rw [ed] | (apply AL_callX [0] (hit.x rfl); kernel_rfl; (iterate 6 exact rfl); intro bx2 fr2 hle2) | (apply AW_drawX 9 5 hmix; (decide +kernel); (kernel_rfl); (decide +kernel); exact rfl; exact rfl) | exact ADX.nil _ _ | (apply ADX_dead; (decide +kernel); exact rfl) | (apply ADX_pan; (iterate 3 exact rfl)) | (apply ADX_pu; (iterate 4 exact rfl)) | exact qx_pan rfl (by assumption) | intro tm2 bx2 fr2 hle2 | (apply AL_move; exact rfl; exact rfl) | (apply AL_bin; (iterate 5 exact rfl)) | (apply AL_load1 ttok; (iterate 6 exact rfl)) | (apply AL_fieldAddr ttok; (iterate 7 exact rfl)) | refine AL_nil ?_ | refine AW_region ?_ | refine AW_seq' ?_ | (apply AW_condA; exact rfl; (first | with_reducible assumption | decide +kernel)) | refine AW_block ?_ | exact qp_ok rfl | refine AW_skip ?_ | refine then_pan ?_ | refine blk_pan ?_)
      all_goals (apply endX; exact rfl; (first | exact Nat.zero_le _ | exact Nat.le_trans (Nat.le_of_ble_eq_true rfl) (by assumption)); exact rfl)
    | ok y =>
     obtain ⟨⟨k1, n1, b1, l1⟩, r, m1⟩ := y
     rw [hr] at hS hit
     dsimp only at hS hit
     obtain ⟨hwk, _, pre, hpre, hpos, _⟩ := hR _ _ _ _ _ hr (by omega)
     have hm1 := walkI_lt hwk
     obtain ⟨z1, z2, z3⟩ := drop_suf hp' hpre
     generalize hp3 : b.length - r.length = p3 at z1 z2 z3 hit
     have hpl := congrArg List.length hpre
     have hdl : (b.drop p3).length = r.length := by rw [z1]
     rw [List.length_append] at hpl
     rw [<- z1] at hS
     rw [List.length_drop] at hdl
     have hsum3 : (acc ++ [It.mk k1 n1 b1 l1]).length + (b.length - p3) <= b.length := by rw [List.length_append]; simp; omega
     rcases hst with ⟨rfl, rfl, rfl⟩ | ⟨rfl, rfl⟩
     ·repeat' (first | rw [ed] | rw [ei] | (apply AL_callQw [0] (hit.q rfl); kernel_rfl; (iterate 7 exact rfl)) | (apply AL_append_nilZ ttok; (iterate 6 exact rfl); exact uniB_ok rfl; exact List.cons_ne_nil _ _; exact rfl; decide +kernel; decide +kernel; (iterate 3 exact rfl)) | (apply AL_move; exact rfl; exact rfl) | (apply AL_bin; (iterate 5 exact rfl)) | (apply AL_load1 ttok; (iterate 6 exact rfl)) | (apply AL_fieldAddr ttok; (iterate 7 exact rfl)) | (apply AL_store ttok; (iterate 8 exact rfl)) | refine AL_nil ?_ | refine AW_region ?_ | refine AW_seq' ?_ | (apply AW_condA; exact rfl; (first | with_reducible assumption | decide +kernel)) | refine then_norm ?_ | refine AW_block ?_ | (apply AL_bsZ ttok; (iterate 12 exact rfl)) | (apply AW_drawE 7 hmix; (decide +kernel); (kernel_rfl); (kernel_rfl); (kernel_rfl); exact rfl; exact rfl) | (apply AE_consZ; (iterate 4 exact rfl)) | exact AE.nil _ _ _ _ | (apply AEk_puT; exact rfl) | (apply AEk_efT; exact rfl) | (apply AOt_mk; exact rfl; exact rfl; (decide +kernel); exact rfl) | (apply AO_puT; exact rfl) | (apply AO_efT; exact rfl) | exact AO.nil _ _ _ | (apply AOs_skip; (decide +kernel)) | (apply AOs_goZ; (iterate 3 exact rfl)) | exact AOs.nil | exact qY_ok rfl rfl | exact qY_wk rfl rfl rfl rfl rfl | exact qY_ef rfl rfl | refine AW_skip ?_)
      refine Lands.mk' (m := f) (Nat.lt_succ_self _) ⟨i + 1, [It.mk k1 n1 b1 l1], p3, m1, 1, itEs [It.mk k1 n1 b1 l1], by omega, z2, by omega, rfl, rfl, hsum3, hS, rfl, .inr ⟨rfl, rfl⟩⟩ ?_ rfl rfl rfl rfl rfl rfl
      exact .cons rfl (.cons rfl (.cons rfl (.cons rfl (.cons rfl (.cons rfl (.cons rfl .nil))))))
     ·subst hc
      have hUa : Uni 4 L := hL ▸ uniI acc
      have hLl : L.length = acc.length := by rw [hL, itEs_len]
      repeat' (first | rw [ed] | rw [ei] | (apply AL_callQw [0] (hit.q rfl); kernel_rfl; (iterate 7 exact rfl)) | (apply AL_move; exact rfl; exact rfl) | (apply AL_bin; (iterate 5 exact rfl)) | (apply AL_load1 ttok; (iterate 6 exact rfl)) | (apply AL_fieldAddr ttok; (iterate 7 exact rfl)) | (apply AL_store ttok; (iterate 8 exact rfl)) | refine AL_nil ?_ | refine AW_region ?_ | refine AW_seq' ?_ | (apply AW_condA; exact rfl; (first | with_reducible assumption | decide +kernel)) | refine then_norm ?_ | refine AW_block ?_ | (apply AL_bsZ ttok; (iterate 12 exact rfl)) | (apply AW_drawE 7 hmix; (decide +kernel); (kernel_rfl); (kernel_rfl); (kernel_rfl); exact rfl; exact rfl) | (apply AE_consZ; (iterate 4 exact rfl)) | exact AE.nil _ _ _ _ | (apply AEk_puT; exact rfl) | (apply AEk_efT; exact rfl) | (apply AOt_mk; exact rfl; exact rfl; (decide +kernel); exact rfl) | (apply AO_puT; exact rfl) | (apply AO_efT; exact rfl) | exact AO.nil _ _ _ | (apply AOs_skip; (decide +kernel)) | (apply AOs_goZ; (iterate 3 exact rfl)) | exact AOs.nil | exact qY_ok rfl rfl | exact qY_wk rfl rfl rfl rfl rfl | exact qY_ef rfl rfl | refine AW_skip ?_ | (apply AL_append ttok; (iterate 6 exact rfl); (first | with_reducible assumption | decide +kernel | exact rfl | rotate_left); exact rfl; exact rfl; (first | exact uniB_ok rfl | with_reducible assumption | decide +kernel | rotate_left); (first | exact uniB_ok rfl | with_reducible assumption | decide +kernel | rotate_left); (first | exact List.cons_ne_nil _ _ | with_reducible assumption | decide +kernel | rotate_left); (first | with_reducible assumption | decide +kernel | rotate_left); (first | with_reducible assumption | decide +kernel | rotate_left); exact rfl; exact rfl))
      ·refine Lands.mk' (m := f) (Nat.lt_succ_self _) ⟨i + 1, acc ++ [It.mk k1 n1 b1 l1], p3, m1, L.length + 1, L ++ [E.agg [.int .i64 k1, .int .u64 (n1 : Int), .sl (b1.map E.byte), .sl (itEs l1)]], by omega, z2, by omega, by rw [List.length_append]; rfl, by rw [hL]; exact (itEs_app _ [It.mk k1 n1 b1 l1]).symm, hsum3, hS, rfl, .inr ⟨rfl, rfl⟩⟩ ?_ rfl rfl rfl rfl rfl rfl
       exact .cons rfl (.cons rfl (.cons rfl (.cons rfl (.cons rfl (.cons rfl (.cons rfl .nil))))))
      all_goals (first | rfl | (simp only [List.length_append, List.length_cons, List.length_nil, List.length_map, itEs_len]; done) | (simp only [List.length_append, List.length_cons, List.length_nil, List.length_map, itEs_len] at *; (try unfold maxLen); (try simp only [Nat.add_mul]); omega))
  ·rw [if_neg hle]
   dsimp only
   have d1 : decide ((n : Int) <= ((b.length - p : Nat) : Int)) = false := by simp; omega
   refine AC_of Tryd.func97 rfl Tryd.ntmps97 rfl rfl ?_
   repeat' (first | rw [d1] | rw [e1] | rw [e2] | (apply AL_callX [] (ax_need 8); kernel_rfl; (iterate 6 exact rfl); intro bx2 fr2 hle2) | (apply AL_move; exact rfl; exact rfl) | (apply AL_bin; (iterate 5 exact rfl)) | (apply AL_load1 ttok; (iterate 6 exact rfl)) | (apply AL_fieldAddr ttok; (iterate 7 exact rfl)) | (apply AL_nilCheck; exact rfl; exact rfl) | (apply AL_boxZ; (iterate 5 exact rfl)) | (apply AL_store ttok; (iterate 8 exact rfl)) | (apply AL_convT ttok; (iterate 5 exact rfl)) | refine AL_nil ?_ | refine AW_region ?_ | refine AW_seq' ?_ | (apply AW_condB; exact rfl; (first | with_reducible assumption | decide +kernel)) | (apply AL_len ttok; (iterate 4 exact rfl)) | (apply AL_build ttok; (iterate 6 exact rfl)) | (apply AL_allocZ ttok; (iterate 4 exact rfl)) | (apply AW_drawE 13 hmix; (decide +kernel); (kernel_rfl); (kernel_rfl); (kernel_rfl); exact rfl; exact rfl) | (apply AE_consZ; (iterate 4 exact rfl)) | exact AE.nil _ _ _ _ | (apply AEk_puT; exact rfl) | (apply AOt_mk; exact rfl; exact rfl; (decide +kernel); exact rfl) | (apply AO_puT; exact rfl) | exact AO.nil _ _ _ | (apply AOs_skip; (decide +kernel)) | exact AOs.nil | exact qY_ok rfl rfl | refine AW_skip ?_ | refine then_pan ?_)
   all_goals (apply endX; exact rfl; (first | exact Nat.zero_le _ | exact Nat.le_trans (Nat.le_of_ble_eq_true rfl) (by assumption)); exact rfl)
end Go.Proofs.YtihkbilhgbmbhaaDoor
end

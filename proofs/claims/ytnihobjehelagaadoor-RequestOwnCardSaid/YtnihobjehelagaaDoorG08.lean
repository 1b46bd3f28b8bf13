/- unicode/utf8.Valid: the rounds. -/
import Derived.Test.YtnihobjehelagaaDoorG07
import Derived.Test.YtnihobjehelagaaDoorG06
section
open Go.RowKit Go.Pl Go.Av
namespace Go.Proofs.YtnihobjehelagaaDoor
set_option linter.unusedVariables false
set_option linter.unusedSimpArgs false
set_option maxHeartbeats 4000000
set_option maxRecDepth 10000 in
theorem v_r4 [Known] [KnownU8] (b : List UInt8) (hb : b.length ≤ 140737488351232) (K : St → Prop) (k : Nat) (c : UInt8) (r : List UInt8) (hk : k = r.length + 1) (hv : validU (c :: r) = validU b) (hc : ¬ c.toNat < 128) (i lo hi : Nat) (e7 : bits .and .u8 (fT c.toNat : Int) 7 = ((4 : Nat) : Int)) (e4 : ((fT c.toNat : Nat) : Int).fdiv (2 ^ min (Int.toNat 4) IntKind.u8.bits) = (i : Int)) (hi16 : i < 16)
    (hvs : (((List.range 16).flatMap aT).drop (0 + ((i : Nat) : Int).toNat * 2)).take 2 = [.int .u8 (lo : Int), .int .u8 (hi : Int)]) (hp : ptN c.toNat = 4) (hlo : lo = ptLo c.toNat) (hhi : hi = ptHi c.toNat) : AW Tryd.prog (loopBody (Tryd.f122.body.getD .skip)) (vS (c :: r)) (vQ b (validU b) k K) := by
  conv => enter [3]; whnf
  subst hlo hhi
  have hU := uniB1 (c :: r)
  have hlen : decide ((((c :: r).map E.byte).length : Int) > 0) = true := by simp
  have dc : decide ((c.toNat : Int) < 128) = false := by simp; omega
  have hlt : ((c.toNat : Nat) : Int).toNat < 256 := by rw [Int.toNat_natCast]; exact c.toNat_lt
  have hlt2 : ((i : Nat) : Int).toNat < 16 := by rw [Int.toNat_natCast]; exact hi16
  have hfa := first_at c
  have hks := KnownU8.first
  have hka := KnownU8.accept
  have htf := tab_first
  have hta := tab_accept
  cases r with
  | nil =>
    have hl : decide (((([c] : List UInt8).map E.byte).length : Int) < 4) = true := rfl
    rw [← hv, v4s hp [] (by simp)]
    repeat' (first | rw [e7] | rw [e4] | (apply AL_gidx ttok; (iterate 6 exact rfl); exact Int.natCast_nonneg _; assumption) | (apply AL_gload1 ttok; (iterate 3 exact rfl); assumption; assumption; assumption; exact rfl; exact rfl) | (apply AL_gloadn ttok; (iterate 3 exact rfl); assumption; assumption; assumption; (iterate 3 exact rfl)) | (apply AL_move; exact rfl; exact rfl) | (apply AL_assign; exact rfl; exact rfl) | (apply AL_bin; (iterate 5 exact rfl)) | (apply AL_store ttok; (iterate 8 exact rfl)) | (apply AL_convT ttok; (iterate 5 exact rfl)) | refine AL_nil ?_ | (apply AL_guardFf; (iterate 3 exact rfl); (first | with_reducible assumption | decide +kernel)) | (apply AL_pickT; exact rfl; (first | with_reducible assumption | decide +kernel); exact rfl; exact rfl) | refine AW_region ?_ | refine AW_seq' ?_ | (apply AW_condA; exact rfl; (first | with_reducible assumption | decide +kernel)) | (apply AW_condB; exact rfl; (first | with_reducible assumption | decide +kernel)) | refine then_norm ?_ | refine AW_block ?_ | refine AW_ret ?_ | refine then_ret ?_ | refine blk_ret ?_ | (apply AL_len ttok; (iterate 4 exact rfl)) | (apply AL_eload1 ttok; (iterate 6 exact rfl)) | (apply AL_alloc ttok; (iterate 4 exact rfl)) | (apply AW_drawM 17 hmix; (decide +kernel); (kernel_rfl); (kernel_rfl); exact rfl; exact rfl) | (apply AD_cons; (iterate 3 exact rfl)) | refine AD.nil _ | exact qp_ok rfl | refine AW_skip ?_ | (apply AL_idx ttok; (iterate 6 exact rfl); (first | with_reducible assumption | decide +kernel | exact Int.natCast_nonneg _ | (guard_target = (0:Int) ≤ (OfNat.ofNat _ : Int); decide) | rotate_left); (first | with_reducible assumption | decide +kernel | exact rfl); (first | exact uniB_ok rfl | with_reducible assumption | decide +kernel | rotate_left)) | (apply AL_shr; exact rfl; exact rfl; (first | with_reducible assumption | decide +kernel | exact Int.natCast_nonneg _ | (exact (by decide)) | rotate_left); exact rfl))
    all_goals (apply endQ []; (repeat (first | exact ResL.nil | (apply ResL.cons; first | exact .tmp _ _ rfl | (apply res_n ttok; (iterate 6 exact rfl)) | (apply res_1 ttok; (iterate 5 exact rfl))))); (iterate 4 exact rfl))
    all_goals rfl
  | cons c1 r =>
    cases r with
    | nil =>
      have hl : decide (((([c, c1] : List UInt8).map E.byte).length : Int) < 4) = true := rfl
      rw [← hv, v4s hp [c1] (by simp)]
      repeat' (first | rw [e7] | rw [e4] | (apply AL_gidx ttok; (iterate 6 exact rfl); exact Int.natCast_nonneg _; assumption) | (apply AL_gload1 ttok; (iterate 3 exact rfl); assumption; assumption; assumption; exact rfl; exact rfl) | (apply AL_gloadn ttok; (iterate 3 exact rfl); assumption; assumption; assumption; (iterate 3 exact rfl)) | (apply AL_move; exact rfl; exact rfl) | (apply AL_assign; exact rfl; exact rfl) | (apply AL_bin; (iterate 5 exact rfl)) | (apply AL_store ttok; (iterate 8 exact rfl)) | (apply AL_convT ttok; (iterate 5 exact rfl)) | refine AL_nil ?_ | (apply AL_guardFf; (iterate 3 exact rfl); (first | with_reducible assumption | decide +kernel)) | (apply AL_pickT; exact rfl; (first | with_reducible assumption | decide +kernel); exact rfl; exact rfl) | refine AW_region ?_ | refine AW_seq' ?_ | (apply AW_condA; exact rfl; (first | with_reducible assumption | decide +kernel)) | (apply AW_condB; exact rfl; (first | with_reducible assumption | decide +kernel)) | refine then_norm ?_ | refine AW_block ?_ | refine AW_ret ?_ | refine then_ret ?_ | refine blk_ret ?_ | (apply AL_len ttok; (iterate 4 exact rfl)) | (apply AL_eload1 ttok; (iterate 6 exact rfl)) | (apply AL_alloc ttok; (iterate 4 exact rfl)) | (apply AW_drawM 17 hmix; (decide +kernel); (kernel_rfl); (kernel_rfl); exact rfl; exact rfl) | (apply AD_cons; (iterate 3 exact rfl)) | refine AD.nil _ | exact qp_ok rfl | refine AW_skip ?_ | (apply AL_idx ttok; (iterate 6 exact rfl); (first | with_reducible assumption | decide +kernel | exact Int.natCast_nonneg _ | (guard_target = (0:Int) ≤ (OfNat.ofNat _ : Int); decide) | rotate_left); (first | with_reducible assumption | decide +kernel | exact rfl); (first | exact uniB_ok rfl | with_reducible assumption | decide +kernel | rotate_left)) | (apply AL_shr; exact rfl; exact rfl; (first | with_reducible assumption | decide +kernel | exact Int.natCast_nonneg _ | (exact (by decide)) | rotate_left); exact rfl))
      all_goals (apply endQ []; (repeat (first | exact ResL.nil | (apply ResL.cons; first | exact .tmp _ _ rfl | (apply res_n ttok; (iterate 6 exact rfl)) | (apply res_1 ttok; (iterate 5 exact rfl))))); (iterate 4 exact rfl))
      all_goals rfl
    | cons c2 r =>
      cases r with
      | nil =>
        have hl : decide (((([c, c1, c2] : List UInt8).map E.byte).length : Int) < 4) = true := rfl
        rw [← hv, v4s hp [c1, c2] (by simp)]
        repeat' (first | rw [e7] | rw [e4] | (apply AL_gidx ttok; (iterate 6 exact rfl); exact Int.natCast_nonneg _; assumption) | (apply AL_gload1 ttok; (iterate 3 exact rfl); assumption; assumption; assumption; exact rfl; exact rfl) | (apply AL_gloadn ttok; (iterate 3 exact rfl); assumption; assumption; assumption; (iterate 3 exact rfl)) | (apply AL_move; exact rfl; exact rfl) | (apply AL_assign; exact rfl; exact rfl) | (apply AL_bin; (iterate 5 exact rfl)) | (apply AL_store ttok; (iterate 8 exact rfl)) | (apply AL_convT ttok; (iterate 5 exact rfl)) | refine AL_nil ?_ | (apply AL_guardFf; (iterate 3 exact rfl); (first | with_reducible assumption | decide +kernel)) | (apply AL_pickT; exact rfl; (first | with_reducible assumption | decide +kernel); exact rfl; exact rfl) | refine AW_region ?_ | refine AW_seq' ?_ | (apply AW_condA; exact rfl; (first | with_reducible assumption | decide +kernel)) | (apply AW_condB; exact rfl; (first | with_reducible assumption | decide +kernel)) | refine then_norm ?_ | refine AW_block ?_ | refine AW_ret ?_ | refine then_ret ?_ | refine blk_ret ?_ | (apply AL_len ttok; (iterate 4 exact rfl)) | (apply AL_eload1 ttok; (iterate 6 exact rfl)) | (apply AL_alloc ttok; (iterate 4 exact rfl)) | (apply AW_drawM 17 hmix; (decide +kernel); (kernel_rfl); (kernel_rfl); exact rfl; exact rfl) | (apply AD_cons; (iterate 3 exact rfl)) | refine AD.nil _ | exact qp_ok rfl | refine AW_skip ?_ | (apply AL_idx ttok; (iterate 6 exact rfl); (first | with_reducible assumption | decide +kernel | exact Int.natCast_nonneg _ | (guard_target = (0:Int) ≤ (OfNat.ofNat _ : Int); decide) | rotate_left); (first | with_reducible assumption | decide +kernel | exact rfl); (first | exact uniB_ok rfl | with_reducible assumption | decide +kernel | rotate_left)) | (apply AL_shr; exact rfl; exact rfl; (first | with_reducible assumption | decide +kernel | exact Int.natCast_nonneg _ | (exact (by decide)) | rotate_left); exact rfl))
        all_goals (apply endQ []; (repeat (first | exact ResL.nil | (apply ResL.cons; first | exact .tmp _ _ rfl | (apply res_n ttok; (iterate 6 exact rfl)) | (apply res_1 ttok; (iterate 5 exact rfl))))); (iterate 4 exact rfl))
        all_goals rfl
      | cons c3 r =>
        have hl : decide ((((c :: c1 :: c2 :: c3 :: r).map E.byte).length : Int) < 4) = false := by simp; omega
        have xd : (c :: c1 :: c2 :: c3 :: r).drop (Int.toNat 4) = r := rfl
        rw [v4 hp] at hv
        cases b1 : decide ((c1.toNat : Int) < (ptLo c.toNat : Int)) with
        | true =>
          have hf : validU b = false := by
            rw [← hv]
            have := of_decide_eq_true b1
            have q : inB c1.toNat (ptLo c.toNat) (ptHi c.toNat) = false := by simp [inB]; omega
            rw [q]; simp
          rw [hf]
          repeat' (first | rw [e7] | rw [e4] | (apply AL_gidx ttok; (iterate 6 exact rfl); exact Int.natCast_nonneg _; assumption) | (apply AL_gload1 ttok; (iterate 3 exact rfl); assumption; assumption; assumption; exact rfl; exact rfl) | (apply AL_gloadn ttok; (iterate 3 exact rfl); assumption; assumption; assumption; (iterate 3 exact rfl)) | (apply AL_move; exact rfl; exact rfl) | (apply AL_assign; exact rfl; exact rfl) | (apply AL_bin; (iterate 5 exact rfl)) | (apply AL_load1 ttok; (iterate 6 exact rfl)) | (apply AL_fieldAddr ttok; (iterate 7 exact rfl)) | (apply AL_store ttok; (iterate 8 exact rfl)) | (apply AL_convT ttok; (iterate 5 exact rfl)) | refine AL_nil ?_ | (apply AL_guardT; (iterate 3 exact rfl); (first | with_reducible assumption | decide +kernel)) | (apply AL_guardFf; (iterate 3 exact rfl); (first | with_reducible assumption | decide +kernel)) | (apply AL_pickT; exact rfl; (first | with_reducible assumption | decide +kernel); exact rfl; exact rfl) | (apply AL_pickF; exact rfl; (first | with_reducible assumption | decide +kernel); exact rfl; exact rfl) | refine AW_region ?_ | refine AW_seq' ?_ | (apply AW_condA; exact rfl; (first | with_reducible assumption | decide +kernel)) | (apply AW_condB; exact rfl; (first | with_reducible assumption | decide +kernel)) | refine then_norm ?_ | refine AW_block ?_ | refine AW_ret ?_ | refine then_ret ?_ | refine blk_ret ?_ | (apply AL_len ttok; (iterate 4 exact rfl)) | (apply AL_eload1 ttok; (iterate 6 exact rfl)) | (apply AL_alloc ttok; (iterate 4 exact rfl)) | (apply AW_drawM 17 hmix; (decide +kernel); (kernel_rfl); (kernel_rfl); exact rfl; exact rfl) | (apply AD_cons; (iterate 3 exact rfl)) | refine AD.nil _ | exact qp_ok rfl | refine AW_skip ?_ | (apply AL_idx ttok; (iterate 6 exact rfl); (first | with_reducible assumption | decide +kernel | exact Int.natCast_nonneg _ | (guard_target = (0:Int) ≤ (OfNat.ofNat _ : Int); decide) | rotate_left); (first | with_reducible assumption | decide +kernel | exact rfl); (first | exact uniB_ok rfl | with_reducible assumption | decide +kernel | rotate_left)) | (apply AL_shr; exact rfl; exact rfl; (first | with_reducible assumption | decide +kernel | exact Int.natCast_nonneg _ | (exact (by decide)) | rotate_left); exact rfl))
          all_goals (apply endQ []; (repeat (first | exact ResL.nil | (apply ResL.cons; first | exact .tmp _ _ rfl | (apply res_n ttok; (iterate 6 exact rfl)) | (apply res_1 ttok; (iterate 5 exact rfl))))); (iterate 4 exact rfl))
          all_goals rfl
        | false =>
          cases b2 : decide ((ptHi c.toNat : Int) < (c1.toNat : Int)) with
          | true =>
            have hf : validU b = false := by
              rw [← hv]
              have := of_decide_eq_true b2
              have q : inB c1.toNat (ptLo c.toNat) (ptHi c.toNat) = false := by simp [inB]; omega
              rw [q]; simp
            rw [hf]
            repeat' (first | rw [e7] | rw [e4] | (apply AL_gidx ttok; (iterate 6 exact rfl); exact Int.natCast_nonneg _; assumption) | (apply AL_gload1 ttok; (iterate 3 exact rfl); assumption; assumption; assumption; exact rfl; exact rfl) | (apply AL_gloadn ttok; (iterate 3 exact rfl); assumption; assumption; assumption; (iterate 3 exact rfl)) | (apply AL_move; exact rfl; exact rfl) | (apply AL_assign; exact rfl; exact rfl) | (apply AL_bin; (iterate 5 exact rfl)) | (apply AL_load1 ttok; (iterate 6 exact rfl)) | (apply AL_fieldAddr ttok; (iterate 7 exact rfl)) | (apply AL_store ttok; (iterate 8 exact rfl)) | (apply AL_convT ttok; (iterate 5 exact rfl)) | refine AL_nil ?_ | (apply AL_guardT; (iterate 3 exact rfl); (first | with_reducible assumption | decide +kernel)) | (apply AL_guardFf; (iterate 3 exact rfl); (first | with_reducible assumption | decide +kernel)) | (apply AL_pickT; exact rfl; (first | with_reducible assumption | decide +kernel); exact rfl; exact rfl) | (apply AL_pickF; exact rfl; (first | with_reducible assumption | decide +kernel); exact rfl; exact rfl) | refine AW_region ?_ | refine AW_seq' ?_ | (apply AW_condA; exact rfl; (first | with_reducible assumption | decide +kernel)) | (apply AW_condB; exact rfl; (first | with_reducible assumption | decide +kernel)) | refine then_norm ?_ | refine AW_block ?_ | refine AW_ret ?_ | refine then_ret ?_ | refine blk_ret ?_ | (apply AL_len ttok; (iterate 4 exact rfl)) | (apply AL_eload1 ttok; (iterate 6 exact rfl)) | (apply AL_alloc ttok; (iterate 4 exact rfl)) | (apply AW_drawM 17 hmix; (decide +kernel); (kernel_rfl); (kernel_rfl); exact rfl; exact rfl) | (apply AD_cons; (iterate 3 exact rfl)) | refine AD.nil _ | exact qp_ok rfl | refine AW_skip ?_ | (apply AL_idx ttok; (iterate 6 exact rfl); (first | with_reducible assumption | decide +kernel | exact Int.natCast_nonneg _ | (guard_target = (0:Int) ≤ (OfNat.ofNat _ : Int); decide) | rotate_left); (first | with_reducible assumption | decide +kernel | exact rfl); (first | exact uniB_ok rfl | with_reducible assumption | decide +kernel | rotate_left)) | (apply AL_shr; exact rfl; exact rfl; (first | with_reducible assumption | decide +kernel | exact Int.natCast_nonneg _ | (exact (by decide)) | rotate_left); exact rfl))
            all_goals (apply endQ []; (repeat (first | exact ResL.nil | (apply ResL.cons; first | exact .tmp _ _ rfl | (apply res_n ttok; (iterate 6 exact rfl)) | (apply res_1 ttok; (iterate 5 exact rfl))))); (iterate 4 exact rfl))
            all_goals rfl
          | false =>
            cases b3 : decide ((c2.toNat : Int) < 128) with
            | true =>
              have hf : validU b = false := by
                rw [← hv]
                have := of_decide_eq_true b3
                have q : inB c2.toNat 128 191 = false := by simp [inB]; omega
                rw [q]; simp
              rw [hf]
              repeat' (first | rw [e7] | rw [e4] | (apply AL_gidx ttok; (iterate 6 exact rfl); exact Int.natCast_nonneg _; assumption) | (apply AL_gload1 ttok; (iterate 3 exact rfl); assumption; assumption; assumption; exact rfl; exact rfl) | (apply AL_gloadn ttok; (iterate 3 exact rfl); assumption; assumption; assumption; (iterate 3 exact rfl)) | (apply AL_move; exact rfl; exact rfl) | (apply AL_assign; exact rfl; exact rfl) | (apply AL_bin; (iterate 5 exact rfl)) | (apply AL_load1 ttok; (iterate 6 exact rfl)) | (apply AL_fieldAddr ttok; (iterate 7 exact rfl)) | (apply AL_store ttok; (iterate 8 exact rfl)) | (apply AL_convT ttok; (iterate 5 exact rfl)) | refine AL_nil ?_ | (apply AL_guardT; (iterate 3 exact rfl); (first | with_reducible assumption | decide +kernel)) | (apply AL_guardFf; (iterate 3 exact rfl); (first | with_reducible assumption | decide +kernel)) | (apply AL_pickT; exact rfl; (first | with_reducible assumption | decide +kernel); exact rfl; exact rfl) | (apply AL_pickF; exact rfl; (first | with_reducible assumption | decide +kernel); exact rfl; exact rfl) | refine AW_region ?_ | refine AW_seq' ?_ | (apply AW_condA; exact rfl; (first | with_reducible assumption | decide +kernel)) | (apply AW_condB; exact rfl; (first | with_reducible assumption | decide +kernel)) | refine then_norm ?_ | refine AW_block ?_ | refine AW_ret ?_ | refine then_ret ?_ | refine blk_ret ?_ | (apply AL_len ttok; (iterate 4 exact rfl)) | (apply AL_eload1 ttok; (iterate 6 exact rfl)) | (apply AL_alloc ttok; (iterate 4 exact rfl)) | (apply AW_drawM 17 hmix; (decide +kernel); (kernel_rfl); (kernel_rfl); exact rfl; exact rfl) | (apply AD_cons; (iterate 3 exact rfl)) | refine AD.nil _ | exact qp_ok rfl | refine AW_skip ?_ | (apply AL_idx ttok; (iterate 6 exact rfl); (first | with_reducible assumption | decide +kernel | exact Int.natCast_nonneg _ | (guard_target = (0:Int) ≤ (OfNat.ofNat _ : Int); decide) | rotate_left); (first | with_reducible assumption | decide +kernel | exact rfl); (first | exact uniB_ok rfl | with_reducible assumption | decide +kernel | rotate_left)) | (apply AL_shr; exact rfl; exact rfl; (first | with_reducible assumption | decide +kernel | exact Int.natCast_nonneg _ | (exact (by decide)) | rotate_left); exact rfl))
              all_goals (apply endQ []; (repeat (first | exact ResL.nil | (apply ResL.cons; first | exact .tmp _ _ rfl | (apply res_n ttok; (iterate 6 exact rfl)) | (apply res_1 ttok; (iterate 5 exact rfl))))); (iterate 4 exact rfl))
              all_goals rfl
            | false =>
              cases b4 : decide ((191 : Int) < (c2.toNat : Int)) with
              | true =>
                have hf : validU b = false := by
                  rw [← hv]
                  have := of_decide_eq_true b4
                  have q : inB c2.toNat 128 191 = false := by simp [inB]; omega
                  rw [q]; simp
                rw [hf]
                repeat' (first | rw [e7] | rw [e4] | (apply AL_gidx ttok; (iterate 6 exact rfl); exact Int.natCast_nonneg _; assumption) | (apply AL_gload1 ttok; (iterate 3 exact rfl); assumption; assumption; assumption; exact rfl; exact rfl) | (apply AL_gloadn ttok; (iterate 3 exact rfl); assumption; assumption; assumption; (iterate 3 exact rfl)) | (apply AL_move; exact rfl; exact rfl) | (apply AL_assign; exact rfl; exact rfl) | (apply AL_bin; (iterate 5 exact rfl)) | (apply AL_load1 ttok; (iterate 6 exact rfl)) | (apply AL_fieldAddr ttok; (iterate 7 exact rfl)) | (apply AL_store ttok; (iterate 8 exact rfl)) | (apply AL_convT ttok; (iterate 5 exact rfl)) | refine AL_nil ?_ | (apply AL_guardT; (iterate 3 exact rfl); (first | with_reducible assumption | decide +kernel)) | (apply AL_guardFf; (iterate 3 exact rfl); (first | with_reducible assumption | decide +kernel)) | (apply AL_pickT; exact rfl; (first | with_reducible assumption | decide +kernel); exact rfl; exact rfl) | (apply AL_pickF; exact rfl; (first | with_reducible assumption | decide +kernel); exact rfl; exact rfl) | refine AW_region ?_ | refine AW_seq' ?_ | (apply AW_condA; exact rfl; (first | with_reducible assumption | decide +kernel)) | (apply AW_condB; exact rfl; (first | with_reducible assumption | decide +kernel)) | refine then_norm ?_ | refine AW_block ?_ | refine AW_ret ?_ | refine then_ret ?_ | refine blk_ret ?_ | (apply AL_len ttok; (iterate 4 exact rfl)) | (apply AL_eload1 ttok; (iterate 6 exact rfl)) | (apply AL_alloc ttok; (iterate 4 exact rfl)) | (apply AW_drawM 17 hmix; (decide +kernel); (kernel_rfl); (kernel_rfl); exact rfl; exact rfl) | (apply AD_cons; (iterate 3 exact rfl)) | refine AD.nil _ | exact qp_ok rfl | refine AW_skip ?_ | (apply AL_idx ttok; (iterate 6 exact rfl); (first | with_reducible assumption | decide +kernel | exact Int.natCast_nonneg _ | (guard_target = (0:Int) ≤ (OfNat.ofNat _ : Int); decide) | rotate_left); (first | with_reducible assumption | decide +kernel | exact rfl); (first | exact uniB_ok rfl | with_reducible assumption | decide +kernel | rotate_left)) | (apply AL_shr; exact rfl; exact rfl; (first | with_reducible assumption | decide +kernel | exact Int.natCast_nonneg _ | (exact (by decide)) | rotate_left); exact rfl))
                all_goals (apply endQ []; (repeat (first | exact ResL.nil | (apply ResL.cons; first | exact .tmp _ _ rfl | (apply res_n ttok; (iterate 6 exact rfl)) | (apply res_1 ttok; (iterate 5 exact rfl))))); (iterate 4 exact rfl))
                all_goals rfl
              | false =>
                cases b5 : decide ((c3.toNat : Int) < 128) with
                | true =>
                  have hf : validU b = false := by
                    rw [← hv]
                    have := of_decide_eq_true b5
                    have q : inB c3.toNat 128 191 = false := by simp [inB]; omega
                    rw [q]; simp
                  rw [hf]
                  repeat' (first | rw [e7] | rw [e4] | (apply AL_gidx ttok; (iterate 6 exact rfl); exact Int.natCast_nonneg _; assumption) | (apply AL_gload1 ttok; (iterate 3 exact rfl); assumption; assumption; assumption; exact rfl; exact rfl) | (apply AL_gloadn ttok; (iterate 3 exact rfl); assumption; assumption; assumption; (iterate 3 exact rfl)) | (apply AL_move; exact rfl; exact rfl) | (apply AL_assign; exact rfl; exact rfl) | (apply AL_bin; (iterate 5 exact rfl)) | (apply AL_load1 ttok; (iterate 6 exact rfl)) | (apply AL_fieldAddr ttok; (iterate 7 exact rfl)) | (apply AL_store ttok; (iterate 8 exact rfl)) | (apply AL_convT ttok; (iterate 5 exact rfl)) | refine AL_nil ?_ | (apply AL_guardT; (iterate 3 exact rfl); (first | with_reducible assumption | decide +kernel)) | (apply AL_guardFf; (iterate 3 exact rfl); (first | with_reducible assumption | decide +kernel)) | (apply AL_pickT; exact rfl; (first | with_reducible assumption | decide +kernel); exact rfl; exact rfl) | (apply AL_pickF; exact rfl; (first | with_reducible assumption | decide +kernel); exact rfl; exact rfl) | refine AW_region ?_ | refine AW_seq' ?_ | (apply AW_condA; exact rfl; (first | with_reducible assumption | decide +kernel)) | (apply AW_condB; exact rfl; (first | with_reducible assumption | decide +kernel)) | refine then_norm ?_ | refine AW_block ?_ | refine AW_ret ?_ | refine then_ret ?_ | refine blk_ret ?_ | (apply AL_len ttok; (iterate 4 exact rfl)) | (apply AL_eload1 ttok; (iterate 6 exact rfl)) | (apply AL_alloc ttok; (iterate 4 exact rfl)) | (apply AW_drawM 17 hmix; (decide +kernel); (kernel_rfl); (kernel_rfl); exact rfl; exact rfl) | (apply AD_cons; (iterate 3 exact rfl)) | refine AD.nil _ | exact qp_ok rfl | refine AW_skip ?_ | (apply AL_idx ttok; (iterate 6 exact rfl); (first | with_reducible assumption | decide +kernel | exact Int.natCast_nonneg _ | (guard_target = (0:Int) ≤ (OfNat.ofNat _ : Int); decide) | rotate_left); (first | with_reducible assumption | decide +kernel | exact rfl); (first | exact uniB_ok rfl | with_reducible assumption | decide +kernel | rotate_left)) | (apply AL_shr; exact rfl; exact rfl; (first | with_reducible assumption | decide +kernel | exact Int.natCast_nonneg _ | (exact (by decide)) | rotate_left); exact rfl))
                  all_goals (apply endQ []; (repeat (first | exact ResL.nil | (apply ResL.cons; first | exact .tmp _ _ rfl | (apply res_n ttok; (iterate 6 exact rfl)) | (apply res_1 ttok; (iterate 5 exact rfl))))); (iterate 4 exact rfl))
                  all_goals rfl
                | false =>
                  cases b6 : decide ((191 : Int) < (c3.toNat : Int)) with
                  | true =>
                    have hf : validU b = false := by
                      rw [← hv]
                      have := of_decide_eq_true b6
                      have q : inB c3.toNat 128 191 = false := by simp [inB]; omega
                      rw [q]; simp
                    rw [hf]
                    repeat' (first | rw [e7] | rw [e4] | (apply AL_gidx ttok; (iterate 6 exact rfl); exact Int.natCast_nonneg _; assumption) | (apply AL_gload1 ttok; (iterate 3 exact rfl); assumption; assumption; assumption; exact rfl; exact rfl) | (apply AL_gloadn ttok; (iterate 3 exact rfl); assumption; assumption; assumption; (iterate 3 exact rfl)) | (apply AL_move; exact rfl; exact rfl) | (apply AL_assign; exact rfl; exact rfl) | (apply AL_bin; (iterate 5 exact rfl)) | (apply AL_load1 ttok; (iterate 6 exact rfl)) | (apply AL_fieldAddr ttok; (iterate 7 exact rfl)) | (apply AL_store ttok; (iterate 8 exact rfl)) | (apply AL_convT ttok; (iterate 5 exact rfl)) | refine AL_nil ?_ | (apply AL_guardT; (iterate 3 exact rfl); (first | with_reducible assumption | decide +kernel)) | (apply AL_pickF; exact rfl; (first | with_reducible assumption | decide +kernel); exact rfl; exact rfl) | refine AW_region ?_ | refine AW_seq' ?_ | (apply AW_condA; exact rfl; (first | with_reducible assumption | decide +kernel)) | (apply AW_condB; exact rfl; (first | with_reducible assumption | decide +kernel)) | refine then_norm ?_ | refine AW_block ?_ | refine AW_ret ?_ | refine then_ret ?_ | refine blk_ret ?_ | (apply AL_len ttok; (iterate 4 exact rfl)) | (apply AL_eload1 ttok; (iterate 6 exact rfl)) | (apply AL_alloc ttok; (iterate 4 exact rfl)) | (apply AW_drawM 17 hmix; (decide +kernel); (kernel_rfl); (kernel_rfl); exact rfl; exact rfl) | (apply AD_cons; (iterate 3 exact rfl)) | refine AD.nil _ | exact qp_ok rfl | refine AW_skip ?_ | (apply AL_idx ttok; (iterate 6 exact rfl); (first | with_reducible assumption | decide +kernel | exact Int.natCast_nonneg _ | (guard_target = (0:Int) ≤ (OfNat.ofNat _ : Int); decide) | rotate_left); (first | with_reducible assumption | decide +kernel | exact rfl); (first | exact uniB_ok rfl | with_reducible assumption | decide +kernel | rotate_left)) | (apply AL_shr; exact rfl; exact rfl; (first | with_reducible assumption | decide +kernel | exact Int.natCast_nonneg _ | (exact (by decide)) | rotate_left); exact rfl))
                    all_goals (apply endQ []; (repeat (first | exact ResL.nil | (apply ResL.cons; first | exact .tmp _ _ rfl | (apply res_n ttok; (iterate 6 exact rfl)) | (apply res_1 ttok; (iterate 5 exact rfl))))); (iterate 4 exact rfl))
                    all_goals rfl
                  | false =>
                    have hv2 : validU r = validU b := by
                      rw [← hv]
                      have := of_decide_eq_false b1
                      have := of_decide_eq_false b2
                      have := of_decide_eq_false b3
                      have := of_decide_eq_false b4
                      have := of_decide_eq_false b5
                      have := of_decide_eq_false b6
                      have q1 : inB c1.toNat (ptLo c.toNat) (ptHi c.toNat) = true := by simp [inB]; omega
                      have q2 : inB c2.toNat 128 191 = true := by simp [inB]; omega
                      have q3 : inB c3.toNat 128 191 = true := by simp [inB]; omega
                      rw [q1, q2, q3]; rfl
                    repeat' (first | rw [e7] | rw [e4] | (apply AL_gidx ttok; (iterate 6 exact rfl); exact Int.natCast_nonneg _; assumption) | (apply AL_gload1 ttok; (iterate 3 exact rfl); assumption; assumption; assumption; exact rfl; exact rfl) | (apply AL_gloadn ttok; (iterate 3 exact rfl); assumption; assumption; assumption; (iterate 3 exact rfl)) | (apply AL_from ttok; (iterate 8 exact rfl); (first | with_reducible assumption | exact Int.natCast_nonneg _ | exact (by decide)); (first | with_reducible assumption | decide | (simp only [List.length_cons, List.length_drop, List.length_take, List.length_append, Int.toNat_natCast] at *; omega)); (first | with_reducible assumption | exact rfl)) | (apply AL_move; exact rfl; exact rfl) | (apply AL_assign; exact rfl; exact rfl) | (apply AL_bin; (iterate 5 exact rfl)) | (apply AL_load1 ttok; (iterate 6 exact rfl)) | (apply AL_fieldAddr ttok; (iterate 7 exact rfl)) | (apply AL_store ttok; (iterate 8 exact rfl)) | (apply AL_convT ttok; (iterate 5 exact rfl)) | refine AL_nil ?_ | (apply AL_guardT; (iterate 3 exact rfl); (first | with_reducible assumption | decide +kernel)) | (apply AL_pickF; exact rfl; (first | with_reducible assumption | decide +kernel); exact rfl; exact rfl) | refine AW_region ?_ | refine AW_seq' ?_ | (apply AW_condA; exact rfl; (first | with_reducible assumption | decide +kernel)) | (apply AW_condB; exact rfl; (first | with_reducible assumption | decide +kernel)) | refine then_norm ?_ | refine blk_norm ?_ | refine AW_block ?_ | (apply AL_len ttok; (iterate 4 exact rfl)) | (apply AL_eload1 ttok; (iterate 6 exact rfl)) | (apply AL_alloc ttok; (iterate 4 exact rfl)) | (apply AW_drawM 17 hmix; (decide +kernel); (kernel_rfl); (kernel_rfl); exact rfl; exact rfl) | (apply AD_cons; (iterate 3 exact rfl)) | refine AD.nil _ | exact qp_ok rfl | refine AW_skip ?_ | (apply AL_idx ttok; (iterate 6 exact rfl); (first | with_reducible assumption | decide +kernel | exact Int.natCast_nonneg _ | (guard_target = (0:Int) ≤ (OfNat.ofNat _ : Int); decide) | rotate_left); (first | with_reducible assumption | decide +kernel | exact rfl); (first | exact uniB_ok rfl | with_reducible assumption | decide +kernel | rotate_left)) | (apply AL_shr; exact rfl; exact rfl; (first | with_reducible assumption | decide +kernel | exact Int.natCast_nonneg _ | (exact (by decide)) | rotate_left); exact rfl))
                    refine Lands.mk' (m := r.length) (by simp only [List.length_cons] at hk; omega) ⟨r, rfl, hv2, rfl, rfl, rfl⟩ ?_ rfl rfl rfl rfl rfl rfl
                    exact .cons rfl (.cons rfl .nil)
theorem av_valid [Known] [KnownU8] (b : List UInt8) (hb : b.length ≤ 140737488351232) : AP Tryd.prog 122 [byE b] (.bool (validU b)) [] := by
  refine AP.ofA ?_
  refine AC_of Tryd.func122 rfl Tryd.ntmps122 rfl rfl ?_
  repeat' (first | (apply AL_same3 ttok; (iterate 9 exact rfl); (simp); (simp)) | (apply AL_move; exact rfl; exact rfl) | (apply AL_assign; exact rfl; exact rfl) | refine AL_nil ?_ | refine AW_region ?_ | refine AW_seq' ?_ | refine AW_block ?_ | (apply AL_len ttok; (iterate 4 exact rfl)))
  refine AW_loopJ (vJ b) (b.length + 1) (Lands.mk' (m := b.length) (Nat.lt_succ_self _) ⟨b, rfl, rfl, rfl, rfl, rfl⟩ ?_ rfl rfl rfl rfl rfl rfl) ?_
  · exact .cons rfl (.cons rfl .nil)
  rintro k tm bx fr ⟨l, hk, hv, rfl, rfl, rfl⟩
  cases l with
  | nil =>
    rw [← hv]
    repeat' (first | (apply AL_move; exact rfl; exact rfl) | (apply AL_assign; exact rfl; exact rfl) | (apply AL_bin; (iterate 5 exact rfl)) | refine AL_nil ?_ | refine AW_region ?_ | refine AW_seq' ?_ | (apply AW_condB; exact rfl; (first | with_reducible assumption | decide +kernel)) | refine then_norm ?_ | refine AW_exit ?_ | refine AW_ret ?_ | (apply AL_len ttok; (iterate 4 exact rfl)))
    all_goals (apply endQ []; (repeat (first | exact ResL.nil | (apply ResL.cons; first | exact .tmp _ _ rfl | (apply res_n ttok; (iterate 6 exact rfl)) | (apply res_1 ttok; (iterate 5 exact rfl))))); (iterate 4 exact rfl))
    all_goals rfl
  | cons c r =>
    have key : ∀ K : St → Prop, AW Tryd.prog (loopBody (Tryd.f122.body.getD .skip)) (vS (c :: r)) (vQ b (validU b) k K) := fun K => by
      simp only [List.length_cons] at hk
      by_cases hc : c.toNat < 128
      · exact v_asc b hb K k c r hk hv hc
      · obtain ⟨sz, i, lo, hi, e7, e4, hi16, hvs, hcls⟩ := cls c (by omega)
        rcases hcls with ⟨rfl, hp⟩ | ⟨rfl | rfl | rfl, hp, hlo, hhi⟩
        · exact v_r1 b hb K k c r hk hv hc i lo hi e7 e4 hi16 hvs hp
        · exact v_r2 b hb K k c r hk hv hc i lo hi e7 e4 hi16 hvs hp hlo hhi
        · exact v_r3 b hb K k c r hk hv hc i lo hi e7 e4 hi16 hvs hp hlo hhi
        · exact v_r4 b hb K k c r hk hv hc i lo hi e7 e4 hi16 hvs hp hlo hhi
    exact key _
end Go.Proofs.YtnihobjehelagaaDoor
end
/- Items: which may be. -/
section
open Go.RowKit Go.Pl Go.Av
namespace Go.Proofs.YtnihobjehelagaaDoor
set_option linter.unusedVariables false
set_option linter.unusedSimpArgs false
set_option maxHeartbeats 4000000
theorem len0 {α : Type} {f : α → E} (b : List α) : (((b.map f).length : Int) == 0) = b.isEmpty := by cases b <;> simp <;> omega
theorem len0I (l : List It) : (((itEs l).length : Int) == 0) = l.isEmpty := by rw [itEs_len]; cases l <;> simp <;> omega
theorem n0 (n : Nat) : ((n : Int) == 0) = decide (n = 0) := by rw [Bool.eq_iff_iff]; simp
theorem av_own [Known] [KnownU8] (k : Int) (n : Nat) (b : List UInt8) (l : List It) (hb : b.length ≤ 140737488351232) : AP Tryd.prog 101 [.agg (itC k n b l)] (.bool (ownI k n b l)) [] := by
  have e1 := len0 (f := E.byte) b
  have e2 := len0I l
  have e3 := n0 n
  have hv := av_valid b hb
  by_cases k0 : k = 0
  · subst k0
    cases hbe : b.isEmpty <;> cases hle : l.isEmpty
    all_goals
      rw [hbe] at e1
      rw [hle] at e2
      have e : ownI 0 n b l = (b.isEmpty && l.isEmpty) := rfl
      rw [e, hbe, hle]
      refine AP.ofA ?_
      refine AC_of Tryd.func101 rfl Tryd.ntmps101 rfl rfl ?_
      repeat' (first | rw [e1] | rw [e2] | (apply AL_move; exact rfl; exact rfl) | (apply AL_assign; exact rfl; exact rfl) | (apply AL_bin; (iterate 5 exact rfl)) | (apply AL_load1 ttok; (iterate 6 exact rfl)) | (apply AL_fieldAddr ttok; (iterate 7 exact rfl)) | (apply AL_box; (iterate 5 exact rfl)) | refine AL_nil ?_ | (apply AL_guardT; (iterate 3 exact rfl); (first | with_reducible assumption | decide +kernel)) | (apply AL_guardFt; (iterate 3 exact rfl); (first | with_reducible assumption | decide +kernel)) | (apply AL_pickT; exact rfl; (first | with_reducible assumption | decide +kernel); exact rfl; exact rfl) | (apply AL_pickF; exact rfl; (first | with_reducible assumption | decide +kernel); exact rfl; exact rfl) | refine AW_region ?_ | refine AW_seq' ?_ | (apply AW_condA; exact rfl; (first | with_reducible assumption | decide +kernel)) | refine then_norm ?_ | refine AW_block ?_ | refine AW_ret ?_ | refine then_ret ?_ | refine blk_ret ?_ | (apply AL_len ttok; (iterate 4 exact rfl)))
      all_goals (apply endQ []; (repeat (first | exact ResL.nil | (apply ResL.cons; first | exact .tmp _ _ rfl | (apply res_n ttok; (iterate 6 exact rfl)) | (apply res_1 ttok; (iterate 5 exact rfl))))); (iterate 4 exact rfl))
      all_goals rfl
  by_cases k2 : k = 2
  · subst k2
    cases hbe : decide (n = 0) <;> cases hle : l.isEmpty
    all_goals
      rw [hbe] at e3
      rw [hle] at e2
      have e : ownI 2 n b l = (decide (n = 0) && l.isEmpty) := rfl
      rw [e, hbe, hle]
      refine AP.ofA ?_
      refine AC_of Tryd.func101 rfl Tryd.ntmps101 rfl rfl ?_
      repeat' (first | rw [e2] | rw [e3] | (apply AL_move; exact rfl; exact rfl) | (apply AL_assign; exact rfl; exact rfl) | (apply AL_bin; (iterate 5 exact rfl)) | (apply AL_load1 ttok; (iterate 6 exact rfl)) | (apply AL_fieldAddr ttok; (iterate 7 exact rfl)) | (apply AL_box; (iterate 5 exact rfl)) | refine AL_nil ?_ | (apply AL_guardT; (iterate 3 exact rfl); (first | with_reducible assumption | decide +kernel)) | (apply AL_guardFt; (iterate 3 exact rfl); (first | with_reducible assumption | decide +kernel)) | (apply AL_pickT; exact rfl; (first | with_reducible assumption | decide +kernel); exact rfl; exact rfl) | (apply AL_pickF; exact rfl; (first | with_reducible assumption | decide +kernel); exact rfl; exact rfl) | refine AW_region ?_ | refine AW_seq' ?_ | (apply AW_condA; exact rfl; (first | with_reducible assumption | decide +kernel)) | (apply AW_condB; exact rfl; (first | with_reducible assumption | decide +kernel)) | refine then_norm ?_ | refine AW_block ?_ | refine AW_ret ?_ | refine then_ret ?_ | refine blk_ret ?_ | (apply AL_len ttok; (iterate 4 exact rfl)))
      all_goals (apply endQ []; (repeat (first | exact ResL.nil | (apply ResL.cons; first | exact .tmp _ _ rfl | (apply res_n ttok; (iterate 6 exact rfl)) | (apply res_1 ttok; (iterate 5 exact rfl))))); (iterate 4 exact rfl))
      all_goals rfl
  by_cases k3 : k = 3
  · subst k3
    cases hbe : decide (n = 0) <;> cases hle : l.isEmpty
    all_goals
      rw [hbe] at e3
      rw [hle] at e2
      have e : ownI 3 n b l = (decide (n = 0) && (l.isEmpty && validU b)) := rfl
      rw [e, hbe, hle]
      refine AP.ofA ?_
      refine AC_of Tryd.func101 rfl Tryd.ntmps101 rfl rfl ?_
      repeat' (first | rw [e2] | rw [e3] | (apply AL_callPw (hv); kernel_rfl; (iterate 4 exact rfl)) | (apply AL_move; exact rfl; exact rfl) | (apply AL_assign; exact rfl; exact rfl) | (apply AL_bin; (iterate 5 exact rfl)) | (apply AL_load1 ttok; (iterate 6 exact rfl)) | (apply AL_fieldAddr ttok; (iterate 7 exact rfl)) | (apply AL_box; (iterate 5 exact rfl)) | refine AL_nil ?_ | (apply AL_guardT; (iterate 3 exact rfl); (first | with_reducible assumption | decide +kernel)) | (apply AL_guardFt; (iterate 3 exact rfl); (first | with_reducible assumption | decide +kernel)) | (apply AL_pickT; exact rfl; (first | with_reducible assumption | decide +kernel); exact rfl; exact rfl) | (apply AL_pickF; exact rfl; (first | with_reducible assumption | decide +kernel); exact rfl; exact rfl) | refine AW_region ?_ | refine AW_seq' ?_ | (apply AW_condA; exact rfl; (first | with_reducible assumption | decide +kernel)) | (apply AW_condB; exact rfl; (first | with_reducible assumption | decide +kernel)) | refine then_norm ?_ | refine AW_block ?_ | refine AW_ret ?_ | refine then_ret ?_ | refine blk_ret ?_ | (apply AL_len ttok; (iterate 4 exact rfl)))
      all_goals (apply endQ []; (repeat (first | exact ResL.nil | (apply ResL.cons; first | exact .tmp _ _ rfl | (apply res_n ttok; (iterate 6 exact rfl)) | (apply res_1 ttok; (iterate 5 exact rfl))))); (iterate 4 exact rfl))
      all_goals rfl
  by_cases k4 : k = 4
  · subst k4
    cases hbe : decide (n = 0) <;> cases hle : b.isEmpty
    all_goals
      rw [hbe] at e3
      rw [hle] at e1
      have e : ownI 4 n b l = (decide (n = 0) && b.isEmpty) := rfl
      rw [e, hbe, hle]
      refine AP.ofA ?_
      refine AC_of Tryd.func101 rfl Tryd.ntmps101 rfl rfl ?_
      repeat' (first | rw [e1] | rw [e3] | (apply AL_move; exact rfl; exact rfl) | (apply AL_assign; exact rfl; exact rfl) | (apply AL_bin; (iterate 5 exact rfl)) | (apply AL_load1 ttok; (iterate 6 exact rfl)) | (apply AL_fieldAddr ttok; (iterate 7 exact rfl)) | (apply AL_box; (iterate 5 exact rfl)) | refine AL_nil ?_ | (apply AL_guardT; (iterate 3 exact rfl); (first | with_reducible assumption | decide +kernel)) | (apply AL_guardFt; (iterate 3 exact rfl); (first | with_reducible assumption | decide +kernel)) | (apply AL_pickT; exact rfl; (first | with_reducible assumption | decide +kernel); exact rfl; exact rfl) | (apply AL_pickF; exact rfl; (first | with_reducible assumption | decide +kernel); exact rfl; exact rfl) | refine AW_region ?_ | refine AW_seq' ?_ | (apply AW_condA; exact rfl; (first | with_reducible assumption | decide +kernel)) | (apply AW_condB; exact rfl; (first | with_reducible assumption | decide +kernel)) | refine then_norm ?_ | refine AW_block ?_ | refine AW_ret ?_ | refine then_ret ?_ | refine blk_ret ?_ | (apply AL_len ttok; (iterate 4 exact rfl)))
      all_goals (apply endQ []; (repeat (first | exact ResL.nil | (apply ResL.cons; first | exact .tmp _ _ rfl | (apply res_n ttok; (iterate 6 exact rfl)) | (apply res_1 ttok; (iterate 5 exact rfl))))); (iterate 4 exact rfl))
      all_goals rfl
  · have t0 : (k == 0) = false := by simpa using k0
    have t2 : (k == 2) = false := by simpa using k2
    have t3 : (k == 3) = false := by simpa using k3
    have t4 : (k == 4) = false := by simpa using k4
    have e : ownI k n b l = false := by simp [ownI, k0, k2, k3, k4]
    rw [e]
    refine AP.ofA ?_
    refine AC_of Tryd.func101 rfl Tryd.ntmps101 rfl rfl ?_
    repeat' (first | (apply AL_assign; exact rfl; exact rfl) | (apply AL_bin; (iterate 5 exact rfl)) | (apply AL_load1 ttok; (iterate 6 exact rfl)) | (apply AL_fieldAddr ttok; (iterate 7 exact rfl)) | (apply AL_box; (iterate 5 exact rfl)) | refine AL_nil ?_ | refine AW_region ?_ | refine AW_seq' ?_ | (apply AW_condB; exact rfl; (first | with_reducible assumption | decide +kernel)) | refine then_norm ?_ | refine AW_block ?_ | refine AW_ret ?_ | refine AW_skip ?_)
    all_goals (apply endQ []; (repeat (first | exact ResL.nil | (apply ResL.cons; first | exact .tmp _ _ rfl | (apply res_n ttok; (iterate 6 exact rfl)) | (apply res_1 ttok; (iterate 5 exact rfl))))); (iterate 4 exact rfl))
    all_goals rfl
/-- what walk tells -/
def wkN : Option Nat → Int
  | some m => (m : Int)
  | none => -1
theorem av_walk [Known] [KnownU8] : ∀ (x : It), wfI x → ∀ d m : Nat, d ≤ 7 → m ≤ 256 → AP Tryd.prog 55 [itD x, .int .i64 (d : Int), .int .i64 (m : Int)] (.int .i64 (wkN (walkI x d m))) [] := by
  refine It.ind fun k n b l ih hw d m hd hm => ?_
  obtain ⟨hn, hb, hl, hws⟩ := hw
  have hown := av_own k n b l hb
  have hlen := itEs_len l
  show AP Tryd.prog _ [.agg (itC k n b l), _, _] _ _
  rw [walkI]
  have em : 1 ≤ m → IntKind.i64.wrap ((m : Int) - 1) = ((m - 1 : Nat) : Int) := fun h => by rw [IntWalk.i64_in _ (by omega)]; omega
  have ed : IntKind.i64.wrap ((d : Int) + 1) = ((d + 1 : Nat) : Int) := by rw [IntWalk.i64_in _ (by omega)]; omega
  by_cases hd6 : 6 < d
  · rw [if_pos hd6]
    have t1 : decide ((d : Int) > 6) = true := by simp; omega
    refine AP.ofA ?_
    refine AC_of Tryd.func55 rfl Tryd.ntmps55 rfl rfl ?_
    repeat' (first | (apply AL_move; exact rfl; exact rfl) | (apply AL_assign; exact rfl; exact rfl) | (apply AL_bin; (iterate 5 exact rfl)) | (apply AL_box; (iterate 5 exact rfl)) | refine AL_nil ?_ | (apply AL_guardFf; (iterate 3 exact rfl); (first | with_reducible assumption | decide +kernel)) | (apply AL_pickT; exact rfl; (first | with_reducible assumption | decide +kernel); exact rfl; exact rfl) | refine AW_region ?_ | refine AW_seq' ?_ | (apply AW_condA; exact rfl; (first | with_reducible assumption | decide +kernel)) | refine then_norm ?_ | refine AW_ret ?_ | refine then_ret ?_)
    all_goals (apply endQ []; (repeat (first | exact ResL.nil | (apply ResL.cons; first | exact .tmp _ _ rfl | (apply res_n ttok; (iterate 6 exact rfl)) | (apply res_1 ttok; (iterate 5 exact rfl))))); (iterate 4 exact rfl))
    all_goals rfl
  have t1 : decide ((d : Int) > 6) = false := by simp; omega
  rw [if_neg hd6]
  by_cases hm1 : m < 1
  · rw [if_pos hm1]
    have t2 : decide ((m : Int) < 1) = true := by simp; omega
    refine AP.ofA ?_
    refine AC_of Tryd.func55 rfl Tryd.ntmps55 rfl rfl ?_
    repeat' (first | (apply AL_move; exact rfl; exact rfl) | (apply AL_assign; exact rfl; exact rfl) | (apply AL_bin; (iterate 5 exact rfl)) | (apply AL_box; (iterate 5 exact rfl)) | refine AL_nil ?_ | (apply AL_guardT; (iterate 3 exact rfl); (first | with_reducible assumption | decide +kernel)) | (apply AL_guardFf; (iterate 3 exact rfl); (first | with_reducible assumption | decide +kernel)) | (apply AL_pickT; exact rfl; (first | with_reducible assumption | decide +kernel); exact rfl; exact rfl) | (apply AL_pickF; exact rfl; (first | with_reducible assumption | decide +kernel); exact rfl; exact rfl) | refine AW_region ?_ | refine AW_seq' ?_ | (apply AW_condA; exact rfl; (first | with_reducible assumption | decide +kernel)) | refine then_norm ?_ | refine AW_ret ?_ | refine then_ret ?_)
    all_goals (apply endQ []; (repeat (first | exact ResL.nil | (apply ResL.cons; first | exact .tmp _ _ rfl | (apply res_n ttok; (iterate 6 exact rfl)) | (apply res_1 ttok; (iterate 5 exact rfl))))); (iterate 4 exact rfl))
    all_goals rfl
  have t2 : decide ((m : Int) < 1) = false := by simp; omega
  rw [if_neg hm1]
  have em := em (by omega)
  cases ho : ownI k n b l with
  | false =>
    rw [ho] at hown
    dsimp only
    refine AP.ofA ?_
    refine AC_of Tryd.func55 rfl Tryd.ntmps55 rfl rfl ?_
    repeat' (first | (apply AL_callPw (hown); kernel_rfl; (iterate 4 exact rfl)) | (apply AL_move; exact rfl; exact rfl) | (apply AL_assign; exact rfl; exact rfl) | (apply AL_bin; (iterate 5 exact rfl)) | (apply AL_loadn ttok; (iterate 7 exact rfl)) | (apply AL_box; (iterate 5 exact rfl)) | (apply AL_not; exact rfl; exact rfl) | refine AL_nil ?_ | (apply AL_guardT; (iterate 3 exact rfl); (first | with_reducible assumption | decide +kernel)) | (apply AL_pickF; exact rfl; (first | with_reducible assumption | decide +kernel); exact rfl; exact rfl) | refine AW_region ?_ | refine AW_seq' ?_ | (apply AW_condA; exact rfl; (first | with_reducible assumption | decide +kernel)) | refine then_norm ?_ | refine AW_ret ?_ | refine then_ret ?_)
    all_goals (apply endQ []; (repeat (first | exact ResL.nil | (apply ResL.cons; first | exact .tmp _ _ rfl | (apply res_n ttok; (iterate 6 exact rfl)) | (apply res_1 ttok; (iterate 5 exact rfl))))); (iterate 4 exact rfl))
    all_goals rfl
  | true =>
    rw [ho] at hown
    dsimp only
    generalize hfin : walks l (d + 1) (m - 1) = fin
    refine AP.ofA ?_
    refine AC_of Tryd.func55 rfl Tryd.ntmps55 rfl rfl ?_
    repeat' (first | rw [em] | (apply AL_callPw (hown); kernel_rfl; (iterate 4 exact rfl)) | (apply AL_move; exact rfl; exact rfl) | (apply AL_assign; exact rfl; exact rfl) | (apply AL_bin; (iterate 5 exact rfl)) | (apply AL_load1 ttok; (iterate 6 exact rfl)) | (apply AL_loadn ttok; (iterate 7 exact rfl)) | (apply AL_fieldAddr ttok; (iterate 7 exact rfl)) | (apply AL_box; (iterate 5 exact rfl)) | (apply AL_not; exact rfl; exact rfl) | refine AL_nil ?_ | (apply AL_guardT; (iterate 3 exact rfl); (first | with_reducible assumption | decide +kernel)) | (apply AL_pickF; exact rfl; (first | with_reducible assumption | decide +kernel); exact rfl; exact rfl) | refine AW_region ?_ | refine AW_seq' ?_ | (apply AW_condB; exact rfl; (first | with_reducible assumption | decide +kernel)) | refine then_norm ?_ | refine AW_block ?_ | (apply AL_len ttok; (iterate 4 exact rfl)) | refine AW_skip ?_)
    refine AW_loopJ (fun f tm bx fr => ∃ i m' : Nat, f + i = l.length ∧ m' ≤ 256 ∧ walks (l.drop i) (d + 1) m' = fin ∧ tm = [(1, .int .i64 (d : Int)), (2, .int .i64 (m' : Int)), (23, .sl .ext (itEs l)), (24, .int .i64 ((itEs l).length : Int)), (25, .int .i64 (i : Int)), (6, .int .i64 0)] ∧ bx = [itC k n b l] ∧ fr = []) (l.length + 1) (Lands.mk' (m := l.length) (Nat.lt_succ_self _) ⟨0, m - 1, rfl, by omega, hfin, rfl, rfl, rfl⟩ ?_ rfl rfl rfl rfl rfl rfl) ?_
    · exact .cons rfl (.cons rfl (.cons rfl (.cons rfl (.cons rfl (.cons rfl .nil)))))
    rintro f tm bx fr ⟨i, m', hf, hm', hfin, rfl, rfl, rfl⟩
    have hU := uniI l
    rcases Nat.lt_or_ge i l.length with hlt | hge
    · have hdl : decide ((i : Int) < ((itEs l).length : Int)) = true := decide_eq_true (by omega)
      obtain ⟨⟨k1, n1, b1, l1⟩, hy⟩ : ∃ y, l[i]? = some y := ⟨_, List.getElem?_eq_getElem hlt⟩
      have hv : (itEs l)[((i : Nat) : Int).toNat]? = some (.agg [.int .i64 k1, .int .u64 (n1 : Int), .sl (b1.map E.byte), .sl (itEs l1)]) := by
        rw [Int.toNat_natCast, itEs_map, List.getElem?_map, hy]; rfl
      have hmem := List.mem_of_getElem? hy
      have hc := ih _ hmem (wfs_mem hws _ hmem) (d + 1) m' (by omega) hm'
      have hdr : l.drop i = It.mk k1 n1 b1 l1 :: l.drop (i + 1) := by
        rw [List.drop_eq_getElem_cons hlt]; congr 1
        have := (List.getElem?_eq_some_iff.1 hy).2; exact this
      rw [hdr, walks] at hfin
      have ei : IntKind.i64.wrap ((i : Int) + 1) = ((i + 1 : Nat) : Int) := by rw [IntWalk.i64_in _ (by omega)]; omega
      cases hwk : walkI (.mk k1 n1 b1 l1) (d + 1) m' with
      | none =>
        rw [hwk] at hfin hc
        subst hfin
        repeat' (first | rw [ed] | (apply AL_callPw (hc); kernel_rfl; (iterate 4 exact rfl)) | (apply AL_move; exact rfl; exact rfl) | (apply AL_assign; exact rfl; exact rfl) | (apply AL_bin; (iterate 5 exact rfl)) | (apply AL_loadn ttok; (iterate 7 exact rfl)) | (apply AL_store ttok; (iterate 8 exact rfl)) | refine AL_nil ?_ | refine AW_region ?_ | refine AW_seq' ?_ | (apply AW_condA; exact rfl; (first | with_reducible assumption | decide +kernel)) | refine then_norm ?_ | refine AW_block ?_ | refine AW_ret ?_ | refine then_ret ?_ | refine blk_ret ?_ | (apply AL_eloadn ttok; (iterate 6 exact rfl)) | (apply AL_alloc ttok; (iterate 4 exact rfl)) | refine AW_skip ?_ | (apply AL_idx ttok; (iterate 6 exact rfl); (first | with_reducible assumption | decide +kernel | exact Int.natCast_nonneg _ | (guard_target = (0:Int) ≤ (OfNat.ofNat _ : Int); decide) | rotate_left); (first | with_reducible assumption | decide +kernel | exact rfl); (first | exact uniB_ok rfl | with_reducible assumption | decide +kernel | rotate_left)))
        all_goals (apply endQ []; (repeat (first | exact ResL.nil | (apply ResL.cons; first | exact .tmp _ _ rfl | (apply res_n ttok; (iterate 6 exact rfl)) | (apply res_1 ttok; (iterate 5 exact rfl))))); (iterate 4 exact rfl))
        all_goals rfl
      | some r =>
        rw [hwk] at hfin hc
        simp only [wkN] at hc
        have hlt2 := walkI_lt hwk
        have tr : decide ((r : Int) < 0) = false := by simp
        repeat' (first | rw [ed] | rw [ei] | (apply AL_callPw (hc); kernel_rfl; (iterate 4 exact rfl)) | (apply AL_move; exact rfl; exact rfl) | (apply AL_assign; exact rfl; exact rfl) | (apply AL_bin; (iterate 5 exact rfl)) | (apply AL_loadn ttok; (iterate 7 exact rfl)) | (apply AL_store ttok; (iterate 8 exact rfl)) | refine AL_nil ?_ | refine AW_region ?_ | refine AW_seq' ?_ | (apply AW_condA; exact rfl; (first | with_reducible assumption | decide +kernel)) | (apply AW_condB; exact rfl; (first | with_reducible assumption | decide +kernel)) | refine then_norm ?_ | refine AW_block ?_ | (apply AL_eloadn ttok; (iterate 6 exact rfl)) | (apply AL_alloc ttok; (iterate 4 exact rfl)) | refine AW_skip ?_ | (apply AL_idx ttok; (iterate 6 exact rfl); (first | with_reducible assumption | decide +kernel | exact Int.natCast_nonneg _ | (guard_target = (0:Int) ≤ (OfNat.ofNat _ : Int); decide) | rotate_left); (first | with_reducible assumption | decide +kernel | exact rfl); (first | exact uniB_ok rfl | with_reducible assumption | decide +kernel | rotate_left)))
        refine Lands.mk' (m := f - 1) (by omega) ⟨i + 1, r, by omega, by omega, hfin, rfl, rfl, rfl⟩ ?_ rfl rfl rfl rfl rfl rfl
        exact .cons rfl (.cons rfl (.cons rfl (.cons rfl (.cons rfl (.cons rfl .nil)))))
    · have hdl : decide ((i : Int) < ((itEs l).length : Int)) = false := decide_eq_false (by omega)
      have hdr : l.drop i = [] := List.drop_eq_nil_of_le hge
      rw [hdr, walks] at hfin
      subst hfin
      repeat' (first | (apply AL_move; exact rfl; exact rfl) | (apply AL_assign; exact rfl; exact rfl) | (apply AL_bin; (iterate 5 exact rfl)) | refine AL_nil ?_ | refine AW_region ?_ | refine AW_seq' ?_ | (apply AW_condB; exact rfl; (first | with_reducible assumption | decide +kernel)) | refine then_norm ?_ | refine AW_exit ?_ | refine AW_ret ?_)
      all_goals (apply endQ []; (repeat (first | exact ResL.nil | (apply ResL.cons; first | exact .tmp _ _ rfl | (apply res_n ttok; (iterate 6 exact rfl)) | (apply res_1 ttok; (iterate 5 exact rfl))))); (iterate 4 exact rfl))
      all_goals rfl
theorem av_rightI [Known] [KnownU8] (x : It) (hw : wfI x) : AP Tryd.prog 21 [itD x] (.bool (rightI x)) [] := by
  have hk := av_walk x hw 1 256 (by omega) (by omega)
  have e : decide (wkN (walkI x 1 256) ≥ 0) = rightI x := by
    unfold rightI
    cases walkI x 1 256 <;> simp [wkN]
  obtain ⟨k, n, b, l⟩ := x
  refine AP.ofA ?_
  refine AC_of Tryd.func21 rfl Tryd.ntmps21 rfl rfl ?_
  repeat' (first | rw [e] | (apply AL_callPw (hk); kernel_rfl; (iterate 4 exact rfl)) | (apply AL_assign; exact rfl; exact rfl) | (apply AL_bin; (iterate 5 exact rfl)) | (apply AL_loadn ttok; (iterate 7 exact rfl)) | (apply AL_box; (iterate 5 exact rfl)) | refine AL_nil ?_ | refine AW_region ?_ | refine AW_seq' ?_ | refine then_norm ?_ | refine AW_ret ?_)
  all_goals (apply endQ []; (repeat (first | exact ResL.nil | (apply ResL.cons; first | exact .tmp _ _ rfl | (apply res_n ttok; (iterate 6 exact rfl)) | (apply res_1 ttok; (iterate 5 exact rfl))))); (iterate 4 exact rfl))
  all_goals rfl
end Go.Proofs.YtnihobjehelagaaDoor
end
/- Regions that draw their order, in which new variables come in any order. -/
section
open Go.RowKit Go.Pl
namespace Go.Av
set_option linter.unusedSimpArgs false
set_option linter.unusedVariables false
/-- an operation ahead of the chain leaves a datum, or is a new variable with these cells -/
inductive Zy where
  | pu (d : D)
  | al (cs : List D)
def zK (K : Nat → Nat) (p : Nat × Zy) : Nat × D := (p.1, match p.2 with | .pu d => d | .al _ => .gptr (K p.1) 0)
def z0 (p : Nat × Zy) : Nat × D := (p.1, match p.2 with | .pu d => d | .al _ => .junk)
/-- the new variables, in the order of the text -/
def zfin : Nat → List (Nat × Zy) → List (Nat × D) → List (Nat × D)
  | _, [], tm => tm
  | m, (_, .pu _) :: zs, tm => zfin m zs tm
  | m, (t, .al _) :: zs, tm => zfin (m + 1) zs ((t, .ptr m 0) :: tm)
def zcs : List (Nat × Zy) → List (List D)
  | [] => []
  | (_, .pu _) :: zs => zcs zs
  | (_, .al cs) :: zs => cs :: zcs zs
/-- no operation ahead of the chain looks at a new variable -/
def chkZ (l : List Oper) (m : Nat) : Bool := (l.take m).all fun o => match o.op, o.dst with
  | .alloc _, some t => (l.take m).all fun o' => !(looks l o').contains t
  | _, _ => true
section
variable {P : Program} {T : Tab} {Q : X → St → Prop} {n : Nat} {ee : Nat × Nat} {tm tm' : List (Nat × D)} {bx : List (List D)} {fr : List Fr} {b0 : Bs} {g g' : G} {w w' : World} {a : Act}
inductive AZ [Known] [Dfr] (P : Program) (T : Tab) (l : List Oper) (n : Nat) (bx : List (List D)) (fr : List Fr) : List Oper → List (Nat × D) → List (Nat × Zy) → List (Nat × D) → Prop
  | nil (tm : List (Nat × D)) : AZ P T l n bx fr [] tm [] tm
  | pu (o : Oper) (rest : List Oper) (t : Nat) (d : D) (tm : List (Nat × D)) (zs : List (Nat × Zy)) (tm' : List (Nat × D)) (hd : o.dst = some t) (ht : Nat.blt t n = true) (h : AL P l.toArray [o] ⟨n, restr l o tm, bx, fr, (bx.length, fr.length)⟩ (qY o bx fr (.pu d))) (k : AZ P T l n bx fr rest ((t, d) :: tm) zs tm') : AZ P T l n bx fr (o :: rest) tm ((t, .pu d) :: zs) tm'
  | al (t : Nat) (e : TypeId) (ty : Nat) (pos : String) (after : Array Edge) (rest : List Oper) (ti : Ti) (tm : List (Nat × D)) (zs : List (Nat × Zy)) (tm' : List (Nat × D)) (ht : Nat.blt t n = true) (hti : tl T e = some ti) (k : AZ P T l n bx fr rest ((t, .junk) :: tm) zs tm') : AZ P T l n bx fr (⟨some t, .alloc e, ty, pos, after, none⟩ :: rest) tm ((t, .al (ti.zero.map ZK.d)) :: zs) tm'
theorem AZ.steps [Known] [Dfr] {l rest : List Oper} {zs : List (Nat × Zy)} (h : AZ P T l n bx fr rest tm zs tm') : zs.length = rest.length ∧ tm' = (zs.map z0).reverse ++ tm ∧
    ∀ (i : Nat) (o : Oper), rest[i]? = some o → ∃ t y, zs[i]? = some (t, y) ∧ o.dst = some t ∧ Nat.blt t n = true ∧ (match y with
      | .pu d => AL P l.toArray [o] ⟨n, restr l o (((zs.take i).map z0).reverse ++ tm), bx, fr, (bx.length, fr.length)⟩ (qY o bx fr (.pu d))
      | .al cs => ∃ (e : TypeId) (ty : Nat) (pos : String) (after : Array Edge) (ti : Ti), o = ⟨some t, .alloc e, ty, pos, after, none⟩ ∧ tl T e = some ti ∧ cs = ti.zero.map ZK.d) := by
  induction h with
  | nil tm => exact ⟨rfl, rfl, fun i o h => by simp at h⟩
  | pu o rest t d tm zs tm' hd ht h k ih =>
    obtain ⟨h1, h2, h3⟩ := ih
    refine ⟨by simp [h1], by rw [h2]; simp [z0], fun i o' ho => ?_⟩
    cases i with
    | zero =>
      simp at ho; subst ho
      exact ⟨t, .pu d, rfl, hd, ht, by simpa using h⟩
    | succ i =>
      simp at ho
      obtain ⟨t', y, q1, q2, q3, q4⟩ := h3 i o' ho
      refine ⟨t', y, by simpa using q1, q2, q3, ?_⟩
      cases y with
      | pu d' =>
        dsimp only at q4 ⊢
        have e : ((((t, Zy.pu d) :: zs).take (i + 1)).map z0).reverse ++ tm = ((zs.take i).map z0).reverse ++ ((t, d) :: tm) := by simp [z0]
        rw [e]; exact q4
      | al cs => exact q4
  | al t e ty pos after rest ti tm zs tm' ht hti k ih =>
    obtain ⟨h1, h2, h3⟩ := ih
    refine ⟨by simp [h1], by rw [h2]; simp [z0], fun i o' ho => ?_⟩
    cases i with
    | zero =>
      simp at ho; subst ho
      exact ⟨t, .al _, rfl, rfl, ht, e, ty, pos, after, ti, rfl, hti, rfl⟩
    | succ i =>
      simp at ho
      obtain ⟨t', y, q1, q2, q3, q4⟩ := h3 i o' ho
      refine ⟨t', y, by simpa using q1, q2, q3, ?_⟩
      cases y with
      | pu d' =>
        dsimp only at q4 ⊢
        have e : ((((t, Zy.al (ti.zero.map ZK.d)) :: zs).take (i + 1)).map z0).reverse ++ tm = ((zs.take i).map z0).reverse ++ ((t, .junk) :: tm) := by simp [z0]
        rw [e]; exact q4
      | al cs => exact q4
theorem restr_filter (l : List Oper) (o : Oper) : ∀ tm : List (Nat × D), restr l o tm = tm.filter fun p => (looks l o).contains p.1
  | [] => rfl
  | p :: tm => by
    rw [restr, List.filter_cons, restr_filter l o tm]
    cases (looks l o).contains p.1 <;> rfl
theorem restr_zs {l : List Oper} {o : Oper} {K : Nat → Nat} : ∀ {zs : List (Nat × Zy)} {tm : List (Nat × D)}, (∀ t cs, (t, Zy.al cs) ∈ zs → (looks l o).contains t = false) → restr l o ((zs.map (zK K)).reverse ++ tm) = restr l o ((zs.map z0).reverse ++ tm) := by
  intro zs tm h
  rw [restr_filter, restr_filter, List.filter_append, List.filter_append, List.filter_reverse, List.filter_reverse]
  congr 2
  induction zs with
  | nil => rfl
  | cons p zs ih =>
    obtain ⟨t, y⟩ := p
    rw [List.map_cons, List.map_cons, List.filter_cons, List.filter_cons, ih fun t cs hm => h t cs (List.mem_cons_of_mem _ hm)]
    cases y with
    | pu d => rfl
    | al cs =>
      have := h t cs (List.mem_cons_self ..)
      simp only [zK, z0, this]
      rfl
theorem look_z0 {K : Nat → Nat} {x : Nat} {tm : List (Nat × D)} : ∀ (zs : List (Nat × Zy)), look (zs.map z0 ++ tm) x = look (zs.map (zK K) ++ tm) x ∨ look (zs.map z0 ++ tm) x = .junk
  | [] => .inl rfl
  | (t, y) :: zs => by
    rw [List.map_cons, List.map_cons, List.cons_append, List.cons_append]
    cases hb : Nat.beq t x with
    | true =>
      cases y with
      | pu d => left; simp only [z0, zK, look, hb]
      | al cs => right; simp only [z0, look, hb]
    | false =>
      have h1 : look (z0 (t, y) :: (zs.map z0 ++ tm)) x = look (zs.map z0 ++ tm) x := by simp only [z0, look, hb]
      have h2 : look (zK K (t, y) :: (zs.map (zK K) ++ tm)) x = look (zs.map (zK K) ++ tm) x := by simp only [zK, look, hb]
      rw [h1, h2]
      exact look_z0 zs
/-- a block that is nobody's yet -/
def Good (b0 : Bs) (g : G) (w : World) (k : Nat) (cs : List D) : Prop := b0.w.heap.size ≤ k ∧ ¬ M g k ∧ (∀ o, ¬ g.C k o) ∧ ∃ vs ty, w.heap[k]? = some (.cells vs ty (0, 0)) ∧ vs.size = cs.length ∧ ∀ (w : World) (g : G) (fr : List Fr) (j : Nat) (d : D) (v : Value), cs[j]? = some d → vs[j]? = some v → V w g fr d v
theorem Good.lt {k : Nat} {cs : List D} (h : Good b0 g w k cs) : k < w.heap.size := by
  obtain ⟨_, _, _, vs, ty, h1, _⟩ := h
  exact (Array.getElem?_eq_some_iff.1 h1).1
theorem Good.evo {k : Nat} {cs : List D} (h : Good b0 g w k cs) {fr fr' : List Fr} (e : Evo ⟨g, fr, w⟩ ⟨g', fr', w'⟩) : Good b0 g' w' k cs := by
  have hlt := h.lt
  obtain ⟨h1, h2, h3, vs, ty, h4, h5, h6⟩ := h
  refine ⟨h1, fun hm => ?_, fun o hc => ?_, vs, ty, (e.block k hlt h2).trans h4, h5, h6⟩
  · rcases e.own hm with hm | hm
    · exact h2 hm
    · exact absurd hlt (Nat.not_lt.2 hm)
  · rcases e.newC k o hc with hc | hc | hc
    · exact h3 o hc
    · exact absurd hlt (Nat.not_lt.2 hc)
    · exact h2 hc
theorem Evo.al [Known] (hm : Mem g bx fr w) (o : Obj) : Evo ⟨g, fr, w⟩ ⟨g, fr, w.alloc o⟩ :=
  ⟨rfl, rfl, rfl, by simp, fun k hk _ => Below.heap_alloc w _ k hk, fun _ _ h => h, fun k p h => cell_alloc w _ (hm.Clt k p h) p, fun _ _ h => .inl h, fun _ _ h => h, fun _ h => .inl h, fun k c h => .inl ⟨c, h⟩, TokOn.refl _ _⟩
theorem Mem.al [Known] (hm : Mem g bx fr w) (o : Obj) : Mem g bx fr (w.alloc o) where
  bl := hm.bl
  bat i k cs' h1 h2 := by
    obtain ⟨us, ty, k1, k2, k3⟩ := hm.bat i k cs' h1 h2
    exact ⟨us, ty, (Below.heap_alloc w _ k (Array.getElem?_eq_some_iff.1 k1).1).trans k1, k2, fun j d v hd hv => (k3 j d v hd hv).evo (Evo.al hm o)⟩
  bC := hm.bC
  bN := hm.bN
  tl := hm.tl
  tat i k c f h1 h2 := by
    have hT := hm.tat i k c f h1 h2
    obtain ⟨cur, r1, r2⟩ := hT.row
    exact ⟨⟨cur, (Below.heap_alloc w _ k (Array.getElem?_eq_some_iff.1 r1).1).trans r1, r2⟩, hT.le, hT.max, hT.pos, hT.far⟩
  tN := hm.tN
  tρ := hm.tρ
  Clt k p hC := by
    have := hm.Clt k p hC
    simp; omega
  gl := hm.gl.evo (Evo.al hm o)
theorem mem_snoc {k k' : Nat} (h : M ⟨g.C, g.ρ ++ [k], g.τ⟩ k') : M g k' ∨ k' = k := by
  rcases h with h | h
  · rcases List.mem_append.1 h with h | h
    · exact .inl (.inl h)
    · simp at h; exact .inr h
  · exact .inl (.inr h)
/-- a block that was nobody's becomes a variable -/
theorem Inv.addB [Known] [Dfr] {k t : Nat} {cs : List D} (hi : Inv b0 ⟨n, tm, bx, fr, ee⟩ g a w) (hG : Good b0 g w k cs) (ht : a.tmps.getD t undef = .pointer (some ⟨k, 0, none⟩)) : Inv b0 ⟨n, (t, .ptr bx.length 0) :: tm, bx ++ [cs], fr, ee⟩ ⟨g.C, g.ρ ++ [k], g.τ⟩ a w := by
  obtain ⟨h1, h2, h3, vs, ty, h4, h5, h6⟩ := hG
  have hm := hi.mem
  have hρ : ∀ (i b : Nat), g.ρ[i]? = some b → (g.ρ ++ [k])[i]? = some b := fun i b h => (List.getElem?_append_left (List.getElem?_eq_some_iff.1 h).1).trans h
  have hV : ∀ {d : D} {v : Value}, V w g fr d v → V w ⟨g.C, g.ρ ++ [k], g.τ⟩ fr d v := fun h => h.mono (fun _ _ h => h) (fun _ _ _ => rfl) hρ (TokOn.refl g fr)
  have hget : ∀ (i b : Nat), (g.ρ ++ [k])[i]? = some b → g.ρ[i]? = some b ∨ (i = g.ρ.length ∧ b = k) := fun i b h => by
    rcases Nat.lt_or_ge i g.ρ.length with hlt | hge
    · rw [List.getElem?_append_left hlt] at h; exact .inl h
    · rw [List.getElem?_append_right hge] at h
      have h0 : i - g.ρ.length = 0 := by have := (List.getElem?_eq_some_iff.1 h).1; simp at this; omega
      simp [h0] at h
      exact .inr ⟨by omega, h.symm⟩
  refine ⟨hi.size, hi.defers, ⟨?_, ?_, ?_, ?_, hm.tl, ?_, hm.tN, ?_, hm.Clt, hm.gl⟩, fun x => ?_, ⟨hi.evo.os, hi.evo.tape, hi.evo.output, hi.evo.size, hi.evo.block, hi.evo.C, hi.evo.cell, hi.evo.newC, fun i b h => hρ i b (hi.evo.ρp i b h), fun b h => ?_, hi.evo.τn, hi.evo.tok⟩, hi.bd⟩
  · simp [hm.bl]
  · intro i b cs' e1 e2
    rcases hget i b e1 with e3 | ⟨rfl, rfl⟩
    · have hlt : i < bx.length := by rw [← hm.bl]; exact (List.getElem?_eq_some_iff.1 e3).1
      rw [List.getElem?_append_left hlt] at e2
      obtain ⟨us, ty', k1, k2, k3⟩ := hm.bat i b cs' e3 e2
      exact ⟨us, ty', k1, k2, fun j d v hd hv => hV (k3 j d v hd hv)⟩
    · rw [List.getElem?_append_right (by rw [hm.bl]; exact Nat.le_refl _), hm.bl] at e2
      simp at e2; subst e2
      exact ⟨vs, ty, h4, h5, fun j d v hd hv => h6 _ _ _ j d v hd hv⟩
  · intro b o hb hC
    rcases List.mem_append.1 hb with h | h
    · exact hm.bC b o h hC
    · simp at h; subst h
      exact h3 o hC
  · intro i j b e1 e2
    have cross : ∀ i : Nat, g.ρ[i]? = some b → b = k → False := fun i e3 e => by
      subst e; exact h2 (.inl (List.mem_of_getElem? e3))
    rcases hget i b e1 with e3 | ⟨e3, e3'⟩ <;> rcases hget j b e2 with e4 | ⟨e4, e4'⟩
    · exact hm.bN i j b e3 e4
    · exact (cross i e3 e4').elim
    · exact (cross j e4 e3').elim
    · omega
  · intro i b c f e1 e2
    have hT := hm.tat i b c f e1 e2
    exact ⟨hT.row, hT.le, hT.max, hT.pos, hT.far⟩
  · intro b c hb hr
    rcases List.mem_append.1 hr with h | h
    · exact hm.tρ b c hb h
    · simp at h; subst h
      exact h2 (.inr ⟨c, hb⟩)
  · cases hb : Nat.beq t x with
    | true =>
      have e := Nat.eq_of_beq_eq_true hb
      subst e
      simp only [look, hb]
      rw [ht]
      exact .ptr _ _ _ (by rw [List.getElem?_append_right (by rw [hm.bl]; exact Nat.le_refl _), hm.bl]; simp)
    | false =>
      simp only [look, hb]
      exact hV (hi.tm x)
  · rcases List.mem_append.1 h with h | h
    · exact hi.evo.ρn b h
    · simp at h; subst h; exact .inr h1
theorem zfold [Known] [Dfr] {K : Nat → Nat} : ∀ (zs : List (Nat × Zy)) (tm : List (Nat × D)) (bx : List (List D)) (g : G), Inv b0 ⟨n, tm, bx, fr, ee⟩ g a w → (∀ t cs, (t, Zy.al cs) ∈ zs → a.tmps.getD t undef = .pointer (some ⟨K t, 0, none⟩) ∧ Good b0 g w (K t) cs) → zs.Pairwise (fun p q => p.1 ≠ q.1) → (∀ t cs t' cs', (t, Zy.al cs) ∈ zs → (t', Zy.al cs') ∈ zs → K t = K t' → t = t') → ∃ g', Inv b0 ⟨n, zfin bx.length zs tm, bx ++ zcs zs, fr, ee⟩ g' a w
  | [], tm, bx, g, hi, _, _, _ => ⟨g, by rw [zfin, zcs, List.append_nil]; exact hi⟩
  | (t, .pu d) :: zs, tm, bx, g, hi, hA, hN, hK => by
    rw [zfin, zcs]
    exact zfold zs tm bx g hi (fun t cs h => hA t cs (List.mem_cons_of_mem _ h)) (List.pairwise_cons.1 hN).2 (fun t cs t' cs' h h' => hK t cs t' cs' (List.mem_cons_of_mem _ h) (List.mem_cons_of_mem _ h'))
  | (t, .al cs) :: zs, tm, bx, g, hi, hA, hN, hK => by
    rw [zfin, zcs]
    obtain ⟨h1, h2⟩ := hA t cs (List.mem_cons_self ..)
    have h3 := hi.addB h2 h1
    have hlen : (bx ++ [cs]).length = bx.length + 1 := by simp
    obtain ⟨g', h4⟩ := zfold zs _ (bx ++ [cs]) _ h3 (fun t' cs' h => by
      obtain ⟨q1, q2, q3, q4, q5⟩ := hA t' cs' (List.mem_cons_of_mem _ h)
      refine ⟨q1, q2, fun hm => ?_, q4, q5⟩
      rcases mem_snoc hm with hm | hm
      · exact q3 hm
      · have := hK t' cs' t cs (List.mem_cons_of_mem _ h) (List.mem_cons_self ..) hm
        exact (List.pairwise_cons.1 hN).1 _ h this.symm) (List.pairwise_cons.1 hN).2 (fun t cs t' cs' h h' => hK t cs t' cs' (List.mem_cons_of_mem _ h) (List.mem_cons_of_mem _ h'))
    rw [hlen, List.append_assoc] at h4
    exact ⟨g', h4⟩
theorem zK_get {K : Nat → Nat} {zs : List (Nat × Zy)} {i : Nat} {t : Nat} {y : Zy} (h : zs[i]? = some (t, y)) : (zs.map (zK K))[i]? = some (zK K (t, y)) := by rw [List.getElem?_map, h]; rfl
theorem AW_drawZ' [Known] [Dfr] {id m : Nat} {l acts : List Oper} {zs : List (Nat × Zy)} (hT : chk P T = true) (hm : P.follows .mixedOrders = true) (hchk : chkDraw l = true) (hlk : chkLk n l = true) (hE : chkE l = true) (hch : chkChain l m = true) (hz : chkZ l m = true) (hlen : (l.take m).length = m) (hacts : l.drop m = acts) (h : AZ P T l n bx fr (l.take m) tm zs tm') (k : AL P l.toArray acts ⟨n, zfin bx.length zs tm', bx ++ zcs zs, fr, ee⟩ Q) :
    AW P (.region id l.toArray true) ⟨n, tm, bx, fr, ee⟩ Q := by
  obtain ⟨h1, h2, h3⟩ := h.steps
  rw [hlen] at h1
  have hml : m ≤ l.length := by rw [List.length_take] at hlen; omega
  have hdl : ∀ K, (zs.map (zK K)).length = m := fun K => by rw [List.length_map, h1]
  have hl : ∀ K, (zs.map (zK K)).length ≤ l.length := fun K => by rw [hdl]; exact hml
  have htk : ∀ (i : Nat) (o : Oper), l[i]? = some o → i < m → (l.take m)[i]? = some o := fun i o ho hi => by rw [List.getElem?_take, if_pos hi]; exact ho
  have hdst : ∀ K, HD n l (zs.map (zK K)) := fun K i o ho hd => by
    rw [hdl] at hd
    obtain ⟨t, y, q1, q2, q3, _⟩ := h3 i o (htk i o ho hd)
    refine ⟨(zK K (t, y)).2, ?_, fun hn => (by rw [q2] at hn; cases hn), by simp only [dstOk, q2, q3]⟩
    rw [zK_get q1]
    simp only [oslot, q2]
    rfl
  have hNo : ∀ {i : Nat} {o : Oper}, (l.take m)[i]? = some o → ∀ t cs, (t, Zy.al cs) ∈ zs → (looks l o).contains t = false := fun {i o} ho t cs hmem => by
    obtain ⟨j, hj⟩ := List.getElem?_of_mem hmem
    have hjm : j < m := by have := (List.getElem?_eq_some_iff.1 hj).1; omega
    have hjl : j < (l.take m).length := by rw [hlen]; exact hjm
    have hoj := List.getElem?_eq_getElem hjl
    obtain ⟨t', y', q1, q2, _, q4⟩ := h3 j _ hoj
    rw [hj] at q1
    injection q1 with q1
    injection q1 with q1 q1'
    subst q1 q1'
    obtain ⟨e, ty, pos, after, ti, q5, _⟩ := q4
    have hz1 := List.all_eq_true.1 hz _ (List.mem_of_getElem? hoj)
    rw [q5] at hz1
    dsimp only at hz1
    have := List.all_eq_true.1 hz1 o (List.mem_of_getElem? ho)
    simpa using this
  have hNN : ∀ (i j : Nat) (p q : Nat × Zy), zs[i]? = some p → zs[j]? = some q → p.1 = q.1 → i = j := fun i j p q hp hq e =>
    (hdst (fun _ => 0)).one hchk (hl _) i j _ _ (zK_get (t := p.1) (y := p.2) hp) (zK_get (t := q.1) (y := q.2) hq) e
  refine ⟨fun b0 g a w hi => wp_region_any hm ?_⟩
  have main : ∀ (fuel : Nat) (listed : Array Bool) (g : G) (a : Act) (w : World) (K : Nat → Nat), MidE b0 ee n tm (bx, fr) l (zs.map (zK K)) listed g a w →
      (∀ (i t : Nat) (cs : List D), zs[i]? = some (t, .al cs) → listed.getD i false = true → Good b0 g w (K t) cs) → (∀ (i j t t' : Nat) (cs cs' : List D), zs[i]? = some (t, .al cs) → zs[j]? = some (t', .al cs') → listed.getD i false = true → listed.getD j false = true → K t = K t' → t = t') →
      (∀ i, m ≤ i → i < l.length → listed.getD i false = false) → left l listed = fuel → wpAny P .any l.toArray (conc b0 Q) fuel listed a w := by
    intro fuel
    have hend : ∀ (listed : Array Bool) (g : G) (a : Act) (w : World) (K : Nat → Nat), MidE b0 ee n tm (bx, fr) l (zs.map (zK K)) listed g a w →
        (∀ (i t : Nat) (cs : List D), zs[i]? = some (t, .al cs) → listed.getD i false = true → Good b0 g w (K t) cs) → (∀ (i j t t' : Nat) (cs cs' : List D), zs[i]? = some (t, .al cs) → zs[j]? = some (t', .al cs') → listed.getD i false = true → listed.getD j false = true → K t = K t' → t = t') →
        (∀ i, i < m → listed.getD i false = true) → wpList P l.toArray (conc b0 Q) acts a w := fun listed g a w K hM hA hKK hall => by
      have hinv := midE_all hchk (hl K) (hdst K) hM fun i hi => hall i (by rw [hdl] at hi; exact hi)
      have hinv2 : Inv b0 ⟨n, tm', bx, fr, ee⟩ g a w := ⟨hinv.size, hinv.defers, hinv.mem, fun x => by
        have hx := hinv.tm x
        dsimp only at hx ⊢
        rw [h2, ← List.map_reverse]
        rw [← List.map_reverse] at hx
        rcases look_z0 (K := K) (x := x) (tm := tm) zs.reverse with e | e
        · rw [e]; exact hx
        · rw [e]; exact .junk _, hinv.evo, hinv.bd⟩
      have hidx : ∀ {t : Nat} {cs : List D}, (t, Zy.al cs) ∈ zs → ∃ i, zs[i]? = some (t, .al cs) ∧ listed.getD i false = true := fun hmem => by
        obtain ⟨i, hi⟩ := List.getElem?_of_mem hmem
        exact ⟨i, hi, hall i (by have := (List.getElem?_eq_some_iff.1 hi).1; omega)⟩
      obtain ⟨g', hi'⟩ := zfold (K := K) zs tm' bx g hinv2 (fun t cs hmem => by
        obtain ⟨i, hi, hli⟩ := hidx hmem
        refine ⟨?_, hA i t cs hi hli⟩
        have := hM.tm t
        rw [cur_at ((hdst K).one hchk (hl K)) (hl K) (zK_get hi), if_pos hli] at this
        exact gptr_inv this) (List.pairwise_iff_getElem.2 fun i j hi hj hij e => by
          have := hNN i j _ _ (List.getElem?_eq_getElem hi) (List.getElem?_eq_getElem hj) e
          omega) (fun t cs t' cs' hmem hmem' e => by
        obtain ⟨i, hi, hli⟩ := hidx hmem
        obtain ⟨j, hj, hlj⟩ := hidx hmem'
        exact hKK i j t t' cs cs' hi hj hli hlj e)
      exact k.run b0 g' a w hi'
    induction fuel with
    | zero =>
      intro listed g a w K hM hA hKK hu h0
      exact chain_run hE hch 0 m listed a w (by
        rcases Nat.lt_or_ge m l.length with h | h
        · have h5 := hu m (Nat.le_refl _) h
          have h6 := left_zero h0 h
          rw [h5] at h6; cases h6
        · omega) (Nat.le_refl _) hM.len (fun i hi => by
          rw [left_zero h0 hi]
          rcases Nat.lt_or_ge m l.length with h | h
          · have h5 := hu m (Nat.le_refl _) h
            have h6 := left_zero h0 h
            rw [h5] at h6; cases h6
          · simp; omega) (by rw [hacts]; exact hend listed g a w K hM hA hKK (fun i hi => left_zero h0 (by omega)))
    | succ fuel ih =>
      intro listed g a w K hM hA hKK hu hf
      by_cases hall : ∀ i, i < m → listed.getD i false = true
      · have hls : ∀ i, i < l.length → (listed.getD i false = true ↔ i < m) := fun i hi => by
          rcases Nat.lt_or_ge i m with h | h
          · simp [hall i h, h]
          · rw [hu i h hi]; simp; omega
        exact chain_run hE hch (fuel + 1) m listed a w (by rw [← hf, left_eq hls]; omega) (Nat.le_refl _) hM.len hls (by rw [hacts]; exact hend listed g a w K hM hA hKK hall)
      refine ⟨fun he => (ready_ne hE hM.len (by omega) he).elim, fun i hi => ?_⟩
      obtain ⟨hn0, o, ho, hr⟩ := mem_ready.1 hi
      have ho' : l[i]? = some o := by simpa using ho
      have hil : i < l.length := (List.getElem?_eq_some_iff.1 ho').1
      have hlt : i < listed.size := by rw [hM.len]; exact hil
      have hn : listed.getD i false = false := by simp [hlt] at hn0 ⊢; exact hn0
      have hleft := left_set hil hM.len hn
      by_cases him : i < m
      · obtain ⟨t, y, q1, q2, q3, q4⟩ := h3 i o (htk i o ho' him)
        have hut : ∀ x, m ≤ x → x < l.length → (listed.setIfInBounds i true).getD x false = false := fun x hx hxl => by
          rw [getD_set_ne false (by omega)]
          exact hu x hx hxl
        have hlist : ∀ x : Nat, x ≠ i → (listed.setIfInBounds i true).getD x false = true → listed.getD x false = true := fun x hx h => by
          rw [getD_set_ne false (Ne.symm hx)] at h; exact h
        cases y with
        | pu d =>
          dsimp only at q4
          have hM0 : MidE ⟨g, fr, w⟩ (g.ρ.length, fr.length) n tm (bx, fr) l (zs.map (zK K)) listed g a w := ⟨⟨Nat.le_refl _, Nat.le_refl _⟩, hM.size, hM.defers, hM.mem, Evo.refl _, hM.tm, hM.closed, hM.len⟩
          refine midE_step (y := .pu d) hchk hlk (hl K) (hdst K) hM0 ho' hi (by rw [hdl]; exact him) (by rw [zK_get q1]; simp only [oslot, q2]; rfl) (by
            rw [← List.map_take, restr_zs (fun t' cs' hmem => hNo (htk i o ho' him) t' cs' (List.mem_of_mem_take hmem))]
            exact q4) fun g' a' w' hM' => ?_
          have hM' : MidE ⟨g, fr, w⟩ (g.ρ.length, fr.length) n tm (bx, fr) l (zs.map (zK K)) (listed.setIfInBounds i true) g' a' w' := hM'
          refine ih _ g' a' w' K ⟨hM.bd, hM'.size, hM'.defers, hM'.mem, hM.evo.trans hM'.evo, hM'.tm, hM'.closed, hM'.len⟩ (fun x t' cs' hx hlx => ?_) (fun x x' t' t'' cs' cs'' hx hx' hlx hlx' => ?_) hut (by omega)
          · have hxi : x ≠ i := fun e => by subst e; rw [q1] at hx; cases hx
            exact (hA x t' cs' hx (hlist x hxi hlx)).evo hM'.evo
          · have hxi : x ≠ i := fun e => by subst e; rw [q1] at hx; cases hx
            have hxi' : x' ≠ i := fun e => by subst e; rw [q1] at hx'; cases hx'
            exact hKK x x' t' t'' cs' cs'' hx hx' (hlist x hxi hlx) (hlist x' hxi' hlx')
        | al cs =>
          obtain ⟨e, ty, pos, after, ti, rfl, hti, rfl⟩ := q4
          obtain ⟨z, z1, z2⟩ := (tl_ok hT hti).zero w
          have htn : t < n := by simpa [Nat.blt_eq] using q3
          have hN := fun K => (hdst K).one hchk (hl K)
          unfold wpOp
          simp only [ho]
          have hw : Region.wanted (⟨some t, .alloc e, ty, pos, after, none⟩ : Oper) (yielded l.toArray a.tmps) = true := rfl
          rw [if_pos hw]
          refine .inl ?_
          have hrun : (execOp a.eval ⟨some t, .alloc e, ty, pos, after, none⟩).run P w = .ok (.value (.pointer (some ⟨w.heap.size, 0, none⟩))) (w.alloc (.cells z.cells e)) := by
            simp [execOp, Instr.alloc, newVar, newRow, Sem.run_bind, z1]
          unfold Oper.wp
          rw [hrun, Oper.upon_value]
          have hev := Evo.al hM.mem (.cells z.cells e)
          have hK : ∀ t', t' ≠ t → (if t' = t then w.heap.size else K t') = K t' := fun t' h => if_neg h
          have hsame : ∀ (j : Nat) (x : Nat) (y : Zy), zs[j]? = some (x, y) → x ≠ t → zK (fun s => if s = t then w.heap.size else K s) (x, y) = zK K (x, y) := fun j x y _ hx => by
            cases y with
            | pu d => rfl
            | al cs => simp only [zK, hK x hx]
          refine ih _ g _ _ (fun s => if s = t then w.heap.size else K s) ⟨hM.bd, by simp [Act.put, hM.size], by simp only [Act.put]; exact hM.defers, hM.mem.al _, hM.evo.trans hev, fun x => ?_, fun mm om hmm hlm ed he hb => ?_, by simp [hM.len]⟩ (fun x t' cs' hx hlx => ?_) (fun x x' t' t'' cs' cs'' hx hx' hlx hlx' hke => ?_) hut (by omega)
          · by_cases hx : x = t
            · subst hx
              rw [cur_at (hN _) (hl _) (zK_get q1), if_pos (by simp [hM.len, hil])]
              have e1 : (Act.put a (some x) (.pointer (some ⟨w.heap.size, 0, none⟩))).tmps.getD x undef = .pointer (some ⟨w.heap.size, 0, none⟩) := by
                simp [Act.put, Array.getD_getElem?, hM.size, htn]
              dsimp only
              rw [e1]
              simp only [if_pos]
              exact .gptr _ _
            · have e1 : (Act.put a (some t) (.pointer (some ⟨w.heap.size, 0, none⟩))).tmps.getD x undef = a.tmps.getD x undef := by
                simp [Act.put, Array.getD_getElem?, Array.getElem?_setIfInBounds_ne (Ne.symm hx)]
              dsimp only
              rw [e1]
              have e2 : cur l (zs.map (zK fun s => if s = t then w.heap.size else K s)) tm (listed.setIfInBounds i true) x = cur l (zs.map (zK K)) tm listed x := by
                by_cases hex : ∃ (j : Nat) (y : Zy), zs[j]? = some (x, y)
                · obtain ⟨j, y, hj⟩ := hex
                  have hne : i ≠ j := fun e => by
                    subst e; rw [q1] at hj; injection hj with hj; injection hj with hj; exact hx hj.symm
                  have hj1 := zK_get (K := fun s => if s = t then w.heap.size else K s) hj
                  rw [hsame j x y hj hx] at hj1
                  rw [cur_at (hN _) (hl _) hj1, cur_at (hN K) (hl K) (zK_get hj), getD_set_ne false hne]
                · have hno : ∀ (K : Nat → Nat) (j : Nat) (p : Nat × D), (zs.map (zK K))[j]? = some p → p.1 ≠ x := fun K j p hj e => by
                    rw [List.getElem?_map] at hj
                    cases hzj : zs[j]? with
                    | none => rw [hzj] at hj; cases hj
                    | some q =>
                      rw [hzj] at hj
                      injection hj with hj
                      subst hj
                      exact hex ⟨j, q.2, by rw [hzj, ← e]; rfl⟩
                  rw [cur_far (hno _), cur_far (hno _)]
              rw [e2]
              exact (hM.tm x).evo hev
          · by_cases hmi : mm = i
            · subst hmi
              rw [ho'] at hmm; injection hmm with hmm; subst hmm
              exact getD_set_true (hr ed he hb)
            · rw [getD_set_ne false (Ne.symm hmi)] at hlm
              exact getD_set_true (hM.closed mm om hmm hlm ed he hb)
          · by_cases hxi : x = i
            · subst hxi
              rw [q1] at hx
              injection hx with hx
              injection hx with hx hx'
              injection hx' with hx'
              subst hx hx'
              simp only [if_pos]
              refine ⟨hM.evo.size, fun hmm => absurd (hM.mem.lt hmm) (Nat.lt_irrefl _), fun o hc => absurd (hM.mem.Clt _ o hc) (Nat.lt_irrefl _), z.cells, e, heap_alloc_new w _, ?_, fun w g fr j d v hd hv => ?_⟩
              · have := (zks_ok (w := w) (g := g) (fr := fr) z2).1
                simpa using this
              · have := (zks_ok (w := w) (g := g) (fr := fr) z2).2 j d v hd (by simpa using hv)
                exact this.1
            · have hne : t' ≠ t := fun e => hxi (hNN x i _ _ hx q1 e)
              rw [hK t' hne]
              exact (hA x t' cs' hx (hlist x hxi hlx)).evo hev
          · by_cases hxi : x = i
            · by_cases hxi' : x' = i
              · subst hxi; subst hxi'
                rw [hx] at hx'; injection hx' with hx'; injection hx'
              · subst hxi
                rw [q1] at hx; injection hx with hx; injection hx with hx _; subst hx
                have hne : t'' ≠ t := fun e => hxi' (hNN x' x _ _ hx' q1 e)
                rw [hK t'' hne] at hke
                simp only [if_pos] at hke
                have := (hA x' t'' cs'' hx' (hlist x' hxi' hlx')).lt
                omega
            · have hne : t' ≠ t := fun e => hxi (hNN x i _ _ hx q1 e)
              rw [hK t' hne] at hke
              by_cases hxi' : x' = i
              · subst hxi'
                rw [q1] at hx'; injection hx' with hx'; injection hx' with hx' _; subst hx'
                simp only [if_pos] at hke
                have := (hA x t' cs' hx (hlist x hxi hlx)).lt
                omega
              · have hne' : t'' ≠ t := fun e => hxi' (hNN x' i _ _ hx' q1 e)
                rw [hK t'' hne'] at hke
                exact hKK x x' t' t'' cs' cs'' hx hx' (hlist x hxi hlx) (hlist x' hxi' hlx') hke
      · exact (hall fun x hx => mem_up hM.closed i o ho' hr x (chkChain_get hch (by omega) hil (by omega))).elim
  have hsz : l.toArray.size = l.length := by simp
  rw [hsz]
  have hfresh : ∀ i, (Array.replicate l.length false).getD i false = false := fun i => by
    rcases Nat.lt_or_ge i l.length with h | h <;> simp [h]
  refine main l.length _ g a _ (fun _ => 0) ⟨hi.bd, hi.size, hi.defers, hi.mem.drew, hi.evo.trans Evo.drew, fun t => ?_, fun m o hm hl => ?_, by simp⟩ (fun i t cs h hl => by rw [hfresh] at hl; cases hl) (fun i j t t' cs cs' h h' hl => by rw [hfresh] at hl; cases hl) (fun i _ _ => hfresh i) ?_
  · have : cur l (zs.map (zK fun _ => 0)) tm (Array.replicate l.length false) t = look tm t := by
      unfold cur
      have hf : (List.range l.length).find? (fun i => (Array.replicate l.length false).getD i false && (((zs.map (zK fun _ => 0))[i]?).map (·.1) == some t)) = none := by
        apply List.find?_eq_none.2
        intro i _
        rw [hfresh]; simp
      rw [hf]
    rw [this]
    exact (hi.tm t).drew
  · rw [hfresh] at hl; cases hl
  · have := left_eq (l := l) (listed := Array.replicate l.length false) (j := 0) (fun i hi => by rw [hfresh]; simp)
    rw [this]; omega
/-! ### as steps of a walk -/
def hasAl (l : List Oper) : Bool := l.any fun o => match o.op with
  | .alloc _ => true
  | _ => false
/-- what stands behind the first pass -/
structure AZk [Known] [Dfr] (P : Program) (l acts : List Oper) (n : Nat) (zs : List (Nat × Zy)) (tm : List (Nat × D)) (bx : List (List D)) (fr : List Fr) (ee : Nat × Nat) (Q : X → St → Prop) : Prop where
  run : AL P l.toArray acts ⟨n, zfin bx.length zs tm, bx ++ zcs zs, fr, ee⟩ Q
theorem AZk_mk [Known] [Dfr] {l acts : List Oper} {zs : List (Nat × Zy)} {bx2 : List (List D)} {tm2 : List (Nat × D)} {k0 : Nat} (hk0 : lenZ bx = some k0) (htm : nfl (zfin k0 zs tm) = some tm2) (hbx : nfb (bx ++ zcs zs) = some bx2) (k : AL P l.toArray acts ⟨n, tm2, bx2, fr, ee⟩ Q) : AZk P l acts n zs tm bx fr ee Q := by
  have e1 := lenZ_eq hk0
  have e2 := nfl_eq htm
  have e3 := nfb_eq hbx
  subst e1 e2 e3
  exact ⟨k⟩
theorem AZ_pu [Known] [Dfr] {l : List Oper} {o : Oper} {rest : List Oper} {t : Nat} {d : D} {zs : List (Nat × Zy)} {tm2 : List (Nat × D)} (hd : o.dst = some t) (ht : Nat.blt t n = true) (h2 : nfl (restr l o tm) = some tm2) (h : AL P l.toArray [o] ⟨n, tm2, bx, fr, (bx.length, fr.length)⟩ (qY o bx fr (.pu d))) (k : AZ P T l n bx fr rest ((t, d) :: tm) zs tm') : AZ P T l n bx fr (o :: rest) tm ((t, .pu d) :: zs) tm' :=
  .pu o rest t d tm zs tm' hd ht (nfl_eq h2 ▸ h) k
theorem AZ_al [Known] [Dfr] {l rest : List Oper} {t : Nat} {e : TypeId} {ty : Nat} {pos : String} {after : Array Edge} {ti : Ti} {zs : List (Nat × Zy)} (ht : Nat.blt t n = true) (hti : tl T e = some ti) (k : AZ P T l n bx fr rest ((t, .junk) :: tm) zs tm') : AZ P T l n bx fr (⟨some t, .alloc e, ty, pos, after, none⟩ :: rest) tm ((t, .al (ti.zero.map ZK.d)) :: zs) tm' :=
  .al t e ty pos after rest ti tm zs tm' ht hti k
theorem AW_drawZ [Known] [Dfr] {id : Nat} (m : Nat) {l acts : List Oper} {zs : List (Nat × Zy)} (hT : chk P T = true) (hm : P.follows .mixedOrders = true) (hch : (hasAl (l.take m) && (chkChain l m && chkZ l m)) = true) (hchk : chkDraw l = true) (hlk : chkLk n l = true) (hE : chkE l = true) (hlen : Nat.beq (l.take m).length m = true) (hacts : nfl (l.drop m) = some acts)
    (h : AZ P T l n bx fr (l.take m) tm zs tm') (k : AZk P l acts n zs tm' bx fr ee Q) :
    AW P (.region id l.toArray true) ⟨n, tm, bx, fr, ee⟩ Q := by
  simp only [Bool.and_eq_true] at hch
  exact AW_drawZ' hT hm hchk hlk hE hch.2.1 hch.2.2 (Nat.eq_of_beq_eq_true hlen) (nfl_eq hacts) h k.run
end
end Go.Av
end
/- Package eid: an item's numbers; an item's name. -/
section
open Go.RowKit Go.Pl Go.Av
namespace Go.Proofs.YtnihobjehelagaaDoor
set_option linter.unusedVariables false
set_option linter.unusedSimpArgs false
set_option maxHeartbeats 4000000
/-- is an item this number? -/
def isNum (m : Nat) (x : It) : Bool := It.beq x (.mk 0 m [] [])
/-- a list's two numbers -/
def numsV : It → Option (Nat × Nat)
  | .mk k _ _ [y0, y1] => if k = 4 then (match isNum y0.n y0 && isNum y1.n y1 with | true => some (y0.n, y1.n) | false => none) else none
  | _ => none
def numsD : Option (Nat × Nat) → D
  | some (a, b) => .tup [.sl .ext [.int .u64 (a : Int), .int .u64 (b : Int)], .bool true]
  | none => .tup [.sl .ext [], .bool false]
theorem av_isNum [Known] (x : It) (hw : wfI x) (m : Nat) (hm : m < 18446744073709551616) : AP Tryd.prog 27 [itD x, .agg [.int .i64 0, .int .u64 (m : Int), .sl .ext [], .sl .ext []]] (.bool (isNum m x)) [] :=
  av_same x hw (.mk 0 m [] []) (by simp [wfI, wfs]; omega)
theorem av_numA [Known] (n : Nat) : AP Tryd.prog 24 [.int .u64 (n : Int)] (.agg [.int .i64 0, .int .u64 (n : Int), .sl .ext [], .sl .ext []]) [] := av_num n
theorem av_nums [Known] (x : It) (hw : wfI x) : AP Tryd.prog 78 [itD x, .int .i64 2] (numsD (numsV x)) [] := by
  obtain ⟨k, n, b, l⟩ := x
  obtain ⟨_, _, _, hws⟩ := hw
  by_cases hk : k = 4
  case neg =>
    have t1 : (k != 4) = true := by simpa using hk
    have e : numsV (.mk k n b l) = none := by unfold numsV; split <;> simp_all
    rw [e]
    refine AP.ofA ?_
    refine AC_of Tryd.func78 rfl Tryd.ntmps78 rfl rfl ?_
    repeat' (first | (apply AL_move; exact rfl; exact rfl) | (apply AL_assign; exact rfl; exact rfl) | (apply AL_bin; (iterate 5 exact rfl)) | (apply AL_load1 ttok; (iterate 6 exact rfl)) | (apply AL_fieldAddr ttok; (iterate 7 exact rfl)) | (apply AL_boxZ; (iterate 5 exact rfl)) | refine AL_nil ?_ | (apply AL_guardFf; (iterate 3 exact rfl); (first | with_reducible assumption | decide +kernel)) | (apply AL_pickT; exact rfl; (first | with_reducible assumption | decide +kernel); exact rfl; exact rfl) | refine AW_region ?_ | refine AW_seq' ?_ | (apply AW_condA; exact rfl; (first | with_reducible assumption | decide +kernel)) | refine then_norm ?_ | refine AW_ret ?_ | refine then_ret ?_)
    all_goals (apply endQ []; (repeat (first | exact ResL.nil | (apply ResL.cons; first | exact .tmp _ _ rfl | (apply res_n ttok; (iterate 6 exact rfl)) | (apply res_1 ttok; (iterate 5 exact rfl))))); (iterate 4 exact rfl))
    all_goals rfl
  subst hk
  have t1 : ((4 : Int) != 4) = false := rfl
  by_cases hl : l.length = 2
  case neg =>
    have t2 : (((itEs l).length : Int) != 2) = true := by rw [itEs_len]; simp; omega
    have e : numsV (.mk 4 n b l) = none := by unfold numsV; split <;> simp_all
    rw [e]
    refine AP.ofA ?_
    refine AC_of Tryd.func78 rfl Tryd.ntmps78 rfl rfl ?_
    repeat' (first | (apply AL_move; exact rfl; exact rfl) | (apply AL_assign; exact rfl; exact rfl) | (apply AL_bin; (iterate 5 exact rfl)) | (apply AL_load1 ttok; (iterate 6 exact rfl)) | (apply AL_fieldAddr ttok; (iterate 7 exact rfl)) | (apply AL_boxZ; (iterate 5 exact rfl)) | refine AL_nil ?_ | (apply AL_guardT; (iterate 3 exact rfl); (first | with_reducible assumption | decide +kernel)) | (apply AL_pickF; exact rfl; (first | with_reducible assumption | decide +kernel); exact rfl; exact rfl) | refine AW_region ?_ | refine AW_seq' ?_ | (apply AW_condA; exact rfl; (first | with_reducible assumption | decide +kernel)) | refine then_norm ?_ | refine AW_ret ?_ | refine then_ret ?_ | (apply AL_len ttok; (iterate 4 exact rfl)))
    all_goals (apply endQ []; (repeat (first | exact ResL.nil | (apply ResL.cons; first | exact .tmp _ _ rfl | (apply res_n ttok; (iterate 6 exact rfl)) | (apply res_1 ttok; (iterate 5 exact rfl))))); (iterate 4 exact rfl))
    all_goals rfl
  match l, hl with
  | [⟨k0, n0, b0, l0⟩, ⟨k1, n1, b1, l1⟩], _ =>
    have hU := uniI [It.mk k0 n0 b0 l0, It.mk k1 n1 b1 l1]
    obtain ⟨hw0, hw1, _⟩ := hws
    have m0 : n0 < 18446744073709551616 := hw0.1
    have m1 : n1 < 18446744073709551616 := hw1.1
    have h0 := av_isNum _ hw0 n0 m0
    have h1 := av_isNum _ hw1 n1 m1
    have a0 := av_numA n0
    have a1 := av_numA n1
    unfold numsV
    simp only [It.n, if_true]
    have t2 : (((itEs [It.mk k0 n0 b0 l0, It.mk k1 n1 b1 l1]).length : Int) != 2) = false := rfl
    have t3 : decide ((0 : Int) < ((itEs [It.mk k0 n0 b0 l0, It.mk k1 n1 b1 l1]).length : Int)) = true := rfl
    have t4 : decide ((IntKind.i64.wrap (0 + 1) : Int) < ((itEs [It.mk k0 n0 b0 l0, It.mk k1 n1 b1 l1]).length : Int)) = true := rfl
    have t5 : decide ((IntKind.i64.wrap (IntKind.i64.wrap (0 + 1) + 1) : Int) < ((itEs [It.mk k0 n0 b0 l0, It.mk k1 n1 b1 l1]).length : Int)) = false := rfl
    have hv0 : (itEs [It.mk k0 n0 b0 l0, It.mk k1 n1 b1 l1])[Int.toNat 0]? = some (.agg [.int .i64 k0, .int .u64 (n0 : Int), .sl (b0.map E.byte), .sl (itEs l0)]) := rfl
    cases c0 : isNum n0 (.mk k0 n0 b0 l0) with
    | false =>
      rw [c0] at h0
      refine AP.ofA ?_
      refine AC_of Tryd.func78 rfl Tryd.ntmps78 rfl rfl ?_
      repeat' (first | (apply AL_callPw (h0); kernel_rfl; (iterate 4 exact rfl)) | (apply AL_callPw (a0); kernel_rfl; (iterate 4 exact rfl)) | refine AW_loopN 70 ?_ | refine AN_succ ?_ | (apply AL_move; exact rfl; exact rfl) | (apply AL_assign; exact rfl; exact rfl) | (apply AL_bin; (iterate 5 exact rfl)) | (apply AL_load1 ttok; (iterate 6 exact rfl)) | (apply AL_loadn ttok; (iterate 7 exact rfl)) | (apply AL_fieldAddr ttok; (iterate 7 exact rfl)) | (apply AL_boxZ; (iterate 5 exact rfl)) | (apply AL_store ttok; (iterate 8 exact rfl)) | (apply AL_not; exact rfl; exact rfl) | refine AL_nil ?_ | (apply AL_guardT; (iterate 3 exact rfl); (first | with_reducible assumption | decide +kernel)) | (apply AL_pickF; exact rfl; (first | with_reducible assumption | decide +kernel); exact rfl; exact rfl) | refine AW_region ?_ | refine AW_seq' ?_ | (apply AW_condA; exact rfl; (first | with_reducible assumption | decide +kernel)) | (apply AW_condB; exact rfl; (first | with_reducible assumption | decide +kernel)) | refine then_norm ?_ | refine AW_block ?_ | refine AW_ret ?_ | refine then_ret ?_ | refine blk_ret ?_ | (apply AL_len ttok; (iterate 4 exact rfl)) | (apply AL_eloadn ttok; (iterate 6 exact rfl)) | (apply AL_allocZ ttok; (iterate 4 exact rfl)) | (apply AW_drawE 4 hmix; (decide +kernel); (kernel_rfl); (kernel_rfl); (kernel_rfl); exact rfl; exact rfl) | (apply AE_consZ; (iterate 4 exact rfl)) | exact AE.nil _ _ _ _ | (apply AEk_puT; exact rfl) | (apply AOt_mk; exact rfl; exact rfl; (decide +kernel); exact rfl) | (apply AO_puT; exact rfl) | exact AO.nil _ _ _ | (apply AOs_skip; (decide +kernel)) | exact AOs.nil | exact qY_ok rfl rfl | refine AW_skip ?_ | (apply AL_idx ttok; (iterate 6 exact rfl); (first | with_reducible assumption | decide +kernel | exact Int.natCast_nonneg _ | (guard_target = (0:Int) ≤ (OfNat.ofNat _ : Int); decide) | rotate_left); (first | with_reducible assumption | decide +kernel | exact rfl); (first | exact uniB_ok rfl | with_reducible assumption | decide +kernel | rotate_left)))
      all_goals (apply endQ []; (repeat (first | exact ResL.nil | (apply ResL.cons; first | exact .tmp _ _ rfl | (apply res_n ttok; (iterate 6 exact rfl)) | (apply res_1 ttok; (iterate 5 exact rfl))))); (iterate 4 exact rfl))
      all_goals rfl
    | true =>
      rw [c0] at h0
      cases c1 : isNum n1 (.mk k1 n1 b1 l1) with
      | false =>
        rw [c1] at h1
        refine AP.ofA ?_
        refine AC_of Tryd.func78 rfl Tryd.ntmps78 rfl rfl ?_
        repeat' (first | (apply AL_callPw (h0); kernel_rfl; (iterate 4 exact rfl)) | (apply AL_callPw (a0); kernel_rfl; (iterate 4 exact rfl)) | (apply AL_callPw (h1); kernel_rfl; (iterate 4 exact rfl)) | (apply AL_callPw (a1); kernel_rfl; (iterate 4 exact rfl)) | refine AW_loopN 70 ?_ | refine AN_succ ?_ | (apply AL_append_nilZ ttok; (iterate 6 exact rfl); exact uniB_ok rfl; exact List.cons_ne_nil _ _; exact rfl; decide +kernel; decide +kernel; (iterate 3 exact rfl)) | (apply AL_move; exact rfl; exact rfl) | (apply AL_assign; exact rfl; exact rfl) | (apply AL_bin; (iterate 5 exact rfl)) | (apply AL_load1 ttok; (iterate 6 exact rfl)) | (apply AL_loadn ttok; (iterate 7 exact rfl)) | (apply AL_fieldAddr ttok; (iterate 7 exact rfl)) | (apply AL_boxZ; (iterate 5 exact rfl)) | (apply AL_store ttok; (iterate 8 exact rfl)) | (apply AL_not; exact rfl; exact rfl) | refine AL_nil ?_ | (apply AL_guardT; (iterate 3 exact rfl); (first | with_reducible assumption | decide +kernel)) | (apply AL_pickF; exact rfl; (first | with_reducible assumption | decide +kernel); exact rfl; exact rfl) | refine AW_region ?_ | refine AW_seq' ?_ | (apply AW_condA; exact rfl; (first | with_reducible assumption | decide +kernel)) | (apply AW_condB; exact rfl; (first | with_reducible assumption | decide +kernel)) | refine then_norm ?_ | refine AW_block ?_ | refine AW_ret ?_ | refine then_ret ?_ | refine blk_ret ?_ | (apply AL_len ttok; (iterate 4 exact rfl)) | (apply AL_eloadn ttok; (iterate 6 exact rfl)) | (apply AL_allocZ ttok; (iterate 4 exact rfl)) | (apply AL_bsZ ttok; (iterate 12 exact rfl)) | (apply AW_drawE 4 hmix; (decide +kernel); (kernel_rfl); (kernel_rfl); (kernel_rfl); exact rfl; exact rfl) | (apply AE_consZ; (iterate 4 exact rfl)) | exact AE.nil _ _ _ _ | (apply AEk_puT; exact rfl) | (apply AOt_mk; exact rfl; exact rfl; (decide +kernel); exact rfl) | (apply AO_puT; exact rfl) | exact AO.nil _ _ _ | (apply AOs_skip; (decide +kernel)) | exact AOs.nil | exact qY_ok rfl rfl | refine AW_skip ?_ | (apply AL_idx ttok; (iterate 6 exact rfl); (first | with_reducible assumption | decide +kernel | exact Int.natCast_nonneg _ | (guard_target = (0:Int) ≤ (OfNat.ofNat _ : Int); decide) | rotate_left); (first | with_reducible assumption | decide +kernel | exact rfl); (first | exact uniB_ok rfl | with_reducible assumption | decide +kernel | rotate_left)))
        all_goals (apply endQ []; (repeat (first | exact ResL.nil | (apply ResL.cons; first | exact .tmp _ _ rfl | (apply res_n ttok; (iterate 6 exact rfl)) | (apply res_1 ttok; (iterate 5 exact rfl))))); (iterate 4 exact rfl))
        all_goals rfl
      | true =>
        rw [c1] at h1
        refine AP.ofA ?_
        refine AC_of Tryd.func78 rfl Tryd.ntmps78 rfl rfl ?_
        repeat' (first | (apply AL_callPw (h0); kernel_rfl; (iterate 4 exact rfl)) | (apply AL_callPw (a0); kernel_rfl; (iterate 4 exact rfl)) | (apply AL_callPw (h1); kernel_rfl; (iterate 4 exact rfl)) | (apply AL_callPw (a1); kernel_rfl; (iterate 4 exact rfl)) | refine AW_loopN 70 ?_ | refine AN_succ ?_ | (apply AL_appendZ ttok; (iterate 11 exact rfl); exact uniB_ok rfl; exact uniB_ok rfl; exact List.cons_ne_nil _ _; decide +kernel; decide +kernel; exact rfl; exact rfl) | (apply AL_append_nilZ ttok; (iterate 6 exact rfl); exact uniB_ok rfl; exact List.cons_ne_nil _ _; exact rfl; decide +kernel; decide +kernel; (iterate 3 exact rfl)) | (apply AL_move; exact rfl; exact rfl) | (apply AL_assign; exact rfl; exact rfl) | (apply AL_bin; (iterate 5 exact rfl)) | (apply AL_load1 ttok; (iterate 6 exact rfl)) | (apply AL_loadn ttok; (iterate 7 exact rfl)) | (apply AL_fieldAddr ttok; (iterate 7 exact rfl)) | (apply AL_boxZ; (iterate 5 exact rfl)) | (apply AL_store ttok; (iterate 8 exact rfl)) | (apply AL_not; exact rfl; exact rfl) | refine AL_nil ?_ | (apply AL_guardT; (iterate 3 exact rfl); (first | with_reducible assumption | decide +kernel)) | (apply AL_pickF; exact rfl; (first | with_reducible assumption | decide +kernel); exact rfl; exact rfl) | refine AW_region ?_ | refine AW_seq' ?_ | (apply AW_condA; exact rfl; (first | with_reducible assumption | decide +kernel)) | (apply AW_condB; exact rfl; (first | with_reducible assumption | decide +kernel)) | refine then_norm ?_ | refine AW_block ?_ | refine AW_exit ?_ | refine AW_ret ?_ | (apply AL_len ttok; (iterate 4 exact rfl)) | (apply AL_eloadn ttok; (iterate 6 exact rfl)) | (apply AL_allocZ ttok; (iterate 4 exact rfl)) | (apply AL_bsZ ttok; (iterate 12 exact rfl)) | (apply AW_drawE 4 hmix; (decide +kernel); (kernel_rfl); (kernel_rfl); (kernel_rfl); exact rfl; exact rfl) | (apply AE_consZ; (iterate 4 exact rfl)) | exact AE.nil _ _ _ _ | (apply AEk_puT; exact rfl) | (apply AOt_mk; exact rfl; exact rfl; (decide +kernel); exact rfl) | (apply AO_puT; exact rfl) | exact AO.nil _ _ _ | (apply AOs_skip; (decide +kernel)) | exact AOs.nil | exact qY_ok rfl rfl | refine AW_skip ?_ | (apply AL_idx ttok; (iterate 6 exact rfl); (first | with_reducible assumption | decide +kernel | exact Int.natCast_nonneg _ | (guard_target = (0:Int) ≤ (OfNat.ofNat _ : Int); decide) | rotate_left); (first | with_reducible assumption | decide +kernel | exact rfl); (first | exact uniB_ok rfl | with_reducible assumption | decide +kernel | rotate_left)))
        all_goals (apply endQ []; (repeat (first | exact ResL.nil | (apply ResL.cons; first | exact .tmp _ _ rfl | (apply res_n ttok; (iterate 6 exact rfl)) | (apply res_1 ttok; (iterate 5 exact rfl))))); (iterate 4 exact rfl))
        all_goals rfl
end Go.Proofs.YtnihobjehelagaaDoor
end
/- Regions that draw their order, in which new variables come in any order, and what is laid into them comes when it can. -/
section
open Go.RowKit Go.Pl
namespace Go.Av
set_option linter.unusedSimpArgs false
set_option linter.unusedVariables false
/-- an operation ahead of the chain leaves a datum, or is a new variable with these cells, or lays these cells into a new variable -/
inductive Wy where
  | pu (d : D)
  | al (cs : List D)
  | st (t : Nat) (cs : List D)
def wK (K : Nat → Nat) (p : Nat × Wy) : Nat × D := (p.1, match p.2 with | .pu d => d | .al _ => .gptr (K p.1) 0 | .st _ _ => .junk)
def wJ (p : Nat × Wy) : Nat × D := (p.1, match p.2 with | .pu d => d | .al _ => .junk | .st _ _ => .junk)
def wfin : Nat → List (Nat × Wy) → List (Nat × D) → List (Nat × D)
  | _, [], tm => tm
  | m, (_, .pu _) :: zs, tm => wfin m zs tm
  | m, (t, .al _) :: zs, tm => wfin (m + 1) zs ((t, .ptr m 0) :: tm)
  | m, (_, .st _ _) :: zs, tm => wfin m zs tm
/-- what is laid into a new variable, as far as p tells that it is done -/
def stO (p : Nat → Bool) : Nat → List (Nat × Wy) → Nat → Option (List D)
  | _, [], _ => none
  | i, (_, .st t cs) :: zs, x => match Nat.beq t x && p i with
    | true => some cs
    | false => stO p (i + 1) zs x
  | i, (_, .pu _) :: zs, x => stO p (i + 1) zs x
  | i, (_, .al _) :: zs, x => stO p (i + 1) zs x
theorem stO_congr {p q : Nat → Bool} {x : Nat} : ∀ {zs : List (Nat × Wy)} {i : Nat}, (∀ j u cs, zs[j]? = some (u, Wy.st x cs) → p (i + j) = q (i + j)) → stO p i zs x = stO q i zs x
  | [], i, h => rfl
  | (u, y) :: zs, i, h => by
    have h2 := stO_congr (p := p) (q := q) (x := x) (zs := zs) (i := i + 1) fun j u cs hj => by
      have := h (j + 1) u cs (by simpa using hj)
      rw [show i + 1 + j = i + (j + 1) by omega]; exact this
    cases y with
    | pu d => simp only [stO]; exact h2
    | al cs => simp only [stO]; exact h2
    | st t cs =>
      simp only [stO]
      cases hb : Nat.beq t x with
      | false => simp only [Bool.false_and]; exact h2
      | true =>
        have e := Nat.eq_of_beq_eq_true hb
        subst e
        have := h 0 u cs (by simp)
        simp only [Nat.add_zero] at this
        rw [this, h2]
theorem stO_none {p : Nat → Bool} {x : Nat} {zs : List (Nat × Wy)} {i : Nat} (h : ∀ j u cs, zs[j]? = some (u, Wy.st x cs) → p (i + j) = false) : stO p i zs x = none := by
  rw [stO_congr (q := fun _ => false) h]
  clear h
  induction zs generalizing i with
  | nil => rfl
  | cons z zs ih =>
    obtain ⟨u, y⟩ := z
    cases y <;> simp only [stO, Bool.and_false] <;> exact ih
theorem stO_some {p : Nat → Bool} {x : Nat} {cs : List D} : ∀ {zs : List (Nat × Wy)} {i j u : Nat}, zs[j]? = some (u, Wy.st x cs) → p (i + j) = true → (∀ j' u' cs', zs[j']? = some (u', Wy.st x cs') → j' = j) → stO p i zs x = some cs
  | [], i, j, u, h, _, _ => by simp at h
  | (u0, y) :: zs, i, 0, u, h, hp, hu => by
    simp at h
    obtain ⟨rfl, rfl⟩ := h
    simp only [stO, Nat.beq_refl, Bool.true_and]
    rw [show p i = true from hp]
  | (u0, y) :: zs, i, j + 1, u, h, hp, hu => by
    have ih := stO_some (p := p) (x := x) (cs := cs) (zs := zs) (i := i + 1) (j := j) (u := u) (by simpa using h) (by rw [show i + 1 + j = i + (j + 1) by omega]; exact hp) fun j' u' cs' hj => by
      have := hu (j' + 1) u' cs' (by simpa using hj); omega
    cases y with
    | pu d => simp only [stO]; exact ih
    | al cs => simp only [stO]; exact ih
    | st t cs' =>
      simp only [stO]
      have hb : Nat.beq t x = false := by
        cases hb : Nat.beq t x with
        | false => rfl
        | true =>
          have e := Nat.eq_of_beq_eq_true hb
          subst e
          have := hu 0 u0 cs' (by simp)
          omega
      rw [hb, Bool.false_and]
      exact ih
def wcs (all : List (Nat × Wy)) : List (Nat × Wy) → List (List D)
  | [] => []
  | (_, .pu _) :: zs => wcs all zs
  | (t, .al cs) :: zs => ((stO (fun _ => true) 0 all t).getD cs) :: wcs all zs
  | (_, .st _ _) :: zs => wcs all zs
def isAlO (o : Oper) : Bool := match o.op with
  | .alloc _ => true
  | _ => false
def isStO (o : Oper) : Bool := match o.op with
  | .store _ _ _ => true
  | _ => false
/-- no pure operation ahead of the chain looks at a new variable -/
def chkW (l : List Oper) (m : Nat) : Bool := (l.take m).all fun o => match o.op, o.dst with
  | .alloc _, some t => (l.take m).all fun o' => !(looks l o').contains t || isStO o'
  | _, _ => true
/-- what is laid is laid into a new variable of its size, once -/
def chkS (l : List Oper) (m : Nat) : Bool := (List.range m).all fun i => match l[i]? with
  | some o => (match o.op with
    | .store e (.tmp ts) y => (looks l o).contains ts && ((match y with | .tmp tv => (looks l o).contains tv | _ => true) &&
      (((List.range i).any fun j => match l[j]? with
        | some oj => (match oj.op, oj.dst with | .alloc e', some t => Nat.beq t ts && Nat.beq e e' | _, _ => false)
        | none => false) &&
      (List.range m).all fun j => Nat.beq j i || (match l[j]? with
        | some oj => (match oj.op with | .store _ (.tmp ts') _ => !Nat.beq ts' ts | _ => true)
        | none => true)))
    | _ => true)
  | none => true
section
variable {P : Program} {T : Tab} {Q : X → St → Prop} {n : Nat} {ee : Nat × Nat} {tm tm' : List (Nat × D)} {bx : List (List D)} {fr : List Fr} {b0 : Bs} {g g' : G} {w w' : World} {a : Act}
inductive AV [Known] [Dfr] (P : Program) (T : Tab) (l : List Oper) (n : Nat) (bx : List (List D)) (fr : List Fr) : Nat → List Oper → List (Nat × D) → List (Nat × Wy) → List (Nat × D) → Prop
  | nil (i : Nat) (tm : List (Nat × D)) : AV P T l n bx fr i [] tm [] tm
  | pu (i : Nat) (o : Oper) (rest : List Oper) (t : Nat) (d : D) (tm : List (Nat × D)) (zs : List (Nat × Wy)) (tm' : List (Nat × D)) (hd : o.dst = some t) (hna : isAlO o = false) (ht : Nat.blt t n = true) (h : AL P l.toArray [o] ⟨n, restr l o tm, bx, fr, (bx.length, fr.length)⟩ (qY o bx fr (.pu d))) (k : AV P T l n bx fr (i + 1) rest ((t, d) :: tm) zs tm') : AV P T l n bx fr i (o :: rest) tm ((t, .pu d) :: zs) tm'
  | al (i t : Nat) (e : TypeId) (ty : Nat) (pos : String) (after : Array Edge) (rest : List Oper) (ti : Ti) (tm : List (Nat × D)) (zs : List (Nat × Wy)) (tm' : List (Nat × D)) (ht : Nat.blt t n = true) (hti : tl T e = some ti) (k : AV P T l n bx fr (i + 1) rest ((t, .junk) :: tm) zs tm') : AV P T l n bx fr i (⟨some t, .alloc e, ty, pos, after, none⟩ :: rest) tm ((t, .al (ti.zero.map ZK.d)) :: zs) tm'
  | st (i ts : Nat) (e : TypeId) (y : Operand) (ty : Nat) (pos : String) (after : Array Edge) (rest : List Oper) (ti : Ti) (d : D) (tm : List (Nat × D)) (zs : List (Nat × Wy)) (tm' : List (Nat × D)) (hy : nf (ev tm y) = some d) (ho : D.ones d.cellsOf = true) (hti : tl T e = some ti) (hs : Nat.beq d.cellsOf.length ti.size = true) (k : AV P T l n bx fr (i + 1) rest ((n + i, .junk) :: tm) zs tm') : AV P T l n bx fr i (⟨none, .store e (.tmp ts) y, ty, pos, after, none⟩ :: rest) tm ((n + i, .st ts d.cellsOf) :: zs) tm'
/-- what is known of an operation -/
def Wof [Known] [Dfr] (P : Program) (T : Tab) (l : List Oper) (n : Nat) (bx : List (List D)) (fr : List Fr) (A : List (Nat × D)) (o : Oper) : Wy → Prop
  | .pu d => (∃ t, o.dst = some t) ∧ isAlO o = false ∧ AL P l.toArray [o] ⟨n, restr l o A, bx, fr, (bx.length, fr.length)⟩ (qY o bx fr (.pu d))
  | .al cs => ∃ (t : Nat) (e : TypeId) (ty : Nat) (pos : String) (after : Array Edge) (ti : Ti), o = ⟨some t, .alloc e, ty, pos, after, none⟩ ∧ tl T e = some ti ∧ cs = ti.zero.map ZK.d
  | .st ts cs => ∃ (e : TypeId) (y : Operand) (ty : Nat) (pos : String) (after : Array Edge) (ti : Ti) (d : D), o = ⟨none, .store e (.tmp ts) y, ty, pos, after, none⟩ ∧ nf (ev A y) = some d ∧ D.ones d.cellsOf = true ∧ tl T e = some ti ∧ d.cellsOf.length = ti.size ∧ cs = d.cellsOf
theorem AV.steps [Known] [Dfr] {l rest : List Oper} {zs : List (Nat × Wy)} {i0 : Nat} (h : AV P T l n bx fr i0 rest tm zs tm') : zs.length = rest.length ∧ tm' = (zs.map wJ).reverse ++ tm ∧
    ∀ (i : Nat) (o : Oper), rest[i]? = some o → ∃ y, zs[i]? = some (oslot n (i0 + i) o, y) ∧ dstOk n o = true ∧ Wof P T l n bx fr (((zs.take i).map wJ).reverse ++ tm) o y := by
  induction h with
  | nil i tm => exact ⟨rfl, rfl, fun i o h => by simp at h⟩
  | pu i o rest t d tm zs tm' hd hna ht h k ih =>
    obtain ⟨h1, h2, h3⟩ := ih
    refine ⟨by simp [h1], by rw [h2]; simp [wJ], fun j o' ho => ?_⟩
    cases j with
    | zero =>
      simp at ho; subst ho
      exact ⟨.pu d, by simp [oslot, hd], by simp only [dstOk, hd, ht], ⟨t, hd⟩, hna, by simpa using h⟩
    | succ j =>
      simp at ho
      obtain ⟨y, q1, q2, q3⟩ := h3 j o' ho
      refine ⟨y, by rw [show i + (j + 1) = i + 1 + j by omega]; simpa using q1, q2, ?_⟩
      have e : ((((t, Wy.pu d) :: zs).take (j + 1)).map wJ).reverse ++ tm = ((zs.take j).map wJ).reverse ++ ((t, d) :: tm) := by simp [wJ]
      rw [e]; exact q3
  | al i t e ty pos after rest ti tm zs tm' ht hti k ih =>
    obtain ⟨h1, h2, h3⟩ := ih
    refine ⟨by simp [h1], by rw [h2]; simp [wJ], fun j o' ho => ?_⟩
    cases j with
    | zero =>
      simp at ho; subst ho
      exact ⟨.al _, by simp [oslot], by simp only [dstOk, ht], t, e, ty, pos, after, ti, rfl, hti, rfl⟩
    | succ j =>
      simp at ho
      obtain ⟨y, q1, q2, q3⟩ := h3 j o' ho
      refine ⟨y, by rw [show i + (j + 1) = i + 1 + j by omega]; simpa using q1, q2, ?_⟩
      have e : ((((t, Wy.al (ti.zero.map ZK.d)) :: zs).take (j + 1)).map wJ).reverse ++ tm = ((zs.take j).map wJ).reverse ++ ((t, .junk) :: tm) := by simp [wJ]
      rw [e]; exact q3
  | st i ts e y ty pos after rest ti d tm zs tm' hy ho hti hs k ih =>
    obtain ⟨h1, h2, h3⟩ := ih
    refine ⟨by simp [h1], by rw [h2]; simp [wJ], fun j o' hoo => ?_⟩
    cases j with
    | zero =>
      simp at hoo; subst hoo
      exact ⟨.st ts d.cellsOf, by simp [oslot], rfl, e, y, ty, pos, after, ti, d, rfl, by simpa using hy, ho, hti, Nat.eq_of_beq_eq_true hs, rfl⟩
    | succ j =>
      simp at hoo
      obtain ⟨y', q1, q2, q3⟩ := h3 j o' hoo
      refine ⟨y', by rw [show i + (j + 1) = i + 1 + j by omega]; simpa using q1, q2, ?_⟩
      have e : ((((n + i, Wy.st ts d.cellsOf) :: zs).take (j + 1)).map wJ).reverse ++ tm = ((zs.take j).map wJ).reverse ++ ((n + i, .junk) :: tm) := by simp [wJ]
      rw [e]; exact q3
theorem restr_ws {l : List Oper} {o : Oper} {K : Nat → Nat} : ∀ {zs : List (Nat × Wy)} {tm : List (Nat × D)}, (∀ t cs, (t, Wy.al cs) ∈ zs → (looks l o).contains t = false) → restr l o ((zs.map (wK K)).reverse ++ tm) = restr l o ((zs.map wJ).reverse ++ tm) := by
  intro zs tm h
  rw [restr_filter, restr_filter, List.filter_append, List.filter_append, List.filter_reverse, List.filter_reverse]
  congr 2
  induction zs with
  | nil => rfl
  | cons p zs ih =>
    obtain ⟨t, y⟩ := p
    rw [List.map_cons, List.map_cons, List.filter_cons, List.filter_cons, ih fun t cs hm => h t cs (List.mem_cons_of_mem _ hm)]
    cases y with
    | pu d => rfl
    | st t' cs => rfl
    | al cs =>
      have := h t cs (List.mem_cons_self ..)
      simp only [wK, wJ, this]
      rfl
theorem look_wJ {K : Nat → Nat} {x : Nat} {tm : List (Nat × D)} : ∀ (zs : List (Nat × Wy)), look (zs.map wJ ++ tm) x = look (zs.map (wK K) ++ tm) x ∨ look (zs.map wJ ++ tm) x = .junk
  | [] => .inl rfl
  | (t, y) :: zs => by
    rw [List.map_cons, List.map_cons, List.cons_append, List.cons_append]
    cases hb : Nat.beq t x with
    | true =>
      cases y with
      | pu d => left; simp only [wJ, wK, look, hb]
      | al cs => right; simp only [wJ, look, hb]
      | st t' cs => right; simp only [wJ, look, hb]
    | false =>
      have h1 : look (wJ (t, y) :: (zs.map wJ ++ tm)) x = look (zs.map wJ ++ tm) x := by simp only [wJ, look, hb]
      have h2 : look (wK K (t, y) :: (zs.map (wK K) ++ tm)) x = look (zs.map (wK K) ++ tm) x := by simp only [wK, look, hb]
      rw [h1, h2]
      exact look_wJ zs
/-- a block that is nobody's yet, and what its cells hold -/
def Goo (b0 : Bs) (g : G) (fr : List Fr) (w : World) (k : Nat) (cs : List D) : Prop := b0.w.heap.size ≤ k ∧ ¬ M g k ∧ (∀ o, ¬ g.C k o) ∧ ∃ vs ty, w.heap[k]? = some (.cells vs ty (0, 0)) ∧ vs.size = cs.length ∧ ∀ (j : Nat) (d : D) (v : Value), cs[j]? = some d → vs[j]? = some v → V w g fr d v
theorem Goo.lt {k : Nat} {cs : List D} (h : Goo b0 g fr w k cs) : k < w.heap.size := by
  obtain ⟨_, _, _, vs, ty, h1, _⟩ := h
  exact (Array.getElem?_eq_some_iff.1 h1).1
theorem Goo.evo {k : Nat} {cs : List D} {fr' : List Fr} (h : Goo b0 g fr w k cs) (e : Evo ⟨g, fr, w⟩ ⟨g', fr', w'⟩) : Goo b0 g' fr' w' k cs := by
  have hlt := h.lt
  obtain ⟨h1, h2, h3, vs, ty, h4, h5, h6⟩ := h
  refine ⟨h1, fun hm => ?_, fun o hc => ?_, vs, ty, (e.block k hlt h2).trans h4, h5, fun j d v hd hv => (h6 j d v hd hv).evo e⟩
  · rcases e.own hm with hm | hm
    · exact h2 hm
    · exact absurd hlt (Nat.not_lt.2 hm)
  · rcases e.newC k o hc with hc | hc | hc
    · exact h3 o hc
    · exact absurd hlt (Nat.not_lt.2 hc)
    · exact h2 hc
theorem Inv.addW [Known] [Dfr] {k t : Nat} {cs : List D} (hi : Inv b0 ⟨n, tm, bx, fr, ee⟩ g a w) (hG : Goo b0 g fr w k cs) (ht : a.tmps.getD t undef = .pointer (some ⟨k, 0, none⟩)) : Inv b0 ⟨n, (t, .ptr bx.length 0) :: tm, bx ++ [cs], fr, ee⟩ ⟨g.C, g.ρ ++ [k], g.τ⟩ a w := by
  obtain ⟨h1, h2, h3, vs, ty, h4, h5, h6⟩ := hG
  have hm := hi.mem
  have hρ : ∀ (i b : Nat), g.ρ[i]? = some b → (g.ρ ++ [k])[i]? = some b := fun i b h => (List.getElem?_append_left (List.getElem?_eq_some_iff.1 h).1).trans h
  have hV : ∀ {d : D} {v : Value}, V w g fr d v → V w ⟨g.C, g.ρ ++ [k], g.τ⟩ fr d v := fun h => h.mono (fun _ _ h => h) (fun _ _ _ => rfl) hρ (TokOn.refl g fr)
  have hget : ∀ (i b : Nat), (g.ρ ++ [k])[i]? = some b → g.ρ[i]? = some b ∨ (i = g.ρ.length ∧ b = k) := fun i b h => by
    rcases Nat.lt_or_ge i g.ρ.length with hlt | hge
    · rw [List.getElem?_append_left hlt] at h; exact .inl h
    · rw [List.getElem?_append_right hge] at h
      have h0 : i - g.ρ.length = 0 := by have := (List.getElem?_eq_some_iff.1 h).1; simp at this; omega
      simp [h0] at h
      exact .inr ⟨by omega, h.symm⟩
  refine ⟨hi.size, hi.defers, ⟨?_, ?_, ?_, ?_, hm.tl, ?_, hm.tN, ?_, hm.Clt, hm.gl⟩, fun x => ?_, ⟨hi.evo.os, hi.evo.tape, hi.evo.output, hi.evo.size, hi.evo.block, hi.evo.C, hi.evo.cell, hi.evo.newC, fun i b h => hρ i b (hi.evo.ρp i b h), fun b h => ?_, hi.evo.τn, hi.evo.tok⟩, hi.bd⟩
  · simp [hm.bl]
  · intro i b cs' e1 e2
    rcases hget i b e1 with e3 | ⟨rfl, rfl⟩
    · have hlt : i < bx.length := by rw [← hm.bl]; exact (List.getElem?_eq_some_iff.1 e3).1
      rw [List.getElem?_append_left hlt] at e2
      obtain ⟨us, ty', k1, k2, k3⟩ := hm.bat i b cs' e3 e2
      exact ⟨us, ty', k1, k2, fun j d v hd hv => hV (k3 j d v hd hv)⟩
    · rw [List.getElem?_append_right (by rw [hm.bl]; exact Nat.le_refl _), hm.bl] at e2
      simp at e2; subst e2
      exact ⟨vs, ty, h4, h5, fun j d v hd hv => hV (h6 j d v hd hv)⟩
  · intro b o hb hC
    rcases List.mem_append.1 hb with h | h
    · exact hm.bC b o h hC
    · simp at h; subst h
      exact h3 o hC
  · intro i j b e1 e2
    have cross : ∀ i : Nat, g.ρ[i]? = some b → b = k → False := fun i e3 e => by
      subst e; exact h2 (.inl (List.mem_of_getElem? e3))
    rcases hget i b e1 with e3 | ⟨e3, e3'⟩ <;> rcases hget j b e2 with e4 | ⟨e4, e4'⟩
    · exact hm.bN i j b e3 e4
    · exact (cross i e3 e4').elim
    · exact (cross j e4 e3').elim
    · omega
  · intro i b c f e1 e2
    have hT := hm.tat i b c f e1 e2
    exact ⟨hT.row, hT.le, hT.max, hT.pos, hT.far⟩
  · intro b c hb hr
    rcases List.mem_append.1 hr with h | h
    · exact hm.tρ b c hb h
    · simp at h; subst h
      exact h2 (.inr ⟨c, hb⟩)
  · cases hb : Nat.beq t x with
    | true =>
      have e := Nat.eq_of_beq_eq_true hb
      subst e
      simp only [look, hb]
      rw [ht]
      exact .ptr _ _ _ (by rw [List.getElem?_append_right (by rw [hm.bl]; exact Nat.le_refl _), hm.bl]; simp)
    | false =>
      simp only [look, hb]
      exact hV (hi.tm x)
  · rcases List.mem_append.1 h with h | h
    · exact hi.evo.ρn b h
    · simp at h; subst h; exact .inr h1
theorem wfold [Known] [Dfr] {K : Nat → Nat} {all : List (Nat × Wy)} : ∀ (zs : List (Nat × Wy)) (tm : List (Nat × D)) (bx : List (List D)) (g : G), Inv b0 ⟨n, tm, bx, fr, ee⟩ g a w → (∀ t cs, (t, Wy.al cs) ∈ zs → a.tmps.getD t undef = .pointer (some ⟨K t, 0, none⟩) ∧ Goo b0 g fr w (K t) ((stO (fun _ => true) 0 all t).getD cs)) → zs.Pairwise (fun p q => p.1 ≠ q.1) → (∀ t cs t' cs', (t, Wy.al cs) ∈ zs → (t', Wy.al cs') ∈ zs → K t = K t' → t = t') → ∃ g', Inv b0 ⟨n, wfin bx.length zs tm, bx ++ wcs all zs, fr, ee⟩ g' a w
  | [], tm, bx, g, hi, _, _, _ => ⟨g, by rw [wfin, wcs, List.append_nil]; exact hi⟩
  | (t, .pu d) :: zs, tm, bx, g, hi, hA, hN, hK => by
    rw [wfin, wcs]
    exact wfold zs tm bx g hi (fun t cs h => hA t cs (List.mem_cons_of_mem _ h)) (List.pairwise_cons.1 hN).2 (fun t cs t' cs' h h' => hK t cs t' cs' (List.mem_cons_of_mem _ h) (List.mem_cons_of_mem _ h'))
  | (t, .st x d) :: zs, tm, bx, g, hi, hA, hN, hK => by
    rw [wfin, wcs]
    exact wfold zs tm bx g hi (fun t cs h => hA t cs (List.mem_cons_of_mem _ h)) (List.pairwise_cons.1 hN).2 (fun t cs t' cs' h h' => hK t cs t' cs' (List.mem_cons_of_mem _ h) (List.mem_cons_of_mem _ h'))
  | (t, .al cs) :: zs, tm, bx, g, hi, hA, hN, hK => by
    rw [wfin, wcs]
    obtain ⟨h1, h2⟩ := hA t cs (List.mem_cons_self ..)
    have h3 := hi.addW h2 h1
    have hlen : (bx ++ [(stO (fun _ => true) 0 all t).getD cs]).length = bx.length + 1 := by simp
    have hρ : ∀ (i b : Nat), g.ρ[i]? = some b → (g.ρ ++ [K t])[i]? = some b := fun i b h => (List.getElem?_append_left (List.getElem?_eq_some_iff.1 h).1).trans h
    obtain ⟨g', h4⟩ := wfold (all := all) zs _ (bx ++ [(stO (fun _ => true) 0 all t).getD cs]) _ h3 (fun t' cs' h => by
      obtain ⟨q1, q2, q3, q4, vs, ty, q5, q6, q7⟩ := hA t' cs' (List.mem_cons_of_mem _ h)
      refine ⟨q1, q2, fun hm => ?_, q4, vs, ty, q5, q6, fun j d v hd hv => (q7 j d v hd hv).mono (fun _ _ h => h) (fun _ _ _ => rfl) hρ (TokOn.refl g fr)⟩
      rcases mem_snoc hm with hm | hm
      · exact q3 hm
      · have := hK t' cs' t cs (List.mem_cons_of_mem _ h) (List.mem_cons_self ..) hm
        exact (List.pairwise_cons.1 hN).1 _ h this.symm) (List.pairwise_cons.1 hN).2 (fun t cs t' cs' h h' => hK t cs t' cs' (List.mem_cons_of_mem _ h) (List.mem_cons_of_mem _ h'))
    rw [hlen, List.append_assoc] at h4
    exact ⟨g', h4⟩
/-- a block that is nobody's is turned -/
structure Turn (w w' : World) (k : Nat) : Prop where
  os : w'.os = w.os
  tape : w'.tape = w.tape
  output : w'.output = w.output
  size : w'.heap.size = w.heap.size
  far : ∀ b, b ≠ k → w'.heap[b]? = w.heap[b]?
theorem Turn.cell {k : Nat} (h : Turn w w' k) (hC : ∀ o, ¬ g.C k o) (b o : Nat) (hb : g.C b o) : w'.cell? ⟨b, o, none⟩ = w.cell? ⟨b, o, none⟩ :=
  World.cell?_of_block (w := w) (h.far b fun e => by subst e; exact hC o hb)
theorem V.turn {k : Nat} {d : D} {v : Value} (hv : V w g fr d v) (h : Turn w w' k) (hC : ∀ o, ¬ g.C k o) : V w' g fr d v := hv.mono (fun _ _ h => h) (fun b o hb => h.cell hC b o hb) (fun _ _ h => h) (TokOn.refl g fr)
theorem Evo.turn {k : Nat} (e : Evo b0 ⟨g, fr, w⟩) (h : Turn w w' k) (hC : ∀ o, ¬ g.C k o) (hk : b0.w.heap.size ≤ k) : Evo b0 ⟨g, fr, w'⟩ :=
  ⟨h.os.trans e.os, h.tape.trans e.tape, h.output.trans e.output, by show _ ≤ w'.heap.size; rw [h.size]; exact e.size, fun b hb hn => (h.far b (by omega)).trans (e.block b hb hn), e.C, fun b o hb => (h.cell hC b o (e.C b o hb)).trans (e.cell b o hb), e.newC, e.ρp, e.ρn, e.τn, e.tok⟩
theorem Mem.turn [Known] {k : Nat} (hm : Mem g bx fr w) (h : Turn w w' k) (hM : ¬ M g k) (hC : ∀ o, ¬ g.C k o) : Mem g bx fr w' where
  bl := hm.bl
  bat i b cs' h1 h2 := by
    obtain ⟨us, ty, k1, k2, k3⟩ := hm.bat i b cs' h1 h2
    exact ⟨us, ty, (h.far b fun e => by subst e; exact hM (.inl (List.mem_of_getElem? h1))).trans k1, k2, fun j d v hd hv => (k3 j d v hd hv).turn h hC⟩
  bC := hm.bC
  bN := hm.bN
  tl := hm.tl
  tat i b c f h1 h2 := by
    have hT := hm.tat i b c f h1 h2
    obtain ⟨cur, r1, r2⟩ := hT.row
    exact ⟨⟨cur, (h.far b fun e => by subst e; exact hM (.inr ⟨c, List.mem_of_getElem? h1⟩)).trans r1, r2⟩, hT.le, hT.max, hT.pos, hT.far⟩
  tN := hm.tN
  tρ := hm.tρ
  Clt b p hb := by
    have := hm.Clt b p hb
    rw [h.size]; exact this
  gl := ⟨fun b cs hb j v hv => ⟨(hm.gl.1 b cs hb j v hv).1, (h.cell hC _ _ (hm.gl.1 b cs hb j v hv).1).trans (hm.gl.1 b cs hb j v hv).2⟩, fun b t hb => ⟨(hm.gl.2 b t hb).1, (hm.gl.2 b t hb).2.imp fun v hv => (h.cell hC _ _ (hm.gl.2 b t hb).1).trans hv⟩⟩
theorem wK_get {K : Nat → Nat} {zs : List (Nat × Wy)} {i : Nat} {t : Nat} {y : Wy} (h : zs[i]? = some (t, y)) : (zs.map (wK K))[i]? = some (wK K (t, y)) := by rw [List.getElem?_map, h]; rfl
end
end Go.Av
end

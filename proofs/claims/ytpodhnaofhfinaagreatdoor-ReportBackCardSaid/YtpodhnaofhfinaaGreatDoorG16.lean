/- unicode/utf8.Valid: the rounds. -/
import Derived.Test.YtpodhnaofhfinaaGreatDoorG15
import Derived.Test.YtpodhnaofhfinaaGreatDoorG13
set_option linter.unusedVariables false
set_option linter.unusedSimpArgs false
section
open Go.RowKit Go.Pl Go.Av
namespace Go.Proofs.YtpodhnaofhfinaaGreatDoor
set_option maxHeartbeats 4000000
set_option maxRecDepth 10000 in
theorem v_r4 [Known] [KnownU8] (b : List UInt8) (hb : b.length <= 140737488351232) (K : St -> Prop) (k : Nat) (c : UInt8) (r : List UInt8) (hk : k = r.length + 1) (hv : validU (c :: r) = validU b) (hc : ¬ c.toNat < 128) (i lo hi : Nat) (e7 : bits .and .u8 (fT c.toNat : Int) 7 = ((4 : Nat) : Int)) (e4 : ((fT c.toNat : Nat) : Int).fdiv (2 ^ min (Int.toNat 4) IntKind.u8.bits) = (i : Int)) (hi16 : i < 16)
  (hvs : (((List.range 16).flatMap aT).drop (0 + ((i : Nat) : Int).toNat * 2)).take 2 = [.int .u8 (lo : Int), .int .u8 (hi : Int)]) (hp : ptN c.toNat = 4) (hlo : lo = ptLo c.toNat) (hhi : hi = ptHi c.toNat) : AW Tryz.prog (loopBody (Tryz.f113.body.getD .skip)) (vS (c :: r)) (vQ b (validU b) k K) := by
 conv => enter [3]; whnf
 subst hlo hhi
 have hU := uniB1 (c :: r)
 have hlen : decide ((((c :: r).map E.byte).length : Int) > 0) = true := by simp
 have dc : decide ((c.toNat : Int) < 128) = false := by simp; omega
 have hlt : ((c.toNat : Nat) : Int).toNat < 256 := by rw [Int.toNat_natCast]; exact c.toNat_lt
 have hlt2 : ((i : Nat) : Int).toNat < 16 := by rw [Int.toNat_natCast]; exact hi16
 have hfa := first_at c
 have hks := KnownU8.first
 have hka := KnownU8.accept
 have htf := tab_first
 have hta := tab_accept
 cases r with
 | nil =>
  have hl : decide (((([c] : List UInt8).map E.byte).length : Int) < 4) = true := rfl
  rw [<- hv, v4s hp [] (by simp)]
  repeat' (first | rw [e7] | rw [e4] | (apply AL_gidx ttok; (iterate 6 exact rfl); exact Int.natCast_nonneg _; assumption) | (apply AL_gload1 ttok; (iterate 3 exact rfl); assumption; assumption; assumption; exact rfl; exact rfl) | (apply AL_gloadn ttok; (iterate 3 exact rfl); assumption; assumption; assumption; (iterate 3 exact rfl)) | (apply AL_go ttok; exact rfl) | (apply AW_go ttok; exact rfl) | (apply K_go ttok; exact rfl) | (apply AL_guardFf; (iterate 3 exact rfl); (first | with_reducible assumption | decide +kernel)) | (apply AL_pickT; exact rfl; (first | with_reducible assumption | decide +kernel); exact rfl; exact rfl) | (apply AW_condA; exact rfl; (first | with_reducible assumption | decide +kernel)) | (apply AW_condB; exact rfl; (first | with_reducible assumption | decide +kernel)) | (apply AL_len ttok; (iterate 4 exact rfl)) | (apply AW_drawM 17 hmix; (decide +kernel); (kernel_rfl); (kernel_rfl); exact rfl; exact rfl) | (apply AD_cons; (iterate 3 exact rfl)) | refine AD.nil _ | exact qp_ok rfl | (apply AL_idx ttok; (iterate 6 exact rfl); (first | with_reducible assumption | decide +kernel | exact Int.natCast_nonneg _ | (guard_target = (0:Int) <= (OfNat.ofNat _ : Int); decide) | rotate_left); (first | with_reducible assumption | decide +kernel | exact rfl); (first | exact uniB_ok rfl | with_reducible assumption | decide +kernel | rotate_left)) | (apply AL_shr; exact rfl; exact rfl; (first | with_reducible assumption | decide +kernel | exact Int.natCast_nonneg _ | (exact (by decide)) | rotate_left); exact rfl))
  all_goals (apply endQ []; (apply resG_ok ttok; exact rfl); (iterate 4 exact rfl))
  all_goals rfl
 | cons c1 r =>
  cases r with
  | nil =>
   have hl : decide (((([c, c1] : List UInt8).map E.byte).length : Int) < 4) = true := rfl
   rw [<- hv, v4s hp [c1] (by simp)]
   repeat' (first | rw [e7] | rw [e4] | (apply AL_gidx ttok; (iterate 6 exact rfl); exact Int.natCast_nonneg _; assumption) | (apply AL_gload1 ttok; (iterate 3 exact rfl); assumption; assumption; assumption; exact rfl; exact rfl) | (apply AL_gloadn ttok; (iterate 3 exact rfl); assumption; assumption; assumption; (iterate 3 exact rfl)) | (apply AL_go ttok; exact rfl) | (apply AW_go ttok; exact rfl) | (apply K_go ttok; exact rfl) | (apply AL_guardFf; (iterate 3 exact rfl); (first | with_reducible assumption | decide +kernel)) | (apply AL_pickT; exact rfl; (first | with_reducible assumption | decide +kernel); exact rfl; exact rfl) | (apply AW_condA; exact rfl; (first | with_reducible assumption | decide +kernel)) | (apply AW_condB; exact rfl; (first | with_reducible assumption | decide +kernel)) | (apply AL_len ttok; (iterate 4 exact rfl)) | (apply AW_drawM 17 hmix; (decide +kernel); (kernel_rfl); (kernel_rfl); exact rfl; exact rfl) | (apply AD_cons; (iterate 3 exact rfl)) | refine AD.nil _ | exact qp_ok rfl | (apply AL_idx ttok; (iterate 6 exact rfl); (first | with_reducible assumption | decide +kernel | exact Int.natCast_nonneg _ | (guard_target = (0:Int) <= (OfNat.ofNat _ : Int); decide) | rotate_left); (first | with_reducible assumption | decide +kernel | exact rfl); (first | exact uniB_ok rfl | with_reducible assumption | decide +kernel | rotate_left)) | (apply AL_shr; exact rfl; exact rfl; (first | with_reducible assumption | decide +kernel | exact Int.natCast_nonneg _ | (exact (by decide)) | rotate_left); exact rfl))
   all_goals (apply endQ []; (apply resG_ok ttok; exact rfl); (iterate 4 exact rfl))
   all_goals rfl
  | cons c2 r =>
   cases r with
   | nil =>
    have hl : decide (((([c, c1, c2] : List UInt8).map E.byte).length : Int) < 4) = true := rfl
    rw [<- hv, v4s hp [c1, c2] (by simp)]
    repeat' (first | rw [e7] | rw [e4] | (apply AL_gidx ttok; (iterate 6 exact rfl); exact Int.natCast_nonneg _; assumption) | (apply AL_gload1 ttok; (iterate 3 exact rfl); assumption; assumption; assumption; exact rfl; exact rfl) | (apply AL_gloadn ttok; (iterate 3 exact rfl); assumption; assumption; assumption; (iterate 3 exact rfl)) | (apply AL_go ttok; exact rfl) | (apply AW_go ttok; exact rfl) | (apply K_go ttok; exact rfl) | (apply AL_guardFf; (iterate 3 exact rfl); (first | with_reducible assumption | decide +kernel)) | (apply AL_pickT; exact rfl; (first | with_reducible assumption | decide +kernel); exact rfl; exact rfl) | (apply AW_condA; exact rfl; (first | with_reducible assumption | decide +kernel)) | (apply AW_condB; exact rfl; (first | with_reducible assumption | decide +kernel)) | (apply AL_len ttok; (iterate 4 exact rfl)) | (apply AW_drawM 17 hmix; (decide +kernel); (kernel_rfl); (kernel_rfl); exact rfl; exact rfl) | (apply AD_cons; (iterate 3 exact rfl)) | refine AD.nil _ | exact qp_ok rfl | (apply AL_idx ttok; (iterate 6 exact rfl); (first | with_reducible assumption | decide +kernel | exact Int.natCast_nonneg _ | (guard_target = (0:Int) <= (OfNat.ofNat _ : Int); decide) | rotate_left); (first | with_reducible assumption | decide +kernel | exact rfl); (first | exact uniB_ok rfl | with_reducible assumption | decide +kernel | rotate_left)) | (apply AL_shr; exact rfl; exact rfl; (first | with_reducible assumption | decide +kernel | exact Int.natCast_nonneg _ | (exact (by decide)) | rotate_left); exact rfl))
    all_goals (apply endQ []; (apply resG_ok ttok; exact rfl); (iterate 4 exact rfl))
    all_goals rfl
   | cons c3 r =>
    have hl : decide ((((c :: c1 :: c2 :: c3 :: r).map E.byte).length : Int) < 4) = false := by simp; omega
    have xd : (c :: c1 :: c2 :: c3 :: r).drop (Int.toNat 4) = r := rfl
    rw [v4 hp] at hv
    cases b1 : decide ((c1.toNat : Int) < (ptLo c.toNat : Int)) with
    | true =>
     have hf : validU b = false := by
      rw [<- hv]
      have := of_decide_eq_true b1
      have q : inB c1.toNat (ptLo c.toNat) (ptHi c.toNat) = false := by simp [inB]; omega
      rw [q]; simp
     rw [hf]
     repeat' (first | rw [e7] | rw [e4] | (apply AL_gidx ttok; (iterate 6 exact rfl); exact Int.natCast_nonneg _; assumption) | (apply AL_gload1 ttok; (iterate 3 exact rfl); assumption; assumption; assumption; exact rfl; exact rfl) | (apply AL_gloadn ttok; (iterate 3 exact rfl); assumption; assumption; assumption; (iterate 3 exact rfl)) | (apply AL_go ttok; exact rfl) | (apply AW_go ttok; exact rfl) | (apply K_go ttok; exact rfl) | (apply AL_guardT; (iterate 3 exact rfl); (first | with_reducible assumption | decide +kernel)) | (apply AL_guardFf; (iterate 3 exact rfl); (first | with_reducible assumption | decide +kernel)) | (apply AL_pickT; exact rfl; (first | with_reducible assumption | decide +kernel); exact rfl; exact rfl) | (apply AL_pickF; exact rfl; (first | with_reducible assumption | decide +kernel); exact rfl; exact rfl) | (apply AW_condA; exact rfl; (first | with_reducible assumption | decide +kernel)) | (apply AW_condB; exact rfl; (first | with_reducible assumption | decide +kernel)) | (apply AL_len ttok; (iterate 4 exact rfl)) | (apply AW_drawM 17 hmix; (decide +kernel); (kernel_rfl); (kernel_rfl); exact rfl; exact rfl) | (apply AD_cons; (iterate 3 exact rfl)) | refine AD.nil _ | exact qp_ok rfl | (apply AL_idx ttok; (iterate 6 exact rfl); (first | with_reducible assumption | decide +kernel | exact Int.natCast_nonneg _ | (guard_target = (0:Int) <= (OfNat.ofNat _ : Int); decide) | rotate_left); (first | with_reducible assumption | decide +kernel | exact rfl); (first | exact uniB_ok rfl | with_reducible assumption | decide +kernel | rotate_left)) | (apply AL_shr; exact rfl; exact rfl; (first | with_reducible assumption | decide +kernel | exact Int.natCast_nonneg _ | (exact (by decide)) | rotate_left); exact rfl))
     all_goals (apply endQ []; (apply resG_ok ttok; exact rfl); (iterate 4 exact rfl))
     all_goals rfl
    | false =>
     cases b2 : decide ((ptHi c.toNat : Int) < (c1.toNat : Int)) with
     | true =>
      have hf : validU b = false := by
       rw [<- hv]
       have := of_decide_eq_true b2
       have q : inB c1.toNat (ptLo c.toNat) (ptHi c.toNat) = false := by simp [inB]; omega
       rw [q]; simp
      rw [hf]
      repeat' (first | rw [e7] | rw [e4] | (apply AL_gidx ttok; (iterate 6 exact rfl); exact Int.natCast_nonneg _; assumption) | (apply AL_gload1 ttok; (iterate 3 exact rfl); assumption; assumption; assumption; exact rfl; exact rfl) | (apply AL_gloadn ttok; (iterate 3 exact rfl); assumption; assumption; assumption; (iterate 3 exact rfl)) | (apply AL_go ttok; exact rfl) | (apply AW_go ttok; exact rfl) | (apply K_go ttok; exact rfl) | (apply AL_guardT; (iterate 3 exact rfl); (first | with_reducible assumption | decide +kernel)) | (apply AL_guardFf; (iterate 3 exact rfl); (first | with_reducible assumption | decide +kernel)) | (apply AL_pickT; exact rfl; (first | with_reducible assumption | decide +kernel); exact rfl; exact rfl) | (apply AL_pickF; exact rfl; (first | with_reducible assumption | decide +kernel); exact rfl; exact rfl) | (apply AW_condA; exact rfl; (first | with_reducible assumption | decide +kernel)) | (apply AW_condB; exact rfl; (first | with_reducible assumption | decide +kernel)) | (apply AL_len ttok; (iterate 4 exact rfl)) | (apply AW_drawM 17 hmix; (decide +kernel); (kernel_rfl); (kernel_rfl); exact rfl; exact rfl) | (apply AD_cons; (iterate 3 exact rfl)) | refine AD.nil _ | exact qp_ok rfl | (apply AL_idx ttok; (iterate 6 exact rfl); (first | with_reducible assumption | decide +kernel | exact Int.natCast_nonneg _ | (guard_target = (0:Int) <= (OfNat.ofNat _ : Int); decide) | rotate_left); (first | with_reducible assumption | decide +kernel | exact rfl); (first | exact uniB_ok rfl | with_reducible assumption | decide +kernel | rotate_left)) | (apply AL_shr; exact rfl; exact rfl; (first | with_reducible assumption | decide +kernel | exact Int.natCast_nonneg _ | (exact (by decide)) | rotate_left); exact rfl))
      all_goals (apply endQ []; (apply resG_ok ttok; exact rfl); (iterate 4 exact rfl))
      all_goals rfl
     | false =>
      cases b3 : decide ((c2.toNat : Int) < 128) with
      | true =>
       have hf : validU b = false := by
        rw [<- hv]
        have := of_decide_eq_true b3
        have q : inB c2.toNat 128 191 = false := by simp [inB]; omega
        rw [q]; simp
       rw [hf]
       repeat' (first | rw [e7] | rw [e4] | (apply AL_gidx ttok; (iterate 6 exact rfl); exact Int.natCast_nonneg _; assumption) | (apply AL_gload1 ttok; (iterate 3 exact rfl); assumption; assumption; assumption; exact rfl; exact rfl) | (apply AL_gloadn ttok; (iterate 3 exact rfl); assumption; assumption; assumption; (iterate 3 exact rfl)) | (apply AL_go ttok; exact rfl) | (apply AW_go ttok; exact rfl) | (apply K_go ttok; exact rfl) | (apply AL_guardT; (iterate 3 exact rfl); (first | with_reducible assumption | decide +kernel)) | (apply AL_guardFf; (iterate 3 exact rfl); (first | with_reducible assumption | decide +kernel)) | (apply AL_pickT; exact rfl; (first | with_reducible assumption | decide +kernel); exact rfl; exact rfl) | (apply AL_pickF; exact rfl; (first | with_reducible assumption | decide +kernel); exact rfl; exact rfl) | (apply AW_condA; exact rfl; (first | with_reducible assumption | decide +kernel)) | (apply AW_condB; exact rfl; (first | with_reducible assumption | decide +kernel)) | (apply AL_len ttok; (iterate 4 exact rfl)) | (apply AW_drawM 17 hmix; (decide +kernel); (kernel_rfl); (kernel_rfl); exact rfl; exact rfl) | (apply AD_cons; (iterate 3 exact rfl)) | refine AD.nil _ | exact qp_ok rfl | (apply AL_idx ttok; (iterate 6 exact rfl); (first | with_reducible assumption | decide +kernel | exact Int.natCast_nonneg _ | (guard_target = (0:Int) <= (OfNat.ofNat _ : Int); decide) | rotate_left); (first | with_reducible assumption | decide +kernel | exact rfl); (first | exact uniB_ok rfl | with_reducible assumption | decide +kernel | rotate_left)) | (apply AL_shr; exact rfl; exact rfl; (first | with_reducible assumption | decide +kernel | exact Int.natCast_nonneg _ | (exact (by decide)) | rotate_left); exact rfl))
       all_goals (apply endQ []; (apply resG_ok ttok; exact rfl); (iterate 4 exact rfl))
       all_goals rfl
      | false =>
       cases b4 : decide ((191 : Int) < (c2.toNat : Int)) with
       | true =>
        have hf : validU b = false := by
         rw [<- hv]
         have := of_decide_eq_true b4
         have q : inB c2.toNat 128 191 = false := by simp [inB]; omega
         rw [q]; simp
        rw [hf]
        repeat' (first | rw [e7] | rw [e4] | (apply AL_gidx ttok; (iterate 6 exact rfl); exact Int.natCast_nonneg _; assumption) | (apply AL_gload1 ttok; (iterate 3 exact rfl); assumption; assumption; assumption; exact rfl; exact rfl) | (apply AL_gloadn ttok; (iterate 3 exact rfl); assumption; assumption; assumption; (iterate 3 exact rfl)) | (apply AL_go ttok; exact rfl) | (apply AW_go ttok; exact rfl) | (apply K_go ttok; exact rfl) | (apply AL_guardT; (iterate 3 exact rfl); (first | with_reducible assumption | decide +kernel)) | (apply AL_guardFf; (iterate 3 exact rfl); (first | with_reducible assumption | decide +kernel)) | (apply AL_pickT; exact rfl; (first | with_reducible assumption | decide +kernel); exact rfl; exact rfl) | (apply AL_pickF; exact rfl; (first | with_reducible assumption | decide +kernel); exact rfl; exact rfl) | (apply AW_condA; exact rfl; (first | with_reducible assumption | decide +kernel)) | (apply AW_condB; exact rfl; (first | with_reducible assumption | decide +kernel)) | (apply AL_len ttok; (iterate 4 exact rfl)) | (apply AW_drawM 17 hmix; (decide +kernel); (kernel_rfl); (kernel_rfl); exact rfl; exact rfl) | (apply AD_cons; (iterate 3 exact rfl)) | refine AD.nil _ | exact qp_ok rfl | (apply AL_idx ttok; (iterate 6 exact rfl); (first | with_reducible assumption | decide +kernel | exact Int.natCast_nonneg _ | (guard_target = (0:Int) <= (OfNat.ofNat _ : Int); decide) | rotate_left); (first | with_reducible assumption | decide +kernel | exact rfl); (first | exact uniB_ok rfl | with_reducible assumption | decide +kernel | rotate_left)) | (apply AL_shr; exact rfl; exact rfl; (first | with_reducible assumption | decide +kernel | exact Int.natCast_nonneg _ | (exact (by decide)) | rotate_left); exact rfl))
        all_goals (apply endQ []; (apply resG_ok ttok; exact rfl); (iterate 4 exact rfl))
        all_goals rfl
       | false =>
        cases b5 : decide ((c3.toNat : Int) < 128) with
        | true =>
         have hf : validU b = false := by
          rw [<- hv]
          have := of_decide_eq_true b5
          have q : inB c3.toNat 128 191 = false := by simp [inB]; omega
          rw [q]; simp
         rw [hf]
         repeat' (first | rw [e7] | rw [e4] | (apply AL_gidx ttok; (iterate 6 exact rfl); exact Int.natCast_nonneg _; assumption) | (apply AL_gload1 ttok; (iterate 3 exact rfl); assumption; assumption; assumption; exact rfl; exact rfl) | (apply AL_gloadn ttok; (iterate 3 exact rfl); assumption; assumption; assumption; (iterate 3 exact rfl)) | (apply AL_go ttok; exact rfl) | (apply AW_go ttok; exact rfl) | (apply K_go ttok; exact rfl) | (apply AL_guardT; (iterate 3 exact rfl); (first | with_reducible assumption | decide +kernel)) | (apply AL_guardFf; (iterate 3 exact rfl); (first | with_reducible assumption | decide +kernel)) | (apply AL_pickT; exact rfl; (first | with_reducible assumption | decide +kernel); exact rfl; exact rfl) | (apply AL_pickF; exact rfl; (first | with_reducible assumption | decide +kernel); exact rfl; exact rfl) | (apply AW_condA; exact rfl; (first | with_reducible assumption | decide +kernel)) | (apply AW_condB; exact rfl; (first | with_reducible assumption | decide +kernel)) | (apply AL_len ttok; (iterate 4 exact rfl)) | (apply AW_drawM 17 hmix; (decide +kernel); (kernel_rfl); (kernel_rfl); exact rfl; exact rfl) | (apply AD_cons; (iterate 3 exact rfl)) | refine AD.nil _ | exact qp_ok rfl | (apply AL_idx ttok; (iterate 6 exact rfl); (first | with_reducible assumption | decide +kernel | exact Int.natCast_nonneg _ | (guard_target = (0:Int) <= (OfNat.ofNat _ : Int); decide) | rotate_left); (first | with_reducible assumption | decide +kernel | exact rfl); (first | exact uniB_ok rfl | with_reducible assumption | decide +kernel | rotate_left)) | (apply AL_shr; exact rfl; exact rfl; (first | with_reducible assumption | decide +kernel | exact Int.natCast_nonneg _ | (exact (by decide)) | rotate_left); exact rfl))
         all_goals (apply endQ []; (apply resG_ok ttok; exact rfl); (iterate 4 exact rfl))
         all_goals rfl
        | false =>
         cases b6 : decide ((191 : Int) < (c3.toNat : Int)) with
         | true =>
          have hf : validU b = false := by
           rw [<- hv]
           have := of_decide_eq_true b6
           have q : inB c3.toNat 128 191 = false := by simp [inB]; omega
           rw [q]; simp
          rw [hf]
          repeat' (first | rw [e7] | rw [e4] | (apply AL_gidx ttok; (iterate 6 exact rfl); exact Int.natCast_nonneg _; assumption) | (apply AL_gload1 ttok; (iterate 3 exact rfl); assumption; assumption; assumption; exact rfl; exact rfl) | (apply AL_gloadn ttok; (iterate 3 exact rfl); assumption; assumption; assumption; (iterate 3 exact rfl)) | (apply AL_go ttok; exact rfl) | (apply AW_go ttok; exact rfl) | (apply K_go ttok; exact rfl) | (apply AL_guardT; (iterate 3 exact rfl); (first | with_reducible assumption | decide +kernel)) | (apply AL_pickF; exact rfl; (first | with_reducible assumption | decide +kernel); exact rfl; exact rfl) | (apply AW_condA; exact rfl; (first | with_reducible assumption | decide +kernel)) | (apply AW_condB; exact rfl; (first | with_reducible assumption | decide +kernel)) | (apply AL_len ttok; (iterate 4 exact rfl)) | (apply AW_drawM 17 hmix; (decide +kernel); (kernel_rfl); (kernel_rfl); exact rfl; exact rfl) | (apply AD_cons; (iterate 3 exact rfl)) | refine AD.nil _ | exact qp_ok rfl | (apply AL_idx ttok; (iterate 6 exact rfl); (first | with_reducible assumption | decide +kernel | exact Int.natCast_nonneg _ | (guard_target = (0:Int) <= (OfNat.ofNat _ : Int); decide) | rotate_left); (first | with_reducible assumption | decide +kernel | exact rfl); (first | exact uniB_ok rfl | with_reducible assumption | decide +kernel | rotate_left)) | (apply AL_shr; exact rfl; exact rfl; (first | with_reducible assumption | decide +kernel | exact Int.natCast_nonneg _ | (exact (by decide)) | rotate_left); exact rfl))
          all_goals (apply endQ []; (apply resG_ok ttok; exact rfl); (iterate 4 exact rfl))
          all_goals rfl
         | false =>
          have hv2 : validU r = validU b := by
           rw [<- hv]
           have := of_decide_eq_false b1
           have := of_decide_eq_false b2
           have := of_decide_eq_false b3
           have := of_decide_eq_false b4
           have := of_decide_eq_false b5
           have := of_decide_eq_false b6
           have q1 : inB c1.toNat (ptLo c.toNat) (ptHi c.toNat) = true := by simp [inB]; omega
           have q2 : inB c2.toNat 128 191 = true := by simp [inB]; omega
           have q3 : inB c3.toNat 128 191 = true := by simp [inB]; omega
           rw [q1, q2, q3]; rfl
          repeat' (first | rw [e7] | rw [e4] | (apply AL_gidx ttok; (iterate 6 exact rfl); exact Int.natCast_nonneg _; assumption) | (apply AL_gload1 ttok; (iterate 3 exact rfl); assumption; assumption; assumption; exact rfl; exact rfl) | (apply AL_gloadn ttok; (iterate 3 exact rfl); assumption; assumption; assumption; (iterate 3 exact rfl)) | (apply AL_from ttok; (iterate 8 exact rfl); (first | with_reducible assumption | exact Int.natCast_nonneg _ | exact (by decide)); (first | with_reducible assumption | decide | (simp only [List.length_cons, List.length_drop, List.length_take, List.length_append, Int.toNat_natCast] at *; omega)); (first | with_reducible assumption | exact rfl)) | (apply AL_go ttok; exact rfl) | (apply AW_go ttok; exact rfl) | (apply K_go ttok; exact rfl) | (apply AL_guardT; (iterate 3 exact rfl); (first | with_reducible assumption | decide +kernel)) | (apply AL_pickF; exact rfl; (first | with_reducible assumption | decide +kernel); exact rfl; exact rfl) | (apply AW_condA; exact rfl; (first | with_reducible assumption | decide +kernel)) | (apply AW_condB; exact rfl; (first | with_reducible assumption | decide +kernel)) | (apply AL_len ttok; (iterate 4 exact rfl)) | (apply AW_drawM 17 hmix; (decide +kernel); (kernel_rfl); (kernel_rfl); exact rfl; exact rfl) | (apply AD_cons; (iterate 3 exact rfl)) | refine AD.nil _ | exact qp_ok rfl | (apply AL_idx ttok; (iterate 6 exact rfl); (first | with_reducible assumption | decide +kernel | exact Int.natCast_nonneg _ | (guard_target = (0:Int) <= (OfNat.ofNat _ : Int); decide) | rotate_left); (first | with_reducible assumption | decide +kernel | exact rfl); (first | exact uniB_ok rfl | with_reducible assumption | decide +kernel | rotate_left)) | (apply AL_shr; exact rfl; exact rfl; (first | with_reducible assumption | decide +kernel | exact Int.natCast_nonneg _ | (exact (by decide)) | rotate_left); exact rfl))
          refine Lands.mk' (m := r.length) (by simp only [List.length_cons] at hk; omega) ⟨r, rfl, hv2, rfl, rfl, rfl⟩ ?_ rfl rfl rfl rfl rfl rfl
          exact .cons rfl (.cons rfl .nil)
theorem av_valid [Known] [KnownU8] (b : List UInt8) (hb : b.length <= 140737488351232) : AP Tryz.prog 113 [byE b] (.bool (validU b)) [] := by
 refine AP.ofA ?_
 refine AC_of Tryz.func113 rfl Tryz.ntmps113 rfl rfl ?_
 repeat' (first | (apply AL_same3 ttok; (iterate 9 exact rfl); (simp); (simp)) | (apply AL_go ttok; exact rfl) | (apply AW_go ttok; exact rfl) | (apply AL_len ttok; (iterate 4 exact rfl)))
 refine AW_loopJ (vJ b) (b.length + 1) (Lands.mk' (m := b.length) (Nat.lt_succ_self _) ⟨b, rfl, rfl, rfl, rfl, rfl⟩ ?_ rfl rfl rfl rfl rfl rfl) ?_
 ·exact .cons rfl (.cons rfl .nil)
 rintro k tm bx fr ⟨l, hk, hv, rfl, rfl, rfl⟩
 cases l with
 | nil =>
  rw [<- hv]
  repeat' (first | (apply AL_go ttok; exact rfl) | (apply AW_go ttok; exact rfl) | (apply K_go ttok; exact rfl) | (apply AW_condB; exact rfl; (first | with_reducible assumption | decide +kernel)) | (apply AL_len ttok; (iterate 4 exact rfl)))
  all_goals (apply endQ []; (apply resG_ok ttok; exact rfl); (iterate 4 exact rfl))
  all_goals rfl
 | cons c r =>
  have key : ∀ K : St -> Prop, AW Tryz.prog (loopBody (Tryz.f113.body.getD .skip)) (vS (c :: r)) (vQ b (validU b) k K) := fun K => by
   simp only [List.length_cons] at hk
   by_cases hc : c.toNat < 128
   ·exact v_asc b hb K k c r hk hv hc
   ·obtain ⟨sz, i, lo, hi, e7, e4, hi16, hvs, hcls⟩ := cls c (by omega)
    rcases hcls with ⟨rfl, hp⟩ | ⟨rfl | rfl | rfl, hp, hlo, hhi⟩
    ·exact v_r1 b hb K k c r hk hv hc i lo hi e7 e4 hi16 hvs hp
    ·exact v_r2 b hb K k c r hk hv hc i lo hi e7 e4 hi16 hvs hp hlo hhi
    ·exact v_r3 b hb K k c r hk hv hc i lo hi e7 e4 hi16 hvs hp hlo hhi
    ·exact v_r4 b hb K k c r hk hv hc i lo hi e7 e4 hi16 hvs hp hlo hhi
  exact key _
end Go.Proofs.YtpodhnaofhfinaaGreatDoor
end
section
open Go.RowKit Go.Pl Go.Av
namespace Go.Proofs.YtpodhnaofhfinaaGreatDoor
set_option maxHeartbeats 4000000
theorem len0 {α : Type} {f : α -> E} (b : List α) : (((b.map f).length : Int) == 0) = b.isEmpty := by cases b <;> simp <;> omega
theorem len0I (l : List It) : (((itEs l).length : Int) == 0) = l.isEmpty := by rw [itEs_len]; cases l <;> simp <;> omega
theorem n0 (n : Nat) : ((n : Int) == 0) = decide (n = 0) := by rw [Bool.eq_iff_iff]; simp
theorem av_own [Known] [KnownU8] (k : Int) (n : Nat) (b : List UInt8) (l : List It) (hb : b.length <= 140737488351232) : AP Tryz.prog 106 [.agg (itC k n b l)] (.bool (ownI k n b l)) [] := by
 have e1 := len0 (f := E.byte) b
 have e2 := len0I l
 have e3 := n0 n
 have hv := av_valid b hb
 by_cases k0 : k = 0
 ·subst k0
  cases hbe : b.isEmpty <;> cases hle : l.isEmpty
  all_goals
   rw [hbe] at e1
   rw [hle] at e2
   have e : ownI 0 n b l = (b.isEmpty && l.isEmpty) := rfl
   rw [e, hbe, hle]
   refine AP.ofA ?_
   refine AC_of Tryz.func106 rfl Tryz.ntmps106 rfl rfl ?_
   repeat' (first | rw [e1] | rw [e2] | (apply AL_go ttok; exact rfl) | (apply AW_go ttok; exact rfl) | (apply AL_guardT; (iterate 3 exact rfl); (first | with_reducible assumption | decide +kernel)) | (apply AL_guardFt; (iterate 3 exact rfl); (first | with_reducible assumption | decide +kernel)) | (apply AL_pickT; exact rfl; (first | with_reducible assumption | decide +kernel); exact rfl; exact rfl) | (apply AL_pickF; exact rfl; (first | with_reducible assumption | decide +kernel); exact rfl; exact rfl) | (apply AW_condA; exact rfl; (first | with_reducible assumption | decide +kernel)) | (apply AL_len ttok; (iterate 4 exact rfl)))
   all_goals (apply endQ []; (apply resG_ok ttok; exact rfl); (iterate 4 exact rfl))
   all_goals rfl
 by_cases k2 : k = 2
 ·subst k2
  cases hbe : decide (n = 0) <;> cases hle : l.isEmpty
  all_goals
   rw [hbe] at e3
   rw [hle] at e2
   have e : ownI 2 n b l = (decide (n = 0) && l.isEmpty) := rfl
   rw [e, hbe, hle]
   refine AP.ofA ?_
   refine AC_of Tryz.func106 rfl Tryz.ntmps106 rfl rfl ?_
   repeat' (first | rw [e2] | rw [e3] | (apply AL_go ttok; exact rfl) | (apply AW_go ttok; exact rfl) | (apply AL_guardT; (iterate 3 exact rfl); (first | with_reducible assumption | decide +kernel)) | (apply AL_guardFt; (iterate 3 exact rfl); (first | with_reducible assumption | decide +kernel)) | (apply AL_pickT; exact rfl; (first | with_reducible assumption | decide +kernel); exact rfl; exact rfl) | (apply AL_pickF; exact rfl; (first | with_reducible assumption | decide +kernel); exact rfl; exact rfl) | (apply AW_condA; exact rfl; (first | with_reducible assumption | decide +kernel)) | (apply AW_condB; exact rfl; (first | with_reducible assumption | decide +kernel)) | (apply AL_len ttok; (iterate 4 exact rfl)))
   all_goals (apply endQ []; (apply resG_ok ttok; exact rfl); (iterate 4 exact rfl))
   all_goals rfl
 by_cases k3 : k = 3
 ·subst k3
  cases hbe : decide (n = 0) <;> cases hle : l.isEmpty
  all_goals
   rw [hbe] at e3
   rw [hle] at e2
   have e : ownI 3 n b l = (decide (n = 0) && (l.isEmpty && validU b)) := rfl
   rw [e, hbe, hle]
   refine AP.ofA ?_
   refine AC_of Tryz.func106 rfl Tryz.ntmps106 rfl rfl ?_
   repeat' (first | rw [e2] | rw [e3] | (apply AL_callPw (hv); kernel_rfl; (iterate 4 exact rfl)) | (apply AL_go ttok; exact rfl) | (apply AW_go ttok; exact rfl) | (apply AL_guardT; (iterate 3 exact rfl); (first | with_reducible assumption | decide +kernel)) | (apply AL_guardFt; (iterate 3 exact rfl); (first | with_reducible assumption | decide +kernel)) | (apply AL_pickT; exact rfl; (first | with_reducible assumption | decide +kernel); exact rfl; exact rfl) | (apply AL_pickF; exact rfl; (first | with_reducible assumption | decide +kernel); exact rfl; exact rfl) | (apply AW_condA; exact rfl; (first | with_reducible assumption | decide +kernel)) | (apply AW_condB; exact rfl; (first | with_reducible assumption | decide +kernel)) | (apply AL_len ttok; (iterate 4 exact rfl)))
   all_goals (apply endQ []; (apply resG_ok ttok; exact rfl); (iterate 4 exact rfl))
   all_goals rfl
 by_cases k4 : k = 4
 ·subst k4
  cases hbe : decide (n = 0) <;> cases hle : b.isEmpty
  all_goals
   rw [hbe] at e3
   rw [hle] at e1
   have e : ownI 4 n b l = (decide (n = 0) && b.isEmpty) := rfl
   rw [e, hbe, hle]
   refine AP.ofA ?_
   refine AC_of Tryz.func106 rfl Tryz.ntmps106 rfl rfl ?_
   repeat' (first | rw [e1] | rw [e3] | (apply AL_go ttok; exact rfl) | (apply AW_go ttok; exact rfl) | (apply AL_guardT; (iterate 3 exact rfl); (first | with_reducible assumption | decide +kernel)) | (apply AL_guardFt; (iterate 3 exact rfl); (first | with_reducible assumption | decide +kernel)) | (apply AL_pickT; exact rfl; (first | with_reducible assumption | decide +kernel); exact rfl; exact rfl) | (apply AL_pickF; exact rfl; (first | with_reducible assumption | decide +kernel); exact rfl; exact rfl) | (apply AW_condA; exact rfl; (first | with_reducible assumption | decide +kernel)) | (apply AW_condB; exact rfl; (first | with_reducible assumption | decide +kernel)) | (apply AL_len ttok; (iterate 4 exact rfl)))
   all_goals (apply endQ []; (apply resG_ok ttok; exact rfl); (iterate 4 exact rfl))
   all_goals rfl
 ·have t0 : (k == 0) = false := by simpa using k0
  have t2 : (k == 2) = false := by simpa using k2
  have t3 : (k == 3) = false := by simpa using k3
  have t4 : (k == 4) = false := by simpa using k4
  have e : ownI k n b l = false := by simp [ownI, k0, k2, k3, k4]
  rw [e]
  refine AP.ofA ?_
  refine AC_of Tryz.func106 rfl Tryz.ntmps106 rfl rfl ?_
  repeat' (first | (apply AW_go ttok; exact rfl) | (apply AW_condB; exact rfl; (first | with_reducible assumption | decide +kernel)))
  all_goals (apply endQ []; (apply resG_ok ttok; exact rfl); (iterate 4 exact rfl))
  all_goals rfl
def wkN : Option Nat -> Int
 | some m => (m : Int)
 | none => -1
theorem av_walk [Known] [KnownU8] : ∀ (x : It), wfI x -> ∀ d m : Nat, d <= 7 -> m <= 256 -> AP Tryz.prog 92 [itD x, .int .i64 (d : Int), .int .i64 (m : Int)] (.int .i64 (wkN (walkI x d m))) [] := by
 refine It.ind fun k n b l ih hw d m hd hm => ?_
 obtain ⟨hn, hb, hl, hws⟩ := hw
 have hown := av_own k n b l hb
 have hlen := itEs_len l
 show AP Tryz.prog _ [.agg (itC k n b l), _, _] _ _
 rw [walkI]
 have em : 1 <= m -> IntKind.i64.wrap ((m : Int) - 1) = ((m - 1 : Nat) : Int) := fun h => by rw [IntWalk.i64_in _ (by omega)]; omega
 have ed : IntKind.i64.wrap ((d : Int) + 1) = ((d + 1 : Nat) : Int) := by rw [IntWalk.i64_in _ (by omega)]; omega
 by_cases hd6 : 6 < d
 ·rw [if_pos hd6]
  have t1 : decide ((d : Int) > 6) = true := by simp; omega
  refine AP.ofA ?_
  refine AC_of Tryz.func92 rfl Tryz.ntmps92 rfl rfl ?_
  repeat' (first | (apply AL_go ttok; exact rfl) | (apply AW_go ttok; exact rfl) | (apply K_go ttok; exact rfl) | (apply AL_guardFf; (iterate 3 exact rfl); (first | with_reducible assumption | decide +kernel)) | (apply AL_pickT; exact rfl; (first | with_reducible assumption | decide +kernel); exact rfl; exact rfl) | (apply AW_condA; exact rfl; (first | with_reducible assumption | decide +kernel)))
  all_goals (apply endQ []; (apply resG_ok ttok; exact rfl); (iterate 4 exact rfl))
  all_goals rfl
 have t1 : decide ((d : Int) > 6) = false := by simp; omega
 rw [if_neg hd6]
 by_cases hm1 : m < 1
 ·rw [if_pos hm1]
  have t2 : decide ((m : Int) < 1) = true := by simp; omega
  refine AP.ofA ?_
  refine AC_of Tryz.func92 rfl Tryz.ntmps92 rfl rfl ?_
  repeat' (first | (apply AL_go ttok; exact rfl) | (apply AW_go ttok; exact rfl) | (apply K_go ttok; exact rfl) | (apply AL_guardT; (iterate 3 exact rfl); (first | with_reducible assumption | decide +kernel)) | (apply AL_guardFf; (iterate 3 exact rfl); (first | with_reducible assumption | decide +kernel)) | (apply AL_pickT; exact rfl; (first | with_reducible assumption | decide +kernel); exact rfl; exact rfl) | (apply AL_pickF; exact rfl; (first | with_reducible assumption | decide +kernel); exact rfl; exact rfl) | (apply AW_condA; exact rfl; (first | with_reducible assumption | decide +kernel)))
  all_goals (apply endQ []; (apply resG_ok ttok; exact rfl); (iterate 4 exact rfl))
  all_goals rfl
 have t2 : decide ((m : Int) < 1) = false := by simp; omega
 rw [if_neg hm1]
 have em := em (by omega)
 cases ho : ownI k n b l with
 | false =>
  rw [ho] at hown
  dsimp only
  refine AP.ofA ?_
  refine AC_of Tryz.func92 rfl Tryz.ntmps92 rfl rfl ?_
  repeat' (first | (apply AL_callPw (hown); kernel_rfl; (iterate 4 exact rfl)) | (apply AL_go ttok; exact rfl) | (apply AW_go ttok; exact rfl) | (apply K_go ttok; exact rfl) | (apply AL_guardT; (iterate 3 exact rfl); (first | with_reducible assumption | decide +kernel)) | (apply AL_pickF; exact rfl; (first | with_reducible assumption | decide +kernel); exact rfl; exact rfl) | (apply AW_condA; exact rfl; (first | with_reducible assumption | decide +kernel)))
  all_goals (apply endQ []; (apply resG_ok ttok; exact rfl); (iterate 4 exact rfl))
  all_goals rfl
 | true =>
  rw [ho] at hown
  dsimp only
  generalize hfin : walks l (d + 1) (m - 1) = fin
  refine AP.ofA ?_
  refine AC_of Tryz.func92 rfl Tryz.ntmps92 rfl rfl ?_
  repeat' (first | rw [em] | (apply AL_callPw (hown); kernel_rfl; (iterate 4 exact rfl)) | (apply AL_go ttok; exact rfl) | (apply AW_go ttok; exact rfl) | (apply K_go ttok; exact rfl) | (apply AL_guardT; (iterate 3 exact rfl); (first | with_reducible assumption | decide +kernel)) | (apply AL_pickF; exact rfl; (first | with_reducible assumption | decide +kernel); exact rfl; exact rfl) | (apply AW_condB; exact rfl; (first | with_reducible assumption | decide +kernel)) | (apply AL_len ttok; (iterate 4 exact rfl)))
  refine AW_loopJ (fun f tm bx fr => ∃ i m' : Nat, f + i = l.length /\ m' <= 256 /\ walks (l.drop i) (d + 1) m' = fin /\ tm = [(1, .int .i64 (d : Int)), (2, .int .i64 (m' : Int)), (23, .sl .ext (itEs l)), (24, .int .i64 ((itEs l).length : Int)), (25, .int .i64 (i : Int)), (6, .int .i64 0)] /\ bx = [itC k n b l] /\ fr = []) (l.length + 1) (Lands.mk' (m := l.length) (Nat.lt_succ_self _) ⟨0, m - 1, rfl, by omega, hfin, rfl, rfl, rfl⟩ ?_ rfl rfl rfl rfl rfl rfl) ?_
  ·exact .cons rfl (.cons rfl (.cons rfl (.cons rfl (.cons rfl (.cons rfl .nil)))))
  rintro f tm bx fr ⟨i, m', hf, hm', hfin, rfl, rfl, rfl⟩
  have hU := uniI l
  rcases Nat.lt_or_ge i l.length with hlt | hge
  ·have hdl : decide ((i : Int) < ((itEs l).length : Int)) = true := decide_eq_true (by omega)
   obtain ⟨⟨k1, n1, b1, l1⟩, hy⟩ : ∃ y, l[i]? = some y := ⟨_, List.getElem?_eq_getElem hlt⟩
   have hv : (itEs l)[((i : Nat) : Int).toNat]? = some (.agg [.int .i64 k1, .int .u64 (n1 : Int), .sl (b1.map E.byte), .sl (itEs l1)]) := by
    rw [Int.toNat_natCast, itEs_map, List.getElem?_map, hy]; rfl
   have hmem := List.mem_of_getElem? hy
   have hc := ih _ hmem (wfs_mem hws _ hmem) (d + 1) m' (by omega) hm'
   have hdr : l.drop i = It.mk k1 n1 b1 l1 :: l.drop (i + 1) := by
    rw [List.drop_eq_getElem_cons hlt]; congr 1
    have := (List.getElem?_eq_some_iff.1 hy).2; exact this
   rw [hdr, walks] at hfin
   have ei : IntKind.i64.wrap ((i : Int) + 1) = ((i + 1 : Nat) : Int) := by rw [IntWalk.i64_in _ (by omega)]; omega
   cases hwk : walkI (.mk k1 n1 b1 l1) (d + 1) m' with
   | none =>
    rw [hwk] at hfin hc
    subst hfin
    repeat' (first | rw [ed] | (apply AL_callPw (hc); kernel_rfl; (iterate 4 exact rfl)) | (apply AL_go ttok; exact rfl) | (apply AW_go ttok; exact rfl) | (apply AW_condA; exact rfl; (first | with_reducible assumption | decide +kernel)) | (apply AL_idx ttok; (iterate 6 exact rfl); (first | with_reducible assumption | decide +kernel | exact Int.natCast_nonneg _ | (guard_target = (0:Int) <= (OfNat.ofNat _ : Int); decide) | rotate_left); (first | with_reducible assumption | decide +kernel | exact rfl); (first | exact uniB_ok rfl | with_reducible assumption | decide +kernel | rotate_left)))
    all_goals (apply endQ []; (apply resG_ok ttok; exact rfl); (iterate 4 exact rfl))
    all_goals rfl
   | some r =>
    rw [hwk] at hfin hc
    simp only [wkN] at hc
    have hlt2 := walkI_lt hwk
    have tr : decide ((r : Int) < 0) = false := by simp
    repeat' (first | rw [ed] | rw [ei] | (apply AL_callPw (hc); kernel_rfl; (iterate 4 exact rfl)) | (apply AL_go ttok; exact rfl) | (apply AW_go ttok; exact rfl) | (apply AW_condA; exact rfl; (first | with_reducible assumption | decide +kernel)) | (apply AW_condB; exact rfl; (first | with_reducible assumption | decide +kernel)) | (apply AL_idx ttok; (iterate 6 exact rfl); (first | with_reducible assumption | decide +kernel | exact Int.natCast_nonneg _ | (guard_target = (0:Int) <= (OfNat.ofNat _ : Int); decide) | rotate_left); (first | with_reducible assumption | decide +kernel | exact rfl); (first | exact uniB_ok rfl | with_reducible assumption | decide +kernel | rotate_left)))
    refine Lands.mk' (m := f - 1) (by omega) ⟨i + 1, r, by omega, by omega, hfin, rfl, rfl, rfl⟩ ?_ rfl rfl rfl rfl rfl rfl
    exact .cons rfl (.cons rfl (.cons rfl (.cons rfl (.cons rfl (.cons rfl .nil)))))
  ·have hdl : decide ((i : Int) < ((itEs l).length : Int)) = false := decide_eq_false (by omega)
   have hdr : l.drop i = [] := List.drop_eq_nil_of_le hge
   rw [hdr, walks] at hfin
   subst hfin
   repeat' (first | (apply AW_go ttok; exact rfl) | (apply AW_condB; exact rfl; (first | with_reducible assumption | decide +kernel)))
   all_goals (apply endQ []; (apply resG_ok ttok; exact rfl); (iterate 4 exact rfl))
   all_goals rfl
theorem av_rightI [Known] [KnownU8] (x : It) (hw : wfI x) : AP Tryz.prog 70 [itD x] (.bool (rightI x)) [] := by
 have hk := av_walk x hw 1 256 (by omega) (by omega)
 have e : decide (wkN (walkI x 1 256) ≥ 0) = rightI x := by
  unfold rightI
  cases walkI x 1 256 <;> simp [wkN]
 obtain ⟨k, n, b, l⟩ := x
 refine AP.ofA ?_
 refine AC_of Tryz.func70 rfl Tryz.ntmps70 rfl rfl ?_
 repeat' (first | rw [e] | (apply AL_callPw (hk); kernel_rfl; (iterate 4 exact rfl)) | (apply AL_go ttok; exact rfl) | (apply AW_go ttok; exact rfl))
 all_goals (apply endQ []; (apply resG_ok ttok; exact rfl); (iterate 4 exact rfl))
 all_goals rfl
end Go.Proofs.YtpodhnaofhfinaaGreatDoor
end
section
open Go.RowKit Go.Pl
namespace Go.Av
inductive Zy where
 | pu (d : D)
 | al (cs : List D)
def z0 (p : Nat × Zy) : Nat × D := (p.1, match p.2 with | .pu d => d | .al _ => .junk)
def zfin : Nat -> List (Nat × Zy) -> List (Nat × D) -> List (Nat × D)
 | _, [], tm => tm
 | m, (_, .pu _) :: zs, tm => zfin m zs tm
 | m, (t, .al _) :: zs, tm => zfin (m + 1) zs ((t, .ptr m 0) :: tm)
def zcs : List (Nat × Zy) -> List (List D)
 | [] => []
 | (_, .pu _) :: zs => zcs zs
 | (_, .al cs) :: zs => cs :: zcs zs
section
variable {P : Program} {T : Tab} {Q : X -> St -> Prop} {n : Nat} {ee : Nat × Nat} {tm tm' : List (Nat × D)} {bx : List (List D)} {fr : List Fr} {b0 : Bs} {g g' : G} {w w' : World} {a : Act}
inductive AZ [Known] [Dfr] (P : Program) (T : Tab) (l : List Oper) (n : Nat) (bx : List (List D)) (fr : List Fr) : List Oper -> List (Nat × D) -> List (Nat × Zy) -> List (Nat × D) -> Prop
 | nil (tm : List (Nat × D)) : AZ P T l n bx fr [] tm [] tm
 | pu (o : Oper) (rest : List Oper) (t : Nat) (d : D) (tm : List (Nat × D)) (zs : List (Nat × Zy)) (tm' : List (Nat × D)) (hd : o.dst = some t) (ht : Nat.blt t n = true) (h : AL P l.toArray [o] ⟨n, restr l o tm, bx, fr, (bx.length, fr.length)⟩ (qY o bx fr (.pu d))) (k : AZ P T l n bx fr rest ((t, d) :: tm) zs tm') : AZ P T l n bx fr (o :: rest) tm ((t, .pu d) :: zs) tm'
 | al (t : Nat) (e : TypeId) (ty : Nat) (pos : String) (after : Array Edge) (rest : List Oper) (ti : Ti) (tm : List (Nat × D)) (zs : List (Nat × Zy)) (tm' : List (Nat × D)) (ht : Nat.blt t n = true) (hti : tl T e = some ti) (k : AZ P T l n bx fr rest ((t, .junk) :: tm) zs tm') : AZ P T l n bx fr (⟨some t, .alloc e, ty, pos, after, none⟩ :: rest) tm ((t, .al (ti.zero.map ZK.d)) :: zs) tm'
theorem restr_filter (l : List Oper) (o : Oper) : ∀ tm : List (Nat × D), restr l o tm = tm.filter fun p => (looks l o).contains p.1
 | [] => rfl
 | p :: tm => by
  rw [restr, List.filter_cons, restr_filter l o tm]
  cases (looks l o).contains p.1 <;> rfl
theorem Evo.al [Known] (hm : Mem g bx fr w) (o : Obj) : Evo ⟨g, fr, w⟩ ⟨g, fr, w.alloc o⟩ :=
 ⟨rfl, rfl, rfl, by simp, fun k hk _ => Below.heap_alloc w _ k hk, fun _ _ h => h, fun k p h => cell_alloc w _ (hm.Clt k p h) p, fun _ _ h => .inl h, fun _ _ h => h, fun _ h => .inl h, fun k c h => .inl ⟨c, h⟩, TokOn.refl _ _⟩
theorem Mem.al [Known] (hm : Mem g bx fr w) (o : Obj) : Mem g bx fr (w.alloc o) where
 bl := hm.bl
 bat i k cs' h1 h2 := by
  obtain ⟨us, ty, k1, k2, k3⟩ := hm.bat i k cs' h1 h2
  exact ⟨us, ty, (Below.heap_alloc w _ k (Array.getElem?_eq_some_iff.1 k1).1).trans k1, k2, fun j d v hd hv => (k3 j d v hd hv).evo (Evo.al hm o)⟩
 bC := hm.bC
 bN := hm.bN
 tl := hm.tl
 tat i k c f h1 h2 := by
  have hT := hm.tat i k c f h1 h2
  obtain ⟨cur, r1, r2⟩ := hT.row
  exact ⟨⟨cur, (Below.heap_alloc w _ k (Array.getElem?_eq_some_iff.1 r1).1).trans r1, r2⟩, hT.le, hT.max, hT.pos, hT.far⟩
 tN := hm.tN
 tρ := hm.tρ
 Clt k p hC := by
  have := hm.Clt k p hC
  simp; omega
 gl := hm.gl.evo (Evo.al hm o)
theorem mem_snoc {k k' : Nat} (h : M ⟨g.C, g.ρ ++ [k], g.τ⟩ k') : M g k' \/ k' = k := by
 rcases h with h | h
 ·rcases List.mem_append.1 h with h | h
  ·exact .inl (.inl h)
  ·simp at h; exact .inr h
 ·exact .inl (.inr h)
structure AZk [Known] [Dfr] (P : Program) (l acts : List Oper) (n : Nat) (zs : List (Nat × Zy)) (tm : List (Nat × D)) (bx : List (List D)) (fr : List Fr) (ee : Nat × Nat) (Q : X -> St -> Prop) : Prop where
 run : AL P l.toArray acts ⟨n, zfin bx.length zs tm, bx ++ zcs zs, fr, ee⟩ Q
end
end Go.Av
end

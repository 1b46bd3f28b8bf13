/- Package bundle: which blocks go together. -/
import Derived.Test.YtpodhnaofhfinaaGreatDoorG30
import Derived.Test.YtpodhnaofhfinaaGreatDoorG28
import Derived.Test.YtpodhnaofhfinaaGreatDoorG19
import Derived.Test.YtpodhnaofhfinaaGreatDoorG24
set_option linter.unusedVariables false
set_option linter.unusedSimpArgs false
section
open Go.RowKit Go.Pl Go.Av
namespace Go.Proofs.YtpodhnaofhfinaaGreatDoor
set_option maxHeartbeats 4000000
abbrev bkE (b : BlkV) : E := .agg [.int .u64 (b.ty : Int), .int .u64 (b.num : Int), .int .u64 (b.fl : Int), .int .i64 b.sum, .sl (b.data.map E.byte)]
abbrev bksE (l : List BlkV) : List E := l.map bkE
theorem uniK (l : List BlkV) : Uni 5 (bksE l) := Uni.map (f := bkE) (fun _ => rfl) l
theorem bks_len (l : List BlkV) : (bksE l).length = l.length := List.length_map ..
theorem bks_get {l : List BlkV} {i : Nat} {b : BlkV} (h : l[i]? = some b) : (bksE l)[((i : Nat) : Int).toNat]? = some (.agg [.int .u64 (b.ty : Int), .int .u64 (b.num : Int), .int .u64 (b.fl : Int), .int .i64 b.sum, .sl (b.data.map E.byte)]) := by
 rw [Int.toNat_natCast, List.getElem?_map, h]; rfl
theorem alone_eq (k : Nat) : alone k = (((k : Int) == 1) || (((k : Int) == 6) || (((k : Int) == 7) || ((k : Int) == 10)))) := by
 unfold alone
 rw [Bool.eq_iff_iff]
 simp only [Bool.or_eq_true, beq_iff_eq]
 omega
theorem av_alone [Known] (k : Nat) : AP Tryz.prog 63 [.int .u64 (k : Int)] (.bool (alone k)) [] := by
 rw [alone_eq]
 refine AP.ofA ?_
 refine AC_of Tryz.func63 rfl Tryz.ntmps63 rfl rfl ?_
 repeat' (first | (apply AL_go ttok; exact rfl) | (apply AW_go ttok; exact rfl) | refine K_nil ?_ | (apply AL_guardT; (iterate 3 exact rfl); (first | with_reducible assumption | decide +kernel)) | (apply AL_guardFf; (iterate 3 exact rfl); (first | with_reducible assumption | decide +kernel)) | (apply AL_guardS; exact rfl; exact rfl; all_goals intro hb) | (apply AL_pickT; exact rfl; (first | with_reducible assumption | decide +kernel); exact rfl; exact rfl) | (apply AL_pickF; exact rfl; (first | with_reducible assumption | decide +kernel); exact rfl; exact rfl))
 all_goals (apply endQ []; (apply resG_ok ttok; exact rfl); (iterate 4 exact rfl))
 all_goals first | rfl | (simp only [*]; done) | (simp only [*]; rfl) | (simp [*]; done)
def newTo (b c : BlkV) : Bool := c.num != b.num && (c.ty != b.ty || !alone b.ty)
theorem new_eq (b c : BlkV) : newTo b c = (((c.num : Int) != (b.num : Int)) && (((c.ty : Int) != (b.ty : Int)) || !alone b.ty)) := by
 have e : ∀ a b : Nat, (a != b) = (((a : Nat) : Int) != (b : Int)) := fun a b => by rw [Bool.eq_iff_iff, bne_iff_ne, bne_iff_ne]; omega
 unfold newTo
 rw [e, e]
theorem fitL_cons (pre : List BlkV) (b : BlkV) (r : List BlkV) : fitL pre (b :: r) = (bkRight b && pre.all (newTo b) && fitL (pre ++ [b]) r) := by
 rw [fitL, Bool.and_assoc]; rfl
theorem fit_eq (l : List BlkV) : fitV l = match l[l.length - 1]? with
  | none => false
  | some b => decide (l.length <= 8) && ((b.ty : Int) == 1 && ((b.num : Int) == 1 && fitL [] l)) := by
 unfold fitV
 rw [List.getLast?_eq_getElem?]
 cases h : l[l.length - 1]? with
 | none => rfl
 | some b =>
  have e : ∀ a : Nat, (a == 1) = (((a : Nat) : Int) == 1) := fun a => by rw [Bool.eq_iff_iff, beq_iff_eq, beq_iff_eq]; omega
  dsimp only
  rw [e, e]
theorem av_fit [Known] [KnownU8] (l : List BlkV) (hl : l.length <= 1000000) (hd : ∀ c ∈ l, c.data.length <= 100000) : AP Tryz.prog 36 [.sl .ext (bksE l)] (.bool (fitV l)) [] := by
 have hlen := bks_len l
 have hU := uniK l
 have en : IntKind.i64.wrap (((bksE l).length : Int) - 1) = (l.length : Int) - 1 := by rw [IntWalk.i64_in _ (by omega)]; omega
 rw [fit_eq]
 cases hlast : l[l.length - 1]? with
 | none =>
  have h0 : l.length = 0 := by have := List.getElem?_eq_none_iff.1 hlast; omega
  have t1 : decide ((l.length : Int) - 1 < 0) = true := decide_eq_true (by omega)
  refine AP.ofA ?_
  refine AC_of Tryz.func36 rfl Tryz.ntmps36 rfl rfl ?_
  repeat' (first | refine AW_scope0 ?_ | rw [en] | (apply AL_go ttok; exact rfl) | (apply AW_go ttok; exact rfl) | (apply K_go ttok; exact rfl) | refine K_nil ?_ | (apply AL_guardFf; (iterate 3 exact rfl); (first | with_reducible assumption | decide +kernel)) | (apply AL_pickT; exact rfl; (first | with_reducible assumption | decide +kernel); exact rfl; exact rfl) | (apply AW_condA; exact rfl; (first | with_reducible assumption | decide +kernel)) | (apply AL_len ttok; (iterate 4 exact rfl)))
  all_goals (apply endQ []; (apply resG_ok ttok; exact rfl); (iterate 4 exact rfl))
  all_goals rfl
 | some b =>
 have hlt := (List.getElem?_eq_some_iff.1 hlast).1
 have hv0 := bks_get hlast
 rw [show ((l.length - 1 : Nat) : Int) = (l.length : Int) - 1 from by omega] at hv0
 have t1 : decide ((l.length : Int) - 1 < 0) = false := decide_eq_false (by omega)
 dsimp only
 rcases Nat.lt_or_ge 8 l.length with h8 | h8
 ·have t2 : decide ((l.length : Int) - 1 ≥ 8) = true := decide_eq_true (by omega)
  rw [decide_eq_false (by omega : ¬ l.length <= 8)]
  refine AP.ofA ?_
  refine AC_of Tryz.func36 rfl Tryz.ntmps36 rfl rfl ?_
  repeat' (first | refine AW_scope0 ?_ | rw [en] | (apply AL_go ttok; exact rfl) | (apply AW_go ttok; exact rfl) | (apply K_go ttok; exact rfl) | refine K_nil ?_ | (apply AL_guardT; (iterate 3 exact rfl); (first | with_reducible assumption | decide +kernel)) | (apply AL_guardFf; (iterate 3 exact rfl); (first | with_reducible assumption | decide +kernel)) | (apply AL_pickT; exact rfl; (first | with_reducible assumption | decide +kernel); exact rfl; exact rfl) | (apply AL_pickF; exact rfl; (first | with_reducible assumption | decide +kernel); exact rfl; exact rfl) | (apply AW_condA; exact rfl; (first | with_reducible assumption | decide +kernel)) | (apply AL_len ttok; (iterate 4 exact rfl)))
  all_goals (apply endQ []; (apply resG_ok ttok; exact rfl); (iterate 4 exact rfl))
  all_goals rfl
 have t2 : decide ((l.length : Int) - 1 ≥ 8) = false := decide_eq_false (by omega)
 rw [decide_eq_true h8]
 have i0 : (0 : Int) <= (l.length : Int) - 1 := by omega
 cases t3 : ((b.ty : Int) == 1) with
 | false =>
  have t5 : ((b.ty : Int) != 1) = true := by rw [bne, t3]; rfl
  refine AP.ofA ?_
  refine AC_of Tryz.func36 rfl Tryz.ntmps36 rfl rfl ?_
  repeat' (first | refine AW_scope0 ?_ | rw [en] | (apply AL_go ttok; exact rfl) | (apply AW_go ttok; exact rfl) | (apply K_go ttok; exact rfl) | refine K_nil ?_ | (apply AL_guardT; (iterate 3 exact rfl); (first | with_reducible assumption | decide +kernel)) | (apply AL_guardFf; (iterate 3 exact rfl); (first | with_reducible assumption | decide +kernel)) | (apply AL_pickT; exact rfl; (first | with_reducible assumption | decide +kernel); exact rfl; exact rfl) | (apply AL_pickF; exact rfl; (first | with_reducible assumption | decide +kernel); exact rfl; exact rfl) | (apply AW_condA; exact rfl; (first | with_reducible assumption | decide +kernel)) | (apply AL_len ttok; (iterate 4 exact rfl)) | (apply AL_idx ttok; (iterate 6 exact rfl); (first | with_reducible assumption | decide +kernel | exact Int.natCast_nonneg _ | (guard_target = (0:Int) <= (OfNat.ofNat _ : Int); decide) | rotate_left); (first | with_reducible assumption | decide +kernel | exact rfl); (first | exact uniB_ok rfl | with_reducible assumption | decide +kernel | rotate_left)))
  all_goals (apply endQ []; (apply resG_ok ttok; exact rfl); (iterate 4 exact rfl))
  all_goals rfl
 | true =>
 have t5 : ((b.ty : Int) != 1) = false := by rw [bne, t3]; rfl
 cases t4 : ((b.num : Int) == 1) with
 | false =>
  have t6 : ((b.num : Int) != 1) = true := by rw [bne, t4]; rfl
  refine AP.ofA ?_
  refine AC_of Tryz.func36 rfl Tryz.ntmps36 rfl rfl ?_
  repeat' (first | refine AW_scope0 ?_ | rw [en] | (apply AL_go ttok; exact rfl) | (apply AW_go ttok; exact rfl) | (apply K_go ttok; exact rfl) | refine K_nil ?_ | (apply AL_guardT; (iterate 3 exact rfl); (first | with_reducible assumption | decide +kernel)) | (apply AL_pickF; exact rfl; (first | with_reducible assumption | decide +kernel); exact rfl; exact rfl) | (apply AW_condA; exact rfl; (first | with_reducible assumption | decide +kernel)) | (apply AL_len ttok; (iterate 4 exact rfl)) | (apply AL_idx ttok; (iterate 6 exact rfl); (first | with_reducible assumption | decide +kernel | exact Int.natCast_nonneg _ | (guard_target = (0:Int) <= (OfNat.ofNat _ : Int); decide) | rotate_left); (first | with_reducible assumption | decide +kernel | exact rfl); (first | exact uniB_ok rfl | with_reducible assumption | decide +kernel | rotate_left)))
  all_goals (apply endQ []; (apply resG_ok ttok; exact rfl); (iterate 4 exact rfl))
  all_goals rfl
 | true =>
 have t6 : ((b.num : Int) != 1) = false := by rw [bne, t4]; rfl
 rw [Bool.true_and, Bool.true_and, Bool.true_and]
 generalize hF : fitL [] l = F
 refine AP.ofA ?_
 refine AC_of Tryz.func36 rfl Tryz.ntmps36 rfl rfl ?_
 repeat' (first | refine AW_scope0 ?_ | rw [en] | (apply AL_go ttok; exact rfl) | (apply AW_go ttok; exact rfl) | (apply K_go ttok; exact rfl) | (apply AL_guardT; (iterate 3 exact rfl); (first | with_reducible assumption | decide +kernel)) | (apply AL_pickF; exact rfl; (first | with_reducible assumption | decide +kernel); exact rfl; exact rfl) | (apply AW_condB; exact rfl; (first | with_reducible assumption | decide +kernel)) | (apply AL_len ttok; (iterate 4 exact rfl)) | (apply AL_idx ttok; (iterate 6 exact rfl); (first | with_reducible assumption | decide +kernel | exact Int.natCast_nonneg _ | (guard_target = (0:Int) <= (OfNat.ofNat _ : Int); decide) | rotate_left); (first | with_reducible assumption | decide +kernel | exact rfl); (first | exact uniB_ok rfl | with_reducible assumption | decide +kernel | rotate_left)))
 refine AW_loopJ (fun f tm bx fr => ∃ (i : Nat), f + i = l.length /\ fitL (l.take i) (l.drop i) = F /\ tm = [(0, .sl .ext (bksE l)), (4, .bool true), (34, .sl .ext (bksE l)), (35, .int .i64 ((bksE l).length : Int)), (36, .int .i64 (i : Int))] /\ bx = [] /\ fr = []) (l.length + 1) (Lands.mk' (m := l.length) (Nat.lt_succ_self _) ⟨0, by omega, hF, rfl, rfl, rfl⟩ ?_ rfl rfl rfl rfl rfl rfl) ?_
 ·exact .cons rfl (.cons rfl (.cons rfl (.cons rfl (.cons rfl .nil))))
 rintro f tm bx fr ⟨i, hf, hq, rfl, rfl, rfl⟩
 rcases Nat.lt_or_ge i l.length with hlt | hge
 ·have hdl : decide ((i : Int) < ((bksE l).length : Int)) = true := decide_eq_true (by omega)
  obtain ⟨b, hy⟩ : ∃ y, l[i]? = some y := ⟨_, List.getElem?_eq_getElem hlt⟩
  have hv := bks_get hy
  have hR := av_bRight b (hd b (List.mem_of_getElem? hy))
  have hA := av_alone b.ty
  have hdr : l.drop i = b :: l.drop (i + 1) := by
   rw [List.drop_eq_getElem_cons hlt]; congr 1
   exact (List.getElem?_eq_some_iff.1 hy).2
  rw [hdr, fitL_cons] at hq
  have ht1 : l.take (i + 1) = l.take i ++ [b] := by rw [List.take_add_one, hy]; rfl
  rw [<- ht1] at hq
  have ei : IntKind.i64.wrap ((i : Int) + 1) = ((i + 1 : Nat) : Int) := by rw [IntWalk.i64_in _ (by omega)]; omega
  generalize hr : bkRight b = r at hR hq
  have hle : ((i : Nat) : Int).toNat <= (bksE l).length := by rw [Int.toNat_natCast]; omega
  have hI : (bksE l).take ((i : Nat) : Int).toNat = bksE (l.take i) := by rw [Int.toNat_natCast]; exact List.map_take.symm
  have hli : (l.take i).length = i := by rw [List.length_take]; omega
  have hlb := bks_len (l.take i)
  have hU2 := uniK (l.take i)
  generalize hlt2 : l.take i = p at *
  repeat' (first | (apply AL_callPw (hR); kernel_rfl; (iterate 4 exact rfl)) | (apply AL_uptoE ttok; (iterate 6 exact rfl); exact hU; exact Int.natCast_nonneg _; exact hle; exact hI) | (apply AL_go ttok; exact rfl) | (apply AW_go ttok; exact rfl) | (apply AW_condA; exact rfl; (first | with_reducible assumption | decide +kernel)) | (apply AL_len ttok; (iterate 4 exact rfl)) | (apply AL_idx ttok; (iterate 6 exact rfl); (first | with_reducible assumption | decide +kernel | exact Int.natCast_nonneg _ | (guard_target = (0:Int) <= (OfNat.ofNat _ : Int); decide) | rotate_left); (first | with_reducible assumption | decide +kernel | exact rfl); (first | exact uniB_ok rfl | with_reducible assumption | decide +kernel | rotate_left)))
  refine AW_loopJ (fun f tm bx fr => ∃ (j : Nat), f + j = p.length /\ tm = [(0, .sl .ext (bksE l)), (4, .bool (r && (p.take j).all (newTo b))), (6, .ptr 0 0), (34, .sl .ext (bksE l)), (35, .int .i64 ((bksE l).length : Int)), (36, .int .i64 (i : Int)), (45, .sl .ext (bksE p)), (46, .int .i64 ((bksE p).length : Int)), (47, .int .i64 (j : Int))] /\ bx = [bkC b] /\ fr = []) (p.length + 1) (Lands.mk' (m := p.length) (Nat.lt_succ_self _) ⟨0, by omega, by rw [List.take_zero, List.all_nil, Bool.and_true], rfl, rfl⟩ ?_ rfl rfl rfl rfl rfl rfl) ?_
  ·exact .cons rfl (.cons rfl (.cons rfl (.cons rfl (.cons rfl (.cons rfl (.cons rfl (.cons rfl (.cons rfl .nil))))))))
  rintro f2 tm bx fr ⟨j, hj, rfl, rfl, rfl⟩
  rcases Nat.lt_or_ge j p.length with hjl | hjg
  ·have hdl2 : decide ((j : Int) < ((bksE p).length : Int)) = true := decide_eq_true (by omega)
   obtain ⟨c, hc⟩ : ∃ y, p[j]? = some y := ⟨_, List.getElem?_eq_getElem hjl⟩
   have hv2 := bks_get hc
   have ej : IntKind.i64.wrap ((j : Int) + 1) = ((j + 1 : Nat) : Int) := by rw [IntWalk.i64_in _ (by omega)]; omega
   have ht2 : (p.take (j + 1)).all (newTo b) = ((p.take j).all (newTo b) && newTo b c) := by rw [List.take_add_one, hc, List.all_append]; simp
   have hok : (r && (p.take (j + 1)).all (newTo b)) = ((r && (p.take j).all (newTo b)) && (((c.num : Int) != (b.num : Int)) && (((c.ty : Int) != (b.ty : Int)) || !alone b.ty))) := by rw [ht2, new_eq, Bool.and_assoc]
   generalize (r && (p.take j).all (newTo b)) = ok at *
   have key : ∀ v : Bool, v = (r && (p.take (j + 1)).all (newTo b)) -> ∃ (j' : Nat), f2 - 1 + j' = p.length /\ [(0, D.sl .ext (bksE l)), (4, .bool v), (6, .ptr 0 0), (34, .sl .ext (bksE l)), (35, .int .i64 ((bksE l).length : Int)), (36, .int .i64 (i : Int)), (45, .sl .ext (bksE p)), (46, .int .i64 ((bksE p).length : Int)), (47, .int .i64 ((j + 1 : Nat) : Int))] = [(0, .sl .ext (bksE l)), (4, .bool (r && (p.take j').all (newTo b))), (6, .ptr 0 0), (34, .sl .ext (bksE l)), (35, .int .i64 ((bksE l).length : Int)), (36, .int .i64 (i : Int)), (45, .sl .ext (bksE p)), (46, .int .i64 ((bksE p).length : Int)), (47, .int .i64 (j' : Int))] /\ [bkC b] = [bkC b] /\ ([] : List Fr) = [] := fun v hv => ⟨j + 1, by omega, by rw [hv], rfl, rfl⟩
   cases ok <;> cases n1 : ((c.num : Int) != (b.num : Int)) <;> cases n2 : ((c.ty : Int) != (b.ty : Int)) <;> cases n3 : alone b.ty <;> rw [n1, n2, n3] at hok <;> rw [n3] at hA
   all_goals repeat' (first | rw [ej] | (apply AL_callPw (hA); kernel_rfl; (iterate 4 exact rfl)) | (apply AL_go ttok; exact rfl) | (apply AW_go ttok; exact rfl) | refine K_nil ?_ | (apply AL_guardT; (iterate 3 exact rfl); (first | with_reducible assumption | decide +kernel)) | (apply AL_guardFt; (iterate 3 exact rfl); (first | with_reducible assumption | decide +kernel)) | (apply AL_guardFf; (iterate 3 exact rfl); (first | with_reducible assumption | decide +kernel)) | (apply AL_guardU; (iterate 3 exact rfl)) | (apply AL_pickT; exact rfl; (first | with_reducible assumption | decide +kernel); exact rfl; exact rfl) | (apply AL_pickF; exact rfl; (first | with_reducible assumption | decide +kernel); exact rfl; exact rfl) | (apply AW_condA; exact rfl; (first | with_reducible assumption | decide +kernel)) | refine then_norm ?_ | (apply AL_idx ttok; (iterate 6 exact rfl); (first | with_reducible assumption | decide +kernel | exact Int.natCast_nonneg _ | (guard_target = (0:Int) <= (OfNat.ofNat _ : Int); decide) | rotate_left); (first | with_reducible assumption | decide +kernel | exact rfl); (first | exact uniB_ok rfl | with_reducible assumption | decide +kernel | rotate_left)))
   all_goals refine Lands.mk' (m := f2 - 1) (by omega) (key _ (by rw [hok])) ?_ rfl rfl rfl rfl rfl rfl
   all_goals exact .cons rfl (.cons rfl (.cons rfl (.cons rfl (.cons rfl (.cons rfl (.cons rfl (.cons rfl (.cons rfl .nil))))))))
  ·have hdl2 : decide ((j : Int) < ((bksE p).length : Int)) = false := decide_eq_false (by omega)
   rw [List.take_of_length_le hjg]
   generalize (r && p.all (newTo b)) = ok at *
   cases ok with
   | true =>
    repeat' (first | rw [ei] | (apply AW_go ttok; exact rfl) | refine K_nil ?_ | (apply AW_condB; exact rfl; (first | with_reducible assumption | decide +kernel)) | refine then_norm ?_)
    refine Lands.mk' (m := f - 1) (by omega) ⟨i + 1, by omega, by simpa using hq, rfl, rfl, rfl⟩ ?_ rfl rfl rfl rfl rfl rfl
    exact .cons rfl (.cons rfl (.cons rfl (.cons rfl (.cons rfl .nil))))
   | false =>
    rw [Bool.false_and] at hq
    subst hq
    repeat' (first | (apply AW_go ttok; exact rfl) | refine K_nil ?_ | (apply AW_condA; exact rfl; (first | with_reducible assumption | decide +kernel)) | (apply AW_condB; exact rfl; (first | with_reducible assumption | decide +kernel)))
    all_goals (apply endQ []; (apply resG_ok ttok; exact rfl); (iterate 4 exact rfl))
    all_goals rfl
 ·have hdl : decide ((i : Int) < ((bksE l).length : Int)) = false := decide_eq_false (by omega)
  rw [List.drop_eq_nil_of_le hge, fitL] at hq
  subst hq
  repeat' (first | (apply AW_go ttok; exact rfl) | refine K_nil ?_ | (apply AW_condB; exact rfl; (first | with_reducible assumption | decide +kernel)))
  all_goals (apply endQ []; (apply resG_ok ttok; exact rfl); (iterate 4 exact rfl))
  all_goals rfl
end Go.Proofs.YtpodhnaofhfinaaGreatDoor
end
section
open Go.RowKit Go.Pl Go.Av
namespace Go.Proofs.YtpodhnaofhfinaaGreatDoor
set_option maxHeartbeats 4000000
abbrev bnC (b : BunV) : List D := [.int .u64 (b.p.fl : Int), .int .i64 b.p.sum, .bool b.p.dest.i, .int .u64 (b.p.dest.n : Int), .int .u64 (b.p.dest.s : Int), .str b.p.dest.h, .str b.p.dest.d, .bool b.p.rep.i, .int .u64 (b.p.rep.n : Int), .int .u64 (b.p.rep.s : Int), .str b.p.rep.h, .str b.p.rep.d, .bool b.p.src.i, .int .u64 (b.p.src.n : Int), .int .u64 (b.p.src.s : Int), .str b.p.src.h, .str b.p.src.d, .int .u64 (b.p.t : Int), .int .u64 (b.p.q : Int), .int .u64 (b.p.life : Int), .sl .ext (bksE b.bl)]
structure BunOk (b : BunV) : Prop where
 fl : b.p.fl < 18446744073709551616
 len : b.bl.length <= 1000000
 bl : ∀ c ∈ b.bl, c.fl < 18446744073709551616 /\ c.data.length <= 3000
theorem put_sealed {l : List It} {a : Int} {x : It} (h : sealV l a = (x, 0)) : (putI x).length <= (puts l).length + 40 := by
 rcases seal_cases h with rfl | ⟨s, hs, rfl⟩
 ·have := put_small 4 0 [] l
  simp at this ⊢; omega
 ·have h0 := put_small 4 0 [] (l ++ [.mk 2 0 (sumB s (putI (zeroL s l))) []])
  have h1 := put_small 2 0 (sumB s (putI (zeroL s l))) []
  have h2 := sumB_len s (putI (zeroL s l)) hs
  rw [puts_appP] at h0
  simp only [puts, List.length_append, List.length_nil, Nat.add_zero, Nat.zero_add] at h0 h1
  show (putI (.mk 4 0 [] (l ++ [.mk 2 0 (sumB s (putI (zeroL s l))) []]))).length <= _
  omega
theorem put_wB {b : BlkV} {x : It} (h : writeB b = (x, 0)) (hd : b.data.length <= 3000) : (putI x).length <= 4000 := by
 obtain ⟨_, hs⟩ := right_of_write h
 have h0 := put_sealed hs
 have n1 := num_len b.ty
 have n2 := num_len b.num
 have n3 := num_len b.fl
 have n4 := num_len b.sum.toNat
 have n5 := put_small 2 0 b.data []
 simp only [listB, puts, List.length_append, List.length_nil, Nat.add_zero, Nat.zero_add] at h0 n5
 omega
theorem put_wP {p : PriV} {x : It} (h : writeP p = (x, 0)) : (putI x).length <= 4000 := by
 obtain ⟨hr, hs⟩ := right_of_writeP h
 have h0 := put_sealed hs
 obtain ⟨h1, h2, h3, h4, h5, h6⟩ := pr_facts hr
 obtain ⟨i1, _, _⟩ := iRight_iff.1 h5
 have n1 := num_len 7
 have n2 := num_len p.fl
 have n3 := num_len p.sum.toNat
 have n4 := item_len h3
 have n5 := item_len i1
 have n6 := item_len h4
 have n7 := hop_len p.t p.q
 have n8 := num_len p.life
 have e7 : hopI p.t p.q = .mk 4 0 [] [.mk 0 p.t [] [], .mk 0 p.q [] []] := rfl
 rw [e7] at n7
 simp only [listP, puts, List.length_append, List.length_nil, Nat.add_zero, Nat.zero_add] at h0
 omega
abbrev wB1 (c : BlkV) : It := (writeB c).1
abbrev itemsD (b : BunV) : D := match okAll b with
 | true => .tup [byE (puts (itemsL b)), .bool true]
 | false => .tup [.sl .ext [], .bool false]
theorem puts_len_le : ∀ (l : List BlkV), (∀ c ∈ l, (writeB c).2 = 0 /\ c.data.length <= 3000) -> (puts (l.map wB1)).length <= 4000 * l.length
 | [], _ => by simp [puts]
 | c :: l, h => by
  have h1 : (putI (wB1 c)).length <= 4000 := put_wB (x := (writeB c).1) (Prod.ext rfl (h c (List.mem_cons_self ..)).1) (h c (List.mem_cons_self ..)).2
  have h2 := puts_len_le l fun y hy => h y (List.mem_cons_of_mem _ hy)
  rw [List.map_cons, puts, List.length_append, List.length_cons]
  omega
theorem av_items [Known] [KnownU8] (b : BunV) (hb : BunOk b) : AP Tryz.prog 37 [.agg (bnC b)] (itemsD b) [] := by
 have hW := av_pWriteR b.p hb.fl
 have hlen := bks_len b.bl
 have hUb := uniK b.bl
 have hl := hb.len
 unfold itemsD okAll
 rcases hwp : writeP b.p with ⟨x, e⟩
 rw [hwp] at hW
 have hx := wf_writeP (p := b.p) hb.fl
 rw [hwp] at hx
 dsimp only [sealD] at hW hx
 by_cases he : e = 0
 case neg =>
  have te : ((e : Int) != 0) = true := by simpa using he
  have te2 : ((e : Int) == 0) = false := by simpa using he
  dsimp only
  rw [te2]
  obtain ⟨k, n, bb, l⟩ := x
  obtain ⟨⟨fl, sum, ⟨di, dn, ds, dh, dd⟩, ⟨ri, rn, rs, rh, rd⟩, ⟨xi, xn, xs, xh, xd⟩, t, q, life⟩, bl⟩ := b
  dsimp only at *
  refine AP.ofA ?_
  refine AC_of Tryz.func37 rfl Tryz.ntmps37 rfl rfl ?_
  repeat' (first | (apply AL_callPw (hW); kernel_rfl; (iterate 4 exact rfl)) | (apply AL_go ttok; exact rfl) | (apply AW_go ttok; exact rfl) | (apply K_go ttok; exact rfl) | (apply AW_condA; exact rfl; (first | with_reducible assumption | decide +kernel)))
  all_goals (apply endQ []; (apply resG_ok ttok; exact rfl); (iterate 4 exact rfl))
  all_goals rfl
 subst he
 obtain ⟨hrP, hsP⟩ := right_of_writeP hwp
 have hxr := seal_right hsP
 have hxl := put_wP hwp
 obtain ⟨c0, t0, hp0⟩ := put_ne x hx hxr
 have hC := av_writeT x hx hxr (by omega)
 dsimp only
 rw [show ((0 : Int) == 0) = true from rfl, Bool.true_and]
 have hit : itemsL b = x :: b.bl.map wB1 := by unfold itemsL; rw [hwp]
 rw [hit, puts]
 generalize hall : (b.bl.all fun c => (writeB c).2 == 0) = A
 rw [hp0] at hC hxl ⊢
 clear hwp hsP hrP hit
 have hxw := hx
 obtain ⟨k, n, bb, l⟩ := x
 clear hx hxw hxr hp0
 obtain ⟨⟨fl, sum, ⟨di, dn, ds, dh, dd⟩, ⟨ri, rn, rs, rh, rd⟩, ⟨xi, xn, xs, xh, xd⟩, t, q, life⟩, bl⟩ := b
 obtain ⟨_, _, hbl⟩ := hb
 dsimp only at *
 refine AP.ofA ?_
 refine AC_of Tryz.func37 rfl Tryz.ntmps37 rfl rfl ?_
 repeat' (first | (apply AL_callPw (hW); kernel_rfl; (iterate 4 exact rfl)) | (apply AL_callT [] [] (hC); kernel_rfl; (iterate 10 exact rfl)) | (apply AL_go ttok; exact rfl) | (apply AW_go ttok; exact rfl) | (apply AW_condB; exact rfl; (first | with_reducible assumption | decide +kernel)) | (apply AL_len ttok; (iterate 4 exact rfl)))
 show AW _ _ _ _
 refine AW_loopJ (fun f tm bx fr => ∃ (i c : Nat) (L : List E), f + i = bl.length /\ c = L.length /\ L = (c0 :: t0 ++ puts ((bl.take i).map wB1)).map E.byte /\ (∀ c ∈ bl.take i, (writeB c).2 = 0 /\ c.data.length <= 3000) /\ ((bl.drop i).all fun c => (writeB c).2 == 0) = A /\ tm = [(6, .sl (.own 0) L), (28, .sl .ext (bksE bl)), (29, .int .i64 ((bksE bl).length : Int)), (30, .int .i64 (i : Int))] /\ bx = [] /\ fr = [⟨c, 1, 5⟩]) (bl.length + 1) (Lands.mk' (m := bl.length) (Nat.lt_succ_self _) ⟨0, (c0 :: t0).length, (c0 :: t0).map E.byte, by omega, by rw [List.length_map], by simp [puts], by simp, hall, rfl, rfl, rfl⟩ ?_ rfl rfl rfl rfl rfl rfl) ?_
 ·exact .cons rfl (.cons rfl (.cons rfl (.cons rfl .nil)))
 rintro f tm bx fr ⟨i, c, L, hf, hc, hL, hpre, hA, rfl, rfl, rfl⟩
 subst hc
 have hUL : Uni 1 L := by rw [hL]; exact uniB1 _
 have hLl : L.length = (c0 :: t0).length + (puts ((bl.take i).map wB1)).length := by rw [hL, List.length_map, List.length_append]
 have hpl := puts_len_le _ hpre
 have hti : (bl.take i).length <= 1000000 := by rw [List.length_take]; omega
 rcases Nat.lt_or_ge i bl.length with hlt | hge
 ·have hdl : decide ((i : Int) < ((bksE bl).length : Int)) = true := decide_eq_true (by omega)
  obtain ⟨y, hy⟩ : ∃ y, bl[i]? = some y := ⟨_, List.getElem?_eq_getElem hlt⟩
  have hv := bks_get hy
  obtain ⟨hyf, hyd⟩ := hbl y (List.mem_of_getElem? hy)
  have hB := av_bWrite y hyf hyd
  have hdr : bl.drop i = y :: bl.drop (i + 1) := by
   rw [List.drop_eq_getElem_cons hlt]; congr 1
   exact (List.getElem?_eq_some_iff.1 hy).2
  rw [hdr, List.all_cons] at hA
  have ht1 : bl.take (i + 1) = bl.take i ++ [y] := by rw [List.take_add_one, hy]; rfl
  have ei : IntKind.i64.wrap ((i : Int) + 1) = ((i + 1 : Nat) : Int) := by rw [IntWalk.i64_in _ (by omega)]; omega
  rcases hwy : writeB y with ⟨z, e⟩
  have hz := wf_write hyf hyd
  rw [hwy] at hB hA hz
  dsimp only [sealD] at hB hA hz
  by_cases he : e = 0
  case neg =>
   have te : ((e : Int) != 0) = true := by simpa using he
   have te2 : ((e : Int) == 0) = false := by simpa using he
   rw [te2, Bool.false_and] at hA
   subst hA
   obtain ⟨k2, n2, b2, l2⟩ := z
   repeat' (first | (apply AL_callPw (hB); kernel_rfl; (iterate 4 exact rfl)) | (apply AL_go ttok; exact rfl) | (apply AW_go ttok; exact rfl) | (apply K_go ttok; exact rfl) | (apply AW_condA; exact rfl; (first | with_reducible assumption | decide +kernel)) | (apply AL_idx ttok; (iterate 6 exact rfl); (first | with_reducible assumption | decide +kernel | exact Int.natCast_nonneg _ | (guard_target = (0:Int) <= (OfNat.ofNat _ : Int); decide) | rotate_left); (first | with_reducible assumption | decide +kernel | exact rfl); (first | exact uniB_ok rfl | with_reducible assumption | decide +kernel | rotate_left)))
   all_goals (apply endQ []; (apply resG_ok ttok; exact rfl); (iterate 4 exact rfl))
   all_goals rfl
  subst he
  obtain ⟨_, hsy⟩ := right_of_write hwy
  have hzr := seal_right hsy
  have hzl := put_wB hwy hyd
  have hD := av_writeYes z hz (by omega) hzr
  obtain ⟨c1, t1, hp1⟩ := put_ne z hz hzr
  rw [show ((0 : Int) == 0) = true from rfl, Bool.true_and] at hA
  have hLn : L ++ (c1 :: t1).map E.byte = (c0 :: t0 ++ puts ((bl.take (i + 1)).map wB1)).map E.byte := by
   have e2 : (bl.take (i + 1)).map wB1 = (bl.take i).map wB1 ++ [z] := by
    rw [ht1, List.map_append]
    show _ ++ [(writeB y).1] = _
    rw [hwy]
   rw [hL, e2, puts_appP]
   simp [puts, hp1]
  have hpre2 : ∀ c ∈ bl.take (i + 1), (writeB c).2 = 0 /\ c.data.length <= 3000 := fun c hc => by
   rw [ht1] at hc
   rcases List.mem_append.1 hc with hc | hc
   ·exact hpre c hc
   ·simp at hc; subst hc; exact ⟨by rw [hwy], hyd⟩
  rw [hp1] at hD hzl
  have hU1 := uniB1 (c1 :: t1)
  clear hwy hsy hzr hp1
  obtain ⟨k2, n2, b2, l2⟩ := z
  repeat' (first | (apply AL_callPw (hB); kernel_rfl; (iterate 4 exact rfl)) | (apply AL_callPw (hD); kernel_rfl; (iterate 4 exact rfl)) | rw [ei] | (apply AL_go ttok; exact rfl) | (apply AW_go ttok; exact rfl) | (apply AW_condA; exact rfl; (first | with_reducible assumption | decide +kernel)) | (apply AW_condB; exact rfl; (first | with_reducible assumption | decide +kernel)) | (apply AL_append ttok; (iterate 6 exact rfl); (first | with_reducible assumption | decide +kernel | exact rfl | rotate_left); exact rfl; exact rfl; (first | exact uniB_ok rfl | with_reducible assumption | decide +kernel | rotate_left); (first | exact uniB_ok rfl | with_reducible assumption | decide +kernel | rotate_left); (first | exact List.cons_ne_nil _ _ | with_reducible assumption | decide +kernel | rotate_left); (first | with_reducible assumption | decide +kernel | rotate_left); (first | with_reducible assumption | decide +kernel | rotate_left); exact rfl; exact rfl) | (apply AL_idx ttok; (iterate 6 exact rfl); (first | with_reducible assumption | decide +kernel | exact Int.natCast_nonneg _ | (guard_target = (0:Int) <= (OfNat.ofNat _ : Int); decide) | rotate_left); (first | with_reducible assumption | decide +kernel | exact rfl); (first | exact uniB_ok rfl | with_reducible assumption | decide +kernel | rotate_left)))
  ·refine Lands.mk' (m := f - 1) (by omega) ⟨i + 1, L.length + ((c1 :: t1).map E.byte).length, L ++ (c1 :: t1).map E.byte, by omega, by rw [List.length_append], hLn, hpre2, hA, rfl, rfl, rfl⟩ ?_ rfl rfl rfl rfl rfl rfl
   exact .cons rfl (.cons rfl (.cons rfl (.cons rfl .nil)))
  all_goals (first | rfl | (simp only [List.length_append, List.length_cons, List.length_nil, List.length_map, itEs_len]; done) | (simp only [List.length_append, List.length_cons, List.length_nil, List.length_map, itEs_len] at *; (try unfold maxLen); (try simp only [Nat.add_mul]); omega))
 ·have hdl : decide ((i : Int) < ((bksE bl).length : Int)) = false := decide_eq_false (by omega)
  rw [List.drop_eq_nil_of_le hge] at hA
  rw [List.take_of_length_le hge] at hL
  subst hA
  subst hL
  repeat' (first | (apply AW_go ttok; exact rfl) | (apply AW_condB; exact rfl; (first | with_reducible assumption | decide +kernel)))
  all_goals (apply endQ []; (apply resG_ok ttok; exact rfl); (iterate 4 exact rfl))
  all_goals rfl
end Go.Proofs.YtpodhnaofhfinaaGreatDoor
end
section
open Go.RowKit Go.Pl Go.Av
namespace Go.Proofs.YtpodhnaofhfinaaGreatDoor
set_option maxHeartbeats 4000000
theorem puts_ne {b : BunV} (hb : BunOk b) (h : okAll b = true) : ∃ c t, puts (itemsL b) = c :: t := by
 unfold okAll at h
 rw [Bool.and_eq_true, beq_iff_eq] at h
 obtain ⟨_, hs⟩ := right_of_writeP (p := b.p) (x := (writeP b.p).1) (Prod.ext rfl h.1)
 obtain ⟨c, t, e⟩ := put_ne _ (wf_writeP (p := b.p) hb.fl) (seal_right hs)
 exact ⟨c, t ++ puts (b.bl.map fun c => (writeB c).1), by unfold itemsL; rw [puts, e]; rfl⟩
theorem items_len {b : BunV} (hb : BunOk b) (h : okAll b = true) : (puts (itemsL b)).length <= 4000 + 4000 * b.bl.length := by
 unfold okAll at h
 simp only [Bool.and_eq_true, beq_iff_eq, List.all_eq_true] at h
 have h1 := put_wP (p := b.p) (x := (writeP b.p).1) (Prod.ext rfl h.1)
 have h2 := puts_len_le b.bl fun c hc => ⟨h.2 c hc, (hb.bl c hc).2⟩
 unfold itemsL
 rw [puts, List.length_append]
 have : (puts (b.bl.map fun c => (writeB c).1)).length <= 4000 * b.bl.length := h2
 omega
abbrev writeBnD (b : BunV) : D := match rightBn b with
 | true => .tup [byE (putBn b), .int .i64 0]
 | false => .tup [.sl .ext [], .int .i64 3]
theorem av_bnWrite [Known] [KnownU8] (b : BunV) (hb : BunOk b) : AP Tryz.prog 12 [.agg (bnC b)] (writeBnD b) [] := by
 have hF := av_fit b.bl hb.len fun c hc => Nat.le_trans (hb.bl c hc).2 (by omega)
 have hI := av_items b hb
 unfold writeBnD rightBn
 cases t1 : fitV b.bl with
 | false =>
  rw [t1] at hF
  obtain ⟨⟨fl, sum, ⟨di, dn, ds, dh, dd⟩, ⟨ri, rn, rs, rh, rd⟩, ⟨xi, xn, xs, xh, xd⟩, t, q, life⟩, bl⟩ := b
  dsimp only at *
  refine AP.ofA ?_
  refine AC_of Tryz.func12 rfl Tryz.ntmps12 rfl rfl ?_
  repeat' (first | (apply AL_callPw (hF); kernel_rfl; (iterate 4 exact rfl)) | (apply AL_go ttok; exact rfl) | (apply AW_go ttok; exact rfl) | (apply K_go ttok; exact rfl) | (apply AW_condA; exact rfl; (first | with_reducible assumption | decide +kernel)))
  all_goals (apply endQ []; (apply resG_ok ttok; exact rfl); (iterate 4 exact rfl))
  all_goals rfl
 | true =>
 rw [t1] at hF
 unfold itemsD at hI
 cases t2 : okAll b with
 | false =>
  rw [t2] at hI
  obtain ⟨⟨fl, sum, ⟨di, dn, ds, dh, dd⟩, ⟨ri, rn, rs, rh, rd⟩, ⟨xi, xn, xs, xh, xd⟩, t, q, life⟩, bl⟩ := b
  dsimp only at *
  refine AP.ofA ?_
  refine AC_of Tryz.func12 rfl Tryz.ntmps12 rfl rfl ?_
  repeat' (first | (apply AL_callPw (hF); kernel_rfl; (iterate 4 exact rfl)) | (apply AL_callPw (hI); kernel_rfl; (iterate 4 exact rfl)) | (apply AL_go ttok; exact rfl) | (apply AW_go ttok; exact rfl) | (apply K_go ttok; exact rfl) | (apply AL_guardFf; (iterate 3 exact rfl); (first | with_reducible assumption | decide +kernel)) | (apply AL_pickT; exact rfl; (first | with_reducible assumption | decide +kernel); exact rfl; exact rfl) | (apply AW_condA; exact rfl; (first | with_reducible assumption | decide +kernel)) | (apply AW_condB; exact rfl; (first | with_reducible assumption | decide +kernel)))
  all_goals (apply endQ []; (apply resG_ok ttok; exact rfl); (iterate 4 exact rfl))
  all_goals rfl
 | true =>
 rw [t2] at hI
 obtain ⟨c0, t0, hp⟩ := puts_ne hb t2
 have hl := items_len hb t2
 have hl2 := hb.len
 unfold putBn
 rw [hp] at hI hl ⊢
 have hU := uniB1 (c0 :: t0)
 have hlm : ((c0 :: t0).map E.byte).length = (c0 :: t0).length := List.length_map ..
 cases t3 : decide (((c0 :: t0).length : Int) <= 598) with
 | false =>
  have t4 : decide ((((c0 :: t0).map E.byte).length : Int) > 598) = true := by rw [hlm]; simp at t3 ⊢; omega
  obtain ⟨⟨fl, sum, ⟨di, dn, ds, dh, dd⟩, ⟨ri, rn, rs, rh, rd⟩, ⟨xi, xn, xs, xh, xd⟩, t, q, life⟩, bl⟩ := b
  dsimp only at *
  refine AP.ofA ?_
  refine AC_of Tryz.func12 rfl Tryz.ntmps12 rfl rfl ?_
  repeat' (first | (apply AL_callPw (hF); kernel_rfl; (iterate 4 exact rfl)) | (apply AL_callPw (hI); kernel_rfl; (iterate 4 exact rfl)) | (apply AL_go ttok; exact rfl) | (apply AW_go ttok; exact rfl) | (apply K_go ttok; exact rfl) | (apply AL_guardT; (iterate 3 exact rfl); (first | with_reducible assumption | decide +kernel)) | (apply AL_pickF; exact rfl; (first | with_reducible assumption | decide +kernel); exact rfl; exact rfl) | (apply AW_condA; exact rfl; (first | with_reducible assumption | decide +kernel)) | (apply AW_condB; exact rfl; (first | with_reducible assumption | decide +kernel)) | (apply AL_len ttok; (iterate 4 exact rfl)))
  all_goals (apply endQ []; (apply resG_ok ttok; exact rfl); (iterate 4 exact rfl))
  all_goals rfl
 | true =>
  have t4 : decide ((((c0 :: t0).map E.byte).length : Int) > 598) = false := by rw [hlm]; simp at t3 ⊢; omega
  have t5 := of_decide_eq_true t3
  have hE : [E.int .u8 159] ++ (c0 :: t0).map E.byte ++ [E.int .u8 255] = (159 :: (c0 :: t0 ++ [255])).map E.byte := by simp
  have hU1 : Uni 1 ([E.int .u8 159] ++ (c0 :: t0).map E.byte) := (uniB1 [159]).append hU
  obtain ⟨⟨fl, sum, ⟨di, dn, ds, dh, dd⟩, ⟨ri, rn, rs, rh, rd⟩, ⟨xi, xn, xs, xh, xd⟩, t, q, life⟩, bl⟩ := b
  dsimp only at *
  refine AP.ofA ?_
  refine AC_of Tryz.func12 rfl Tryz.ntmps12 rfl rfl ?_
  repeat' (first | (apply AL_callPw (hF); kernel_rfl; (iterate 4 exact rfl)) | (apply AL_callPw (hI); kernel_rfl; (iterate 4 exact rfl)) | (apply AL_go ttok; exact rfl) | (apply AW_go ttok; exact rfl) | (apply K_go ttok; exact rfl) | (apply AL_guardT; (iterate 3 exact rfl); (first | with_reducible assumption | decide +kernel)) | (apply AL_pickF; exact rfl; (first | with_reducible assumption | decide +kernel); exact rfl; exact rfl) | (apply AW_condB; exact rfl; (first | with_reducible assumption | decide +kernel)) | (apply AL_len ttok; (iterate 4 exact rfl)) | (apply AL_bsZ ttok; (iterate 12 exact rfl)) | (apply AL_append ttok; (iterate 6 exact rfl); (first | with_reducible assumption | decide +kernel | exact rfl | rotate_left); exact rfl; exact rfl; (first | exact uniB_ok rfl | with_reducible assumption | decide +kernel | rotate_left); (first | exact uniB_ok rfl | with_reducible assumption | decide +kernel | rotate_left); (first | exact List.cons_ne_nil _ _ | with_reducible assumption | decide +kernel | rotate_left); (first | with_reducible assumption | decide +kernel | rotate_left); (first | with_reducible assumption | decide +kernel | rotate_left); exact rfl; exact rfl))
  all_goals first | ((apply endQ []; (apply resG_ok ttok; exact rfl); (iterate 4 exact rfl))) | skip
  all_goals first | rfl | (exact congrArg (fun l => D.tup [.sl .ext l, .int .i64 0]) hE) | (first | rfl | (simp only [List.length_append, List.length_cons, List.length_nil, List.length_map, itEs_len]; done) | (simp only [List.length_append, List.length_cons, List.length_nil, List.length_map, itEs_len] at *; (try unfold maxLen); (try simp only [Nat.add_mul]); omega))
theorem av_bnRight [Known] [KnownU8] (b : BunV) (hb : BunOk b) : AP Tryz.prog 5 [.agg (bnC b)] (.bool (rightBn b)) [] := by
 have hW := av_bnWrite b hb
 unfold writeBnD at hW
 cases h : rightBn b with
 | false =>
  rw [h] at hW
  obtain ⟨⟨fl, sum, ⟨di, dn, ds, dh, dd⟩, ⟨ri, rn, rs, rh, rd⟩, ⟨xi, xn, xs, xh, xd⟩, t, q, life⟩, bl⟩ := b
  dsimp only at *
  refine AP.ofA ?_
  refine AC_of Tryz.func5 rfl Tryz.ntmps5 rfl rfl ?_
  repeat' (first | (apply AL_callPw (hW); kernel_rfl; (iterate 4 exact rfl)) | (apply AL_go ttok; exact rfl) | (apply AW_go ttok; exact rfl))
  all_goals (apply endQ []; (apply resG_ok ttok; exact rfl); (iterate 4 exact rfl))
  all_goals rfl
 | true =>
  rw [h] at hW
  generalize putBn b = pb at *
  obtain ⟨⟨fl, sum, ⟨di, dn, ds, dh, dd⟩, ⟨ri, rn, rs, rh, rd⟩, ⟨xi, xn, xs, xh, xd⟩, t, q, life⟩, bl⟩ := b
  dsimp only at *
  refine AP.ofA ?_
  refine AC_of Tryz.func5 rfl Tryz.ntmps5 rfl rfl ?_
  repeat' (first | (apply AL_callPw (hW); kernel_rfl; (iterate 4 exact rfl)) | (apply AL_go ttok; exact rfl) | (apply AW_go ttok; exact rfl))
  all_goals (apply endQ []; (apply resG_ok ttok; exact rfl); (iterate 4 exact rfl))
  all_goals rfl
end Go.Proofs.YtpodhnaofhfinaaGreatDoor
end

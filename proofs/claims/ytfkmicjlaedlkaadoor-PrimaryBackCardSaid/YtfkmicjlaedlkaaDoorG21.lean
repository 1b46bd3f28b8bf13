/- Package primary: items sealed, the sealed item's row handed on as one's own. -/
import Derived.Test.YtfkmicjlaedlkaaDoorG17
import Derived.Test.YtfkmicjlaedlkaaDoorG20
import Derived.Test.YtfkmicjlaedlkaaDoorG18
import Derived.Test.YtfkmicjlaedlkaaDoorG15
import Derived.Test.YtfkmicjlaedlkaaDoorG08
import Derived.Lib.Strings
import Derived.Lib.Slices
import Derived.Lib.Walk
import Derived.Lib.Bytealg
import Derived.Test.YtfkmicjlaedlkaaDoorG07
import Derived.LaidEql
import Derived.Test.YtfkmicjlaedlkaaDoorG11
import Derived.Test.YtfkmicjlaedlkaaDoorG14
set_option linter.unusedVariables false
set_option linter.unusedSimpArgs false
section
open Go.RowKit Go.Pl Go.Av
namespace Go.Proofs.YtfkmicjlaedlkaaDoor
set_option maxHeartbeats 4000000
theorem av_listB [Known] (l : List It) (hne : l ≠ []) (hl : l.length <= 2199023255488) (hws : wfs l) : AF Tryd.prog 12 [.sl .ext (itEs l)] (itEs l).length (fun c => .agg [.int .i64 4, .int .u64 0, .sl .ext [], .bsl 0 0 (itEs l).length c]) (fun c => [[.row (c * 4) (flat (itEs l))]]) := by
 have ih' : ∀ y ∈ l, AP Tryd.prog 42 [itD y] (itD y) [] := fun y hy => av_copied y (wfs_mem hws y hy)
 have hlen := itEs_len l
 refine AF.weak ?_
 refine AC_of Tryd.func12 rfl Tryd.ntmps12 rfl rfl ?_
 repeat' (first | (apply AL_go ttok; exact rfl) | (apply AW_go ttok; exact rfl) | (apply AL_len ttok; (iterate 4 exact rfl)))
 refine AW_loopJ (fun k' tm bx fr => ∃ (i c : Nat) (L : List E), k' + i = l.length /\ L.length <= c /\ L = itEs (l.take i) /\ tm = [(3, .ptr 1 0), (2, .ptr 0 0), (7, .sl .ext (itEs l)), (8, .int .i64 ((itEs l).length : Int)), (9, .int .i64 (i : Int))] /\ fr = [] /\
  ((i = 0 /\ bx = [[.int .i64 0, .int .u64 0, .sl .nil [], .sl .nil []], [.int .i64 4, .int .u64 0, .sl .nil [], .sl .nil []]]) \/
  (bx = [[.int .i64 0, .int .u64 0, .sl .nil [], .sl .nil []], [.int .i64 4, .int .u64 0, .sl .nil [], .bsl 2 0 L.length c], [.row (c * 4) (flat L)]]))) (l.length + 1) (Lands.mk' (m := l.length) (Nat.lt_succ_self _) ⟨0, 0, [], rfl, Nat.zero_le _, rfl, rfl, rfl, .inl ⟨rfl, rfl⟩⟩ ?_ rfl rfl rfl rfl rfl rfl) ?_
 ·exact .cons rfl (.cons rfl (.cons rfl (.cons rfl (.cons rfl .nil))))
 rintro k' tm bx fr ⟨i, c, L, hi, hc, hL, rfl, rfl, ⟨rfl, rfl⟩ | rfl⟩
 ·cases l with
  | nil => exact absurd rfl hne
  | cons y l =>
   have hcp := ih' y (List.mem_cons_self ..)
   have hU := uniI (y :: l)
   have hd : decide (((0 : Nat) : Int) < ((itEs (y :: l)).length : Int)) = true := decide_eq_true (by rw [itEs]; simp)
   obtain ⟨k1, n1, b1, l1⟩ := y
   repeat' (first | (apply AL_appendR (b := 2) ttok; (iterate 6 exact rfl); (first | exact uniB_ok rfl | with_reducible assumption | rotate_left); (first | exact List.cons_ne_nil _ _ | with_reducible assumption | rotate_left); (first | with_reducible assumption | exact Nat.le_of_ble_eq_true rfl | exact (by decide) | rotate_left); (first | with_reducible assumption | exact Nat.le_of_ble_eq_true rfl | exact (by decide) | rotate_left); (iterate 3 exact rfl); exact (fun _ => rfl); exact rfl; intro c2 hc2) | (apply AL_callPw (hcp); kernel_rfl; (iterate 4 exact rfl)) | (apply AL_go ttok; exact rfl) | (apply AW_go ttok; exact rfl) | (apply K_go ttok; exact rfl) | (apply AW_condA; exact rfl; (first | with_reducible assumption | decide +kernel)) | (apply AL_bsZ ttok; (iterate 12 exact rfl)) | (apply AW_drawE 5 hmix; (decide +kernel); (kernel_rfl); (kernel_rfl); (kernel_rfl); exact rfl; exact rfl) | (apply AE_consZ; (iterate 4 exact rfl)) | exact AE.nil _ _ _ _ | (apply AEk_puT; exact rfl) | (apply AOt_mk; exact rfl; exact rfl; (decide +kernel); exact rfl) | (apply AO_puT; exact rfl) | exact AO.nil _ _ _ | (apply AOs_skip; (decide +kernel)) | exact AOs.nil | exact qY_ok rfl rfl | exact qY_wk rfl rfl rfl rfl rfl | (apply AL_idx ttok; (iterate 6 exact rfl); (first | with_reducible assumption | decide +kernel | exact Int.natCast_nonneg _ | (guard_target = (0:Int) <= (OfNat.ofNat _ : Int); decide) | rotate_left); (first | with_reducible assumption | decide +kernel | exact rfl); (first | exact uniB_ok rfl | with_reducible assumption | decide +kernel | rotate_left)))
   refine Lands.mk' (m := k' - 1) (by simp at hi; omega) ⟨1, c2, itEs [It.mk k1 n1 b1 l1], by simp at hi ⊢; omega, hc2, rfl, rfl, rfl, .inr rfl⟩ ?_ rfl rfl rfl rfl rfl rfl
   exact .cons rfl (.cons rfl (.cons rfl (.cons rfl (.cons rfl .nil))))
 ·have hU := uniI l
  have hU2 : Uni 4 L := hL ▸ uniI (l.take i)
  have el := itEs_len (l.take i)
  rw [<- hL] at el
  rcases Nat.lt_or_ge i l.length with hlt | hge
  ·have hd : decide ((i : Int) < ((itEs l).length : Int)) = true := decide_eq_true (by omega)
   obtain ⟨⟨k1, n1, b1, l1⟩, hy⟩ : ∃ y, l[i]? = some y := ⟨_, List.getElem?_eq_getElem hlt⟩
   have hv : (itEs l)[((i : Nat) : Int).toNat]? = some (.agg [.int .i64 k1, .int .u64 (n1 : Int), .sl (b1.map E.byte), .sl (itEs l1)]) := by
    rw [Int.toNat_natCast, itEs_map, List.getElem?_map, hy]; rfl
   have hcp := ih' _ (List.mem_of_getElem? hy)
   have ei : IntKind.i64.wrap ((i : Int) + 1) = ((i + 1 : Nat) : Int) := by rw [IntWalk.i64_in _ (by omega)]; omega
   have hs : L ++ [E.agg [.int .i64 k1, .int .u64 (n1 : Int), .sl (b1.map E.byte), .sl (itEs l1)]] = itEs (l.take (i + 1)) := by
    rw [hL, List.take_add_one, hy]; exact (itEs_app _ [It.mk k1 n1 b1 l1]).symm
   have hl1 : (L ++ [E.agg [.int .i64 k1, .int .u64 (n1 : Int), .sl (b1.map E.byte), .sl (itEs l1)]]).length = L.length + 1 := by simp
   rw [List.length_take] at el
   repeat' (first | (apply AL_appendB ttok; (iterate 9 exact rfl); (first | exact uniB_ok rfl | with_reducible assumption | rotate_left); (first | exact uniB_ok rfl | with_reducible assumption | rotate_left); (first | exact List.cons_ne_nil _ _ | with_reducible assumption | rotate_left); (first | with_reducible assumption | exact Nat.le_of_ble_eq_true rfl | rotate_left); (first | with_reducible assumption | exact Nat.le_of_ble_eq_true rfl | rotate_left); exact rfl; exact rfl; exact (fun _ => rfl); exact rfl; intro c2 hc2) | (apply AL_callPw (hcp); kernel_rfl; (iterate 4 exact rfl)) | rw [ei] | (apply AL_go ttok; exact rfl) | (apply AW_go ttok; exact rfl) | (apply K_go ttok; exact rfl) | (apply AW_condA; exact rfl; (first | with_reducible assumption | decide +kernel)) | (apply AL_bsZ ttok; (iterate 12 exact rfl)) | (apply AW_drawE 5 hmix; (decide +kernel); (kernel_rfl); (kernel_rfl); (kernel_rfl); exact rfl; exact rfl) | (apply AE_consZ; (iterate 4 exact rfl)) | exact AE.nil _ _ _ _ | (apply AEk_puT; exact rfl) | (apply AOt_mk; exact rfl; exact rfl; (decide +kernel); exact rfl) | (apply AO_puT; exact rfl) | exact AO.nil _ _ _ | (apply AOs_skip; (decide +kernel)) | exact AOs.nil | exact qY_ok rfl rfl | exact qY_wk rfl rfl rfl rfl rfl | (apply AL_idx ttok; (iterate 6 exact rfl); (first | with_reducible assumption | decide +kernel | exact Int.natCast_nonneg _ | (guard_target = (0:Int) <= (OfNat.ofNat _ : Int); decide) | rotate_left); (first | with_reducible assumption | decide +kernel | exact rfl); (first | exact uniB_ok rfl | with_reducible assumption | decide +kernel | rotate_left)))
   ·refine Lands.mk' (m := k' - 1) (by omega) ⟨i + 1, c2, _, by omega, by rw [hl1]; exact hc2, hs, rfl, rfl, .inr (by rw [hl1])⟩ ?_ rfl rfl rfl rfl rfl rfl
    exact .cons rfl (.cons rfl (.cons rfl (.cons rfl (.cons rfl .nil))))
   all_goals (first | rfl | (simp only [List.length_append, List.length_cons, List.length_nil, List.length_map, itEs_len]; done) | (simp only [List.length_append, List.length_cons, List.length_nil, List.length_map, itEs_len] at *; (try unfold maxLen); (try simp only [Nat.add_mul]); omega))
  ·have hd : decide ((i : Int) < ((itEs l).length : Int)) = false := decide_eq_false (by omega)
   rw [List.take_of_length_le hge] at hL
   subst hL
   repeat' (first | (apply AW_go ttok; exact rfl) | (apply AW_condB; exact rfl; (first | with_reducible assumption | decide +kernel)))
   all_goals (apply endF [2] c hc; (apply resG_ok ttok; exact rfl); (iterate 5 exact rfl))
theorem av_sealB [Known] [KnownU8] (l : List It) (a : Int) (s : Nat) (hs : s = 1 \/ s = 2) (es : typeV l a = (s : Int)) (h0 : 0 <= a) (hal : a < (l.length : Int)) (hws : wfs l) (hl : l.length <= 1000000) (hlim : (putI (zeroL s l)).length <= 1000000000)
  (hA : l.all rightI = true) (hz : rightI (zeroL s l) = true) (hr : rightI (outL s l) = true) :
  AF Tryd.prog 17 [.sl .ext (itEs l), .int .i64 a] ((itEs l).length + 1) (fun c => .tup [.agg [.int .i64 4, .int .u64 0, .sl .ext [], .bsl 0 0 ((itEs l).length + 1) c], .int .i64 0]) (fun c => [[.row (c * 4) (flat (itEs l ++ [.agg [.int .i64 2, .int .u64 0, .sl ((sumB s (putI (zeroL s l))).map E.byte), .sl []]]))]]) := by
 have hlen := itEs_len l
 have hU := uniI l
 have hC := av_contF l hws hl
 have hT := av_typeAt l hws a
 have hne : l ≠ [] := by rintro rfl; simp at hal; omega
 have t1 : decide (a < 0) = false := decide_eq_false (by omega)
 have t2 : decide (a ≥ ((itEs l).length : Int)) = false := decide_eq_false (by omega)
 rw [hA] at hC
 replace hC : AP Tryd.prog 46 _ (.bool false) [] := hC
 rw [es] at hT
 have hS := av_sumOf l s hs hne hws hl hlim
 have hL := av_listB l hne (by omega) hws
 have hsl := sumB_len s (putI (zeroL s l)) hs
 have hB := av_bytes (sumB s (putI (zeroL s l))) (by omega)
 have hR := av_rightI (outL s l) (wf_out hs hws hl)
 have hmx : (itEs l).length <= 1000000 := by omega
 have d1 : decide ((s : Int) < 0) = false := decide_eq_false (by omega)
 have d2 : decide ((s : Int) > 0) = true := decide_eq_true (by omega)
 have d3 : decide ((s : Int) ≥ 0) = true := decide_eq_true (by omega)
 rw [hz] at hS
 dsimp only at hS ⊢
 have eO : itD (outL s l) = .agg [.int .i64 4, .int .u64 0, .sl .ext [], .sl .ext (itEs l ++ [.agg [.int .i64 2, .int .u64 0, .sl ((sumB s (putI (zeroL s l))).map E.byte), .sl []]])] := by
  show D.agg [.int .i64 4, .int .u64 0, .sl .ext [], .sl .ext (itEs (l ++ [.mk 2 0 (sumB s (putI (zeroL s l))) []]))] = _
  rw [itEs_app]
  rfl
 rw [hr, eO] at hR
 generalize sumB s (putI (zeroL s l)) = SB at *
 have hl1 : (itEs l ++ [E.agg [.int .i64 2, .int .u64 0, .sl (SB.map E.byte), .sl []]]).length = (itEs l).length + 1 := by simp
 refine AF.weak ?_
 refine AC_of Tryd.func17 rfl Tryd.ntmps17 rfl rfl ?_
 repeat' (first | (apply AL_appendB ttok; (iterate 9 exact rfl); (first | exact uniB_ok rfl | with_reducible assumption | rotate_left); (first | exact uniB_ok rfl | with_reducible assumption | rotate_left); (first | exact List.cons_ne_nil _ _ | with_reducible assumption | rotate_left); (first | with_reducible assumption | exact Nat.le_of_ble_eq_true rfl | rotate_left); (first | with_reducible assumption | exact Nat.le_of_ble_eq_true rfl | rotate_left); exact rfl; exact rfl; exact (fun _ => rfl); exact rfl; intro c2 hc2) | (apply AL_callPw (hC); kernel_rfl; (iterate 4 exact rfl)) | (apply AL_callPw (hT); kernel_rfl; (iterate 4 exact rfl)) | (apply AL_callF (hL); kernel_rfl; exact rfl; exact rfl; exact (fun _ => rfl); exact (fun _ => rfl); intro c1 hc1) | (apply AL_callPw (hS); kernel_rfl; (iterate 4 exact rfl)) | (apply AL_callPw (hB); kernel_rfl; (iterate 4 exact rfl)) | (apply AL_callL (b := 1) (hR); kernel_rfl; exact rfl; (repeat (first | exact True.intro | exact LOk_bsl _ _ _ | apply LOk_agg | apply LOks_cons)); (iterate 3 exact rfl); (first | exact rfl | with_reducible assumption | rotate_left)) | (apply AL_go ttok; exact rfl) | (apply AW_go ttok; exact rfl) | (apply K_go ttok; exact rfl) | (apply AL_guardT; (iterate 3 exact rfl); (first | with_reducible assumption | decide +kernel)) | (apply AL_pickF; exact rfl; (first | with_reducible assumption | decide +kernel); exact rfl; exact rfl) | (apply AW_condA; exact rfl; (first | with_reducible assumption | decide +kernel)) | (apply AW_condB; exact rfl; (first | with_reducible assumption | decide +kernel)) | (apply AL_len ttok; (iterate 4 exact rfl)) | (apply AL_bsZ ttok; (iterate 12 exact rfl)) | (apply AW_drawE 5 hmix; (decide +kernel); (kernel_rfl); (kernel_rfl); (kernel_rfl); exact rfl; exact rfl) | (apply AE_consZ; (iterate 4 exact rfl)) | exact AE.nil _ _ _ _ | (apply AEk_puT; exact rfl) | (apply AOt_mk; exact rfl; exact rfl; (decide +kernel); exact rfl) | (apply AO_puT; exact rfl) | exact AO.nil _ _ _ | (apply AOs_skip; (decide +kernel)) | exact AOs.nil | exact qY_ok rfl rfl | exact qY_wk rfl rfl rfl rfl rfl)
 all_goals first | ((apply endF [1] c2 (hl1 ▸ hc2); (apply resG_ok ttok; exact rfl); (iterate 5 exact rfl))) | skip
 all_goals first | rfl | (first | rfl | (simp only [List.length_append, List.length_cons, List.length_nil, List.length_map, itEs_len]; done) | (simp only [List.length_append, List.length_cons, List.length_nil, List.length_map, itEs_len] at *; (try unfold maxLen); (try simp only [Nat.add_mul]); omega)) | (simp; done) | (simp; omega) | (simp; unfold maxLen; omega)
end Go.Proofs.YtfkmicjlaedlkaaDoor
end
section
open Go.RowKit Go.Pl Go.Av
namespace Go.Proofs.YtfkmicjlaedlkaaDoor
set_option maxHeartbeats 4000000
abbrev nmE (n : Nat) : E := .agg [.int .i64 0, .int .u64 (n : Int), .sl [], .sl []]
end Go.Proofs.YtfkmicjlaedlkaaDoor
end
section
open Go.RowKit Go.Pl Go.Av
namespace Go.Proofs.YtfkmicjlaedlkaaDoor
def cutV (c : UInt8) : List UInt8 -> List UInt8 × List UInt8 × Bool
 | [] => ([], [], false)
 | x :: s => if x = c then ([], s, true) else (x :: (cutV c s).1, (cutV c s).2.1, (cutV c s).2.2)
theorem cutV_no {c : UInt8} : ∀ {s : List UInt8}, c ∉ s -> cutV c s = (s, [], false)
 | [], _ => rfl
 | x :: s, h => by
  have h1 : ¬ x = c := fun e => h (by rw [e]; exact List.mem_cons_self ..)
  have h2 := cutV_no (c := c) (s := s) fun hm => h (List.mem_cons_of_mem _ hm)
  rw [cutV, if_neg h1, h2]
theorem cutV_yes {c : UInt8} : ∀ {a b : List UInt8}, c ∉ a -> cutV c (a ++ c :: b) = (a, b, true)
 | [], b, _ => by rw [List.nil_append, cutV, if_pos rfl]
 | x :: a, b, h => by
  have h1 : ¬ x = c := fun e => h (by rw [e]; exact List.mem_cons_self ..)
  have h2 := cutV_yes (c := c) (a := a) (b := b) fun hm => h (List.mem_cons_of_mem _ hm)
  rw [List.cons_append, cutV, if_neg h1, h2]
def preV (p s : List UInt8) : List UInt8 × Bool := if s.take p.length == p then (s.drop p.length, true) else (s, false)
theorem preV_app (p r : List UInt8) : preV p (p ++ r) = (r, true) := by
 unfold preV
 rw [List.take_left, beq_self_eq_true, if_pos rfl, List.drop_left]
theorem preV_no {p s : List UInt8} (h : (s.take p.length == p) = false) : preV p s = (s, false) := by
 unfold preV; rw [h]; rfl
def ppV (s : List UInt8) : EidV × Bool :=
 (⟨false, 0, 0, (cutV 47 (preV [47, 47] s).1).1, (cutV 47 (preV [47, 47] s).1).2.1⟩, (preV [47, 47] s).2 && ((cutV 47 (preV [47, 47] s).1).2.2 && ((cutV 47 (preV [47, 47] s).1).1 != [] && eRight ⟨false, 0, 0, (cutV 47 (preV [47, 47] s).1).1, (cutV 47 (preV [47, 47] s).1).2.1⟩)))
theorem isZ_iff {x : EidV} : isZ x = true ↔ x = eidZ := by
 obtain ⟨i, n, s, h, d⟩ := x
 simp only [isZ, eidZ, Bool.and_eq_true, beq_iff_eq, EidV.mk.injEq]
 constructor
 ·rintro ⟨h1, h2, h3, h4, h5, _⟩
  exact ⟨h1, by omega, by omega, h4, h5⟩
 ·rintro ⟨h1, h2, h3, h4, h5⟩
  exact ⟨h1, by omega, by omega, h4, h5, trivial⟩
theorem not_mem_ok {m : Nat} {c : UInt8} {l : List UInt8} (hl : l.all (okB m) = true) (h : okB m c = false) : c ∉ l := fun hm => by
 have := List.all_eq_true.1 hl c hm
 rw [h] at this; cases this
end Go.Proofs.YtfkmicjlaedlkaaDoor
end
section
open Go.RowKit Go.Pl Go.Av
namespace Go.Proofs.YtfkmicjlaedlkaaDoor
set_option maxHeartbeats 4000000
set_option maxRecDepth 100000 in
theorem ixb_walk (s : ByteArray) (c : Int) (w : World) : Calls Tryd.prog 134 #[.string s, .int .u8 c] w fun e w' => e = .returned (.int .i64 (Lib.indexByte s.data.toList c.toNat.toUInt8)) /\ w' = w := by
 go_enter Tryd.func134, Tryd.ntmps134
 go_wp2
 rw [run_callFunc_extern Tryd.func138 (by kernel_rfl) (by kernel_rfl) (by kernel_rfl) (e := Extern.BytealgIndexByte.indexByte) (by kernel_rfl), Lib.run_indexByteString]
 simp only [Result.andThen]
 rw [Oper.upon_value]
 go_wp2
 go_ret
 exact ⟨rfl, rfl⟩
theorem av_ixb [Known] (s : List UInt8) (c : Int) : AP Tryd.prog 134 [.str s, .int .u8 c] (.int .i64 (Lib.indexByte s c.toNat.toUInt8)) [] := by
 refine ⟨fun g w vs hmem hl hv => ?_⟩
 obtain ⟨v0, v1, rfl⟩ : ∃ v0 v1, vs = [v0, v1] := by
  match vs, hl with
  | [v0, v1], _ => exact ⟨v0, v1, rfl⟩
 have h0 := (hv 0 _ _ rfl rfl).str_inv.1
 have h1 := (hv 1 _ _ rfl rfl).int_inv
 subst h0 h1
 exact (ixb_walk ⟨s.toArray⟩ c w).mono fun e w' ⟨he, hb⟩ => endBelow hmem (hb ▸ Below.refl _ _) he (.int _ _)
end Go.Proofs.YtfkmicjlaedlkaaDoor
end
section
open Go.RowKit Go.Pl Go.Av
namespace Go.Proofs.YtfkmicjlaedlkaaDoor
set_option maxHeartbeats 4000000
theorem av_hasPre [Known] (s p : List UInt8) (hs : s.length <= 4611686018427387904) (hp : p.length <= 4611686018427387904) : AP Tryd.prog 130 [.str s, .str p] (.bool (s.take p.length == p)) [] := by
 by_cases h : p.length <= s.length
 ·have t1 : decide ((s.length : Int) ≥ (p.length : Int)) = true := decide_eq_true (by omega)
  have hq : ((p.length : Nat) : Int).toNat <= s.length := by rw [Int.toNat_natCast]; exact h
  have hs2 : (s.take ((p.length : Nat) : Int).toNat).drop 0 = s.take p.length := by rw [Int.toNat_natCast, List.drop_zero]
  generalize s.take p.length = s2 at *
  refine AP.ofA ?_
  refine AC_of Tryd.func130 rfl Tryd.ntmps130 rfl rfl ?_
  repeat' (first | (apply AL_sliceS ttok; (iterate 4 exact rfl); exact .dft _; exact .lit _ _ _ _ rfl (Int.natCast_nonneg _); exact Nat.zero_le _; exact hq; exact hs2) | (apply AL_go ttok; exact rfl) | (apply AW_go ttok; exact rfl) | (apply AL_guardT; (iterate 3 exact rfl); (first | with_reducible assumption | decide +kernel)) | (apply AL_pickT; exact rfl; (first | with_reducible assumption | decide +kernel); exact rfl; exact rfl) | (apply AL_lens ttok; (iterate 4 exact rfl)))
  all_goals (apply endQ []; (apply resG_ok ttok; exact rfl); (iterate 4 exact rfl))
  all_goals rfl
 ·have t1 : decide ((s.length : Int) ≥ (p.length : Int)) = false := decide_eq_false (by omega)
  have e : (s.take p.length == p) = false := by
   rw [beq_eq_false_iff_ne]
   intro e
   have := congrArg List.length e
   rw [List.length_take] at this
   omega
  rw [e]
  refine AP.ofA ?_
  refine AC_of Tryd.func130 rfl Tryd.ntmps130 rfl rfl ?_
  repeat' (first | (apply AL_go ttok; exact rfl) | (apply AW_go ttok; exact rfl) | (apply AL_guardFt; (iterate 3 exact rfl); (first | with_reducible assumption | decide +kernel)) | (apply AL_pickF; exact rfl; (first | with_reducible assumption | decide +kernel); exact rfl; exact rfl) | (apply AL_lens ttok; (iterate 4 exact rfl)))
  all_goals (apply endQ []; (apply resG_ok ttok; exact rfl); (iterate 4 exact rfl))
  all_goals rfl
theorem av_cutPreY [Known] (p r : List UInt8) (hs : (p ++ r).length <= 4611686018427387904) : AP Tryd.prog 103 [.str (p ++ r), .str p] (.tup [.str r, .bool true]) [] := by
 have hH := av_hasPre (p ++ r) p hs (by rw [List.length_append] at hs; omega)
 rw [List.take_left, beq_self_eq_true] at hH
 have hq : ((p.length : Nat) : Int).toNat <= (p ++ r).length := by rw [Int.toNat_natCast, List.length_append]; omega
 have hs2 : ((p ++ r).take (p ++ r).length).drop ((p.length : Nat) : Int).toNat = r := by rw [Int.toNat_natCast, List.take_length, List.drop_left]
 have hC : AP Tryd.prog 119 [.str (p ++ r), .str p] (.tup [.str r, .bool true]) [] := by
  generalize p ++ r = s at *
  refine AP.ofA ?_
  refine AC_of Tryd.func119 rfl Tryd.ntmps119 rfl rfl ?_
  repeat' (first | (apply AL_callPw (hH); kernel_rfl; (iterate 4 exact rfl)) | (apply AL_sliceS ttok; (iterate 4 exact rfl); exact .lit _ _ _ _ rfl (Int.natCast_nonneg _); exact .dft _; exact hq; exact Nat.le_refl _; exact hs2) | (apply AL_go ttok; exact rfl) | (apply AW_go ttok; exact rfl) | (apply K_go ttok; exact rfl) | (apply AW_condB; exact rfl; (first | with_reducible assumption | decide +kernel)) | (apply AL_lens ttok; (iterate 4 exact rfl)))
  all_goals (apply endQ []; (apply resG_ok ttok; exact rfl); (iterate 4 exact rfl))
  all_goals rfl
 refine AP.ofA ?_
 refine AC_of Tryd.func103 rfl Tryd.ntmps103 rfl rfl ?_
 repeat' (first | (apply AL_callPw (hC); kernel_rfl; (iterate 4 exact rfl)) | (apply AL_go ttok; exact rfl) | (apply AW_go ttok; exact rfl))
 all_goals (apply endQ []; (apply resG_ok ttok; exact rfl); (iterate 4 exact rfl))
 all_goals rfl
theorem av_cutPreN [Known] (s p : List UInt8) (hs : s.length <= 4611686018427387904) (hp : p.length <= 4611686018427387904) (h : (s.take p.length == p) = false) : AP Tryd.prog 103 [.str s, .str p] (.tup [.str s, .bool false]) [] := by
 have hH := av_hasPre s p hs hp
 rw [h] at hH
 have hC : AP Tryd.prog 119 [.str s, .str p] (.tup [.str s, .bool false]) [] := by
  refine AP.ofA ?_
  refine AC_of Tryd.func119 rfl Tryd.ntmps119 rfl rfl ?_
  repeat' (first | (apply AL_callPw (hH); kernel_rfl; (iterate 4 exact rfl)) | (apply AL_go ttok; exact rfl) | (apply AW_go ttok; exact rfl) | (apply K_go ttok; exact rfl) | (apply AW_condA; exact rfl; (first | with_reducible assumption | decide +kernel)))
  all_goals (apply endQ []; (apply resG_ok ttok; exact rfl); (iterate 4 exact rfl))
  all_goals rfl
 refine AP.ofA ?_
 refine AC_of Tryd.func103 rfl Tryd.ntmps103 rfl rfl ?_
 repeat' (first | (apply AL_callPw (hC); kernel_rfl; (iterate 4 exact rfl)) | (apply AL_go ttok; exact rfl) | (apply AW_go ttok; exact rfl))
 all_goals (apply endQ []; (apply resG_ok ttok; exact rfl); (iterate 4 exact rfl))
 all_goals rfl
theorem pre_cases (s p : List UInt8) : (∃ r, s = p ++ r) \/ (s.take p.length == p) = false := by
 cases h : s.take p.length == p with
 | true =>
  refine .inl ⟨s.drop p.length, ?_⟩
  have := beq_iff_eq.1 h
  conv => lhs; rw [<- List.take_append_drop p.length s, this]
 | false => exact .inr rfl
theorem ixb_no : ∀ {l : List UInt8} {c : UInt8}, c ∉ l -> Lib.indexByte l c = -1
 | [], _, _ => rfl
 | x :: l, c, h => by
  have h1 : ¬ x = c := fun e => h (by rw [e]; exact List.mem_cons_self ..)
  have h2 := ixb_no (l := l) (c := c) fun hm => h (List.mem_cons_of_mem _ hm)
  simp [Lib.indexByte, h1, h2]
theorem ixb_yes : ∀ {a b : List UInt8} {c : UInt8}, c ∉ a -> Lib.indexByte (a ++ c :: b) c = (a.length : Int)
 | [], b, c, _ => by simp [Lib.indexByte]
 | x :: a, b, c, h => by
  have h1 : ¬ x = c := fun e => h (by rw [e]; exact List.mem_cons_self ..)
  have h2 := ixb_yes (a := a) (b := b) (c := c) fun hm => h (List.mem_cons_of_mem _ hm)
  rw [List.cons_append]
  simp only [Lib.indexByte, h2, List.length_cons, beq_iff_eq, h1, if_false]
  (repeat' split) <;> omega
theorem av_index1 [Known] (s : List UInt8) (c : UInt8) : AP Tryd.prog 131 [.str s, .str [c]] (.int .i64 (Lib.indexByte s c)) [] := by
 have hI := av_ixb s (c.toNat : Int)
 have e : ((c.toNat : Int)).toNat.toUInt8 = c := by rw [Int.toNat_natCast]; simp
 rw [e] at hI
 have t0 : ((([c] : List UInt8).length : Int) == 0) = false := rfl
 have t1 : ((([c] : List UInt8).length : Int) == 1) = true := rfl
 by_cases hs : [c] = s
 ·subst hs
  have t2 : ([c] == [c]) = true := by simp
  have e0 : Lib.indexByte [c] c = 0 := by simp [Lib.indexByte]
  rw [e0]
  refine AP.ofA ?_
  refine AC_of Tryd.func131 rfl Tryd.ntmps131 rfl rfl ?_
  repeat' (first | (apply AL_go ttok; exact rfl) | (apply AW_go ttok; exact rfl) | (apply K_go ttok; exact rfl) | (apply AL_guardT; (iterate 3 exact rfl); (first | with_reducible assumption | decide +kernel)) | (apply AL_pickF; exact rfl; (first | with_reducible assumption | decide +kernel); exact rfl; exact rfl) | (apply AW_condA; exact rfl; (first | with_reducible assumption | decide +kernel)) | (apply AL_lens ttok; (iterate 4 exact rfl)))
  all_goals (apply endQ []; (apply resG_ok ttok; exact rfl); (iterate 4 exact rfl))
  all_goals rfl
 ·have t2 : ([c] == s) = false := by simpa using hs
  refine AP.ofA ?_
  refine AC_of Tryd.func131 rfl Tryd.ntmps131 rfl rfl ?_
  repeat' (first | (apply AL_callPw (hI); kernel_rfl; (iterate 4 exact rfl)) | (apply AL_idxs ttok; (iterate 5 exact rfl); decide +kernel; exact rfl) | (apply AL_go ttok; exact rfl) | (apply AW_go ttok; exact rfl) | (apply K_go ttok; exact rfl) | (apply AL_guardT; (iterate 3 exact rfl); (first | with_reducible assumption | decide +kernel)) | (apply AL_pickF; exact rfl; (first | with_reducible assumption | decide +kernel); exact rfl; exact rfl) | (apply AW_condA; exact rfl; (first | with_reducible assumption | decide +kernel)) | (apply AW_condB; exact rfl; (first | with_reducible assumption | decide +kernel)) | (apply AL_lens ttok; (iterate 4 exact rfl)))
  all_goals (apply endQ []; (apply resG_ok ttok; exact rfl); (iterate 4 exact rfl))
  all_goals rfl
theorem av_cutN [Known] (s : List UInt8) (c : UInt8) (h : c ∉ s) : AP Tryd.prog 104 [.str s, .str [c]] (.tup [.str s, .str [], .bool false]) [] := by
 have hI := av_index1 s c
 rw [ixb_no h] at hI
 have hC : AP Tryd.prog 120 [.str s, .str [c]] (.tup [.str s, .str [], .bool false]) [] := by
  refine AP.ofA ?_
  refine AC_of Tryd.func120 rfl Tryd.ntmps120 rfl rfl ?_
  repeat' (first | (apply AL_callPw (hI); kernel_rfl; (iterate 4 exact rfl)) | (apply AL_go ttok; exact rfl) | (apply AW_go ttok; exact rfl) | (apply AW_condB; exact rfl; (first | with_reducible assumption | decide +kernel)))
  all_goals (apply endQ []; (apply resG_ok ttok; exact rfl); (iterate 4 exact rfl))
  all_goals rfl
 refine AP.ofA ?_
 refine AC_of Tryd.func104 rfl Tryd.ntmps104 rfl rfl ?_
 repeat' (first | (apply AL_callPw (hC); kernel_rfl; (iterate 4 exact rfl)) | (apply AL_go ttok; exact rfl) | (apply AW_go ttok; exact rfl))
 all_goals (apply endQ []; (apply resG_ok ttok; exact rfl); (iterate 4 exact rfl))
 all_goals rfl
theorem av_cutY [Known] (a b : List UInt8) (c : UInt8) (h : c ∉ a) (hl : (a ++ c :: b).length <= 4611686018427387904) : AP Tryd.prog 104 [.str (a ++ c :: b), .str [c]] (.tup [.str a, .str b, .bool true]) [] := by
 have hI := av_index1 (a ++ c :: b) c
 rw [ixb_yes h] at hI
 have hal : a.length + 1 <= (a ++ c :: b).length := by rw [List.length_append, List.length_cons]; omega
 have t1 : decide ((a.length : Int) ≥ 0) = true := decide_eq_true (by omega)
 have e1 : IntKind.i64.wrap ((a.length : Int) + (([c] : List UInt8).length : Int)) = ((a.length + 1 : Nat) : Int) := by
  rw [IntWalk.i64_in _ (by simp; omega)]; simp
 have q1 : ((a.length : Nat) : Int).toNat <= (a ++ c :: b).length := by rw [Int.toNat_natCast]; omega
 have q2 : ((a.length + 1 : Nat) : Int).toNat <= (a ++ c :: b).length := by rw [Int.toNat_natCast]; omega
 have s1 : ((a ++ c :: b).take ((a.length : Nat) : Int).toNat).drop 0 = a := by rw [Int.toNat_natCast, List.drop_zero, List.take_left]
 have s2 : ((a ++ c :: b).take (a ++ c :: b).length).drop ((a.length + 1 : Nat) : Int).toNat = b := by
  rw [Int.toNat_natCast, List.take_length, show a.length + 1 = (a ++ [c]).length by simp, show a ++ c :: b = (a ++ [c]) ++ b by simp, List.drop_left]
 have hC : AP Tryd.prog 120 [.str (a ++ c :: b), .str [c]] (.tup [.str a, .str b, .bool true]) [] := by
  generalize a ++ c :: b = s at *
  refine AP.ofA ?_
  refine AC_of Tryd.func120 rfl Tryd.ntmps120 rfl rfl ?_
  repeat' (first | rw [e1] | (apply AL_callPw (hI); kernel_rfl; (iterate 4 exact rfl)) | (apply AL_sliceS ttok; (iterate 4 exact rfl); exact .dft _; exact .lit _ _ _ _ rfl (Int.natCast_nonneg _); exact Nat.zero_le _; exact q1; exact s1) | (apply AL_sliceS ttok; (iterate 4 exact rfl); exact .lit _ _ _ _ rfl (Int.natCast_nonneg _); exact .dft _; exact q2; exact Nat.le_refl _; exact s2) | (apply AL_go ttok; exact rfl) | (apply AW_go ttok; exact rfl) | (apply AW_condA; exact rfl; (first | with_reducible assumption | decide +kernel)) | (apply AL_lens ttok; (iterate 4 exact rfl)) | (apply AW_drawE 10 hmix; (decide +kernel); (kernel_rfl); (kernel_rfl); (kernel_rfl); exact rfl; exact rfl) | (apply AE_consZ; (iterate 4 exact rfl)) | exact AE.nil _ _ _ _ | (apply AEk_puT; exact rfl) | (apply AOt_mk; exact rfl; exact rfl; (decide +kernel); exact rfl) | (apply AO_puT; exact rfl) | exact AO.nil _ _ _ | (apply AOs_skip; (decide +kernel)) | exact AOs.nil | exact qY_ok rfl rfl)
  all_goals (apply endQ []; (apply resG_ok ttok; exact rfl); (iterate 4 exact rfl))
  all_goals rfl
 refine AP.ofA ?_
 refine AC_of Tryd.func104 rfl Tryd.ntmps104 rfl rfl ?_
 repeat' (first | (apply AL_callPw (hC); kernel_rfl; (iterate 4 exact rfl)) | (apply AL_go ttok; exact rfl) | (apply AW_go ttok; exact rfl))
 all_goals (apply endQ []; (apply resG_ok ttok; exact rfl); (iterate 4 exact rfl))
 all_goals rfl
theorem cut_cases (c : UInt8) : ∀ s : List UInt8, (c ∉ s) \/ ∃ a b, s = a ++ c :: b /\ c ∉ a
 | [] => .inl (by simp)
 | x :: s => by
  by_cases e : x = c
  ·subst e; exact .inr ⟨[], s, rfl, by simp⟩
  ·rcases cut_cases c s with h | ⟨a, b, rfl, h⟩
   ·refine .inl fun hm => ?_
    rcases List.mem_cons.1 hm with h2 | h2
    ·exact e h2.symm
    ·exact h h2
   ·refine .inr ⟨x :: a, b, rfl, fun hm => ?_⟩
    rcases List.mem_cons.1 hm with h2 | h2
    ·exact e h2.symm
    ·exact h h2
end Go.Proofs.YtfkmicjlaedlkaaDoor
end
section
open Go.RowKit Go.Pl
namespace Go.Av
section
variable {P : Program} {Q : X -> St -> Prop} {n : Nat} {ee : Nat × Nat} {tm : List (Nat × D)} {bx : List (List D)} {fr : List Fr}
variable {ops : Array Oper} {rest : List Oper} {t ty : Nat} {pos : String} {after : Array Edge}
end
end Go.Av
end
section
open Go.RowKit Go.Pl Go.Av
namespace Go.Proofs.YtfkmicjlaedlkaaDoor
set_option maxHeartbeats 4000000
theorem preV_len (p s : List UInt8) : (preV p s).1.length <= s.length := by
 unfold preV
 split
 ·simp
 ·exact Nat.le_refl _
theorem av_cut [Known] (s : List UInt8) (c : UInt8) (hl : s.length <= 4611686018427387904) : AP Tryd.prog 104 [.str s, .str [c]] (.tup [.str (cutV c s).1, .str (cutV c s).2.1, .bool (cutV c s).2.2]) [] := by
 rcases cut_cases c s with h | ⟨a, b, rfl, h⟩
 ·rw [cutV_no h]; exact av_cutN s c h
 ·rw [cutV_yes h]; exact av_cutY a b c h hl
theorem av_cutPre [Known] (s p : List UInt8) (hs : s.length <= 4611686018427387904) (hp : p.length <= 4611686018427387904) : AP Tryd.prog 103 [.str s, .str p] (.tup [.str (preV p s).1, .bool (preV p s).2]) [] := by
 rcases pre_cases s p with ⟨r, rfl⟩ | h
 ·rw [preV_app]; exact av_cutPreY p r hs
 ·rw [preV_no h]; exact av_cutPreN s p hs hp h
theorem av_pp [Known] (s : List UInt8) (hs : s.length <= 140737488351232) : AP Tryd.prog 85 [.str s] (.tup [.agg (eC (ppV s).1), .bool (ppV s).2]) [] := by
 have hP := av_cutPre s [47, 47] (by omega) (by decide)
 have hl := preV_len [47, 47] s
 unfold ppV
 dsimp only
 generalize (preV [47, 47] s).1 = r at *
 generalize (preV [47, 47] s).2 = ok at *
 have hC := av_cut r 47 (by omega)
 generalize (cutV 47 r).1 = a at *
 generalize (cutV 47 r).2.1 = b at *
 generalize (cutV 47 r).2.2 = k at *
 have hR := av_eRight ⟨false, 0, 0, a, b⟩
 generalize eRight ⟨false, 0, 0, a, b⟩ = R at *
 replace hR : AP Tryd.prog _ [.agg [.bool false, .int .u64 0, .int .u64 0, .str a, .str b]] (.bool R) [] := hR
 show AP Tryd.prog _ _ (.tup [.agg [.bool false, .int .u64 0, .int .u64 0, .str a, .str b], _]) _
 obtain ⟨ne, h1⟩ : ∃ ne, (a != []) = ne := ⟨_, rfl⟩
 rw [h1]
 cases ok with
 | false =>
  refine AP.ofA ?_
  refine AC_of Tryd.func85 rfl Tryd.ntmps85 rfl rfl ?_
  repeat' (first | (apply AL_callPw (hP); kernel_rfl; (iterate 4 exact rfl)) | (apply AL_callPw (hC); kernel_rfl; (iterate 4 exact rfl)) | (apply AL_go ttok; exact rfl) | (apply AW_go ttok; exact rfl) | (apply AL_guardFt; (iterate 3 exact rfl); (first | with_reducible assumption | decide +kernel)) | (apply AL_pickF; exact rfl; (first | with_reducible assumption | decide +kernel); exact rfl; exact rfl) | (apply AW_drawE 14 hmix; (decide +kernel); (kernel_rfl); (kernel_rfl); (kernel_rfl); exact rfl; exact rfl) | (apply AE_consZ; (iterate 4 exact rfl)) | exact AE.nil _ _ _ _ | (apply AEk_puT; exact rfl) | (apply AEk_ef; exact rfl) | (apply AOt_mk; exact rfl; exact rfl; (decide +kernel); exact rfl) | (apply AO_puT; exact rfl) | (apply AO_ef; exact rfl) | exact AO.nil _ _ _ | (apply AOs_skip; (decide +kernel)) | (apply AOs_goZ; (iterate 3 exact rfl)) | exact AOs.nil | exact qY_ok rfl rfl | exact qY_efn rfl)
  all_goals (apply endQ []; (apply resG_ok ttok; exact rfl); (iterate 4 exact rfl))
  all_goals rfl
 | true =>
  cases k with
  | false =>
   refine AP.ofA ?_
   refine AC_of Tryd.func85 rfl Tryd.ntmps85 rfl rfl ?_
   repeat' (first | (apply AL_callPw (hP); kernel_rfl; (iterate 4 exact rfl)) | (apply AL_callPw (hC); kernel_rfl; (iterate 4 exact rfl)) | (apply AL_go ttok; exact rfl) | (apply AW_go ttok; exact rfl) | (apply AL_guardT; (iterate 3 exact rfl); (first | with_reducible assumption | decide +kernel)) | (apply AL_guardFt; (iterate 3 exact rfl); (first | with_reducible assumption | decide +kernel)) | (apply AL_pickT; exact rfl; (first | with_reducible assumption | decide +kernel); exact rfl; exact rfl) | (apply AL_pickF; exact rfl; (first | with_reducible assumption | decide +kernel); exact rfl; exact rfl) | (apply AW_drawE 14 hmix; (decide +kernel); (kernel_rfl); (kernel_rfl); (kernel_rfl); exact rfl; exact rfl) | (apply AE_consZ; (iterate 4 exact rfl)) | exact AE.nil _ _ _ _ | (apply AEk_puT; exact rfl) | (apply AEk_ef; exact rfl) | (apply AOt_mk; exact rfl; exact rfl; (decide +kernel); exact rfl) | (apply AO_puT; exact rfl) | (apply AO_ef; exact rfl) | exact AO.nil _ _ _ | (apply AOs_skip; (decide +kernel)) | (apply AOs_goZ; (iterate 3 exact rfl)) | exact AOs.nil | exact qY_ok rfl rfl | exact qY_efn rfl)
   all_goals (apply endQ []; (apply resG_ok ttok; exact rfl); (iterate 4 exact rfl))
   all_goals rfl
  | true =>
   cases ne <;> cases R
   all_goals
    refine AP.ofA ?_
    refine AC_of Tryd.func85 rfl Tryd.ntmps85 rfl rfl ?_
    repeat' (first | rw [h1] | (apply AL_callPw (hP); kernel_rfl; (iterate 4 exact rfl)) | (apply AL_callPw (hC); kernel_rfl; (iterate 4 exact rfl)) | (apply AL_callPw (hR); kernel_rfl; (iterate 4 exact rfl)) | (apply AL_go ttok; exact rfl) | (apply AW_go ttok; exact rfl) | (apply AL_guardT; (iterate 3 exact rfl); (first | with_reducible assumption | decide +kernel)) | (apply AL_guardFt; (iterate 3 exact rfl); (first | with_reducible assumption | decide +kernel)) | (apply AL_pickT; exact rfl; (first | with_reducible assumption | decide +kernel); exact rfl; exact rfl) | (apply AL_pickF; exact rfl; (first | with_reducible assumption | decide +kernel); exact rfl; exact rfl) | (apply AW_drawE 14 hmix; (decide +kernel); (kernel_rfl); (kernel_rfl); (kernel_rfl); exact rfl; exact rfl) | (apply AE_consZ; (iterate 4 exact rfl)) | exact AE.nil _ _ _ _ | (apply AEk_puT; exact rfl) | (apply AEk_ef; exact rfl) | (apply AOt_mk; exact rfl; exact rfl; (decide +kernel); exact rfl) | (apply AO_puT; exact rfl) | (apply AO_ef; exact rfl) | exact AO.nil _ _ _ | (apply AOs_skip; (decide +kernel)) | (apply AOs_goZ; (iterate 3 exact rfl)) | exact AOs.nil | exact qY_ok rfl rfl | exact qY_efn rfl)
    all_goals (apply endQ []; (apply resG_ok ttok; exact rfl); (iterate 4 exact rfl))
    all_goals rfl
end Go.Proofs.YtfkmicjlaedlkaaDoor
end
section
open Go.RowKit Go.Pl
namespace Go.Av
inductive Zy where
 | pu (d : D)
 | al (cs : List D)
def z0 (p : Nat × Zy) : Nat × D := (p.1, match p.2 with | .pu d => d | .al _ => .junk)
def zfin : Nat -> List (Nat × Zy) -> List (Nat × D) -> List (Nat × D)
 | _, [], tm => tm
 | m, (_, .pu _) :: zs, tm => zfin m zs tm
 | m, (t, .al _) :: zs, tm => zfin (m + 1) zs ((t, .ptr m 0) :: tm)
def zcs : List (Nat × Zy) -> List (List D)
 | [] => []
 | (_, .pu _) :: zs => zcs zs
 | (_, .al cs) :: zs => cs :: zcs zs
section
variable {P : Program} {T : Tab} {Q : X -> St -> Prop} {n : Nat} {ee : Nat × Nat} {tm tm' : List (Nat × D)} {bx : List (List D)} {fr : List Fr} {b0 : Bs} {g g' : G} {w w' : World} {a : Act}
inductive AZ [Known] [Dfr] (P : Program) (T : Tab) (l : List Oper) (n : Nat) (bx : List (List D)) (fr : List Fr) : List Oper -> List (Nat × D) -> List (Nat × Zy) -> List (Nat × D) -> Prop
 | nil (tm : List (Nat × D)) : AZ P T l n bx fr [] tm [] tm
 | pu (o : Oper) (rest : List Oper) (t : Nat) (d : D) (tm : List (Nat × D)) (zs : List (Nat × Zy)) (tm' : List (Nat × D)) (hd : o.dst = some t) (ht : Nat.blt t n = true) (h : AL P l.toArray [o] ⟨n, restr l o tm, bx, fr, (bx.length, fr.length)⟩ (qY o bx fr (.pu d))) (k : AZ P T l n bx fr rest ((t, d) :: tm) zs tm') : AZ P T l n bx fr (o :: rest) tm ((t, .pu d) :: zs) tm'
 | al (t : Nat) (e : TypeId) (ty : Nat) (pos : String) (after : Array Edge) (rest : List Oper) (ti : Ti) (tm : List (Nat × D)) (zs : List (Nat × Zy)) (tm' : List (Nat × D)) (ht : Nat.blt t n = true) (hti : tl T e = some ti) (k : AZ P T l n bx fr rest ((t, .junk) :: tm) zs tm') : AZ P T l n bx fr (⟨some t, .alloc e, ty, pos, after, none⟩ :: rest) tm ((t, .al (ti.zero.map ZK.d)) :: zs) tm'
theorem restr_filter (l : List Oper) (o : Oper) : ∀ tm : List (Nat × D), restr l o tm = tm.filter fun p => (looks l o).contains p.1
 | [] => rfl
 | p :: tm => by
  rw [restr, List.filter_cons, restr_filter l o tm]
  cases (looks l o).contains p.1 <;> rfl
theorem Evo.al [Known] (hm : Mem g bx fr w) (o : Obj) : Evo ⟨g, fr, w⟩ ⟨g, fr, w.alloc o⟩ :=
 ⟨rfl, rfl, rfl, by simp, fun k hk _ => Below.heap_alloc w _ k hk, fun _ _ h => h, fun k p h => cell_alloc w _ (hm.Clt k p h) p, fun _ _ h => .inl h, fun _ _ h => h, fun _ h => .inl h, fun k c h => .inl ⟨c, h⟩, TokOn.refl _ _⟩
theorem Mem.al [Known] (hm : Mem g bx fr w) (o : Obj) : Mem g bx fr (w.alloc o) where
 bl := hm.bl
 bat i k cs' h1 h2 := by
  obtain ⟨us, ty, k1, k2, k3⟩ := hm.bat i k cs' h1 h2
  exact ⟨us, ty, (Below.heap_alloc w _ k (Array.getElem?_eq_some_iff.1 k1).1).trans k1, k2, fun j d v hd hv => (k3 j d v hd hv).evo (Evo.al hm o)⟩
 bC := hm.bC
 bN := hm.bN
 tl := hm.tl
 tat i k c f h1 h2 := by
  have hT := hm.tat i k c f h1 h2
  obtain ⟨cur, r1, r2⟩ := hT.row
  exact ⟨⟨cur, (Below.heap_alloc w _ k (Array.getElem?_eq_some_iff.1 r1).1).trans r1, r2⟩, hT.le, hT.max, hT.pos, hT.far⟩
 tN := hm.tN
 tρ := hm.tρ
 Clt k p hC := by
  have := hm.Clt k p hC
  simp; omega
 gl := hm.gl.evo (Evo.al hm o)
theorem mem_snoc {k k' : Nat} (h : M ⟨g.C, g.ρ ++ [k], g.τ⟩ k') : M g k' \/ k' = k := by
 rcases h with h | h
 ·rcases List.mem_append.1 h with h | h
  ·exact .inl (.inl h)
  ·simp at h; exact .inr h
 ·exact .inl (.inr h)
structure AZk [Known] [Dfr] (P : Program) (l acts : List Oper) (n : Nat) (zs : List (Nat × Zy)) (tm : List (Nat × D)) (bx : List (List D)) (fr : List Fr) (ee : Nat × Nat) (Q : X -> St -> Prop) : Prop where
 run : AL P l.toArray acts ⟨n, zfin bx.length zs tm, bx ++ zcs zs, fr, ee⟩ Q
end
end Go.Av
end
section
open Go.RowKit Go.Pl Go.Av
namespace Go.Proofs.YtfkmicjlaedlkaaDoor
set_option maxHeartbeats 4000000
def isNum (m : Nat) (x : It) : Bool := It.beq x (.mk 0 m [] [])
def numsV : It -> Option (Nat × Nat)
 | .mk k _ _ [y0, y1] => if k = 4 then (match isNum y0.n y0 && isNum y1.n y1 with | true => some (y0.n, y1.n) | false => none) else none
 | _ => none
def numsD : Option (Nat × Nat) -> D
 | some (a, b) => .tup [.sl .ext [.int .u64 (a : Int), .int .u64 (b : Int)], .bool true]
 | none => .tup [.sl .ext [], .bool false]
theorem av_isNum [Known] (x : It) (hw : wfI x) (m : Nat) (hm : m < 18446744073709551616) : AP Tryd.prog 27 [itD x, .agg [.int .i64 0, .int .u64 (m : Int), .sl .ext [], .sl .ext []]] (.bool (isNum m x)) [] :=
 av_same x hw (.mk 0 m [] []) (by simp [wfI, wfs]; omega)
theorem av_numA [Known] (n : Nat) : AP Tryd.prog 13 [.int .u64 (n : Int)] (.agg [.int .i64 0, .int .u64 (n : Int), .sl .ext [], .sl .ext []]) [] := av_num n
theorem av_nums [Known] (x : It) (hw : wfI x) : AP Tryd.prog 86 [itD x, .int .i64 2] (numsD (numsV x)) [] := by
 obtain ⟨k, n, b, l⟩ := x
 obtain ⟨_, _, _, hws⟩ := hw
 by_cases hk : k = 4
 case neg =>
  have t1 : (k != 4) = true := by simpa using hk
  have e : numsV (.mk k n b l) = none := by unfold numsV; split <;> simp_all
  rw [e]
  refine AP.ofA ?_
  refine AC_of Tryd.func86 rfl Tryd.ntmps86 rfl rfl ?_
  repeat' (first | (apply AL_go ttok; exact rfl) | (apply AW_go ttok; exact rfl) | (apply K_go ttok; exact rfl) | (apply AL_guardFf; (iterate 3 exact rfl); (first | with_reducible assumption | decide +kernel)) | (apply AL_pickT; exact rfl; (first | with_reducible assumption | decide +kernel); exact rfl; exact rfl) | (apply AW_condA; exact rfl; (first | with_reducible assumption | decide +kernel)))
  all_goals (apply endQ []; (apply resG_ok ttok; exact rfl); (iterate 4 exact rfl))
  all_goals rfl
 subst hk
 have t1 : ((4 : Int) != 4) = false := rfl
 by_cases hl : l.length = 2
 case neg =>
  have t2 : (((itEs l).length : Int) != 2) = true := by rw [itEs_len]; simp; omega
  have e : numsV (.mk 4 n b l) = none := by unfold numsV; split <;> simp_all
  rw [e]
  refine AP.ofA ?_
  refine AC_of Tryd.func86 rfl Tryd.ntmps86 rfl rfl ?_
  repeat' (first | (apply AL_go ttok; exact rfl) | (apply AW_go ttok; exact rfl) | (apply K_go ttok; exact rfl) | (apply AL_guardT; (iterate 3 exact rfl); (first | with_reducible assumption | decide +kernel)) | (apply AL_pickF; exact rfl; (first | with_reducible assumption | decide +kernel); exact rfl; exact rfl) | (apply AW_condA; exact rfl; (first | with_reducible assumption | decide +kernel)) | (apply AL_len ttok; (iterate 4 exact rfl)))
  all_goals (apply endQ []; (apply resG_ok ttok; exact rfl); (iterate 4 exact rfl))
  all_goals rfl
 match l, hl with
 | [⟨k0, n0, b0, l0⟩, ⟨k1, n1, b1, l1⟩], _ =>
  have hU := uniI [It.mk k0 n0 b0 l0, It.mk k1 n1 b1 l1]
  obtain ⟨hw0, hw1, _⟩ := hws
  have m0 : n0 < 18446744073709551616 := hw0.1
  have m1 : n1 < 18446744073709551616 := hw1.1
  have h0 := av_isNum _ hw0 n0 m0
  have h1 := av_isNum _ hw1 n1 m1
  have a0 := av_numA n0
  have a1 := av_numA n1
  unfold numsV
  simp only [It.n, if_true]
  have t2 : (((itEs [It.mk k0 n0 b0 l0, It.mk k1 n1 b1 l1]).length : Int) != 2) = false := rfl
  have t3 : decide ((0 : Int) < ((itEs [It.mk k0 n0 b0 l0, It.mk k1 n1 b1 l1]).length : Int)) = true := rfl
  have t4 : decide ((IntKind.i64.wrap (0 + 1) : Int) < ((itEs [It.mk k0 n0 b0 l0, It.mk k1 n1 b1 l1]).length : Int)) = true := rfl
  have t5 : decide ((IntKind.i64.wrap (IntKind.i64.wrap (0 + 1) + 1) : Int) < ((itEs [It.mk k0 n0 b0 l0, It.mk k1 n1 b1 l1]).length : Int)) = false := rfl
  have hv0 : (itEs [It.mk k0 n0 b0 l0, It.mk k1 n1 b1 l1])[Int.toNat 0]? = some (.agg [.int .i64 k0, .int .u64 (n0 : Int), .sl (b0.map E.byte), .sl (itEs l0)]) := rfl
  cases c0 : isNum n0 (.mk k0 n0 b0 l0) with
  | false =>
   rw [c0] at h0
   refine AP.ofA ?_
   refine AC_of Tryd.func86 rfl Tryd.ntmps86 rfl rfl ?_
   repeat' (first | (apply AL_callPw (h0); kernel_rfl; (iterate 4 exact rfl)) | (apply AL_callPw (a0); kernel_rfl; (iterate 4 exact rfl)) | refine AW_loopN 70 ?_ | refine AN_succ ?_ | (apply AL_go ttok; exact rfl) | (apply AW_go ttok; exact rfl) | (apply K_go ttok; exact rfl) | (apply AL_guardT; (iterate 3 exact rfl); (first | with_reducible assumption | decide +kernel)) | (apply AL_pickF; exact rfl; (first | with_reducible assumption | decide +kernel); exact rfl; exact rfl) | (apply AW_condA; exact rfl; (first | with_reducible assumption | decide +kernel)) | (apply AW_condB; exact rfl; (first | with_reducible assumption | decide +kernel)) | refine then_ret ?_ | (apply AL_len ttok; (iterate 4 exact rfl)) | (apply AW_drawE 4 hmix; (decide +kernel); (kernel_rfl); (kernel_rfl); (kernel_rfl); exact rfl; exact rfl) | (apply AE_consZ; (iterate 4 exact rfl)) | exact AE.nil _ _ _ _ | (apply AEk_puT; exact rfl) | (apply AOt_mk; exact rfl; exact rfl; (decide +kernel); exact rfl) | (apply AO_puT; exact rfl) | exact AO.nil _ _ _ | (apply AOs_skip; (decide +kernel)) | exact AOs.nil | exact qY_ok rfl rfl | (apply AL_idx ttok; (iterate 6 exact rfl); (first | with_reducible assumption | decide +kernel | exact Int.natCast_nonneg _ | (guard_target = (0:Int) <= (OfNat.ofNat _ : Int); decide) | rotate_left); (first | with_reducible assumption | decide +kernel | exact rfl); (first | exact uniB_ok rfl | with_reducible assumption | decide +kernel | rotate_left)))
   all_goals (apply endQ []; (apply resG_ok ttok; exact rfl); (iterate 4 exact rfl))
   all_goals rfl
  | true =>
   rw [c0] at h0
   cases c1 : isNum n1 (.mk k1 n1 b1 l1) with
   | false =>
    rw [c1] at h1
    refine AP.ofA ?_
    refine AC_of Tryd.func86 rfl Tryd.ntmps86 rfl rfl ?_
    repeat' (first | (apply AL_callPw (h0); kernel_rfl; (iterate 4 exact rfl)) | (apply AL_callPw (a0); kernel_rfl; (iterate 4 exact rfl)) | (apply AL_callPw (h1); kernel_rfl; (iterate 4 exact rfl)) | (apply AL_callPw (a1); kernel_rfl; (iterate 4 exact rfl)) | refine AW_loopN 70 ?_ | refine AN_succ ?_ | (apply AL_append_nilZ ttok; (iterate 6 exact rfl); exact uniB_ok rfl; exact List.cons_ne_nil _ _; exact rfl; decide +kernel; decide +kernel; (iterate 3 exact rfl)) | (apply AL_go ttok; exact rfl) | (apply AW_go ttok; exact rfl) | (apply K_go ttok; exact rfl) | (apply AL_guardT; (iterate 3 exact rfl); (first | with_reducible assumption | decide +kernel)) | (apply AL_pickF; exact rfl; (first | with_reducible assumption | decide +kernel); exact rfl; exact rfl) | (apply AW_condA; exact rfl; (first | with_reducible assumption | decide +kernel)) | (apply AW_condB; exact rfl; (first | with_reducible assumption | decide +kernel)) | refine then_ret ?_ | (apply AL_len ttok; (iterate 4 exact rfl)) | (apply AL_bsZ ttok; (iterate 12 exact rfl)) | (apply AW_drawE 4 hmix; (decide +kernel); (kernel_rfl); (kernel_rfl); (kernel_rfl); exact rfl; exact rfl) | (apply AE_consZ; (iterate 4 exact rfl)) | exact AE.nil _ _ _ _ | (apply AEk_puT; exact rfl) | (apply AOt_mk; exact rfl; exact rfl; (decide +kernel); exact rfl) | (apply AO_puT; exact rfl) | exact AO.nil _ _ _ | (apply AOs_skip; (decide +kernel)) | exact AOs.nil | exact qY_ok rfl rfl | (apply AL_idx ttok; (iterate 6 exact rfl); (first | with_reducible assumption | decide +kernel | exact Int.natCast_nonneg _ | (guard_target = (0:Int) <= (OfNat.ofNat _ : Int); decide) | rotate_left); (first | with_reducible assumption | decide +kernel | exact rfl); (first | exact uniB_ok rfl | with_reducible assumption | decide +kernel | rotate_left)))
    all_goals (apply endQ []; (apply resG_ok ttok; exact rfl); (iterate 4 exact rfl))
    all_goals rfl
   | true =>
    rw [c1] at h1
    refine AP.ofA ?_
    refine AC_of Tryd.func86 rfl Tryd.ntmps86 rfl rfl ?_
    repeat' (first | (apply AL_callPw (h0); kernel_rfl; (iterate 4 exact rfl)) | (apply AL_callPw (a0); kernel_rfl; (iterate 4 exact rfl)) | (apply AL_callPw (h1); kernel_rfl; (iterate 4 exact rfl)) | (apply AL_callPw (a1); kernel_rfl; (iterate 4 exact rfl)) | refine AW_loopN 70 ?_ | refine AN_succ ?_ | (apply AL_appendZ ttok; (iterate 11 exact rfl); exact uniB_ok rfl; exact uniB_ok rfl; exact List.cons_ne_nil _ _; decide +kernel; decide +kernel; exact rfl; exact rfl) | (apply AL_append_nilZ ttok; (iterate 6 exact rfl); exact uniB_ok rfl; exact List.cons_ne_nil _ _; exact rfl; decide +kernel; decide +kernel; (iterate 3 exact rfl)) | (apply AL_go ttok; exact rfl) | (apply AW_go ttok; exact rfl) | (apply K_go ttok; exact rfl) | (apply AL_guardT; (iterate 3 exact rfl); (first | with_reducible assumption | decide +kernel)) | (apply AL_pickF; exact rfl; (first | with_reducible assumption | decide +kernel); exact rfl; exact rfl) | (apply AW_condA; exact rfl; (first | with_reducible assumption | decide +kernel)) | (apply AW_condB; exact rfl; (first | with_reducible assumption | decide +kernel)) | (apply AL_len ttok; (iterate 4 exact rfl)) | (apply AL_bsZ ttok; (iterate 12 exact rfl)) | (apply AW_drawE 4 hmix; (decide +kernel); (kernel_rfl); (kernel_rfl); (kernel_rfl); exact rfl; exact rfl) | (apply AE_consZ; (iterate 4 exact rfl)) | exact AE.nil _ _ _ _ | (apply AEk_puT; exact rfl) | (apply AOt_mk; exact rfl; exact rfl; (decide +kernel); exact rfl) | (apply AO_puT; exact rfl) | exact AO.nil _ _ _ | (apply AOs_skip; (decide +kernel)) | exact AOs.nil | exact qY_ok rfl rfl | (apply AL_idx ttok; (iterate 6 exact rfl); (first | with_reducible assumption | decide +kernel | exact Int.natCast_nonneg _ | (guard_target = (0:Int) <= (OfNat.ofNat _ : Int); decide) | rotate_left); (first | with_reducible assumption | decide +kernel | exact rfl); (first | exact uniB_ok rfl | with_reducible assumption | decide +kernel | rotate_left)))
    all_goals (apply endQ []; (apply resG_ok ttok; exact rfl); (iterate 4 exact rfl))
    all_goals rfl
end Go.Proofs.YtfkmicjlaedlkaaDoor
end

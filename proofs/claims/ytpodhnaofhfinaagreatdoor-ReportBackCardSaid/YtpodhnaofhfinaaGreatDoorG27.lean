/- Package canon: a first block, read, by cases. -/
import Derived.Test.YtpodhnaofhfinaaGreatDoorG26
import Derived.Test.YtpodhnaofhfinaaGreatDoorG19
import Derived.Test.YtpodhnaofhfinaaGreatDoorG24
set_option linter.unusedVariables false
set_option linter.unusedSimpArgs false
section
open Go.RowKit Go.Pl Go.Av
namespace Go.Proofs.YtpodhnaofhfinaaGreatDoor
set_option maxHeartbeats 4000000
theorem pr_mw_all [Known] [KnownU8] (k : Int) (n : Nat) (b : List UInt8) (xl : List E) (L : List E) (e : Int) (k0 : Int) (n0 : Nat) (b0 : List UInt8) (l0 : List It) (k1 : Int) (n1 : Nat) (b1 : List UInt8) (l1 : List It) (k2 : Int) (n2 : Nat) (b2 : List UInt8) (l2 : List It) (k3 : Int) (n3 : Nat) (b3 : List UInt8) (l3 : List It) (k4 : Int) (n4 : Nat) (b4 : List UInt8) (l4 : List It) (k5 : Int) (n5 : Nat) (b5 : List UInt8) (l5 : List It) (k6 : Int) (n6 : Nat) (b6 : List UInt8) (l6 : List It) (k7 : Int) (n7 : Nat) (b7 : List UInt8) (l7 : List It) (di : Bool) (dn ds : Nat) (dh dd : List UInt8) (ri : Bool) (rn rs : Nat) (rh rd : List UInt8) (ui : Bool) (un us : Nat) (uh ud : List UInt8) (ut uq : Nat) (de re ie we : Int) (wk : Int) (wn : Nat) (wb : List UInt8) (wl : List E) (s : Bool) (hO : AP Tryz.prog 68 [.agg [.int .i64 k, .int .u64 (n : Int), byE b, .sl .ext xl], .int .i64 2] (.tup [.sl .ext L, .int .i64 e]) []) (t1 : (e != 0) = false) (t2 : ((L.length : Int) != 8) = false) (hU : Uni 4 L) (hv1 : L[(1 : Int).toNat]? = some (.agg [.int .i64 k1, .int .u64 (n1 : Int), .sl (b1.map E.byte), .sl (itEs l1)])) (hv2 : L[(2 : Int).toNat]? = some (.agg [.int .i64 k2, .int .u64 (n2 : Int), .sl (b2.map E.byte), .sl (itEs l2)])) (hv3 : L[(3 : Int).toNat]? = some (.agg [.int .i64 k3, .int .u64 (n3 : Int), .sl (b3.map E.byte), .sl (itEs l3)])) (hv4 : L[(4 : Int).toNat]? = some (.agg [.int .i64 k4, .int .u64 (n4 : Int), .sl (b4.map E.byte), .sl (itEs l4)])) (hv5 : L[(5 : Int).toNat]? = some (.agg [.int .i64 k5, .int .u64 (n5 : Int), .sl (b5.map E.byte), .sl (itEs l5)])) (hv6 : L[(6 : Int).toNat]? = some (.agg [.int .i64 k6, .int .u64 (n6 : Int), .sl (b6.map E.byte), .sl (itEs l6)])) (hv7 : L[(7 : Int).toNat]? = some (.agg [.int .i64 k7, .int .u64 (n7 : Int), .sl (b7.map E.byte), .sl (itEs l7)])) (hD : AP Tryz.prog 69 [.agg [.int .i64 k3, .int .u64 (n3 : Int), .sl .ext (b3.map E.byte), .sl .ext (itEs l3)]] (.tup [.agg [.bool di, .int .u64 (dn : Int), .int .u64 (ds : Int), .str dh, .str dd], .int .i64 de]) []) (hR : AP Tryz.prog 69 [.agg [.int .i64 k5, .int .u64 (n5 : Int), .sl .ext (b5.map E.byte), .sl .ext (itEs l5)]] (.tup [.agg [.bool ri, .int .u64 (rn : Int), .int .u64 (rs : Int), .str rh, .str rd], .int .i64 re]) []) (hL : AP Tryz.prog 47 [.sl .ext [.agg [.int .i64 k4, .int .u64 (n4 : Int), .sl (b4.map E.byte), .sl (itEs l4)], .agg [.int .i64 k6, .int .u64 (n6 : Int), .sl (b6.map E.byte), .sl (itEs l6)]]] (.agg [.int .i64 4, .int .u64 0, .sl .ext [], .sl .ext [.agg [.int .i64 k4, .int .u64 (n4 : Int), .sl (b4.map E.byte), .sl (itEs l4)], .agg [.int .i64 k6, .int .u64 (n6 : Int), .sl (b6.map E.byte), .sl (itEs l6)]]]) []) (hI : AP Tryz.prog 43 [.agg [.int .i64 4, .int .u64 0, .sl .ext [], .sl .ext [.agg [.int .i64 k4, .int .u64 (n4 : Int), .sl (b4.map E.byte), .sl (itEs l4)], .agg [.int .i64 k6, .int .u64 (n6 : Int), .sl (b6.map E.byte), .sl (itEs l6)]]]] (.tup [.agg [.bool ui, .int .u64 (un : Int), .int .u64 (us : Int), .str uh, .str ud, .int .u64 (ut : Int), .int .u64 (uq : Int)], .int .i64 ie]) []) (hW : AP Tryz.prog 64 [.agg [.int .u64 (n1 : Int), .int .i64 (IntKind.i64.wrap (n2 : Int)), .bool di, .int .u64 (dn : Int), .int .u64 (ds : Int), .str dh, .str dd, .bool ri, .int .u64 (rn : Int), .int .u64 (rs : Int), .str rh, .str rd, .bool ui, .int .u64 (un : Int), .int .u64 (us : Int), .str uh, .str ud, .int .u64 (ut : Int), .int .u64 (uq : Int), .int .u64 (n7 : Int)]] (.tup [.agg [.int .i64 wk, .int .u64 (wn : Int), byE wb, .sl .ext wl], .int .i64 we]) []) (hS : AP Tryz.prog 54 [.agg [.int .i64 wk, .int .u64 (wn : Int), byE wb, .sl .ext wl], .agg [.int .i64 k, .int .u64 (n : Int), byE b, .sl .ext xl]] (.bool s) []) (c1 : (de != 0) = false) (c2 : (re != 0) = false) (c3 : (ie != 0) = false) :
  (∀ (c4 : (we != 0) = true),
  AP Tryz.prog 39 [.agg [.int .i64 k, .int .u64 (n : Int), byE b, .sl .ext xl]] (.tup [.agg [.int .u64 0, .int .i64 0, .bool false, .int .u64 0, .int .u64 0, .str [], .str [], .bool false, .int .u64 0, .int .u64 0, .str [], .str [], .bool false, .int .u64 0, .int .u64 0, .str [], .str [], .int .u64 0, .int .u64 0, .int .u64 0], .int .i64 3]) []) /\
  (∀ (c4 : (we != 0) = false) (hSn : AP Tryz.prog 54 [.agg [.int .i64 wk, .int .u64 (wn : Int), byE wb, .sl .ext wl], .agg [.int .i64 k, .int .u64 (n : Int), byE b, .sl .ext xl]] (.bool false) []),
  AP Tryz.prog 39 [.agg [.int .i64 k, .int .u64 (n : Int), byE b, .sl .ext xl]] (.tup [.agg [.int .u64 0, .int .i64 0, .bool false, .int .u64 0, .int .u64 0, .str [], .str [], .bool false, .int .u64 0, .int .u64 0, .str [], .str [], .bool false, .int .u64 0, .int .u64 0, .str [], .str [], .int .u64 0, .int .u64 0, .int .u64 0], .int .i64 3]) []) /\
  (∀ (c4 : (we != 0) = false) (hSn : AP Tryz.prog 54 [.agg [.int .i64 wk, .int .u64 (wn : Int), byE wb, .sl .ext wl], .agg [.int .i64 k, .int .u64 (n : Int), byE b, .sl .ext xl]] (.bool true) []),
  AP Tryz.prog 39 [.agg [.int .i64 k, .int .u64 (n : Int), byE b, .sl .ext xl]] (.tup [.agg [.int .u64 (n1 : Int), .int .i64 (IntKind.i64.wrap (n2 : Int)), .bool di, .int .u64 (dn : Int), .int .u64 (ds : Int), .str dh, .str dd, .bool ri, .int .u64 (rn : Int), .int .u64 (rs : Int), .str rh, .str rd, .bool ui, .int .u64 (un : Int), .int .u64 (us : Int), .str uh, .str ud, .int .u64 (ut : Int), .int .u64 (uq : Int), .int .u64 (n7 : Int)], .int .i64 0]) []) := by
 refine ⟨fun c4 => ?_, fun c4 hSn => ?_, fun c4 hSn => ?_⟩
 all_goals
  refine AP.ofA ?_
  refine AC_of Tryz.func39 rfl Tryz.ntmps39 rfl rfl ?_
  repeat' (first | (apply AL_callPw (hO); kernel_rfl; (iterate 4 exact rfl)) | (apply AL_callPw (hD); kernel_rfl; (iterate 4 exact rfl)) | (apply AL_callPw (hR); kernel_rfl; (iterate 4 exact rfl)) | (apply AL_callPw (hL); kernel_rfl; (iterate 4 exact rfl)) | (apply AL_callPw (hI); kernel_rfl; (iterate 4 exact rfl)) | (apply AL_callPw (hW); kernel_rfl; (iterate 4 exact rfl)) | (apply AL_callPw (hSn); kernel_rfl; (iterate 4 exact rfl)) | (apply AL_go ttok; exact rfl) | (apply AW_go ttok; exact rfl) | (apply K_go ttok; exact rfl) | (apply AL_guardT; (iterate 3 exact rfl); (first | with_reducible assumption | decide +kernel)) | (apply AL_guardFf; (iterate 3 exact rfl); (first | with_reducible assumption | decide +kernel)) | (apply AL_pickT; exact rfl; (first | with_reducible assumption | decide +kernel); exact rfl; exact rfl) | (apply AL_pickF; exact rfl; (first | with_reducible assumption | decide +kernel); exact rfl; exact rfl) | (apply AW_condA; exact rfl; (first | with_reducible assumption | decide +kernel)) | (apply AW_condB; exact rfl; (first | with_reducible assumption | decide +kernel)) | (apply AL_len ttok; (iterate 4 exact rfl)) | (apply AL_bsZ ttok; (iterate 12 exact rfl)) | (apply AW_drawE 14 hmix; (decide +kernel); (kernel_rfl); (kernel_rfl); (kernel_rfl); exact rfl; exact rfl) | (apply AW_drawE 18 hmix; (decide +kernel); (kernel_rfl); (kernel_rfl); (kernel_rfl); exact rfl; exact rfl) | (apply AE_consZ; (iterate 4 exact rfl)) | exact AE.nil _ _ _ _ | (apply AEk_puT; exact rfl) | (apply AEk_efT; exact rfl) | (apply AEk_ef; exact rfl) | (apply AOt_mk; exact rfl; exact rfl; (decide +kernel); exact rfl) | (apply AO_puT; exact rfl) | (apply AO_efT; exact rfl) | (apply AO_ef; exact rfl) | exact AO.nil _ _ _ | (apply AOs_skip; (decide +kernel)) | (apply AOs_goZ; (iterate 3 exact rfl)) | exact AOs.nil | exact qY_ok rfl rfl | exact qY_wk rfl rfl rfl rfl rfl | exact qY_ef rfl rfl | exact qY_efn rfl | (apply AL_idx ttok; (iterate 6 exact rfl); (first | with_reducible assumption | decide +kernel | exact Int.natCast_nonneg _ | (guard_target = (0:Int) <= (OfNat.ofNat _ : Int); decide) | rotate_left); (first | with_reducible assumption | decide +kernel | exact rfl); (first | exact uniB_ok rfl | with_reducible assumption | decide +kernel | rotate_left)))
  all_goals (apply endQ []; (apply resG_ok ttok; exact rfl); (iterate 4 exact rfl))
  all_goals first | rfl | (exfalso; simp_all; done)
end Go.Proofs.YtpodhnaofhfinaaGreatDoor
end
section
open Go.RowKit Go.Pl Go.Av
namespace Go.Proofs.YtpodhnaofhfinaaGreatDoor
mutual
def sizeI : It -> Nat
 | .mk _ _ _ l => 1 + sizes l
def sizes : List It -> Nat
 | [] => 0
 | x :: l => sizeI x + sizes l
end
mutual
def fineI : It -> Bool
 | .mk k n b l => ownI k n b l && fines l
def fines : List It -> Bool
 | [] => true
 | x :: l => fineI x && fines l
end
mutual
theorem walk_iff : ∀ (x : It) (d m : Nat), walkI x d m = if deepI x (7 - d) = true /\ sizeI x <= m /\ fineI x = true then some (m - sizeI x) else none
 | .mk k n b l, d, m => by
  rw [walkI]
  split
  ·rename_i h
   rw [if_neg]
   rintro ⟨h1, _⟩
   rw [show 7 - d = 0 by omega, deepI] at h1
   cases h1
  rename_i hd
  rw [show 7 - d = (7 - (d + 1)) + 1 by omega, deepI, sizeI, fineI]
  split
  ·rename_i h
   rw [if_neg]
   rintro ⟨_, h1, _⟩
   omega
  rename_i hm
  cases ho : ownI k n b l with
  | false =>
   dsimp only
   rw [if_neg]
   rintro ⟨_, _, h1⟩
   simp at h1
  | true =>
   dsimp only
   rw [walks_iff l (d + 1) (m - 1), Bool.true_and]
   by_cases h : deeps l (7 - (d + 1)) = true /\ sizes l <= m - 1 /\ fines l = true
   ·rw [if_pos h, if_pos ⟨h.1, by omega, h.2.2⟩]
    congr 1; omega
   ·rw [if_neg h, if_neg]
    exact fun ⟨a, b, c⟩ => h ⟨a, by omega, c⟩
theorem walks_iff : ∀ (l : List It) (d m : Nat), walks l d m = if deeps l (7 - d) = true /\ sizes l <= m /\ fines l = true then some (m - sizes l) else none
 | [], d, m => by rw [walks, if_pos ⟨by rw [deeps], by rw [sizes]; omega, by rw [fines]⟩, sizes]; rfl
 | x :: l, d, m => by
  rw [walks, walk_iff x d m, deeps, sizes, fines]
  by_cases h : deepI x (7 - d) = true /\ sizeI x <= m /\ fineI x = true
  ·rw [if_pos h]
   dsimp only
   rw [walks_iff l d (m - sizeI x), h.1, h.2.2, Bool.true_and, Bool.true_and]
   by_cases h2 : deeps l (7 - d) = true /\ sizes l <= m - sizeI x /\ fines l = true
   ·rw [if_pos h2, if_pos ⟨h2.1, by omega, h2.2.2⟩]
    congr 1; omega
   ·rw [if_neg h2, if_neg]
    exact fun ⟨a, b, c⟩ => h2 ⟨a, by omega, c⟩
  ·rw [if_neg h]
   dsimp only
   rw [if_neg]
   rintro ⟨a, b, c⟩
   rw [Bool.and_eq_true] at a c
   exact h ⟨a.1, by omega, c.1⟩
end
theorem right_iff (x : It) : rightI x = (deepI x 6 && (decide (sizeI x <= 256) && fineI x)) := by
 unfold rightI
 rw [walk_iff]
 split
 ·rename_i h
  obtain ⟨a, b, c⟩ := h
  rw [show 7 - 1 = 6 from rfl] at a
  simp [a, b, c]
 ·rename_i h
  rw [show 7 - 1 = 6 from rfl] at h
  show false = _
  cases h2 : (deepI x 6 && (decide (sizeI x <= 256) && fineI x)) with
  | false => rfl
  | true =>
   simp only [Bool.and_eq_true, decide_eq_true_eq] at h2
   exact absurd ⟨h2.1, h2.2.1, h2.2.2⟩ h
mutual
theorem deepI_more : ∀ (x : It) (d e : Nat), deepI x d = true -> d <= e -> deepI x e = true
 | .mk k n b l, 0, e, h, _ => by rw [deepI] at h; cases h
 | .mk k n b l, d + 1, 0, h, hle => by omega
 | .mk k n b l, d + 1, e + 1, h, hle => by
  rw [deepI] at h ⊢
  exact deeps_more l d e h (by omega)
theorem deeps_more : ∀ (l : List It) (d e : Nat), deeps l d = true -> d <= e -> deeps l e = true
 | [], _, _, _, _ => by rw [deeps]
 | x :: l, d, e, h, hle => by
  rw [deeps, Bool.and_eq_true] at h ⊢
  exact ⟨deepI_more x d e h.1 hle, deeps_more l d e h.2 hle⟩
end
mutual
theorem great_size : ∀ (x : It) (d : Nat) (m : Int), 0 <= greatI x d m -> (sizeI x : Int) = m - greatI x d m
 | .mk k n b l, d, m, h => by
  rw [greatI] at h ⊢
  split at h
  ·omega
  split at h
  ·omega
  rename_i h1 h2
  rw [if_neg h1, if_neg h2, sizeI]
  have := greats_size l (d + 1) (m - 1) h
  omega
theorem greats_size : ∀ (l : List It) (d : Nat) (m : Int), 0 <= greats l d m -> (sizes l : Int) = m - greats l d m
 | [], d, m, h => by rw [greats, sizes]; omega
 | x :: l, d, m, h => by
  rw [greats] at h ⊢
  split at h
  ·omega
  rename_i h1
  rw [if_neg h1, sizes]
  have h0 : 0 <= greatI x d m := by
   rcases Int.lt_or_le (greatI x d m) 0 with hlt | hge
   ·have := greats_le l d (greatI x d m) (by have := greatI_lt x d m (by omega); omega); omega
   ·exact hge
  have a := great_size x d m h0
  have b := greats_size l d _ h
  omega
end
end Go.Proofs.YtpodhnaofhfinaaGreatDoor
end
section
open Go.RowKit Go.Pl Go.Av
namespace Go.Proofs.YtpodhnaofhfinaaGreatDoor
set_option maxHeartbeats 4000000
end Go.Proofs.YtpodhnaofhfinaaGreatDoor
end
section
open Go.RowKit Go.Pl Go.Av
namespace Go.Proofs.YtpodhnaofhfinaaGreatDoor
set_option maxHeartbeats 4000000
theorem read_put00 {x : It} (hw : wfI x) (hr : rightI x = true) : readI (putI x) 0 = (x, (putI x).length, 0) := by
 have h := read_put0 hw hr []
 rw [List.append_nil] at h
 exact h
theorem read_case (b : List UInt8) (hb : b.length < 4294967296) : (∃ e : Nat, e ≠ 0 /\ readI b 0 = (.mk 0 0 [] [], 0, e) /\ shortI b = false) \/ (∃ (y : It) (n : Nat), readI b 0 = (y, n, 0) /\ wfI y /\ rightI y = true /\ (putI y).length <= n /\ n <= b.length) := by
 have e : readI b 0 = match itemS 6 256 b with
   | .error e => (.mk 0 0 [] [], 0, e)
   | .ok (x, r, _) => (x, b.length - r.length, 0) := by rw [readI, if_neg (by omega)]; rfl
 unfold shortI
 rw [e]
 cases hx : itemS 6 256 b with
 | error c => exact .inl ⟨c, item_err _ _ _ _ hx, rfl, rfl⟩
 | ok y =>
  obtain ⟨y, r, m1⟩ := y
  obtain ⟨hwk, hwf, pre, hpre, _, hlen⟩ := item_ok 6 (Nat.le_refl _) _ _ _ _ _ hx (by omega)
  have hle := hlen ⟨Nat.le_refl _, hb⟩
  have hpl := congrArg List.length hpre
  rw [List.length_append] at hpl
  refine .inr ⟨y, b.length - r.length, rfl, hwf, ?_, by omega, by omega⟩
  have hwk : walkI y 1 256 = some m1 := hwk
  unfold rightI; rw [hwk]; rfl
end Go.Proofs.YtpodhnaofhfinaaGreatDoor
end
section
open Go.RowKit Go.Pl Go.Av
namespace Go.Proofs.YtpodhnaofhfinaaGreatDoor
set_option maxHeartbeats 4000000
structure BlkV where
 ty : Nat
 num : Nat
 fl : Nat
 sum : Int
 data : List UInt8
abbrev bkC (b : BlkV) : List D := [.int .u64 (b.ty : Int), .int .u64 (b.num : Int), .int .u64 (b.fl : Int), .int .i64 b.sum, byE b.data]
theorem rd_wf (d : List UInt8) (hd : d.length <= 100000) : wfI (readI d 0).1 := by
 rcases read_case d (by omega) with ⟨e, _, h, _⟩ | ⟨y, n, h, hw, _⟩
 ·rw [h]; exact ⟨by decide, by simp, by simp, trivial⟩
 ·rw [h]; exact hw
theorem av_item [Known] [KnownU8] (d : List UInt8) (hd : d.length <= 100000) : AP Tryz.prog 53 [byE d] (.tup [itD (readI d 0).1, .bool (shortI d)]) [] := by
 have hR := av_readC d 0 (by omega)
 have hS := av_shortestI d (by omega)
 rcases read_case d (by omega) with ⟨e, he, h, hs⟩ | ⟨⟨k, n, b, l⟩, m, h, hw, hr, _⟩
 ·rw [h] at hR ⊢
  rw [hs] at hS ⊢
  replace hR : AP Tryz.prog _ _ (.tup [.agg [.int .i64 0, .int .u64 0, .sl .ext [], .sl .ext []], .int .i64 0, .int .i64 (e : Int)]) [] := hR
  have t1 : ((e : Int) == 0) = false := by rw [beq_eq_false_iff_ne]; omega
  refine AP.ofA ?_
  refine AC_of Tryz.func53 rfl Tryz.ntmps53 rfl rfl ?_
  repeat' (first | (apply AL_callPw (hR); kernel_rfl; (iterate 4 exact rfl)) | (apply AL_go ttok; exact rfl) | (apply AW_go ttok; exact rfl) | (apply AL_guardFt; (iterate 3 exact rfl); (first | with_reducible assumption | decide +kernel)) | (apply AL_pickF; exact rfl; (first | with_reducible assumption | decide +kernel); exact rfl; exact rfl) | (apply AW_drawE 8 hmix; (decide +kernel); (kernel_rfl); (kernel_rfl); (kernel_rfl); exact rfl; exact rfl) | (apply AE_consZ; (iterate 4 exact rfl)) | exact AE.nil _ _ _ _ | (apply AEk_puT; exact rfl) | (apply AEk_ef; exact rfl) | (apply AOt_mk; exact rfl; exact rfl; (decide +kernel); exact rfl) | (apply AO_puT; exact rfl) | (apply AO_ef; exact rfl) | exact AO.nil _ _ _ | (apply AOs_skip; (decide +kernel)) | (apply AOs_goZ; (iterate 3 exact rfl)) | exact AOs.nil | exact qY_ok rfl rfl | exact qY_efn rfl)
  all_goals (apply endQ []; (apply resG_ok ttok; exact rfl); (iterate 4 exact rfl))
  all_goals rfl
 ·rw [h] at hR ⊢
  replace hR : AP Tryz.prog _ _ (.tup [.agg (itC k n b l), .int .i64 (m : Int), .int .i64 0]) [] := hR
  refine AP.ofA ?_
  refine AC_of Tryz.func53 rfl Tryz.ntmps53 rfl rfl ?_
  repeat' (first | (apply AL_callPw (hR); kernel_rfl; (iterate 4 exact rfl)) | (apply AL_callPw (hS); kernel_rfl; (iterate 4 exact rfl)) | (apply AL_go ttok; exact rfl) | (apply AW_go ttok; exact rfl) | (apply AL_guardT; (iterate 3 exact rfl); (first | with_reducible assumption | decide +kernel)) | (apply AL_pickT; exact rfl; (first | with_reducible assumption | decide +kernel); exact rfl; exact rfl) | (apply AW_drawE 8 hmix; (decide +kernel); (kernel_rfl); (kernel_rfl); (kernel_rfl); exact rfl; exact rfl) | (apply AE_consZ; (iterate 4 exact rfl)) | exact AE.nil _ _ _ _ | (apply AEk_puT; exact rfl) | (apply AEk_ef; exact rfl) | (apply AOt_mk; exact rfl; exact rfl; (decide +kernel); exact rfl) | (apply AO_puT; exact rfl) | (apply AO_ef; exact rfl) | exact AO.nil _ _ _ | (apply AOs_skip; (decide +kernel)) | (apply AOs_goZ; (iterate 3 exact rfl)) | exact AOs.nil | exact qY_ok rfl rfl | exact qY_efn rfl)
  all_goals (apply endQ []; (apply resG_ok ttok; exact rfl); (iterate 4 exact rfl))
  all_goals rfl
def prevV (d : List UInt8) : EidV × Bool := ((match (readV (readI d 0).1).2 with | true => (readV (readI d 0).1).1 | false => eidZ), shortI d && (readV (readI d 0).1).2)
theorem av_previous [Known] [KnownU8] (d : List UInt8) (hd : d.length <= 100000) : AP Tryz.prog 41 [byE d] (.tup [.agg (eC (prevV d).1), .bool (prevV d).2]) [] := by
 have hI := av_item d hd
 have hR := av_eRead (readI d 0).1 (rd_wf d hd)
 unfold prevV
 dsimp only
 generalize (readI d 0).1 = x at *
 generalize readV x = r at *
 obtain ⟨⟨zi, zn, zs, zh, zd⟩, ok⟩ := r
 obtain ⟨k, n, b, l⟩ := x
 unfold resE at hR
 cases ok with
 | false =>
  replace hR : AP Tryz.prog _ _ (.tup [.agg [.bool false, .int .u64 0, .int .u64 0, .str [], .str []], .int .i64 3]) [] := hR
  cases hs : shortI d <;> rw [hs] at hI
  all_goals
   refine AP.ofA ?_
   refine AC_of Tryz.func41 rfl Tryz.ntmps41 rfl rfl ?_
   repeat' (first | (apply AL_callPw (hI); kernel_rfl; (iterate 4 exact rfl)) | (apply AL_callPw (hR); kernel_rfl; (iterate 4 exact rfl)) | (apply AL_go ttok; exact rfl) | (apply AW_go ttok; exact rfl) | (apply AL_guardT; (iterate 3 exact rfl); (first | with_reducible assumption | decide +kernel)) | (apply AL_guardFt; (iterate 3 exact rfl); (first | with_reducible assumption | decide +kernel)) | (apply AL_pickT; exact rfl; (first | with_reducible assumption | decide +kernel); exact rfl; exact rfl) | (apply AL_pickF; exact rfl; (first | with_reducible assumption | decide +kernel); exact rfl; exact rfl))
   all_goals (apply endQ []; (apply resG_ok ttok; exact rfl); (iterate 4 exact rfl))
   all_goals rfl
 | true =>
  replace hR : AP Tryz.prog _ _ (.tup [.agg [.bool zi, .int .u64 (zn : Int), .int .u64 (zs : Int), .str zh, .str zd], .int .i64 0]) [] := hR
  cases hs : shortI d <;> rw [hs] at hI
  all_goals
   refine AP.ofA ?_
   refine AC_of Tryz.func41 rfl Tryz.ntmps41 rfl rfl ?_
   repeat' (first | (apply AL_callPw (hI); kernel_rfl; (iterate 4 exact rfl)) | (apply AL_callPw (hR); kernel_rfl; (iterate 4 exact rfl)) | (apply AL_go ttok; exact rfl) | (apply AW_go ttok; exact rfl) | (apply AL_guardT; (iterate 3 exact rfl); (first | with_reducible assumption | decide +kernel)) | (apply AL_guardFt; (iterate 3 exact rfl); (first | with_reducible assumption | decide +kernel)) | (apply AL_pickT; exact rfl; (first | with_reducible assumption | decide +kernel); exact rfl; exact rfl) | (apply AL_pickF; exact rfl; (first | with_reducible assumption | decide +kernel); exact rfl; exact rfl))
   all_goals (apply endQ []; (apply resG_ok ttok; exact rfl); (iterate 4 exact rfl))
   all_goals rfl
def ageV (d : List UInt8) : Nat × Bool := ((readI d 0).1.n, shortI d && (It.beq (readI d 0).1 (.mk 0 (readI d 0).1.n [] []) && decide (((readI d 0).1.n : Int) <= 1099511627776)))
theorem av_age [Known] [KnownU8] (d : List UInt8) (hd : d.length <= 100000) : AP Tryz.prog 79 [byE d] (.tup [.int .u64 ((ageV d).1 : Int), .bool (ageV d).2]) [] := by
 have hI := av_item d hd
 have hw := rd_wf d hd
 unfold ageV
 dsimp only
 generalize (readI d 0).1 = x at *
 obtain ⟨k, n, b, l⟩ := x
 have hS := av_same (.mk k n b l) hw (.mk 0 n [] []) ⟨hw.1, by simp, by simp, trivial⟩
 have hN := av_num n
 dsimp only [It.n]
 cases hs : shortI d with
 | false =>
  rw [hs] at hI
  refine AP.ofA ?_
  refine AC_of Tryz.func79 rfl Tryz.ntmps79 rfl rfl ?_
  repeat' (first | (apply AL_callPw (hI); kernel_rfl; (iterate 4 exact rfl)) | (apply AL_go ttok; exact rfl) | (apply AW_go ttok; exact rfl) | (apply AL_guardFt; (iterate 3 exact rfl); (first | with_reducible assumption | decide +kernel)) | (apply AL_pickF; exact rfl; (first | with_reducible assumption | decide +kernel); exact rfl; exact rfl) | (apply AW_drawE 16 hmix; (decide +kernel); (kernel_rfl); (kernel_rfl); (kernel_rfl); exact rfl; exact rfl) | (apply AE_consZ; (iterate 4 exact rfl)) | exact AE.nil _ _ _ _ | (apply AEk_puT; exact rfl) | (apply AOt_mk; exact rfl; exact rfl; (decide +kernel); exact rfl) | (apply AO_puT; exact rfl) | exact AO.nil _ _ _ | (apply AOs_skip; (decide +kernel)) | exact AOs.nil | exact qY_ok rfl rfl)
  all_goals (apply endQ []; (apply resG_ok ttok; exact rfl); (iterate 4 exact rfl))
  all_goals rfl
 | true =>
 rw [hs] at hI
 cases t1 : It.beq (.mk k n b l) (.mk 0 n [] []) with
 | false =>
  rw [t1] at hS
  refine AP.ofA ?_
  refine AC_of Tryz.func79 rfl Tryz.ntmps79 rfl rfl ?_
  repeat' (first | (apply AL_callPw (hI); kernel_rfl; (iterate 4 exact rfl)) | (apply AL_callPw (hS); kernel_rfl; (iterate 4 exact rfl)) | (apply AL_callPw (hN); kernel_rfl; (iterate 4 exact rfl)) | (apply AL_go ttok; exact rfl) | (apply AW_go ttok; exact rfl) | (apply AL_guardT; (iterate 3 exact rfl); (first | with_reducible assumption | decide +kernel)) | (apply AL_guardFt; (iterate 3 exact rfl); (first | with_reducible assumption | decide +kernel)) | (apply AL_pickT; exact rfl; (first | with_reducible assumption | decide +kernel); exact rfl; exact rfl) | (apply AL_pickF; exact rfl; (first | with_reducible assumption | decide +kernel); exact rfl; exact rfl) | (apply AW_drawE 16 hmix; (decide +kernel); (kernel_rfl); (kernel_rfl); (kernel_rfl); exact rfl; exact rfl) | (apply AE_consZ; (iterate 4 exact rfl)) | exact AE.nil _ _ _ _ | (apply AEk_puT; exact rfl) | (apply AOt_mk; exact rfl; exact rfl; (decide +kernel); exact rfl) | (apply AO_puT; exact rfl) | exact AO.nil _ _ _ | (apply AOs_skip; (decide +kernel)) | exact AOs.nil | exact qY_ok rfl rfl)
  all_goals (apply endQ []; (apply resG_ok ttok; exact rfl); (iterate 4 exact rfl))
  all_goals rfl
 | true =>
 rw [t1] at hS
 cases t2 : decide ((n : Int) <= 1099511627776)
 all_goals
  refine AP.ofA ?_
  refine AC_of Tryz.func79 rfl Tryz.ntmps79 rfl rfl ?_
  repeat' (first | (apply AL_callPw (hI); kernel_rfl; (iterate 4 exact rfl)) | (apply AL_callPw (hS); kernel_rfl; (iterate 4 exact rfl)) | (apply AL_callPw (hN); kernel_rfl; (iterate 4 exact rfl)) | (apply AL_go ttok; exact rfl) | (apply AW_go ttok; exact rfl) | (apply AL_guardT; (iterate 3 exact rfl); (first | with_reducible assumption | decide +kernel)) | (apply AL_pickT; exact rfl; (first | with_reducible assumption | decide +kernel); exact rfl; exact rfl) | (apply AW_drawE 16 hmix; (decide +kernel); (kernel_rfl); (kernel_rfl); (kernel_rfl); exact rfl; exact rfl) | (apply AE_consZ; (iterate 4 exact rfl)) | exact AE.nil _ _ _ _ | (apply AEk_puT; exact rfl) | (apply AOt_mk; exact rfl; exact rfl; (decide +kernel); exact rfl) | (apply AO_puT; exact rfl) | exact AO.nil _ _ _ | (apply AOs_skip; (decide +kernel)) | exact AOs.nil | exact qY_ok rfl rfl)
  all_goals (apply endQ []; (apply resG_ok ttok; exact rfl); (iterate 4 exact rfl))
  all_goals rfl
end Go.Proofs.YtpodhnaofhfinaaGreatDoor
end
section
open Go.RowKit Go.Pl Go.Av
namespace Go.Proofs.YtpodhnaofhfinaaGreatDoor
set_option maxHeartbeats 4000000
def hopsX (ok : Bool) (x : It) : Nat × Nat × Bool := match ok with
 | false => (0, 0, false)
 | true => match x with
  | .mk k n b l => match k == 4 with
   | false => (0, 0, false)
   | true => match l with
    | [.mk k1 n1 b1 l1, .mk k2 n2 b2 l2] => (n1, n2, It.beq (.mk k n b [.mk k1 n1 b1 l1, .mk k2 n2 b2 l2]) (.mk 4 0 [] [.mk 0 n1 [] [], .mk 0 n2 [] []]) && (decide ((n1 : Int) ≥ 1) && (decide ((n1 : Int) <= 255) && decide ((n2 : Int) <= (n1 : Int)))))
    | _ => (0, 0, false)
def hopsV (d : List UInt8) : Nat × Nat × Bool := hopsX (shortI d) (readI d 0).1
theorem hp_f [Known] [KnownU8] (d : List UInt8) (k : Int) (n : Nat) (b : List UInt8) (l : List It) (hI : AP Tryz.prog 53 [byE d] (.tup [itD (.mk k n b l), .bool false]) []) : AP Tryz.prog 30 [byE d] (.tup [.int .u64 0, .int .u64 0, .bool false]) [] := by
 refine AP.ofA ?_
 refine AC_of Tryz.func30 rfl Tryz.ntmps30 rfl rfl ?_
 repeat' (first | (apply AL_callPw (hI); kernel_rfl; (iterate 4 exact rfl)) | (apply AL_go ttok; exact rfl) | (apply AW_go ttok; exact rfl) | (apply K_go ttok; exact rfl) | (apply AL_guardFf; (iterate 3 exact rfl); (first | with_reducible assumption | decide +kernel)) | (apply AL_pickT; exact rfl; (first | with_reducible assumption | decide +kernel); exact rfl; exact rfl) | (apply AW_condA; exact rfl; (first | with_reducible assumption | decide +kernel)))
 all_goals (apply endQ []; (apply resG_ok ttok; exact rfl); (iterate 4 exact rfl))
 all_goals rfl
theorem hp_k [Known] [KnownU8] (d : List UInt8) (k : Int) (n : Nat) (b : List UInt8) (l : List It) (hI : AP Tryz.prog 53 [byE d] (.tup [itD (.mk k n b l), .bool true]) []) (tk : (k == 4) = false) : AP Tryz.prog 30 [byE d] (.tup [.int .u64 0, .int .u64 0, .bool false]) [] := by
 have tk2 : (k != 4) = true := by rw [bne, tk]; rfl
 refine AP.ofA ?_
 refine AC_of Tryz.func30 rfl Tryz.ntmps30 rfl rfl ?_
 repeat' (first | (apply AL_callPw (hI); kernel_rfl; (iterate 4 exact rfl)) | (apply AL_go ttok; exact rfl) | (apply AW_go ttok; exact rfl) | (apply K_go ttok; exact rfl) | (apply AL_guardT; (iterate 3 exact rfl); (first | with_reducible assumption | decide +kernel)) | (apply AL_guardFf; (iterate 3 exact rfl); (first | with_reducible assumption | decide +kernel)) | (apply AL_pickT; exact rfl; (first | with_reducible assumption | decide +kernel); exact rfl; exact rfl) | (apply AL_pickF; exact rfl; (first | with_reducible assumption | decide +kernel); exact rfl; exact rfl) | (apply AW_condA; exact rfl; (first | with_reducible assumption | decide +kernel)))
 all_goals (apply endQ []; (apply resG_ok ttok; exact rfl); (iterate 4 exact rfl))
 all_goals rfl
theorem hp_l [Known] [KnownU8] (d : List UInt8) (k : Int) (n : Nat) (b : List UInt8) (l : List It) (hI : AP Tryz.prog 53 [byE d] (.tup [itD (.mk k n b l), .bool true]) []) (tk : (k == 4) = true) (h2 : l.length ≠ 2) : AP Tryz.prog 30 [byE d] (.tup [.int .u64 0, .int .u64 0, .bool false]) [] := by
 have tk2 : (k != 4) = false := by rw [bne, tk]; rfl
 have hlen := itEs_len l
 have t2 : (((itEs l).length : Int) != 2) = true := by rw [hlen]; simp; omega
 refine AP.ofA ?_
 refine AC_of Tryz.func30 rfl Tryz.ntmps30 rfl rfl ?_
 repeat' (first | (apply AL_callPw (hI); kernel_rfl; (iterate 4 exact rfl)) | (apply AL_go ttok; exact rfl) | (apply AW_go ttok; exact rfl) | (apply K_go ttok; exact rfl) | (apply AL_guardT; (iterate 3 exact rfl); (first | with_reducible assumption | decide +kernel)) | (apply AL_pickF; exact rfl; (first | with_reducible assumption | decide +kernel); exact rfl; exact rfl) | (apply AW_condA; exact rfl; (first | with_reducible assumption | decide +kernel)) | (apply AL_len ttok; (iterate 4 exact rfl)))
 all_goals (apply endQ []; (apply resG_ok ttok; exact rfl); (iterate 4 exact rfl))
 all_goals rfl
end Go.Proofs.YtpodhnaofhfinaaGreatDoor
end
section
open Go.RowKit Go.Pl Go.Av
namespace Go.Proofs.YtpodhnaofhfinaaGreatDoor
set_option maxHeartbeats 4000000
theorem hp_s [Known] [KnownU8] (d : List UInt8) (k : Int) (n : Nat) (b : List UInt8) (L : List E) (k1 : Int) (n1 : Nat) (b1 : List UInt8) (l1 : List It) (k2 : Int) (n2 : Nat) (b2 : List UInt8) (l2 : List It) (s : Bool) (N : D)
  (hI : AP Tryz.prog 53 [byE d] (.tup [.agg [.int .i64 k, .int .u64 (n : Int), byE b, .sl .ext L], .bool true]) []) (tk2 : (k != 4) = false) (t2 : ((L.length : Int) != 2) = false) (hU : Uni 4 L)
  (hv0 : L[(0 : Int).toNat]? = some (.agg [.int .i64 k1, .int .u64 (n1 : Int), .sl (b1.map E.byte), .sl (itEs l1)])) (hv1 : L[(1 : Int).toNat]? = some (.agg [.int .i64 k2, .int .u64 (n2 : Int), .sl (b2.map E.byte), .sl (itEs l2)]))
  (hN : AP Tryz.prog 55 [.sl .ext [.int .u64 (n1 : Int), .int .u64 (n2 : Int)]] (.agg [.int .i64 4, .int .u64 0, .sl .ext [], .sl .ext [nmE n1, nmE n2]]) []) (hS : AP Tryz.prog 54 [.agg [.int .i64 k, .int .u64 (n : Int), byE b, .sl .ext L], .agg [.int .i64 4, .int .u64 0, .sl .ext [], .sl .ext [nmE n1, nmE n2]]] (.bool s) []) (ts : s = false) :
  AP Tryz.prog 30 [byE d] (.tup [.int .u64 (n1 : Int), .int .u64 (n2 : Int), .bool false]) [] := by
 subst ts
 refine AP.ofA ?_
 refine AC_of Tryz.func30 rfl Tryz.ntmps30 rfl rfl ?_
 repeat' (first | (apply AL_callPw (hI); kernel_rfl; (iterate 4 exact rfl)) | (apply AL_callPw (hS); kernel_rfl; (iterate 4 exact rfl)) | (apply AL_callPw (hN); kernel_rfl; (iterate 4 exact rfl)) | (apply AL_go ttok; exact rfl) | (apply AW_go ttok; exact rfl) | (apply K_go ttok; exact rfl) | (apply AL_guardT; (iterate 3 exact rfl); (first | with_reducible assumption | decide +kernel)) | (apply AL_guardFt; (iterate 3 exact rfl); (first | with_reducible assumption | decide +kernel)) | (apply AL_pickF; exact rfl; (first | with_reducible assumption | decide +kernel); exact rfl; exact rfl) | (apply AW_condB; exact rfl; (first | with_reducible assumption | decide +kernel)) | (apply AL_len ttok; (iterate 4 exact rfl)) | (apply AL_bsZ ttok; (iterate 12 exact rfl)) | (apply AW_drawE 11 hmix; (decide +kernel); (kernel_rfl); (kernel_rfl); (kernel_rfl); exact rfl; exact rfl) | (apply AW_drawE 23 hmix; (decide +kernel); (kernel_rfl); (kernel_rfl); (kernel_rfl); exact rfl; exact rfl) | (apply AE_consZ; (iterate 4 exact rfl)) | exact AE.nil _ _ _ _ | (apply AEk_puT; exact rfl) | (apply AOt_mk; exact rfl; exact rfl; (decide +kernel); exact rfl) | (apply AO_puT; exact rfl) | exact AO.nil _ _ _ | (apply AOs_skip; (decide +kernel)) | exact AOs.nil | exact qY_ok rfl rfl | exact qY_wk rfl rfl rfl rfl rfl | (apply AL_idx ttok; (iterate 6 exact rfl); (first | with_reducible assumption | decide +kernel | exact Int.natCast_nonneg _ | (guard_target = (0:Int) <= (OfNat.ofNat _ : Int); decide) | rotate_left); (first | with_reducible assumption | decide +kernel | exact rfl); (first | exact uniB_ok rfl | with_reducible assumption | decide +kernel | rotate_left)))
 all_goals (apply endQ []; (apply resG_ok ttok; exact rfl); (iterate 4 exact rfl))
 all_goals rfl
theorem hp_1 [Known] [KnownU8] (d : List UInt8) (k : Int) (n : Nat) (b : List UInt8) (L : List E) (k1 : Int) (n1 : Nat) (b1 : List UInt8) (l1 : List It) (k2 : Int) (n2 : Nat) (b2 : List UInt8) (l2 : List It) (s : Bool) (N : D)
  (hI : AP Tryz.prog 53 [byE d] (.tup [.agg [.int .i64 k, .int .u64 (n : Int), byE b, .sl .ext L], .bool true]) []) (tk2 : (k != 4) = false) (t2 : ((L.length : Int) != 2) = false) (hU : Uni 4 L)
  (hv0 : L[(0 : Int).toNat]? = some (.agg [.int .i64 k1, .int .u64 (n1 : Int), .sl (b1.map E.byte), .sl (itEs l1)])) (hv1 : L[(1 : Int).toNat]? = some (.agg [.int .i64 k2, .int .u64 (n2 : Int), .sl (b2.map E.byte), .sl (itEs l2)]))
  (hN : AP Tryz.prog 55 [.sl .ext [.int .u64 (n1 : Int), .int .u64 (n2 : Int)]] (.agg [.int .i64 4, .int .u64 0, .sl .ext [], .sl .ext [nmE n1, nmE n2]]) []) (hS : AP Tryz.prog 54 [.agg [.int .i64 k, .int .u64 (n : Int), byE b, .sl .ext L], .agg [.int .i64 4, .int .u64 0, .sl .ext [], .sl .ext [nmE n1, nmE n2]]] (.bool s) []) (ts : s = true) (t4 : decide ((n1 : Int) ≥ 1) = false) :
  AP Tryz.prog 30 [byE d] (.tup [.int .u64 (n1 : Int), .int .u64 (n2 : Int), .bool false]) [] := by
 subst ts
 refine AP.ofA ?_
 refine AC_of Tryz.func30 rfl Tryz.ntmps30 rfl rfl ?_
 repeat' (first | (apply AL_callPw (hI); kernel_rfl; (iterate 4 exact rfl)) | (apply AL_callPw (hS); kernel_rfl; (iterate 4 exact rfl)) | (apply AL_callPw (hN); kernel_rfl; (iterate 4 exact rfl)) | (apply AL_go ttok; exact rfl) | (apply AW_go ttok; exact rfl) | (apply K_go ttok; exact rfl) | (apply AL_guardT; (iterate 3 exact rfl); (first | with_reducible assumption | decide +kernel)) | (apply AL_guardFt; (iterate 3 exact rfl); (first | with_reducible assumption | decide +kernel)) | (apply AL_pickT; exact rfl; (first | with_reducible assumption | decide +kernel); exact rfl; exact rfl) | (apply AL_pickF; exact rfl; (first | with_reducible assumption | decide +kernel); exact rfl; exact rfl) | (apply AW_condB; exact rfl; (first | with_reducible assumption | decide +kernel)) | (apply AL_len ttok; (iterate 4 exact rfl)) | (apply AL_bsZ ttok; (iterate 12 exact rfl)) | (apply AW_drawE 11 hmix; (decide +kernel); (kernel_rfl); (kernel_rfl); (kernel_rfl); exact rfl; exact rfl) | (apply AW_drawE 23 hmix; (decide +kernel); (kernel_rfl); (kernel_rfl); (kernel_rfl); exact rfl; exact rfl) | (apply AE_consZ; (iterate 4 exact rfl)) | exact AE.nil _ _ _ _ | (apply AEk_puT; exact rfl) | (apply AOt_mk; exact rfl; exact rfl; (decide +kernel); exact rfl) | (apply AO_puT; exact rfl) | exact AO.nil _ _ _ | (apply AOs_skip; (decide +kernel)) | exact AOs.nil | exact qY_ok rfl rfl | exact qY_wk rfl rfl rfl rfl rfl | (apply AL_idx ttok; (iterate 6 exact rfl); (first | with_reducible assumption | decide +kernel | exact Int.natCast_nonneg _ | (guard_target = (0:Int) <= (OfNat.ofNat _ : Int); decide) | rotate_left); (first | with_reducible assumption | decide +kernel | exact rfl); (first | exact uniB_ok rfl | with_reducible assumption | decide +kernel | rotate_left)))
 all_goals (apply endQ []; (apply resG_ok ttok; exact rfl); (iterate 4 exact rfl))
 all_goals rfl
end Go.Proofs.YtpodhnaofhfinaaGreatDoor
end
section
open Go.RowKit Go.Pl Go.Av
namespace Go.Proofs.YtpodhnaofhfinaaGreatDoor
set_option maxHeartbeats 4000000
theorem hp_2 [Known] [KnownU8] (d : List UInt8) (k : Int) (n : Nat) (b : List UInt8) (L : List E) (k1 : Int) (n1 : Nat) (b1 : List UInt8) (l1 : List It) (k2 : Int) (n2 : Nat) (b2 : List UInt8) (l2 : List It) (s : Bool) (N : D)
  (hI : AP Tryz.prog 53 [byE d] (.tup [.agg [.int .i64 k, .int .u64 (n : Int), byE b, .sl .ext L], .bool true]) []) (tk2 : (k != 4) = false) (t2 : ((L.length : Int) != 2) = false) (hU : Uni 4 L)
  (hv0 : L[(0 : Int).toNat]? = some (.agg [.int .i64 k1, .int .u64 (n1 : Int), .sl (b1.map E.byte), .sl (itEs l1)])) (hv1 : L[(1 : Int).toNat]? = some (.agg [.int .i64 k2, .int .u64 (n2 : Int), .sl (b2.map E.byte), .sl (itEs l2)]))
  (hN : AP Tryz.prog 55 [.sl .ext [.int .u64 (n1 : Int), .int .u64 (n2 : Int)]] (.agg [.int .i64 4, .int .u64 0, .sl .ext [], .sl .ext [nmE n1, nmE n2]]) []) (hS : AP Tryz.prog 54 [.agg [.int .i64 k, .int .u64 (n : Int), byE b, .sl .ext L], .agg [.int .i64 4, .int .u64 0, .sl .ext [], .sl .ext [nmE n1, nmE n2]]] (.bool s) []) (ts : s = true) (t4 : decide ((n1 : Int) ≥ 1) = true) (t5 : decide ((n1 : Int) <= 255) = false) :
  AP Tryz.prog 30 [byE d] (.tup [.int .u64 (n1 : Int), .int .u64 (n2 : Int), .bool false]) [] := by
 subst ts
 refine AP.ofA ?_
 refine AC_of Tryz.func30 rfl Tryz.ntmps30 rfl rfl ?_
 repeat' (first | (apply AL_callPw (hI); kernel_rfl; (iterate 4 exact rfl)) | (apply AL_callPw (hS); kernel_rfl; (iterate 4 exact rfl)) | (apply AL_callPw (hN); kernel_rfl; (iterate 4 exact rfl)) | (apply AL_go ttok; exact rfl) | (apply AW_go ttok; exact rfl) | (apply K_go ttok; exact rfl) | (apply AL_guardT; (iterate 3 exact rfl); (first | with_reducible assumption | decide +kernel)) | (apply AL_guardFt; (iterate 3 exact rfl); (first | with_reducible assumption | decide +kernel)) | (apply AL_pickT; exact rfl; (first | with_reducible assumption | decide +kernel); exact rfl; exact rfl) | (apply AL_pickF; exact rfl; (first | with_reducible assumption | decide +kernel); exact rfl; exact rfl) | (apply AW_condB; exact rfl; (first | with_reducible assumption | decide +kernel)) | (apply AL_len ttok; (iterate 4 exact rfl)) | (apply AL_bsZ ttok; (iterate 12 exact rfl)) | (apply AW_drawE 11 hmix; (decide +kernel); (kernel_rfl); (kernel_rfl); (kernel_rfl); exact rfl; exact rfl) | (apply AW_drawE 23 hmix; (decide +kernel); (kernel_rfl); (kernel_rfl); (kernel_rfl); exact rfl; exact rfl) | (apply AE_consZ; (iterate 4 exact rfl)) | exact AE.nil _ _ _ _ | (apply AEk_puT; exact rfl) | (apply AOt_mk; exact rfl; exact rfl; (decide +kernel); exact rfl) | (apply AO_puT; exact rfl) | exact AO.nil _ _ _ | (apply AOs_skip; (decide +kernel)) | exact AOs.nil | exact qY_ok rfl rfl | exact qY_wk rfl rfl rfl rfl rfl | (apply AL_idx ttok; (iterate 6 exact rfl); (first | with_reducible assumption | decide +kernel | exact Int.natCast_nonneg _ | (guard_target = (0:Int) <= (OfNat.ofNat _ : Int); decide) | rotate_left); (first | with_reducible assumption | decide +kernel | exact rfl); (first | exact uniB_ok rfl | with_reducible assumption | decide +kernel | rotate_left)))
 all_goals (apply endQ []; (apply resG_ok ttok; exact rfl); (iterate 4 exact rfl))
 all_goals rfl
theorem hp_3 [Known] [KnownU8] (d : List UInt8) (k : Int) (n : Nat) (b : List UInt8) (L : List E) (k1 : Int) (n1 : Nat) (b1 : List UInt8) (l1 : List It) (k2 : Int) (n2 : Nat) (b2 : List UInt8) (l2 : List It) (s : Bool) (N : D)
  (hI : AP Tryz.prog 53 [byE d] (.tup [.agg [.int .i64 k, .int .u64 (n : Int), byE b, .sl .ext L], .bool true]) []) (tk2 : (k != 4) = false) (t2 : ((L.length : Int) != 2) = false) (hU : Uni 4 L)
  (hv0 : L[(0 : Int).toNat]? = some (.agg [.int .i64 k1, .int .u64 (n1 : Int), .sl (b1.map E.byte), .sl (itEs l1)])) (hv1 : L[(1 : Int).toNat]? = some (.agg [.int .i64 k2, .int .u64 (n2 : Int), .sl (b2.map E.byte), .sl (itEs l2)]))
  (hN : AP Tryz.prog 55 [.sl .ext [.int .u64 (n1 : Int), .int .u64 (n2 : Int)]] (.agg [.int .i64 4, .int .u64 0, .sl .ext [], .sl .ext [nmE n1, nmE n2]]) []) (hS : AP Tryz.prog 54 [.agg [.int .i64 k, .int .u64 (n : Int), byE b, .sl .ext L], .agg [.int .i64 4, .int .u64 0, .sl .ext [], .sl .ext [nmE n1, nmE n2]]] (.bool s) []) (ts : s = true) (t4 : decide ((n1 : Int) ≥ 1) = true) (t5 : decide ((n1 : Int) <= 255) = true) :
  AP Tryz.prog 30 [byE d] (.tup [.int .u64 (n1 : Int), .int .u64 (n2 : Int), .bool (decide ((n2 : Int) <= (n1 : Int)))]) [] := by
 subst ts
 refine AP.ofA ?_
 refine AC_of Tryz.func30 rfl Tryz.ntmps30 rfl rfl ?_
 repeat' (first | (apply AL_callPw (hI); kernel_rfl; (iterate 4 exact rfl)) | (apply AL_callPw (hS); kernel_rfl; (iterate 4 exact rfl)) | (apply AL_callPw (hN); kernel_rfl; (iterate 4 exact rfl)) | (apply AL_go ttok; exact rfl) | (apply AW_go ttok; exact rfl) | (apply K_go ttok; exact rfl) | (apply AL_guardT; (iterate 3 exact rfl); (first | with_reducible assumption | decide +kernel)) | (apply AL_pickT; exact rfl; (first | with_reducible assumption | decide +kernel); exact rfl; exact rfl) | (apply AL_pickF; exact rfl; (first | with_reducible assumption | decide +kernel); exact rfl; exact rfl) | (apply AW_condB; exact rfl; (first | with_reducible assumption | decide +kernel)) | (apply AL_len ttok; (iterate 4 exact rfl)) | (apply AL_bsZ ttok; (iterate 12 exact rfl)) | (apply AW_drawE 11 hmix; (decide +kernel); (kernel_rfl); (kernel_rfl); (kernel_rfl); exact rfl; exact rfl) | (apply AW_drawE 23 hmix; (decide +kernel); (kernel_rfl); (kernel_rfl); (kernel_rfl); exact rfl; exact rfl) | (apply AE_consZ; (iterate 4 exact rfl)) | exact AE.nil _ _ _ _ | (apply AEk_puT; exact rfl) | (apply AOt_mk; exact rfl; exact rfl; (decide +kernel); exact rfl) | (apply AO_puT; exact rfl) | exact AO.nil _ _ _ | (apply AOs_skip; (decide +kernel)) | exact AOs.nil | exact qY_ok rfl rfl | exact qY_wk rfl rfl rfl rfl rfl | (apply AL_idx ttok; (iterate 6 exact rfl); (first | with_reducible assumption | decide +kernel | exact Int.natCast_nonneg _ | (guard_target = (0:Int) <= (OfNat.ofNat _ : Int); decide) | rotate_left); (first | with_reducible assumption | decide +kernel | exact rfl); (first | exact uniB_ok rfl | with_reducible assumption | decide +kernel | rotate_left)))
 all_goals (apply endQ []; (apply resG_ok ttok; exact rfl); (iterate 4 exact rfl))
 all_goals rfl
end Go.Proofs.YtpodhnaofhfinaaGreatDoor
end
section
open Go.RowKit Go.Pl Go.Av
namespace Go.Proofs.YtpodhnaofhfinaaGreatDoor
set_option maxHeartbeats 4000000
theorem av_hops [Known] [KnownU8] (d : List UInt8) (hd : d.length <= 100000) : AP Tryz.prog 30 [byE d] (.tup [.int .u64 ((hopsV d).1 : Int), .int .u64 ((hopsV d).2.1 : Int), .bool (hopsV d).2.2]) [] := by
 have hI := av_item d hd
 have hw := rd_wf d hd
 unfold hopsV
 generalize (readI d 0).1 = x at *
 obtain ⟨k, n, b, l⟩ := x
 cases hs : shortI d with
 | false =>
  rw [hs] at hI
  exact hp_f d k n b l hI
 | true =>
 rw [hs] at hI
 unfold hopsX
 dsimp only
 cases tk : (k == 4) with
 | false => exact hp_k d k n b l hI tk
 | true =>
 have tk2 : (k != 4) = false := by rw [bne, tk]; rfl
 match l, hI, hw with
 | [], hI, _ => exact hp_l d k n b _ hI tk (by simp)
 | [.mk _ _ _ _], hI, _ => exact hp_l d k n b _ hI tk (by simp)
 | .mk _ _ _ _ :: .mk _ _ _ _ :: _ :: _, hI, _ => exact hp_l d k n b _ hI tk (by simp)
 | [.mk k1 n1 b1 l1, .mk k2 n2 b2 l2], hI, hw =>
 have t2 : (((itEs [It.mk k1 n1 b1 l1, .mk k2 n2 b2 l2]).length : Int) != 2) = false := by rw [itEs_len]; rfl
 have hU := uniI [It.mk k1 n1 b1 l1, .mk k2 n2 b2 l2]
 have hws := hw.2.2.2
 have hS := av_same _ hw (.mk 4 0 [] [.mk 0 n1 [] [], .mk 0 n2 [] []]) ⟨by decide, by simp, by simp, ⟨hws.1.1, by simp, by simp, trivial⟩, ⟨hws.2.1.1, by simp, by simp, trivial⟩, trivial⟩
 have hN := av_numbers2 n1 n2
 dsimp only
 cases t3 : It.beq (.mk k n b [.mk k1 n1 b1 l1, .mk k2 n2 b2 l2]) (.mk 4 0 [] [.mk 0 n1 [] [], .mk 0 n2 [] []]) with
 | false => exact hp_s d k n b _ k1 n1 b1 l1 k2 n2 b2 l2 _ .junk hI tk2 t2 hU rfl rfl hN hS t3
 | true =>
 cases t4 : decide ((n1 : Int) ≥ 1) with
 | false => exact hp_1 d k n b _ k1 n1 b1 l1 k2 n2 b2 l2 _ .junk hI tk2 t2 hU rfl rfl hN hS t3 t4
 | true =>
 cases t5 : decide ((n1 : Int) <= 255) with
 | false => exact hp_2 d k n b _ k1 n1 b1 l1 k2 n2 b2 l2 _ .junk hI tk2 t2 hU rfl rfl hN hS t3 t4 t5
 | true => exact hp_3 d k n b _ k1 n1 b1 l1 k2 n2 b2 l2 _ .junk hI tk2 t2 hU rfl rfl hN hS t3 t4 t5
end Go.Proofs.YtpodhnaofhfinaaGreatDoor
end

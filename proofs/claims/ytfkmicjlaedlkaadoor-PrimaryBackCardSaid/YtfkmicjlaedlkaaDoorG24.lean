/- Package canon: a first block, read, by cases. -/
import Derived.Test.YtfkmicjlaedlkaaDoorG23
import Derived.Test.YtfkmicjlaedlkaaDoorG11
import Derived.Test.YtfkmicjlaedlkaaDoorG14
import Derived.Test.YtfkmicjlaedlkaaDoorG15
import Derived.Test.YtfkmicjlaedlkaaDoorG09
import Derived.Test.YtfkmicjlaedlkaaDoorG19
import Derived.Test.YtfkmicjlaedlkaaDoorG16
import Derived.Test.YtfkmicjlaedlkaaDoorG21
set_option linter.unusedVariables false
set_option linter.unusedSimpArgs false
section
open Go.RowKit Go.Pl Go.Av
namespace Go.Proofs.YtfkmicjlaedlkaaDoor
set_option maxHeartbeats 4000000
theorem pr_md_all [Known] [KnownU8] (k : Int) (n : Nat) (b : List UInt8) (xl : List E) (L : List E) (e : Int) (k0 : Int) (n0 : Nat) (b0 : List UInt8) (l0 : List It) (k1 : Int) (n1 : Nat) (b1 : List UInt8) (l1 : List It) (k2 : Int) (n2 : Nat) (b2 : List UInt8) (l2 : List It) (k3 : Int) (n3 : Nat) (b3 : List UInt8) (l3 : List It) (k4 : Int) (n4 : Nat) (b4 : List UInt8) (l4 : List It) (k5 : Int) (n5 : Nat) (b5 : List UInt8) (l5 : List It) (k6 : Int) (n6 : Nat) (b6 : List UInt8) (l6 : List It) (k7 : Int) (n7 : Nat) (b7 : List UInt8) (l7 : List It) (di : Bool) (dn ds : Nat) (dh dd : List UInt8) (ri : Bool) (rn rs : Nat) (rh rd : List UInt8) (ui : Bool) (un us : Nat) (uh ud : List UInt8) (ut uq : Nat) (de re ie we : Int) (wk : Int) (wn : Nat) (wb : List UInt8) (wl : List E) (s : Bool) (hO : AP Tryd.prog 20 [.agg [.int .i64 k, .int .u64 (n : Int), byE b, .sl .ext xl], .int .i64 2] (.tup [.sl .ext L, .int .i64 e]) []) (t1 : (e != 0) = false) (t2 : ((L.length : Int) != 8) = false) (hU : Uni 4 L) (hv1 : L[(1 : Int).toNat]? = some (.agg [.int .i64 k1, .int .u64 (n1 : Int), .sl (b1.map E.byte), .sl (itEs l1)])) (hv2 : L[(2 : Int).toNat]? = some (.agg [.int .i64 k2, .int .u64 (n2 : Int), .sl (b2.map E.byte), .sl (itEs l2)])) (hv3 : L[(3 : Int).toNat]? = some (.agg [.int .i64 k3, .int .u64 (n3 : Int), .sl (b3.map E.byte), .sl (itEs l3)])) (hv4 : L[(4 : Int).toNat]? = some (.agg [.int .i64 k4, .int .u64 (n4 : Int), .sl (b4.map E.byte), .sl (itEs l4)])) (hv5 : L[(5 : Int).toNat]? = some (.agg [.int .i64 k5, .int .u64 (n5 : Int), .sl (b5.map E.byte), .sl (itEs l5)])) (hv6 : L[(6 : Int).toNat]? = some (.agg [.int .i64 k6, .int .u64 (n6 : Int), .sl (b6.map E.byte), .sl (itEs l6)])) (hv7 : L[(7 : Int).toNat]? = some (.agg [.int .i64 k7, .int .u64 (n7 : Int), .sl (b7.map E.byte), .sl (itEs l7)])) (hD : AP Tryd.prog 56 [.agg [.int .i64 k3, .int .u64 (n3 : Int), .sl .ext (b3.map E.byte), .sl .ext (itEs l3)]] (.tup [.agg [.bool di, .int .u64 (dn : Int), .int .u64 (ds : Int), .str dh, .str dd], .int .i64 de]) []) (hR : AP Tryd.prog 56 [.agg [.int .i64 k5, .int .u64 (n5 : Int), .sl .ext (b5.map E.byte), .sl .ext (itEs l5)]] (.tup [.agg [.bool ri, .int .u64 (rn : Int), .int .u64 (rs : Int), .str rh, .str rd], .int .i64 re]) []) (hL : AP Tryd.prog 12 [.sl .ext [.agg [.int .i64 k4, .int .u64 (n4 : Int), .sl (b4.map E.byte), .sl (itEs l4)], .agg [.int .i64 k6, .int .u64 (n6 : Int), .sl (b6.map E.byte), .sl (itEs l6)]]] (.agg [.int .i64 4, .int .u64 0, .sl .ext [], .sl .ext [.agg [.int .i64 k4, .int .u64 (n4 : Int), .sl (b4.map E.byte), .sl (itEs l4)], .agg [.int .i64 k6, .int .u64 (n6 : Int), .sl (b6.map E.byte), .sl (itEs l6)]]]) []) (hI : AP Tryd.prog 57 [.agg [.int .i64 4, .int .u64 0, .sl .ext [], .sl .ext [.agg [.int .i64 k4, .int .u64 (n4 : Int), .sl (b4.map E.byte), .sl (itEs l4)], .agg [.int .i64 k6, .int .u64 (n6 : Int), .sl (b6.map E.byte), .sl (itEs l6)]]]] (.tup [.agg [.bool ui, .int .u64 (un : Int), .int .u64 (us : Int), .str uh, .str ud, .int .u64 (ut : Int), .int .u64 (uq : Int)], .int .i64 ie]) []) (hW : AP Tryd.prog 25 [.agg [.int .u64 (n1 : Int), .int .i64 (IntKind.i64.wrap (n2 : Int)), .bool di, .int .u64 (dn : Int), .int .u64 (ds : Int), .str dh, .str dd, .bool ri, .int .u64 (rn : Int), .int .u64 (rs : Int), .str rh, .str rd, .bool ui, .int .u64 (un : Int), .int .u64 (us : Int), .str uh, .str ud, .int .u64 (ut : Int), .int .u64 (uq : Int), .int .u64 (n7 : Int)]] (.tup [.agg [.int .i64 wk, .int .u64 (wn : Int), byE wb, .sl .ext wl], .int .i64 we]) []) (hS : AP Tryd.prog 27 [.agg [.int .i64 wk, .int .u64 (wn : Int), byE wb, .sl .ext wl], .agg [.int .i64 k, .int .u64 (n : Int), byE b, .sl .ext xl]] (.bool s) []) :
  (∀ (c1 : (de != 0) = true),
  AP Tryd.prog 26 [.agg [.int .i64 k, .int .u64 (n : Int), byE b, .sl .ext xl]] (.tup [.agg [.int .u64 0, .int .i64 0, .bool false, .int .u64 0, .int .u64 0, .str [], .str [], .bool false, .int .u64 0, .int .u64 0, .str [], .str [], .bool false, .int .u64 0, .int .u64 0, .str [], .str [], .int .u64 0, .int .u64 0, .int .u64 0], .int .i64 3]) []) /\
  (∀ (c1 : (de != 0) = false) (c2 : (re != 0) = true),
  AP Tryd.prog 26 [.agg [.int .i64 k, .int .u64 (n : Int), byE b, .sl .ext xl]] (.tup [.agg [.int .u64 0, .int .i64 0, .bool false, .int .u64 0, .int .u64 0, .str [], .str [], .bool false, .int .u64 0, .int .u64 0, .str [], .str [], .bool false, .int .u64 0, .int .u64 0, .str [], .str [], .int .u64 0, .int .u64 0, .int .u64 0], .int .i64 3]) []) /\
  (∀ (c1 : (de != 0) = false) (c2 : (re != 0) = false) (c3 : (ie != 0) = true),
  AP Tryd.prog 26 [.agg [.int .i64 k, .int .u64 (n : Int), byE b, .sl .ext xl]] (.tup [.agg [.int .u64 0, .int .i64 0, .bool false, .int .u64 0, .int .u64 0, .str [], .str [], .bool false, .int .u64 0, .int .u64 0, .str [], .str [], .bool false, .int .u64 0, .int .u64 0, .str [], .str [], .int .u64 0, .int .u64 0, .int .u64 0], .int .i64 3]) []) := by
 refine ⟨fun c1 => ?_, fun c1 c2 => ?_, fun c1 c2 c3 => ?_⟩
 all_goals
  refine AP.ofA ?_
  refine AC_of Tryd.func26 rfl Tryd.ntmps26 rfl rfl ?_
  repeat' (first | (apply AL_callPw (hO); kernel_rfl; (iterate 4 exact rfl)) | (apply AL_callPw (hD); kernel_rfl; (iterate 4 exact rfl)) | (apply AL_callPw (hR); kernel_rfl; (iterate 4 exact rfl)) | (apply AL_callPw (hL); kernel_rfl; (iterate 4 exact rfl)) | (apply AL_callPw (hI); kernel_rfl; (iterate 4 exact rfl)) | (apply AL_callPw (hW); kernel_rfl; (iterate 4 exact rfl)) | (apply AL_go ttok; exact rfl) | (apply AW_go ttok; exact rfl) | (apply K_go ttok; exact rfl) | (apply AL_guardT; (iterate 3 exact rfl); (first | with_reducible assumption | decide +kernel)) | (apply AL_guardFf; (iterate 3 exact rfl); (first | with_reducible assumption | decide +kernel)) | (apply AL_pickT; exact rfl; (first | with_reducible assumption | decide +kernel); exact rfl; exact rfl) | (apply AL_pickF; exact rfl; (first | with_reducible assumption | decide +kernel); exact rfl; exact rfl) | (apply AW_condA; exact rfl; (first | with_reducible assumption | decide +kernel)) | (apply AW_condB; exact rfl; (first | with_reducible assumption | decide +kernel)) | (apply AL_len ttok; (iterate 4 exact rfl)) | (apply AL_bsZ ttok; (iterate 12 exact rfl)) | (apply AW_drawE 14 hmix; (decide +kernel); (kernel_rfl); (kernel_rfl); (kernel_rfl); exact rfl; exact rfl) | (apply AW_drawE 18 hmix; (decide +kernel); (kernel_rfl); (kernel_rfl); (kernel_rfl); exact rfl; exact rfl) | (apply AE_consZ; (iterate 4 exact rfl)) | exact AE.nil _ _ _ _ | (apply AEk_puT; exact rfl) | (apply AEk_efT; exact rfl) | (apply AEk_ef; exact rfl) | (apply AOt_mk; exact rfl; exact rfl; (decide +kernel); exact rfl) | (apply AO_puT; exact rfl) | (apply AO_efT; exact rfl) | (apply AO_ef; exact rfl) | exact AO.nil _ _ _ | (apply AOs_skip; (decide +kernel)) | (apply AOs_goZ; (iterate 3 exact rfl)) | exact AOs.nil | exact qY_ok rfl rfl | exact qY_wk rfl rfl rfl rfl rfl | exact qY_ef rfl rfl | exact qY_efn rfl | (apply AL_idx ttok; (iterate 6 exact rfl); (first | with_reducible assumption | decide +kernel | exact Int.natCast_nonneg _ | (guard_target = (0:Int) <= (OfNat.ofNat _ : Int); decide) | rotate_left); (first | with_reducible assumption | decide +kernel | exact rfl); (first | exact uniB_ok rfl | with_reducible assumption | decide +kernel | rotate_left)))
  all_goals (apply endQ []; (apply resG_ok ttok; exact rfl); (iterate 4 exact rfl))
  all_goals first | rfl | (exfalso; simp_all; done)
end Go.Proofs.YtfkmicjlaedlkaaDoor
end
section
open Go.RowKit Go.Pl Go.Av
namespace Go.Proofs.YtfkmicjlaedlkaaDoor
set_option maxHeartbeats 4000000
theorem pr_mw_all [Known] [KnownU8] (k : Int) (n : Nat) (b : List UInt8) (xl : List E) (L : List E) (e : Int) (k0 : Int) (n0 : Nat) (b0 : List UInt8) (l0 : List It) (k1 : Int) (n1 : Nat) (b1 : List UInt8) (l1 : List It) (k2 : Int) (n2 : Nat) (b2 : List UInt8) (l2 : List It) (k3 : Int) (n3 : Nat) (b3 : List UInt8) (l3 : List It) (k4 : Int) (n4 : Nat) (b4 : List UInt8) (l4 : List It) (k5 : Int) (n5 : Nat) (b5 : List UInt8) (l5 : List It) (k6 : Int) (n6 : Nat) (b6 : List UInt8) (l6 : List It) (k7 : Int) (n7 : Nat) (b7 : List UInt8) (l7 : List It) (di : Bool) (dn ds : Nat) (dh dd : List UInt8) (ri : Bool) (rn rs : Nat) (rh rd : List UInt8) (ui : Bool) (un us : Nat) (uh ud : List UInt8) (ut uq : Nat) (de re ie we : Int) (wk : Int) (wn : Nat) (wb : List UInt8) (wl : List E) (s : Bool) (hO : AP Tryd.prog 20 [.agg [.int .i64 k, .int .u64 (n : Int), byE b, .sl .ext xl], .int .i64 2] (.tup [.sl .ext L, .int .i64 e]) []) (t1 : (e != 0) = false) (t2 : ((L.length : Int) != 8) = false) (hU : Uni 4 L) (hv1 : L[(1 : Int).toNat]? = some (.agg [.int .i64 k1, .int .u64 (n1 : Int), .sl (b1.map E.byte), .sl (itEs l1)])) (hv2 : L[(2 : Int).toNat]? = some (.agg [.int .i64 k2, .int .u64 (n2 : Int), .sl (b2.map E.byte), .sl (itEs l2)])) (hv3 : L[(3 : Int).toNat]? = some (.agg [.int .i64 k3, .int .u64 (n3 : Int), .sl (b3.map E.byte), .sl (itEs l3)])) (hv4 : L[(4 : Int).toNat]? = some (.agg [.int .i64 k4, .int .u64 (n4 : Int), .sl (b4.map E.byte), .sl (itEs l4)])) (hv5 : L[(5 : Int).toNat]? = some (.agg [.int .i64 k5, .int .u64 (n5 : Int), .sl (b5.map E.byte), .sl (itEs l5)])) (hv6 : L[(6 : Int).toNat]? = some (.agg [.int .i64 k6, .int .u64 (n6 : Int), .sl (b6.map E.byte), .sl (itEs l6)])) (hv7 : L[(7 : Int).toNat]? = some (.agg [.int .i64 k7, .int .u64 (n7 : Int), .sl (b7.map E.byte), .sl (itEs l7)])) (hD : AP Tryd.prog 56 [.agg [.int .i64 k3, .int .u64 (n3 : Int), .sl .ext (b3.map E.byte), .sl .ext (itEs l3)]] (.tup [.agg [.bool di, .int .u64 (dn : Int), .int .u64 (ds : Int), .str dh, .str dd], .int .i64 de]) []) (hR : AP Tryd.prog 56 [.agg [.int .i64 k5, .int .u64 (n5 : Int), .sl .ext (b5.map E.byte), .sl .ext (itEs l5)]] (.tup [.agg [.bool ri, .int .u64 (rn : Int), .int .u64 (rs : Int), .str rh, .str rd], .int .i64 re]) []) (hL : AP Tryd.prog 12 [.sl .ext [.agg [.int .i64 k4, .int .u64 (n4 : Int), .sl (b4.map E.byte), .sl (itEs l4)], .agg [.int .i64 k6, .int .u64 (n6 : Int), .sl (b6.map E.byte), .sl (itEs l6)]]] (.agg [.int .i64 4, .int .u64 0, .sl .ext [], .sl .ext [.agg [.int .i64 k4, .int .u64 (n4 : Int), .sl (b4.map E.byte), .sl (itEs l4)], .agg [.int .i64 k6, .int .u64 (n6 : Int), .sl (b6.map E.byte), .sl (itEs l6)]]]) []) (hI : AP Tryd.prog 57 [.agg [.int .i64 4, .int .u64 0, .sl .ext [], .sl .ext [.agg [.int .i64 k4, .int .u64 (n4 : Int), .sl (b4.map E.byte), .sl (itEs l4)], .agg [.int .i64 k6, .int .u64 (n6 : Int), .sl (b6.map E.byte), .sl (itEs l6)]]]] (.tup [.agg [.bool ui, .int .u64 (un : Int), .int .u64 (us : Int), .str uh, .str ud, .int .u64 (ut : Int), .int .u64 (uq : Int)], .int .i64 ie]) []) (hW : AP Tryd.prog 25 [.agg [.int .u64 (n1 : Int), .int .i64 (IntKind.i64.wrap (n2 : Int)), .bool di, .int .u64 (dn : Int), .int .u64 (ds : Int), .str dh, .str dd, .bool ri, .int .u64 (rn : Int), .int .u64 (rs : Int), .str rh, .str rd, .bool ui, .int .u64 (un : Int), .int .u64 (us : Int), .str uh, .str ud, .int .u64 (ut : Int), .int .u64 (uq : Int), .int .u64 (n7 : Int)]] (.tup [.agg [.int .i64 wk, .int .u64 (wn : Int), byE wb, .sl .ext wl], .int .i64 we]) []) (hS : AP Tryd.prog 27 [.agg [.int .i64 wk, .int .u64 (wn : Int), byE wb, .sl .ext wl], .agg [.int .i64 k, .int .u64 (n : Int), byE b, .sl .ext xl]] (.bool s) []) (c1 : (de != 0) = false) (c2 : (re != 0) = false) (c3 : (ie != 0) = false) :
  (∀ (c4 : (we != 0) = true),
  AP Tryd.prog 26 [.agg [.int .i64 k, .int .u64 (n : Int), byE b, .sl .ext xl]] (.tup [.agg [.int .u64 0, .int .i64 0, .bool false, .int .u64 0, .int .u64 0, .str [], .str [], .bool false, .int .u64 0, .int .u64 0, .str [], .str [], .bool false, .int .u64 0, .int .u64 0, .str [], .str [], .int .u64 0, .int .u64 0, .int .u64 0], .int .i64 3]) []) /\
  (∀ (c4 : (we != 0) = false) (hSn : AP Tryd.prog 27 [.agg [.int .i64 wk, .int .u64 (wn : Int), byE wb, .sl .ext wl], .agg [.int .i64 k, .int .u64 (n : Int), byE b, .sl .ext xl]] (.bool false) []),
  AP Tryd.prog 26 [.agg [.int .i64 k, .int .u64 (n : Int), byE b, .sl .ext xl]] (.tup [.agg [.int .u64 0, .int .i64 0, .bool false, .int .u64 0, .int .u64 0, .str [], .str [], .bool false, .int .u64 0, .int .u64 0, .str [], .str [], .bool false, .int .u64 0, .int .u64 0, .str [], .str [], .int .u64 0, .int .u64 0, .int .u64 0], .int .i64 3]) []) /\
  (∀ (c4 : (we != 0) = false) (hSn : AP Tryd.prog 27 [.agg [.int .i64 wk, .int .u64 (wn : Int), byE wb, .sl .ext wl], .agg [.int .i64 k, .int .u64 (n : Int), byE b, .sl .ext xl]] (.bool true) []),
  AP Tryd.prog 26 [.agg [.int .i64 k, .int .u64 (n : Int), byE b, .sl .ext xl]] (.tup [.agg [.int .u64 (n1 : Int), .int .i64 (IntKind.i64.wrap (n2 : Int)), .bool di, .int .u64 (dn : Int), .int .u64 (ds : Int), .str dh, .str dd, .bool ri, .int .u64 (rn : Int), .int .u64 (rs : Int), .str rh, .str rd, .bool ui, .int .u64 (un : Int), .int .u64 (us : Int), .str uh, .str ud, .int .u64 (ut : Int), .int .u64 (uq : Int), .int .u64 (n7 : Int)], .int .i64 0]) []) := by
 refine ⟨fun c4 => ?_, fun c4 hSn => ?_, fun c4 hSn => ?_⟩
 all_goals
  refine AP.ofA ?_
  refine AC_of Tryd.func26 rfl Tryd.ntmps26 rfl rfl ?_
  repeat' (first | (apply AL_callPw (hO); kernel_rfl; (iterate 4 exact rfl)) | (apply AL_callPw (hD); kernel_rfl; (iterate 4 exact rfl)) | (apply AL_callPw (hR); kernel_rfl; (iterate 4 exact rfl)) | (apply AL_callPw (hL); kernel_rfl; (iterate 4 exact rfl)) | (apply AL_callPw (hI); kernel_rfl; (iterate 4 exact rfl)) | (apply AL_callPw (hW); kernel_rfl; (iterate 4 exact rfl)) | (apply AL_callPw (hSn); kernel_rfl; (iterate 4 exact rfl)) | (apply AL_go ttok; exact rfl) | (apply AW_go ttok; exact rfl) | (apply K_go ttok; exact rfl) | (apply AL_guardT; (iterate 3 exact rfl); (first | with_reducible assumption | decide +kernel)) | (apply AL_guardFf; (iterate 3 exact rfl); (first | with_reducible assumption | decide +kernel)) | (apply AL_pickT; exact rfl; (first | with_reducible assumption | decide +kernel); exact rfl; exact rfl) | (apply AL_pickF; exact rfl; (first | with_reducible assumption | decide +kernel); exact rfl; exact rfl) | (apply AW_condA; exact rfl; (first | with_reducible assumption | decide +kernel)) | (apply AW_condB; exact rfl; (first | with_reducible assumption | decide +kernel)) | (apply AL_len ttok; (iterate 4 exact rfl)) | (apply AL_bsZ ttok; (iterate 12 exact rfl)) | (apply AW_drawE 14 hmix; (decide +kernel); (kernel_rfl); (kernel_rfl); (kernel_rfl); exact rfl; exact rfl) | (apply AW_drawE 18 hmix; (decide +kernel); (kernel_rfl); (kernel_rfl); (kernel_rfl); exact rfl; exact rfl) | (apply AE_consZ; (iterate 4 exact rfl)) | exact AE.nil _ _ _ _ | (apply AEk_puT; exact rfl) | (apply AEk_efT; exact rfl) | (apply AEk_ef; exact rfl) | (apply AOt_mk; exact rfl; exact rfl; (decide +kernel); exact rfl) | (apply AO_puT; exact rfl) | (apply AO_efT; exact rfl) | (apply AO_ef; exact rfl) | exact AO.nil _ _ _ | (apply AOs_skip; (decide +kernel)) | (apply AOs_goZ; (iterate 3 exact rfl)) | exact AOs.nil | exact qY_ok rfl rfl | exact qY_wk rfl rfl rfl rfl rfl | exact qY_ef rfl rfl | exact qY_efn rfl | (apply AL_idx ttok; (iterate 6 exact rfl); (first | with_reducible assumption | decide +kernel | exact Int.natCast_nonneg _ | (guard_target = (0:Int) <= (OfNat.ofNat _ : Int); decide) | rotate_left); (first | with_reducible assumption | decide +kernel | exact rfl); (first | exact uniB_ok rfl | with_reducible assumption | decide +kernel | rotate_left)))
  all_goals (apply endQ []; (apply resG_ok ttok; exact rfl); (iterate 4 exact rfl))
  all_goals first | rfl | (exfalso; simp_all; done)
end Go.Proofs.YtfkmicjlaedlkaaDoor
end
section
open Go.RowKit Go.Pl Go.Av
namespace Go.Proofs.YtfkmicjlaedlkaaDoor
set_option maxHeartbeats 4000000
mutual
def greatI : It -> Nat -> Int -> Int
 | .mk k n b l, d, m => if 9 < d then -1 else if 3000 < b.length then -1 else greats l (d + 1) (m - 1)
def greats : List It -> Nat -> Int -> Int
 | [], _, m => m
 | x :: l, d, m => if m < 0 then m else greats l d (greatI x d m)
end
mutual
theorem greatI_lt : ∀ (x : It) (d : Nat) (m : Int), 0 <= m -> greatI x d m < m /\ -1 <= greatI x d m
 | .mk k n b l, d, m, h => by
  rw [greatI]
  split
  ·omega
  ·split
   ·omega
   ·have := greats_le l (d + 1) (m - 1) (by omega); omega
theorem greats_le : ∀ (l : List It) (d : Nat) (m : Int), -1 <= m -> greats l d m <= m /\ -1 <= greats l d m
 | [], _, m, h => by rw [greats]; omega
 | x :: l, d, m, h => by
  rw [greats]
  split
  ·omega
  ·have h1 := greatI_lt x d m (by omega)
   have h2 := greats_le l d (greatI x d m) (by omega)
   omega
end
mutual
def nI : It -> Prop
 | .mk _ n _ l => n < 18446744073709551616 /\ nIs l
def nIs : List It -> Prop
 | [] => True
 | x :: l => nI x /\ nIs l
end
mutual
def deepI : It -> Nat -> Bool
 | .mk _ _ _ l, d => match d with
  | 0 => false
  | d + 1 => deeps l d
def deeps : List It -> Nat -> Bool
 | [], _ => true
 | x :: l, d => deepI x d && deeps l d
end
mutual
theorem small_wf : ∀ (x : It) (d : Nat) (m : Int), m <= 400 -> 0 <= greatI x d m -> nI x -> wfI x /\ (putI x).length <= 3009 * (m - greatI x d m) /\ m - greatI x d m ≥ 1 /\ deepI x (10 - d) = true
 | .mk k n b l, d, m, hm, h, hn => by
  rw [greatI] at h ⊢
  split at h
  ·omega
  split at h
  ·omega
  rename_i h1 h2
  rw [if_neg h1, if_neg h2]
  obtain ⟨q1, q2, q3, q4⟩ := smalls_wf l (d + 1) (m - 1) (by omega) h hn.2
  refine ⟨⟨hn.1, by omega, by omega, q1⟩, ?_, by omega, ?_⟩
  ·rw [putI]
   have hw : (if rightB (k, (It.mk k n b l).hn, false) then writeL (k, (It.mk k n b l).hn, false) else []).length <= 9 := by
    split
    ·rename_i hr; rw [writeL_length _ hr]; exact sizeN_le _
    ·exact Nat.zero_le _
   rw [List.length_append, List.length_append]
   omega
  ·obtain ⟨e, he⟩ : ∃ e, 10 - d = e + 1 := ⟨9 - d, by omega⟩
   rw [he, deepI]
   rw [show 10 - (d + 1) = e by omega] at q4
   exact q4
theorem smalls_wf : ∀ (l : List It) (d : Nat) (m : Int), m <= 400 -> 0 <= greats l d m -> nIs l -> wfs l /\ (puts l).length <= 3009 * (m - greats l d m) /\ m - greats l d m ≥ l.length /\ deeps l (10 - d) = true
 | [], _, m, _, h, hn => by simp [wfs, puts, greats, deeps]
 | x :: l, d, m, hm, h, hn => by
  rw [greats] at h ⊢
  split at h
  ·omega
  rename_i h1
  rw [if_neg h1]
  have h0 : 0 <= greatI x d m := by
   rcases Int.lt_or_le (greatI x d m) 0 with hlt | hge
   ·have := greats_le l d (greatI x d m) (by have := greatI_lt x d m (by omega); omega); omega
   ·exact hge
  obtain ⟨q1, q2, q3, q4⟩ := small_wf x d m hm h0 hn.1
  obtain ⟨r1, r2, r3, r4⟩ := smalls_wf l d _ (by have := greatI_lt x d m (by omega); omega) h hn.2
  refine ⟨⟨q1, r1⟩, ?_, ?_, ?_⟩
  ·rw [puts, List.length_append]; omega
  ·rw [List.length_cons]; omega
  ·rw [deeps, q4, r4]; rfl
end
theorem av_great [Known] : ∀ (x : It) (d : Nat) (m : Int), d <= 10 -> 0 <= m -> m <= 400 -> AP Tryd.prog 15 [itD x, .int .i64 (d : Int), .int .i64 m] (.int .i64 (greatI x d m)) [] := by
 refine It.ind fun k n b l ih d m hd hm hm' => ?_
 have hlen := itEs_len l
 have hbl : (b.map E.byte).length = b.length := List.length_map ..
 show AP Tryd.prog _ [.agg (itC k n b l), _, _] _ _
 rw [greatI]
 have em : 0 <= m -> IntKind.i64.wrap (m - 1) = m - 1 := fun h => by rw [IntWalk.i64_in _ (by omega)]
 have ed : IntKind.i64.wrap ((d : Int) + 1) = ((d + 1 : Nat) : Int) := by rw [IntWalk.i64_in _ (by omega)]; omega
 by_cases hd9 : 9 < d
 ·rw [if_pos hd9]
  have t1 : decide ((d : Int) > 9) = true := by simp; omega
  refine AP.ofA ?_
  refine AC_of Tryd.func15 rfl Tryd.ntmps15 rfl rfl ?_
  repeat' (first | (apply AL_go ttok; exact rfl) | (apply AW_go ttok; exact rfl) | (apply K_go ttok; exact rfl) | (apply AL_guardFf; (iterate 3 exact rfl); (first | with_reducible assumption | decide +kernel)) | (apply AL_pickT; exact rfl; (first | with_reducible assumption | decide +kernel); exact rfl; exact rfl) | (apply AW_condA; exact rfl; (first | with_reducible assumption | decide +kernel)))
  all_goals (apply endQ []; (apply resG_ok ttok; exact rfl); (iterate 4 exact rfl))
  all_goals rfl
 have t1 : decide ((d : Int) > 9) = false := by simp; omega
 rw [if_neg hd9]
 by_cases hb : 3000 < b.length
 ·rw [if_pos hb]
  have t2 : decide ((((b.map E.byte).length : Nat) : Int) > 3000) = true := by rw [hbl]; simp; omega
  refine AP.ofA ?_
  refine AC_of Tryd.func15 rfl Tryd.ntmps15 rfl rfl ?_
  repeat' (first | (apply AL_go ttok; exact rfl) | (apply AW_go ttok; exact rfl) | (apply K_go ttok; exact rfl) | (apply AL_guardT; (iterate 3 exact rfl); (first | with_reducible assumption | decide +kernel)) | (apply AL_pickF; exact rfl; (first | with_reducible assumption | decide +kernel); exact rfl; exact rfl) | (apply AW_condA; exact rfl; (first | with_reducible assumption | decide +kernel)) | (apply AL_len ttok; (iterate 4 exact rfl)))
  all_goals (apply endQ []; (apply resG_ok ttok; exact rfl); (iterate 4 exact rfl))
  all_goals rfl
 have t2 : decide ((((b.map E.byte).length : Nat) : Int) > 3000) = false := by rw [hbl]; simp; omega
 rw [if_neg hb]
 generalize hfin : greats l (d + 1) (m - 1) = fin
 have em := em hm
 refine AP.ofA ?_
 refine AC_of Tryd.func15 rfl Tryd.ntmps15 rfl rfl ?_
 repeat' (first | rw [em] | (apply AL_go ttok; exact rfl) | (apply AW_go ttok; exact rfl) | (apply K_go ttok; exact rfl) | (apply AL_guardT; (iterate 3 exact rfl); (first | with_reducible assumption | decide +kernel)) | (apply AL_pickF; exact rfl; (first | with_reducible assumption | decide +kernel); exact rfl; exact rfl) | (apply AW_condB; exact rfl; (first | with_reducible assumption | decide +kernel)) | (apply AL_len ttok; (iterate 4 exact rfl)))
 refine AW_loopJ (fun f tm bx fr => ∃ (i : Nat) (m' : Int), f + i = l.length /\ -1 <= m' /\ m' + i <= 399 /\ greats (l.drop i) (d + 1) m' = fin /\ tm = [(1, .int .i64 (d : Int)), (2, .int .i64 m'), (3, .ptr 0 0), (7, .int .i64 (i : Int)), (6, .int .i64 0)] /\ bx = [itC k n b l] /\ fr = []) (l.length + 1) (Lands.mk' (m := l.length) (Nat.lt_succ_self _) ⟨0, m - 1, rfl, by omega, by omega, hfin, rfl, rfl, rfl⟩ ?_ rfl rfl rfl rfl rfl rfl) ?_
 ·exact .cons rfl (.cons rfl (.cons rfl (.cons rfl (.cons rfl .nil))))
 rintro f tm bx fr ⟨i, m', hf, hm1, hm2, hfin, rfl, rfl, rfl⟩
 have hU := uniI l
 rcases Nat.lt_or_ge i l.length with hlt | hge
 ·have hdl : decide ((i : Int) < ((itEs l).length : Int)) = true := decide_eq_true (by omega)
  obtain ⟨⟨k1, n1, b1, l1⟩, hy⟩ : ∃ y, l[i]? = some y := ⟨_, List.getElem?_eq_getElem hlt⟩
  have hv : (itEs l)[((i : Nat) : Int).toNat]? = some (.agg [.int .i64 k1, .int .u64 (n1 : Int), .sl (b1.map E.byte), .sl (itEs l1)]) := by
   rw [Int.toNat_natCast, itEs_map, List.getElem?_map, hy]; rfl
  have hdr : l.drop i = It.mk k1 n1 b1 l1 :: l.drop (i + 1) := by
   rw [List.drop_eq_getElem_cons hlt]; congr 1
   have := (List.getElem?_eq_some_iff.1 hy).2; exact this
  rw [hdr, greats] at hfin
  rcases Int.lt_or_le m' 0 with hml | hmg
  ·have hdm : decide (m' ≥ 0) = false := decide_eq_false (by omega)
   rw [if_pos hml] at hfin
   subst hfin
   repeat' (first | (apply AL_go ttok; exact rfl) | (apply AW_go ttok; exact rfl) | (apply K_go ttok; exact rfl) | (apply AL_guardT; (iterate 3 exact rfl); (first | with_reducible assumption | decide +kernel)) | (apply AL_pickT; exact rfl; (first | with_reducible assumption | decide +kernel); exact rfl; exact rfl) | (apply AW_condB; exact rfl; (first | with_reducible assumption | decide +kernel)) | (apply AL_len ttok; (iterate 4 exact rfl)))
   all_goals (apply endQ []; (apply resG_ok ttok; exact rfl); (iterate 4 exact rfl))
   all_goals rfl
  ·have hdm : decide (m' ≥ 0) = true := decide_eq_true (by omega)
   rw [if_neg (by omega)] at hfin
   have hmem := List.mem_of_getElem? hy
   have hc := ih _ hmem (d + 1) m' (by omega) hmg (by omega)
   have ei : IntKind.i64.wrap ((i : Int) + 1) = ((i + 1 : Nat) : Int) := by rw [IntWalk.i64_in _ (by omega)]; omega
   have hgl := greatI_lt (.mk k1 n1 b1 l1) (d + 1) m' hmg
   generalize hgr : greatI (.mk k1 n1 b1 l1) (d + 1) m' = r at hc hfin hgl
   repeat' (first | rw [ed] | rw [ei] | (apply AL_callPw (hc); kernel_rfl; (iterate 4 exact rfl)) | (apply AL_go ttok; exact rfl) | (apply AW_go ttok; exact rfl) | (apply K_go ttok; exact rfl) | (apply AL_guardT; (iterate 3 exact rfl); (first | with_reducible assumption | decide +kernel)) | (apply AL_pickT; exact rfl; (first | with_reducible assumption | decide +kernel); exact rfl; exact rfl) | (apply AW_condA; exact rfl; (first | with_reducible assumption | decide +kernel)) | (apply AL_len ttok; (iterate 4 exact rfl)) | (apply AL_idx ttok; (iterate 6 exact rfl); (first | with_reducible assumption | decide +kernel | exact Int.natCast_nonneg _ | (guard_target = (0:Int) <= (OfNat.ofNat _ : Int); decide) | rotate_left); (first | with_reducible assumption | decide +kernel | exact rfl); (first | exact uniB_ok rfl | with_reducible assumption | decide +kernel | rotate_left)))
   refine Lands.mk' (m := f - 1) (by omega) ⟨i + 1, r, by omega, by omega, by omega, hfin, rfl, rfl, rfl⟩ ?_ rfl rfl rfl rfl rfl rfl
   exact .cons rfl (.cons rfl (.cons rfl (.cons rfl (.cons rfl .nil))))
 ·have hdl : decide ((i : Int) < ((itEs l).length : Int)) = false := decide_eq_false (by omega)
  have hdr : l.drop i = [] := List.drop_eq_nil_of_le hge
  rw [hdr, greats] at hfin
  subst hfin
  repeat' (first | (apply AL_go ttok; exact rfl) | (apply AW_go ttok; exact rfl) | (apply K_go ttok; exact rfl) | (apply AL_guardFt; (iterate 3 exact rfl); (first | with_reducible assumption | decide +kernel)) | (apply AL_pickF; exact rfl; (first | with_reducible assumption | decide +kernel); exact rfl; exact rfl) | (apply AW_condB; exact rfl; (first | with_reducible assumption | decide +kernel)) | (apply AL_len ttok; (iterate 4 exact rfl)))
  all_goals (apply endQ []; (apply resG_ok ttok; exact rfl); (iterate 4 exact rfl))
  all_goals rfl
end Go.Proofs.YtfkmicjlaedlkaaDoor
end
section
open Go.RowKit Go.Pl Go.Av
namespace Go.Proofs.YtfkmicjlaedlkaaDoor
set_option maxHeartbeats 1000000
end Go.Proofs.YtfkmicjlaedlkaaDoor
end
section
open Go.RowKit Go.Pl Go.Av
namespace Go.Proofs.YtfkmicjlaedlkaaDoor
set_option maxHeartbeats 4000000
end Go.Proofs.YtfkmicjlaedlkaaDoor
end
section
open Go.RowKit Go.Pl Go.Av
namespace Go.Proofs.YtfkmicjlaedlkaaDoor
set_option maxHeartbeats 4000000
end Go.Proofs.YtfkmicjlaedlkaaDoor
end
section
open Go.RowKit Go.Pl Go.Av
namespace Go.Proofs.YtfkmicjlaedlkaaDoor
set_option maxHeartbeats 4000000
end Go.Proofs.YtfkmicjlaedlkaaDoor
end
section
open Go.RowKit Go.Pl Go.Av
namespace Go.Proofs.YtfkmicjlaedlkaaDoor
set_option maxHeartbeats 4000000
end Go.Proofs.YtfkmicjlaedlkaaDoor
end
section
open Go.RowKit Go.Pl Go.Av
namespace Go.Proofs.YtfkmicjlaedlkaaDoor
set_option maxHeartbeats 4000000
end Go.Proofs.YtfkmicjlaedlkaaDoor
end
section
open Go.RowKit Go.Pl Go.Av
namespace Go.Proofs.YtfkmicjlaedlkaaDoor
set_option maxHeartbeats 4000000
end Go.Proofs.YtfkmicjlaedlkaaDoor
end
section
open Go.RowKit Go.Pl Go.Av
namespace Go.Proofs.YtfkmicjlaedlkaaDoor
set_option maxHeartbeats 4000000
end Go.Proofs.YtfkmicjlaedlkaaDoor
end
section
open Go.RowKit Go.Pl Go.Av
namespace Go.Proofs.YtfkmicjlaedlkaaDoor
set_option maxHeartbeats 4000000
def x0 : It := .mk 4 0 [] [.mk 0 1 [] [], .mk 3 0 [97, 98] []]
end Go.Proofs.YtfkmicjlaedlkaaDoor
end
section
open Go.RowKit Go.Pl Go.Av
namespace Go.Proofs.YtfkmicjlaedlkaaDoor
set_option maxHeartbeats 4000000
end Go.Proofs.YtfkmicjlaedlkaaDoor
end
section
open Go.RowKit Go.Pl Go.Av
namespace Go.Proofs.YtfkmicjlaedlkaaDoor
mutual
def sizeI : It -> Nat
 | .mk _ _ _ l => 1 + sizes l
def sizes : List It -> Nat
 | [] => 0
 | x :: l => sizeI x + sizes l
end
mutual
def fineI : It -> Bool
 | .mk k n b l => ownI k n b l && fines l
def fines : List It -> Bool
 | [] => true
 | x :: l => fineI x && fines l
end
mutual
theorem walk_iff : ∀ (x : It) (d m : Nat), walkI x d m = if deepI x (7 - d) = true /\ sizeI x <= m /\ fineI x = true then some (m - sizeI x) else none
 | .mk k n b l, d, m => by
  rw [walkI]
  split
  ·rename_i h
   rw [if_neg]
   rintro ⟨h1, _⟩
   rw [show 7 - d = 0 by omega, deepI] at h1
   cases h1
  rename_i hd
  rw [show 7 - d = (7 - (d + 1)) + 1 by omega, deepI, sizeI, fineI]
  split
  ·rename_i h
   rw [if_neg]
   rintro ⟨_, h1, _⟩
   omega
  rename_i hm
  cases ho : ownI k n b l with
  | false =>
   dsimp only
   rw [if_neg]
   rintro ⟨_, _, h1⟩
   simp at h1
  | true =>
   dsimp only
   rw [walks_iff l (d + 1) (m - 1), Bool.true_and]
   by_cases h : deeps l (7 - (d + 1)) = true /\ sizes l <= m - 1 /\ fines l = true
   ·rw [if_pos h, if_pos ⟨h.1, by omega, h.2.2⟩]
    congr 1; omega
   ·rw [if_neg h, if_neg]
    exact fun ⟨a, b, c⟩ => h ⟨a, by omega, c⟩
theorem walks_iff : ∀ (l : List It) (d m : Nat), walks l d m = if deeps l (7 - d) = true /\ sizes l <= m /\ fines l = true then some (m - sizes l) else none
 | [], d, m => by rw [walks, if_pos ⟨by rw [deeps], by rw [sizes]; omega, by rw [fines]⟩, sizes]; rfl
 | x :: l, d, m => by
  rw [walks, walk_iff x d m, deeps, sizes, fines]
  by_cases h : deepI x (7 - d) = true /\ sizeI x <= m /\ fineI x = true
  ·rw [if_pos h]
   dsimp only
   rw [walks_iff l d (m - sizeI x), h.1, h.2.2, Bool.true_and, Bool.true_and]
   by_cases h2 : deeps l (7 - d) = true /\ sizes l <= m - sizeI x /\ fines l = true
   ·rw [if_pos h2, if_pos ⟨h2.1, by omega, h2.2.2⟩]
    congr 1; omega
   ·rw [if_neg h2, if_neg]
    exact fun ⟨a, b, c⟩ => h2 ⟨a, by omega, c⟩
  ·rw [if_neg h]
   dsimp only
   rw [if_neg]
   rintro ⟨a, b, c⟩
   rw [Bool.and_eq_true] at a c
   exact h ⟨a.1, by omega, c.1⟩
end
mutual
theorem deepI_more : ∀ (x : It) (d e : Nat), deepI x d = true -> d <= e -> deepI x e = true
 | .mk k n b l, 0, e, h, _ => by rw [deepI] at h; cases h
 | .mk k n b l, d + 1, 0, h, hle => by omega
 | .mk k n b l, d + 1, e + 1, h, hle => by
  rw [deepI] at h ⊢
  exact deeps_more l d e h (by omega)
theorem deeps_more : ∀ (l : List It) (d e : Nat), deeps l d = true -> d <= e -> deeps l e = true
 | [], _, _, _, _ => by rw [deeps]
 | x :: l, d, e, h, hle => by
  rw [deeps, Bool.and_eq_true] at h ⊢
  exact ⟨deepI_more x d e h.1 hle, deeps_more l d e h.2 hle⟩
end
mutual
theorem great_size : ∀ (x : It) (d : Nat) (m : Int), 0 <= greatI x d m -> (sizeI x : Int) = m - greatI x d m
 | .mk k n b l, d, m, h => by
  rw [greatI] at h ⊢
  split at h
  ·omega
  split at h
  ·omega
  rename_i h1 h2
  rw [if_neg h1, if_neg h2, sizeI]
  have := greats_size l (d + 1) (m - 1) h
  omega
theorem greats_size : ∀ (l : List It) (d : Nat) (m : Int), 0 <= greats l d m -> (sizes l : Int) = m - greats l d m
 | [], d, m, h => by rw [greats, sizes]; omega
 | x :: l, d, m, h => by
  rw [greats] at h ⊢
  split at h
  ·omega
  rename_i h1
  rw [if_neg h1, sizes]
  have h0 : 0 <= greatI x d m := by
   rcases Int.lt_or_le (greatI x d m) 0 with hlt | hge
   ·have := greats_le l d (greatI x d m) (by have := greatI_lt x d m (by omega); omega); omega
   ·exact hge
  have a := great_size x d m h0
  have b := greats_size l d _ h
  omega
end
end Go.Proofs.YtfkmicjlaedlkaaDoor
end
section
open Go.RowKit Go.Pl Go.Av
namespace Go.Proofs.YtfkmicjlaedlkaaDoor
set_option maxHeartbeats 4000000
end Go.Proofs.YtfkmicjlaedlkaaDoor
end
section
open Go.RowKit Go.Pl Go.Av
namespace Go.Proofs.YtfkmicjlaedlkaaDoor
set_option maxHeartbeats 4000000
end Go.Proofs.YtfkmicjlaedlkaaDoor
end
section
open Go.RowKit Go.Pl Go.Av
namespace Go.Proofs.YtfkmicjlaedlkaaDoor
set_option maxHeartbeats 4000000
structure BlkV where
 ty : Nat
 num : Nat
 fl : Nat
 sum : Int
 data : List UInt8
end Go.Proofs.YtfkmicjlaedlkaaDoor
end
section
open Go.RowKit Go.Pl Go.Av
namespace Go.Proofs.YtfkmicjlaedlkaaDoor
set_option maxHeartbeats 4000000
end Go.Proofs.YtfkmicjlaedlkaaDoor
end
section
open Go.RowKit Go.Pl Go.Av
namespace Go.Proofs.YtfkmicjlaedlkaaDoor
set_option maxHeartbeats 4000000
end Go.Proofs.YtfkmicjlaedlkaaDoor
end
section
open Go.RowKit Go.Pl Go.Av
namespace Go.Proofs.YtfkmicjlaedlkaaDoor
set_option maxHeartbeats 4000000
end Go.Proofs.YtfkmicjlaedlkaaDoor
end
section
open Go.RowKit Go.Pl Go.Av
namespace Go.Proofs.YtfkmicjlaedlkaaDoor
set_option maxHeartbeats 4000000
end Go.Proofs.YtfkmicjlaedlkaaDoor
end
section
open Go.RowKit Go.Pl Go.Av
namespace Go.Proofs.YtfkmicjlaedlkaaDoor
set_option maxHeartbeats 4000000
end Go.Proofs.YtfkmicjlaedlkaaDoor
end
section
open Go.RowKit Go.Pl Go.Av
namespace Go.Proofs.YtfkmicjlaedlkaaDoor
set_option maxHeartbeats 4000000
end Go.Proofs.YtfkmicjlaedlkaaDoor
end
section
open Go.RowKit Go.Pl Go.Av
namespace Go.Proofs.YtfkmicjlaedlkaaDoor
set_option maxHeartbeats 4000000
abbrev hopI (n m : Nat) : It := .mk 4 0 [] [.mk 0 n [] [], .mk 0 m [] []]
end Go.Proofs.YtfkmicjlaedlkaaDoor
end
section
open Go.RowKit Go.Pl Go.Av
namespace Go.Proofs.YtfkmicjlaedlkaaDoor
set_option maxHeartbeats 4000000
theorem open_sub (x : It) (a : Int) : ∀ y ∈ (openV x a).1, y ∈ x.l := by
 obtain ⟨k, n, b, l⟩ := x
 unfold openV
 dsimp only [It.l]
 have hs : ∀ (m : Nat) (y : It), y ∈ l.take m -> y ∈ l := fun m y h => List.mem_of_mem_take h
 repeat' split
 all_goals first | exact hs _ | (intro y h; exact h) | (intro y h; exact absurd h (by simp))
theorem wf_z0 : wfI z0 := ⟨by decide, by simp, by simp, trivial⟩
theorem wf_outA (s : Nat) {l : List It} (hws : wfs l) (hl : l.length <= 1000000) : wfI (outL s l) := by
 refine ⟨by decide, by simp, by simp; omega, wfs_app hws ⟨⟨by decide, ?_, by simp, trivial⟩, trivial⟩⟩
 have : (sumB s (putI (zeroL s l))).length <= 4 := by
  unfold sumB
  split <;> simp
 omega
theorem wf_seal {l : List It} (a : Int) (hws : wfs l) (hl : l.length <= 1000000) : wfI (sealV l a).1 := by
 unfold sealV
 have h0 : wfI (.mk 4 0 [] l) := ⟨by decide, by simp, by omega, hws⟩
 repeat' split
 all_goals first | exact wf_z0 | exact h0 | exact wf_outA _ hws hl
end Go.Proofs.YtfkmicjlaedlkaaDoor
end
section
open Go.RowKit Go.Pl Go.Av
namespace Go.Proofs.YtfkmicjlaedlkaaDoor
set_option maxHeartbeats 4000000
end Go.Proofs.YtfkmicjlaedlkaaDoor
end
section
open Go.RowKit Go.Pl Go.Av
namespace Go.Proofs.YtfkmicjlaedlkaaDoor
set_option maxHeartbeats 4000000
end Go.Proofs.YtfkmicjlaedlkaaDoor
end
section
open Go.RowKit Go.Pl Go.Av
namespace Go.Proofs.YtfkmicjlaedlkaaDoor
set_option maxHeartbeats 4000000
end Go.Proofs.YtfkmicjlaedlkaaDoor
end
section
open Go.RowKit Go.Pl Go.Av
namespace Go.Proofs.YtfkmicjlaedlkaaDoor
set_option maxHeartbeats 4000000
end Go.Proofs.YtfkmicjlaedlkaaDoor
end
section
open Go.RowKit Go.Pl Go.Av
namespace Go.Proofs.YtfkmicjlaedlkaaDoor
end Go.Proofs.YtfkmicjlaedlkaaDoor
end
section
open Go.RowKit Go.Pl Go.Av
namespace Go.Proofs.YtfkmicjlaedlkaaDoor
theorem beq_self (x : It) : It.beq x x = true := It.beq_iff.2 rfl
theorem typeV_app {l r : List It} {a : Int} (h : typeV l a ≥ 0) : typeV (l ++ r) a = typeV l a := by
 rcases typeV_cases l a with e | ⟨_, h0, h1⟩
 ·omega
 ·unfold typeV
  rw [List.getElem?_append_left (by omega)]
theorem seal_open {l : List It} {a : Int} {x : It} (h : sealV l a = (x, 0)) : openV x a = (l, 0) := by
 unfold sealV at h
 cases d0 : (decide (a < 0) || decide (a ≥ (l.length : Int))) with
 | true => rw [d0] at h; simp at h
 | false =>
 rw [d0] at h
 cases d1 : (l.all rightI && decide (typeV l a ≥ 0)) with
 | false => rw [d1] at h; simp at h
 | true =>
 rw [d1] at h
 rw [Bool.and_eq_true, decide_eq_true_eq] at d1
 obtain ⟨_, d1⟩ := d1
 rw [Bool.or_eq_false_iff, decide_eq_false_iff_not, decide_eq_false_iff_not] at d0
 dsimp only at h
 cases d2 : decide (typeV l a > 0) with
 | false =>
  rw [d2] at h
  dsimp only at h
  cases hr : rightI (.mk 4 0 [] l) with
  | false => rw [hr] at h; simp at h
  | true =>
   rw [hr] at h
   simp only [Prod.mk.injEq, and_true] at h
   subst h
   have e : typeV l a = 0 := by have := of_decide_eq_false d2; omega
   unfold openV
   dsimp only
   rw [hr, e]
   rfl
 | true =>
  rw [d2] at h
  dsimp only at h
  have hs : (typeV l a).toNat = 1 \/ (typeV l a).toNat = 2 := by
   rcases typeV_cases l a with e | ⟨e, _⟩
   ·omega
   ·have := of_decide_eq_true d2; omega
  cases hz : rightI (zeroL (typeV l a).toNat l) with
  | false => rw [hz] at h; simp at h
  | true =>
   rw [hz] at h
   dsimp only at h
   cases hr : rightI (outL (typeV l a).toNat l) with
   | false => rw [hr] at h; simp at h
   | true =>
    rw [hr] at h
    simp only [Prod.mk.injEq, and_true] at h
    subst h
    have hlen := sumB_len (typeV l a).toNat (putI (zeroL (typeV l a).toNat l)) hs
    unfold outL at hr ⊢
    unfold openV
    dsimp only
    rw [hr, typeV_app d1]
    have e1 : decide (typeV l a < 0) = false := decide_eq_false (by omega)
    have e2 : (typeV l a == 0) = false := by rw [beq_eq_false_iff_ne]; have := of_decide_eq_true d2; omega
    rw [e1, e2]
    have e3 : (l ++ [It.mk 2 0 (sumB (typeV l a).toNat (putI (zeroL (typeV l a).toNat l))) []]).length - 1 = l.length := by simp
    rw [e3]
    have e4 : (l ++ [It.mk 2 0 (sumB (typeV l a).toNat (putI (zeroL (typeV l a).toNat l))) []])[l.length]? = some (It.mk 2 0 (sumB (typeV l a).toNat (putI (zeroL (typeV l a).toNat l))) []) := by simp
    have e5 : (l ++ [It.mk 2 0 (sumB (typeV l a).toNat (putI (zeroL (typeV l a).toNat l))) []]).take l.length = l := by simp
    rw [e4, e5]
    dsimp only
    have e6 : decide (((l.length : Nat) : Int) <= a) = false := decide_eq_false (by omega)
    rw [e6, beq_self, hlen, hz]
    simp
theorem put_small (k : Int) (n : Nat) (b : List UInt8) (l : List It) : (putI (.mk k n b l)).length <= 9 + (b.length + (puts l).length) := by
 rw [putI, List.length_append, List.length_append]
 split
 ·rename_i h
  have h1 := writeL_le h rfl
  have h2 : followN (It.mk k n b l).hn <= 8 := by
   unfold followN
   repeat' split
   all_goals omega
  dsimp only at h1
  omega
 ·simp
theorem num_len (n : Nat) : (putI (.mk 0 n [] [])).length <= 9 := by
 have := put_small 0 n [] []
 simpa [puts] using this
theorem hop_len (n m : Nat) : (putI (hopI n m)).length <= 27 := by
 have h0 := put_small 4 0 [] [.mk 0 n [] [], .mk 0 m [] []]
 have h1 := num_len n
 have h2 := num_len m
 simp only [puts, List.length_append, List.length_nil, Nat.add_zero, Nat.zero_add] at h0
 have e : hopI n m = .mk 4 0 [] [.mk 0 n [] [], .mk 0 m [] []] := rfl
 rw [e]
 omega
theorem seal_cases {l : List It} {a : Int} {x : It} (h : sealV l a = (x, 0)) : x = .mk 4 0 [] l \/ ∃ s, (s = 1 \/ s = 2) /\ x = outL s l := by
 unfold sealV at h
 cases d0 : (decide (a < 0) || decide (a ≥ (l.length : Int))) with
 | true => rw [d0] at h; simp at h
 | false =>
 rw [d0] at h
 cases d1 : (l.all rightI && decide (typeV l a ≥ 0)) with
 | false => rw [d1] at h; simp at h
 | true =>
 rw [d1] at h
 dsimp only at h
 cases d2 : decide (typeV l a > 0) with
 | false =>
  rw [d2] at h
  dsimp only at h
  cases hr : rightI (.mk 4 0 [] l) with
  | false => rw [hr] at h; simp at h
  | true =>
   rw [hr] at h
   simp only [Prod.mk.injEq, and_true] at h
   exact .inl h.symm
 | true =>
  rw [d2] at h
  dsimp only at h
  have hs : (typeV l a).toNat = 1 \/ (typeV l a).toNat = 2 := by
   rcases typeV_cases l a with e | ⟨e, _⟩
   ·have := of_decide_eq_true d2; omega
   ·have := of_decide_eq_true d2; omega
  cases hz : rightI (zeroL (typeV l a).toNat l) with
  | false => rw [hz] at h; simp at h
  | true =>
   rw [hz] at h
   dsimp only at h
   cases hr : rightI (outL (typeV l a).toNat l) with
   | false => rw [hr] at h; simp at h
   | true =>
    rw [hr] at h
    simp only [Prod.mk.injEq, and_true] at h
    exact .inr ⟨_, hs, h.symm⟩
end Go.Proofs.YtfkmicjlaedlkaaDoor
end
section
open Go.RowKit Go.Pl Go.Av
namespace Go.Proofs.YtfkmicjlaedlkaaDoor
set_option maxHeartbeats 4000000
abbrev readZ (y : It) : EidV := match (readV y).2 with | true => (readV y).1 | false => eidZ
def readNm (y p r x : It) : Bool := match (readV y).2, iRight (readZ y) p.n r.n with
 | true, true => It.beq (itemN (readZ y) p.n r.n) x
 | _, _ => false
abbrev resN (x : EidV) (t q : Nat) (b : Bool) : D := .tup [.agg (iC (match b with | true => x | false => eidZ) (match b with | true => t | false => 0) (match b with | true => q | false => 0)), .int .i64 (match b with | true => 0 | false => 3)]
def noForm : It -> Bool
 | .mk k _ _ [_, .mk k2 _ _ [_, _]] => !(k == 4 && k2 == 4)
 | _ => true
theorem av_iReadNo [Known] [KnownU8] (x : It) (h : noForm x = true) : AP Tryd.prog 57 [itD x] (resN eidZ 0 0 false) [] := by
 show AP Tryd.prog _ _ (.tup [.agg [.bool false, .int .u64 0, .int .u64 0, .str [], .str [], .int .u64 0, .int .u64 0], .int .i64 3]) []
 obtain ⟨k, n, b, l⟩ := x
 by_cases hk : k = 4
 ·have t1 : (k != 4) = false := by simpa using hk
  by_cases hl : l.length = 2
  ·obtain ⟨y, z, rfl⟩ : ∃ y z, l = [y, z] := by
    match l, hl with
    | [y, z], _ => exact ⟨y, z, rfl⟩
   have t2 : (((itEs [y, z]).length : Int) != 2) = false := rfl
   have hU := uniI [y, z]
   obtain ⟨ky, ny, bY, ly⟩ := y
   obtain ⟨kz, nz, bz, lz⟩ := z
   by_cases hk2 : kz = 4
   ·have t3 : (kz != 4) = false := by simpa using hk2
    have hl2 : lz.length ≠ 2 := by
     intro e
     match lz, e with
     | [p, r], _ => simp [noForm, hk, hk2] at h
    have t4 : (((itEs lz).length : Int) != 2) = true := by rw [itEs_len]; simp; omega
    refine AP.ofA ?_
    refine AC_of Tryd.func57 rfl Tryd.ntmps57 rfl rfl ?_
    repeat' (first | (apply AL_go ttok; exact rfl) | (apply AW_go ttok; exact rfl) | (apply K_go ttok; exact rfl) | (apply AL_guardT; (iterate 3 exact rfl); (first | with_reducible assumption | decide +kernel)) | (apply AL_pickF; exact rfl; (first | with_reducible assumption | decide +kernel); exact rfl; exact rfl) | (apply AW_condA; exact rfl; (first | with_reducible assumption | decide +kernel)) | (apply AL_len ttok; (iterate 4 exact rfl)) | (apply AL_idx ttok; (iterate 6 exact rfl); (first | with_reducible assumption | decide +kernel | exact Int.natCast_nonneg _ | (guard_target = (0:Int) <= (OfNat.ofNat _ : Int); decide) | rotate_left); (first | with_reducible assumption | decide +kernel | exact rfl); (first | exact uniB_ok rfl | with_reducible assumption | decide +kernel | rotate_left)))
    all_goals (apply endQ []; (apply resG_ok ttok; exact rfl); (iterate 4 exact rfl))
    all_goals rfl
   ·have t3 : (kz != 4) = true := by simpa using hk2
    refine AP.ofA ?_
    refine AC_of Tryd.func57 rfl Tryd.ntmps57 rfl rfl ?_
    repeat' (first | (apply AL_go ttok; exact rfl) | (apply AW_go ttok; exact rfl) | (apply K_go ttok; exact rfl) | (apply AL_guardT; (iterate 3 exact rfl); (first | with_reducible assumption | decide +kernel)) | (apply AL_guardFf; (iterate 3 exact rfl); (first | with_reducible assumption | decide +kernel)) | (apply AL_pickT; exact rfl; (first | with_reducible assumption | decide +kernel); exact rfl; exact rfl) | (apply AL_pickF; exact rfl; (first | with_reducible assumption | decide +kernel); exact rfl; exact rfl) | (apply AW_condA; exact rfl; (first | with_reducible assumption | decide +kernel)) | (apply AL_len ttok; (iterate 4 exact rfl)) | (apply AL_idx ttok; (iterate 6 exact rfl); (first | with_reducible assumption | decide +kernel | exact Int.natCast_nonneg _ | (guard_target = (0:Int) <= (OfNat.ofNat _ : Int); decide) | rotate_left); (first | with_reducible assumption | decide +kernel | exact rfl); (first | exact uniB_ok rfl | with_reducible assumption | decide +kernel | rotate_left)))
    all_goals (apply endQ []; (apply resG_ok ttok; exact rfl); (iterate 4 exact rfl))
    all_goals rfl
  ·have t2 : (((itEs l).length : Int) != 2) = true := by rw [itEs_len]; simp; omega
   refine AP.ofA ?_
   refine AC_of Tryd.func57 rfl Tryd.ntmps57 rfl rfl ?_
   repeat' (first | (apply AL_go ttok; exact rfl) | (apply AW_go ttok; exact rfl) | (apply K_go ttok; exact rfl) | (apply AL_guardT; (iterate 3 exact rfl); (first | with_reducible assumption | decide +kernel)) | (apply AL_guardFf; (iterate 3 exact rfl); (first | with_reducible assumption | decide +kernel)) | (apply AL_pickT; exact rfl; (first | with_reducible assumption | decide +kernel); exact rfl; exact rfl) | (apply AL_pickF; exact rfl; (first | with_reducible assumption | decide +kernel); exact rfl; exact rfl) | (apply AW_condA; exact rfl; (first | with_reducible assumption | decide +kernel)) | (apply AL_len ttok; (iterate 4 exact rfl)))
   all_goals (apply endQ []; (apply resG_ok ttok; exact rfl); (iterate 4 exact rfl))
   all_goals rfl
 ·have t1 : (k != 4) = true := by simpa using hk
  refine AP.ofA ?_
  refine AC_of Tryd.func57 rfl Tryd.ntmps57 rfl rfl ?_
  repeat' (first | (apply AL_go ttok; exact rfl) | (apply AW_go ttok; exact rfl) | (apply K_go ttok; exact rfl) | (apply AL_guardFf; (iterate 3 exact rfl); (first | with_reducible assumption | decide +kernel)) | (apply AL_pickT; exact rfl; (first | with_reducible assumption | decide +kernel); exact rfl; exact rfl) | (apply AW_condA; exact rfl; (first | with_reducible assumption | decide +kernel)))
  all_goals (apply endQ []; (apply resG_ok ttok; exact rfl); (iterate 4 exact rfl))
  all_goals rfl
end Go.Proofs.YtfkmicjlaedlkaaDoor
end

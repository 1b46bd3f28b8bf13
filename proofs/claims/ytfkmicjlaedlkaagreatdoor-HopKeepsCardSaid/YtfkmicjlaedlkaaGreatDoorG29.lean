/- Package hop: what is not sent on. -/
import Derived.Test.YtfkmicjlaedlkaaGreatDoorG28
set_option linter.unusedVariables false
set_option linter.unusedSimpArgs false
section
open Go.RowKit Go.Pl Go.Av
namespace Go.Proofs.YtfkmicjlaedlkaaGreatDoor
set_option maxHeartbeats 4000000
theorem on_1 [Known] [KnownU8] (fl : Nat) (sum : Int) (di ri xi : Bool) (dn ds rn rs xn xs t q life : Nat) (dh dd rh rd xh xd : List UInt8) (bl : List E) (si : Bool) (sn ss : Nat) (sh sd : List UInt8) (since now e : Int)
  (ov : Bool)
  (hK : AP Tryz.prog 71 [.agg [.int .u64 (fl : Int), .int .i64 sum, .bool di, .int .u64 (dn : Int), .int .u64 (ds : Int), .str dh, .str dd, .bool ri, .int .u64 (rn : Int), .int .u64 (rs : Int), .str rh, .str rd, .bool xi, .int .u64 (xn : Int), .int .u64 (xs : Int), .str xh, .str xd, .int .u64 (t : Int), .int .u64 (q : Int), .int .u64 (life : Int), .sl .ext bl], .int .u64 since, .int .u64 now] (.int .i64 e) [])
  (hO : AP Tryz.prog 30 [.agg [.int .u64 (fl : Int), .int .i64 sum, .bool di, .int .u64 (dn : Int), .int .u64 (ds : Int), .str dh, .str dd, .bool ri, .int .u64 (rn : Int), .int .u64 (rs : Int), .str rh, .str rd, .bool xi, .int .u64 (xn : Int), .int .u64 (xs : Int), .str xh, .str xd, .int .u64 (t : Int), .int .u64 (q : Int), .int .u64 (life : Int), .sl .ext bl], .int .u64 since, .int .u64 now] (.tup [.bool ov, .int .i64 e]) [])
  (t1 : (e == 3) = true) :
  AP Tryz.prog 31 [.agg [.int .u64 (fl : Int), .int .i64 sum, .bool di, .int .u64 (dn : Int), .int .u64 (ds : Int), .str dh, .str dd, .bool ri, .int .u64 (rn : Int), .int .u64 (rs : Int), .str rh, .str rd, .bool xi, .int .u64 (xn : Int), .int .u64 (xs : Int), .str xh, .str xd, .int .u64 (t : Int), .int .u64 (q : Int), .int .u64 (life : Int), .sl .ext bl], .agg [.bool si, .int .u64 (sn : Int), .int .u64 (ss : Int), .str sh, .str sd], .int .u64 since, .int .u64 now] (.tup [.agg [.int .u64 0, .int .i64 0, .bool false, .int .u64 0, .int .u64 0, .str [], .str [], .bool false, .int .u64 0, .int .u64 0, .str [], .str [], .bool false, .int .u64 0, .int .u64 0, .str [], .str [], .int .u64 0, .int .u64 0, .int .u64 0, .sl .ext []], .int .i64 3]) [] := by
 refine AP.ofA ?_
 refine AC_of Tryz.func31 rfl Tryz.ntmps31 rfl rfl ?_
 repeat' (first | (apply AL_callPw (hK); kernel_rfl; (iterate 4 exact rfl)) | (apply AL_callPw (hO); kernel_rfl; (iterate 4 exact rfl)) | (apply AL_go ttok; exact rfl) | (apply AW_go ttok; exact rfl) | (apply K_go ttok; exact rfl) | (apply AL_guardFf; (iterate 3 exact rfl); (first | with_reducible assumption | decide +kernel)) | (apply AL_pickT; exact rfl; (first | with_reducible assumption | decide +kernel); exact rfl; exact rfl) | (apply AW_condA; exact rfl; (first | with_reducible assumption | decide +kernel)))
 all_goals (apply endQ []; (apply resG_ok ttok; exact rfl); (iterate 4 exact rfl))
 all_goals rfl
theorem on_2 [Known] [KnownU8] (fl : Nat) (sum : Int) (di ri xi : Bool) (dn ds rn rs xn xs t q life : Nat) (dh dd rh rd xh xd : List UInt8) (bl : List E) (si : Bool) (sn ss : Nat) (sh sd : List UInt8) (since now e : Int)
  (ov : Bool)
  (hK : AP Tryz.prog 71 [.agg [.int .u64 (fl : Int), .int .i64 sum, .bool di, .int .u64 (dn : Int), .int .u64 (ds : Int), .str dh, .str dd, .bool ri, .int .u64 (rn : Int), .int .u64 (rs : Int), .str rh, .str rd, .bool xi, .int .u64 (xn : Int), .int .u64 (xs : Int), .str xh, .str xd, .int .u64 (t : Int), .int .u64 (q : Int), .int .u64 (life : Int), .sl .ext bl], .int .u64 since, .int .u64 now] (.int .i64 e) [])
  (hO : AP Tryz.prog 30 [.agg [.int .u64 (fl : Int), .int .i64 sum, .bool di, .int .u64 (dn : Int), .int .u64 (ds : Int), .str dh, .str dd, .bool ri, .int .u64 (rn : Int), .int .u64 (rs : Int), .str rh, .str rd, .bool xi, .int .u64 (xn : Int), .int .u64 (xs : Int), .str xh, .str xd, .int .u64 (t : Int), .int .u64 (q : Int), .int .u64 (life : Int), .sl .ext bl], .int .u64 since, .int .u64 now] (.tup [.bool ov, .int .i64 e]) [])
  (t1 : (e == 3) = false)
  (hE : AP Tryz.prog 32 [.agg [.bool si, .int .u64 (sn : Int), .int .u64 (ss : Int), .str sh, .str sd]] (.bool false) []) :
  AP Tryz.prog 31 [.agg [.int .u64 (fl : Int), .int .i64 sum, .bool di, .int .u64 (dn : Int), .int .u64 (ds : Int), .str dh, .str dd, .bool ri, .int .u64 (rn : Int), .int .u64 (rs : Int), .str rh, .str rd, .bool xi, .int .u64 (xn : Int), .int .u64 (xs : Int), .str xh, .str xd, .int .u64 (t : Int), .int .u64 (q : Int), .int .u64 (life : Int), .sl .ext bl], .agg [.bool si, .int .u64 (sn : Int), .int .u64 (ss : Int), .str sh, .str sd], .int .u64 since, .int .u64 now] (.tup [.agg [.int .u64 0, .int .i64 0, .bool false, .int .u64 0, .int .u64 0, .str [], .str [], .bool false, .int .u64 0, .int .u64 0, .str [], .str [], .bool false, .int .u64 0, .int .u64 0, .str [], .str [], .int .u64 0, .int .u64 0, .int .u64 0, .sl .ext []], .int .i64 3]) [] := by
 refine AP.ofA ?_
 refine AC_of Tryz.func31 rfl Tryz.ntmps31 rfl rfl ?_
 repeat' (first | (apply AL_callPw (hK); kernel_rfl; (iterate 4 exact rfl)) | (apply AL_callPw (hO); kernel_rfl; (iterate 4 exact rfl)) | (apply AL_callPw (hE); kernel_rfl; (iterate 4 exact rfl)) | (apply AL_go ttok; exact rfl) | (apply AW_go ttok; exact rfl) | (apply K_go ttok; exact rfl) | (apply AL_guardT; (iterate 3 exact rfl); (first | with_reducible assumption | decide +kernel)) | (apply AL_guardFf; (iterate 3 exact rfl); (first | with_reducible assumption | decide +kernel)) | (apply AL_pickT; exact rfl; (first | with_reducible assumption | decide +kernel); exact rfl; exact rfl) | (apply AL_pickF; exact rfl; (first | with_reducible assumption | decide +kernel); exact rfl; exact rfl) | (apply AW_condA; exact rfl; (first | with_reducible assumption | decide +kernel)))
 all_goals (apply endQ []; (apply resG_ok ttok; exact rfl); (iterate 4 exact rfl))
 all_goals rfl
theorem on_3 [Known] [KnownU8] (fl : Nat) (sum : Int) (di ri xi : Bool) (dn ds rn rs xn xs t q life : Nat) (dh dd rh rd xh xd : List UInt8) (bl : List E) (si : Bool) (sn ss : Nat) (sh sd : List UInt8) (since now e : Int)
  (ov : Bool)
  (hK : AP Tryz.prog 71 [.agg [.int .u64 (fl : Int), .int .i64 sum, .bool di, .int .u64 (dn : Int), .int .u64 (ds : Int), .str dh, .str dd, .bool ri, .int .u64 (rn : Int), .int .u64 (rs : Int), .str rh, .str rd, .bool xi, .int .u64 (xn : Int), .int .u64 (xs : Int), .str xh, .str xd, .int .u64 (t : Int), .int .u64 (q : Int), .int .u64 (life : Int), .sl .ext bl], .int .u64 since, .int .u64 now] (.int .i64 e) [])
  (hO : AP Tryz.prog 30 [.agg [.int .u64 (fl : Int), .int .i64 sum, .bool di, .int .u64 (dn : Int), .int .u64 (ds : Int), .str dh, .str dd, .bool ri, .int .u64 (rn : Int), .int .u64 (rs : Int), .str rh, .str rd, .bool xi, .int .u64 (xn : Int), .int .u64 (xs : Int), .str xh, .str xd, .int .u64 (t : Int), .int .u64 (q : Int), .int .u64 (life : Int), .sl .ext bl], .int .u64 since, .int .u64 now] (.tup [.bool ov, .int .i64 e]) [])
  (t1 : (e == 3) = false)
  (hE : AP Tryz.prog 32 [.agg [.bool si, .int .u64 (sn : Int), .int .u64 (ss : Int), .str sh, .str sd]] (.bool true) [])
  (t2 : ((si == false) && (((sn : Int) == 0) && (((ss : Int) == 0) && ((sh == []) && ((sd == []) && true))))) = true) :
  AP Tryz.prog 31 [.agg [.int .u64 (fl : Int), .int .i64 sum, .bool di, .int .u64 (dn : Int), .int .u64 (ds : Int), .str dh, .str dd, .bool ri, .int .u64 (rn : Int), .int .u64 (rs : Int), .str rh, .str rd, .bool xi, .int .u64 (xn : Int), .int .u64 (xs : Int), .str xh, .str xd, .int .u64 (t : Int), .int .u64 (q : Int), .int .u64 (life : Int), .sl .ext bl], .agg [.bool si, .int .u64 (sn : Int), .int .u64 (ss : Int), .str sh, .str sd], .int .u64 since, .int .u64 now] (.tup [.agg [.int .u64 0, .int .i64 0, .bool false, .int .u64 0, .int .u64 0, .str [], .str [], .bool false, .int .u64 0, .int .u64 0, .str [], .str [], .bool false, .int .u64 0, .int .u64 0, .str [], .str [], .int .u64 0, .int .u64 0, .int .u64 0, .sl .ext []], .int .i64 3]) [] := by
 refine AP.ofA ?_
 refine AC_of Tryz.func31 rfl Tryz.ntmps31 rfl rfl ?_
 repeat' (first | (apply AL_callPw (hK); kernel_rfl; (iterate 4 exact rfl)) | (apply AL_callPw (hO); kernel_rfl; (iterate 4 exact rfl)) | (apply AL_callPw (hE); kernel_rfl; (iterate 4 exact rfl)) | (apply AL_go ttok; exact rfl) | (apply AW_go ttok; exact rfl) | (apply K_go ttok; exact rfl) | (apply AL_guardT; (iterate 3 exact rfl); (first | with_reducible assumption | decide +kernel)) | (apply AL_pickF; exact rfl; (first | with_reducible assumption | decide +kernel); exact rfl; exact rfl) | (apply AW_condA; exact rfl; (first | with_reducible assumption | decide +kernel)) | (apply AL_eqS ttok; (iterate 4 exact rfl); (kernel_rfl); (kernel_rfl); (iterate 3 exact rfl)))
 all_goals (apply endQ []; (apply resG_ok ttok; exact rfl); (iterate 4 exact rfl))
 all_goals rfl
theorem on_4 [Known] [KnownU8] (fl : Nat) (sum : Int) (di ri xi : Bool) (dn ds rn rs xn xs t q life : Nat) (dh dd rh rd xh xd : List UInt8) (bl : List E) (si : Bool) (sn ss : Nat) (sh sd : List UInt8) (since now e : Int)
  (ov : Bool)
  (hK : AP Tryz.prog 71 [.agg [.int .u64 (fl : Int), .int .i64 sum, .bool di, .int .u64 (dn : Int), .int .u64 (ds : Int), .str dh, .str dd, .bool ri, .int .u64 (rn : Int), .int .u64 (rs : Int), .str rh, .str rd, .bool xi, .int .u64 (xn : Int), .int .u64 (xs : Int), .str xh, .str xd, .int .u64 (t : Int), .int .u64 (q : Int), .int .u64 (life : Int), .sl .ext bl], .int .u64 since, .int .u64 now] (.int .i64 e) [])
  (hO : AP Tryz.prog 30 [.agg [.int .u64 (fl : Int), .int .i64 sum, .bool di, .int .u64 (dn : Int), .int .u64 (ds : Int), .str dh, .str dd, .bool ri, .int .u64 (rn : Int), .int .u64 (rs : Int), .str rh, .str rd, .bool xi, .int .u64 (xn : Int), .int .u64 (xs : Int), .str xh, .str xd, .int .u64 (t : Int), .int .u64 (q : Int), .int .u64 (life : Int), .sl .ext bl], .int .u64 since, .int .u64 now] (.tup [.bool ov, .int .i64 e]) [])
  (t1 : (e == 3) = false)
  (hE : AP Tryz.prog 32 [.agg [.bool si, .int .u64 (sn : Int), .int .u64 (ss : Int), .str sh, .str sd]] (.bool true) [])
  (t2 : ((si == false) && (((sn : Int) == 0) && (((ss : Int) == 0) && ((sh == []) && ((sd == []) && true))))) = false)
  (t3 : (e != 0) = true) :
  AP Tryz.prog 31 [.agg [.int .u64 (fl : Int), .int .i64 sum, .bool di, .int .u64 (dn : Int), .int .u64 (ds : Int), .str dh, .str dd, .bool ri, .int .u64 (rn : Int), .int .u64 (rs : Int), .str rh, .str rd, .bool xi, .int .u64 (xn : Int), .int .u64 (xs : Int), .str xh, .str xd, .int .u64 (t : Int), .int .u64 (q : Int), .int .u64 (life : Int), .sl .ext bl], .agg [.bool si, .int .u64 (sn : Int), .int .u64 (ss : Int), .str sh, .str sd], .int .u64 since, .int .u64 now] (.tup [.agg [.int .u64 0, .int .i64 0, .bool false, .int .u64 0, .int .u64 0, .str [], .str [], .bool false, .int .u64 0, .int .u64 0, .str [], .str [], .bool false, .int .u64 0, .int .u64 0, .str [], .str [], .int .u64 0, .int .u64 0, .int .u64 0, .sl .ext []], .int .i64 e]) [] := by
 refine AP.ofA ?_
 refine AC_of Tryz.func31 rfl Tryz.ntmps31 rfl rfl ?_
 repeat' (first | (apply AL_callPw (hK); kernel_rfl; (iterate 4 exact rfl)) | (apply AL_callPw (hO); kernel_rfl; (iterate 4 exact rfl)) | (apply AL_callPw (hE); kernel_rfl; (iterate 4 exact rfl)) | (apply AL_go ttok; exact rfl) | (apply AW_go ttok; exact rfl) | (apply K_go ttok; exact rfl) | (apply AL_guardT; (iterate 3 exact rfl); (first | with_reducible assumption | decide +kernel)) | (apply AL_pickF; exact rfl; (first | with_reducible assumption | decide +kernel); exact rfl; exact rfl) | (apply AW_condA; exact rfl; (first | with_reducible assumption | decide +kernel)) | (apply AW_condB; exact rfl; (first | with_reducible assumption | decide +kernel)) | (apply AL_eqS ttok; (iterate 4 exact rfl); (kernel_rfl); (kernel_rfl); (iterate 3 exact rfl)))
 all_goals (apply endQ []; (apply resG_ok ttok; exact rfl); (iterate 4 exact rfl))
 all_goals rfl
theorem on_5 [Known] [KnownU8] (fl : Nat) (sum : Int) (di ri xi : Bool) (dn ds rn rs xn xs t q life : Nat) (dh dd rh rd xh xd : List UInt8) (bl : List E) (si : Bool) (sn ss : Nat) (sh sd : List UInt8) (since now e : Int)
  (hK : AP Tryz.prog 71 [.agg [.int .u64 (fl : Int), .int .i64 sum, .bool di, .int .u64 (dn : Int), .int .u64 (ds : Int), .str dh, .str dd, .bool ri, .int .u64 (rn : Int), .int .u64 (rs : Int), .str rh, .str rd, .bool xi, .int .u64 (xn : Int), .int .u64 (xs : Int), .str xh, .str xd, .int .u64 (t : Int), .int .u64 (q : Int), .int .u64 (life : Int), .sl .ext bl], .int .u64 since, .int .u64 now] (.int .i64 e) [])
  (hO : AP Tryz.prog 30 [.agg [.int .u64 (fl : Int), .int .i64 sum, .bool di, .int .u64 (dn : Int), .int .u64 (ds : Int), .str dh, .str dd, .bool ri, .int .u64 (rn : Int), .int .u64 (rs : Int), .str rh, .str rd, .bool xi, .int .u64 (xn : Int), .int .u64 (xs : Int), .str xh, .str xd, .int .u64 (t : Int), .int .u64 (q : Int), .int .u64 (life : Int), .sl .ext bl], .int .u64 since, .int .u64 now] (.tup [.bool true, .int .i64 e]) [])
  (t1 : (e == 3) = false)
  (hE : AP Tryz.prog 32 [.agg [.bool si, .int .u64 (sn : Int), .int .u64 (ss : Int), .str sh, .str sd]] (.bool true) [])
  (t2 : ((si == false) && (((sn : Int) == 0) && (((ss : Int) == 0) && ((sh == []) && ((sd == []) && true))))) = false)
  (t3 : (e != 0) = false) :
  AP Tryz.prog 31 [.agg [.int .u64 (fl : Int), .int .i64 sum, .bool di, .int .u64 (dn : Int), .int .u64 (ds : Int), .str dh, .str dd, .bool ri, .int .u64 (rn : Int), .int .u64 (rs : Int), .str rh, .str rd, .bool xi, .int .u64 (xn : Int), .int .u64 (xs : Int), .str xh, .str xd, .int .u64 (t : Int), .int .u64 (q : Int), .int .u64 (life : Int), .sl .ext bl], .agg [.bool si, .int .u64 (sn : Int), .int .u64 (ss : Int), .str sh, .str sd], .int .u64 since, .int .u64 now] (.tup [.agg [.int .u64 0, .int .i64 0, .bool false, .int .u64 0, .int .u64 0, .str [], .str [], .bool false, .int .u64 0, .int .u64 0, .str [], .str [], .bool false, .int .u64 0, .int .u64 0, .str [], .str [], .int .u64 0, .int .u64 0, .int .u64 0, .sl .ext []], .int .i64 18]) [] := by
 refine AP.ofA ?_
 refine AC_of Tryz.func31 rfl Tryz.ntmps31 rfl rfl ?_
 repeat' (first | (apply AL_callPw (hK); kernel_rfl; (iterate 4 exact rfl)) | (apply AL_callPw (hO); kernel_rfl; (iterate 4 exact rfl)) | (apply AL_callPw (hE); kernel_rfl; (iterate 4 exact rfl)) | (apply AL_go ttok; exact rfl) | (apply AW_go ttok; exact rfl) | (apply K_go ttok; exact rfl) | (apply AL_guardT; (iterate 3 exact rfl); (first | with_reducible assumption | decide +kernel)) | (apply AL_pickF; exact rfl; (first | with_reducible assumption | decide +kernel); exact rfl; exact rfl) | (apply AW_condA; exact rfl; (first | with_reducible assumption | decide +kernel)) | (apply AW_condB; exact rfl; (first | with_reducible assumption | decide +kernel)) | (apply AL_eqS ttok; (iterate 4 exact rfl); (kernel_rfl); (kernel_rfl); (iterate 3 exact rfl)))
 all_goals (apply endQ []; (apply resG_ok ttok; exact rfl); (iterate 4 exact rfl))
 all_goals rfl
theorem on_6 [Known] [KnownU8] (fl : Nat) (sum : Int) (di ri xi : Bool) (dn ds rn rs xn xs t q life : Nat) (dh dd rh rd xh xd : List UInt8) (bl : List E) (si : Bool) (sn ss : Nat) (sh sd : List UInt8) (since now e : Int)
  (hK : AP Tryz.prog 71 [.agg [.int .u64 (fl : Int), .int .i64 sum, .bool di, .int .u64 (dn : Int), .int .u64 (ds : Int), .str dh, .str dd, .bool ri, .int .u64 (rn : Int), .int .u64 (rs : Int), .str rh, .str rd, .bool xi, .int .u64 (xn : Int), .int .u64 (xs : Int), .str xh, .str xd, .int .u64 (t : Int), .int .u64 (q : Int), .int .u64 (life : Int), .sl .ext bl], .int .u64 since, .int .u64 now] (.int .i64 e) [])
  (hO : AP Tryz.prog 30 [.agg [.int .u64 (fl : Int), .int .i64 sum, .bool di, .int .u64 (dn : Int), .int .u64 (ds : Int), .str dh, .str dd, .bool ri, .int .u64 (rn : Int), .int .u64 (rs : Int), .str rh, .str rd, .bool xi, .int .u64 (xn : Int), .int .u64 (xs : Int), .str xh, .str xd, .int .u64 (t : Int), .int .u64 (q : Int), .int .u64 (life : Int), .sl .ext bl], .int .u64 since, .int .u64 now] (.tup [.bool false, .int .i64 e]) [])
  (t1 : (e == 3) = false)
  (hE : AP Tryz.prog 32 [.agg [.bool si, .int .u64 (sn : Int), .int .u64 (ss : Int), .str sh, .str sd]] (.bool true) [])
  (t2 : ((si == false) && (((sn : Int) == 0) && (((ss : Int) == 0) && ((sh == []) && ((sd == []) && true))))) = false)
  (t3 : (e != 0) = false)
  (hS : AP Tryz.prog 72 [.agg [.int .u64 (fl : Int), .int .i64 sum, .bool di, .int .u64 (dn : Int), .int .u64 (ds : Int), .str dh, .str dd, .bool ri, .int .u64 (rn : Int), .int .u64 (rs : Int), .str rh, .str rd, .bool xi, .int .u64 (xn : Int), .int .u64 (xs : Int), .str xh, .str xd, .int .u64 (t : Int), .int .u64 (q : Int), .int .u64 (life : Int), .sl .ext bl]] (.bool true) []) :
  AP Tryz.prog 31 [.agg [.int .u64 (fl : Int), .int .i64 sum, .bool di, .int .u64 (dn : Int), .int .u64 (ds : Int), .str dh, .str dd, .bool ri, .int .u64 (rn : Int), .int .u64 (rs : Int), .str rh, .str rd, .bool xi, .int .u64 (xn : Int), .int .u64 (xs : Int), .str xh, .str xd, .int .u64 (t : Int), .int .u64 (q : Int), .int .u64 (life : Int), .sl .ext bl], .agg [.bool si, .int .u64 (sn : Int), .int .u64 (ss : Int), .str sh, .str sd], .int .u64 since, .int .u64 now] (.tup [.agg [.int .u64 0, .int .i64 0, .bool false, .int .u64 0, .int .u64 0, .str [], .str [], .bool false, .int .u64 0, .int .u64 0, .str [], .str [], .bool false, .int .u64 0, .int .u64 0, .str [], .str [], .int .u64 0, .int .u64 0, .int .u64 0, .sl .ext []], .int .i64 19]) [] := by
 refine AP.ofA ?_
 refine AC_of Tryz.func31 rfl Tryz.ntmps31 rfl rfl ?_
 repeat' (first | (apply AL_callPw (hK); kernel_rfl; (iterate 4 exact rfl)) | (apply AL_callPw (hO); kernel_rfl; (iterate 4 exact rfl)) | (apply AL_callPw (hE); kernel_rfl; (iterate 4 exact rfl)) | (apply AL_callPw (hS); kernel_rfl; (iterate 4 exact rfl)) | (apply AL_go ttok; exact rfl) | (apply AW_go ttok; exact rfl) | (apply K_go ttok; exact rfl) | (apply AL_guardT; (iterate 3 exact rfl); (first | with_reducible assumption | decide +kernel)) | (apply AL_pickF; exact rfl; (first | with_reducible assumption | decide +kernel); exact rfl; exact rfl) | (apply AW_condA; exact rfl; (first | with_reducible assumption | decide +kernel)) | (apply AW_condB; exact rfl; (first | with_reducible assumption | decide +kernel)) | (apply AL_eqS ttok; (iterate 4 exact rfl); (kernel_rfl); (kernel_rfl); (iterate 3 exact rfl)))
 all_goals (apply endQ []; (apply resG_ok ttok; exact rfl); (iterate 4 exact rfl))
 all_goals rfl
end Go.Proofs.YtfkmicjlaedlkaaGreatDoor
end
section
open Go.RowKit Go.Pl Go.Av
namespace Go.Proofs.YtfkmicjlaedlkaaGreatDoor
set_option maxHeartbeats 4000000
theorem on_7 [Known] [KnownU8] (fl : Nat) (sum : Int) (di ri xi : Bool) (dn ds rn rs xn xs t q life : Nat) (dh dd rh rd xh xd : List UInt8) (bl : List BlkV) (si : Bool) (sn ss : Nat) (sh sd : List UInt8) (since now e : Int)
  (hK : AP Tryz.prog 71 [.agg [.int .u64 (fl : Int), .int .i64 sum, .bool di, .int .u64 (dn : Int), .int .u64 (ds : Int), .str dh, .str dd, .bool ri, .int .u64 (rn : Int), .int .u64 (rs : Int), .str rh, .str rd, .bool xi, .int .u64 (xn : Int), .int .u64 (xs : Int), .str xh, .str xd, .int .u64 (t : Int), .int .u64 (q : Int), .int .u64 (life : Int), .sl .ext (bksE bl)], .int .u64 since, .int .u64 now] (.int .i64 e) [])
  (hO : AP Tryz.prog 30 [.agg [.int .u64 (fl : Int), .int .i64 sum, .bool di, .int .u64 (dn : Int), .int .u64 (ds : Int), .str dh, .str dd, .bool ri, .int .u64 (rn : Int), .int .u64 (rs : Int), .str rh, .str rd, .bool xi, .int .u64 (xn : Int), .int .u64 (xs : Int), .str xh, .str xd, .int .u64 (t : Int), .int .u64 (q : Int), .int .u64 (life : Int), .sl .ext (bksE bl)], .int .u64 since, .int .u64 now] (.tup [.bool false, .int .i64 e]) []) (t1 : (e == 3) = false)
  (hE : AP Tryz.prog 32 [.agg [.bool si, .int .u64 (sn : Int), .int .u64 (ss : Int), .str sh, .str sd]] (.bool true) []) (t2 : ((si == false) && (((sn : Int) == 0) && (((ss : Int) == 0) && ((sh == []) && ((sd == []) && true))))) = false) (t3 : (e != 0) = false)
  (hS : AP Tryz.prog 72 [.agg [.int .u64 (fl : Int), .int .i64 sum, .bool di, .int .u64 (dn : Int), .int .u64 (ds : Int), .str dh, .str dd, .bool ri, .int .u64 (rn : Int), .int .u64 (rs : Int), .str rh, .str rd, .bool xi, .int .u64 (xn : Int), .int .u64 (xs : Int), .str xh, .str xd, .int .u64 (t : Int), .int .u64 (q : Int), .int .u64 (life : Int), .sl .ext (bksE bl)]] (.bool false) [])
  (hbl : bl.length <= 1000) (hok : ∀ c ∈ bl, okB3 c) (hfl : fl < 18446744073709551616)
  (preB : BlkV) (hpre : okB3 preB) (nn : Int) (hN : AP Tryz.prog 65 [.agg [.int .u64 (fl : Int), .int .i64 sum, .bool di, .int .u64 (dn : Int), .int .u64 (ds : Int), .str dh, .str dd, .bool ri, .int .u64 (rn : Int), .int .u64 (rs : Int), .str rh, .str rd, .bool xi, .int .u64 (xn : Int), .int .u64 (xs : Int), .str xh, .str xd, .int .u64 (t : Int), .int .u64 (q : Int), .int .u64 (life : Int), .sl .ext (bksE bl)]] (.int .u64 nn) []) (pe : Int) (hP : AP Tryz.prog 73 [.int .u64 nn, .int .i64 0, .agg [.bool si, .int .u64 (sn : Int), .int .u64 (ss : Int), .str sh, .str sd]] (.tup [.agg (bkC preB), .int .i64 pe]) [])
  (hF : AP Tryz.prog 28 [.agg [.int .u64 (fl : Int), .int .i64 sum, .bool di, .int .u64 (dn : Int), .int .u64 (ds : Int), .str dh, .str dd, .bool ri, .int .u64 (rn : Int), .int .u64 (rs : Int), .str rh, .str rd, .bool xi, .int .u64 (xn : Int), .int .u64 (xs : Int), .str xh, .str xd, .int .u64 (t : Int), .int .u64 (q : Int), .int .u64 (life : Int), .sl .ext (bksE bl)], .int .u64 6] (findD none) []) (d : D) (hd : onD (onEnd ⟨fl, sum, ⟨di, dn, ds, dh, dd⟩, ⟨ri, rn, rs, rh, rd⟩, ⟨xi, xn, xs, xh, xd⟩, t, q, life⟩ (onC ⟨si, sn, ss, sh, sd⟩ (IntKind.u64.wrap (now - since)) [preB] bl)) = d) :
  AP Tryz.prog 31 [.agg [.int .u64 (fl : Int), .int .i64 sum, .bool di, .int .u64 (dn : Int), .int .u64 (ds : Int), .str dh, .str dd, .bool ri, .int .u64 (rn : Int), .int .u64 (rs : Int), .str rh, .str rd, .bool xi, .int .u64 (xn : Int), .int .u64 (xs : Int), .str xh, .str xd, .int .u64 (t : Int), .int .u64 (q : Int), .int .u64 (life : Int), .sl .ext (bksE bl)], .agg [.bool si, .int .u64 (sn : Int), .int .u64 (ss : Int), .str sh, .str sd], .int .u64 since, .int .u64 now] d [] := by
 have hlen := bks_len bl
 have hU := uniK bl
 generalize hFq : onC ⟨si, sn, ss, sh, sd⟩ (IntKind.u64.wrap (now - since)) [preB] bl = F at hd
 obtain ⟨pty, pnum, pfl, psum, pdata⟩ := preB
 dsimp only [findD] at hF
 refine AP.ofA ?_
 refine AC_of Tryz.func31 rfl Tryz.ntmps31 rfl rfl ?_
 repeat' (first | (apply AL_callPw (hK); kernel_rfl; (iterate 4 exact rfl)) | (apply AL_callPw (hO); kernel_rfl; (iterate 4 exact rfl)) | (apply AL_callPw (hE); kernel_rfl; (iterate 4 exact rfl)) | (apply AL_callPw (hS); kernel_rfl; (iterate 4 exact rfl)) | (apply AL_callPw (hF); kernel_rfl; (iterate 4 exact rfl)) | (apply AL_callPw (hN); kernel_rfl; (iterate 4 exact rfl)) | (apply AL_callPw (hP); kernel_rfl; (iterate 4 exact rfl)) | (apply AL_append_nilZ ttok; (iterate 6 exact rfl); exact uniB_ok rfl; exact List.cons_ne_nil _ _; exact rfl; decide +kernel; decide +kernel; (iterate 3 exact rfl)) | (apply AL_go ttok; exact rfl) | (apply AW_go ttok; exact rfl) | (apply K_go ttok; exact rfl) | (apply AL_guardT; (iterate 3 exact rfl); (first | with_reducible assumption | decide +kernel)) | (apply AL_pickF; exact rfl; (first | with_reducible assumption | decide +kernel); exact rfl; exact rfl) | (apply AW_condA; exact rfl; (first | with_reducible assumption | decide +kernel)) | (apply AW_condB; exact rfl; (first | with_reducible assumption | decide +kernel)) | (apply AL_len ttok; (iterate 4 exact rfl)) | (apply AL_bsZ ttok; (iterate 12 exact rfl)) | (apply AL_eqS ttok; (iterate 4 exact rfl); (kernel_rfl); (kernel_rfl); (iterate 3 exact rfl)) | (apply AW_drawE 9 hmix; (decide +kernel); (kernel_rfl); (kernel_rfl); (kernel_rfl); exact rfl; exact rfl) | (apply AE_consZ; (iterate 4 exact rfl)) | exact AE.nil _ _ _ _ | (apply AEk_puT; exact rfl) | (apply AEk_efT; exact rfl) | (apply AEk_ef; exact rfl) | (apply AOt_mk; exact rfl; exact rfl; (decide +kernel); exact rfl) | (apply AO_puT; exact rfl) | (apply AO_efT; exact rfl) | (apply AO_ef; exact rfl) | exact AO.nil _ _ _ | (apply AOs_skip; (decide +kernel)) | (apply AOs_goZ; (iterate 3 exact rfl)) | exact AOs.nil | exact qY_ok rfl rfl | exact qY_ef rfl rfl | exact qY_efn rfl)
 show AW _ _ _ _
 refine AW_loopJ (fun f tm bx fr => ∃ (i c : Nat) (acc : List BlkV) (f0 : Fr), f + i = bl.length /\ c = (bksE acc).length /\ (∀ c ∈ acc, okB3 c) /\ acc.length <= i + 1 /\ onC ⟨si, sn, ss, sh, sd⟩ (IntKind.u64.wrap (now - since)) acc (bl.drop i) = F /\ tm = [(2, .int .u64 since), (3, .int .u64 now), (4, .ptr 0 0), (5, .ptr 1 0), (8, .ptr 2 0), (13, .ptr 3 0), (83, .sl .ext (bksE bl)), (84, .int .i64 ((bksE bl).length : Int)), (85, .int .i64 (i : Int))] /\
   ((acc = [] /\ bx = [[.int .u64 (fl : Int), .int .i64 sum, .bool di, .int .u64 (dn : Int), .int .u64 (ds : Int), .str dh, .str dd, .bool ri, .int .u64 (rn : Int), .int .u64 (rs : Int), .str rh, .str rd, .bool xi, .int .u64 (xn : Int), .int .u64 (xs : Int), .str xh, .str xd, .int .u64 (t : Int), .int .u64 (q : Int), .int .u64 (life : Int), .sl .ext (bksE bl)], [.bool si, .int .u64 (sn : Int), .int .u64 (ss : Int), .str sh, .str sd], [.int .u64 0, .int .i64 0, .bool false, .int .u64 0, .int .u64 0, .str [], .str [], .bool false, .int .u64 0, .int .u64 0, .str [], .str [], .bool false, .int .u64 0, .int .u64 0, .str [], .str [], .int .u64 0, .int .u64 0, .int .u64 0, .sl .nil []], [.int .u64 (fl : Int), .int .i64 sum, .bool di, .int .u64 (dn : Int), .int .u64 (ds : Int), .str dh, .str dd, .bool ri, .int .u64 (rn : Int), .int .u64 (rs : Int), .str rh, .str rd, .bool xi, .int .u64 (xn : Int), .int .u64 (xs : Int), .str xh, .str xd, .int .u64 (t : Int), .int .u64 (q : Int), .int .u64 (life : Int), .sl .nil []]] /\ fr = []) \/
   (bx = [[.int .u64 (fl : Int), .int .i64 sum, .bool di, .int .u64 (dn : Int), .int .u64 (ds : Int), .str dh, .str dd, .bool ri, .int .u64 (rn : Int), .int .u64 (rs : Int), .str rh, .str rd, .bool xi, .int .u64 (xn : Int), .int .u64 (xs : Int), .str xh, .str xd, .int .u64 (t : Int), .int .u64 (q : Int), .int .u64 (life : Int), .sl .ext (bksE bl)], [.bool si, .int .u64 (sn : Int), .int .u64 (ss : Int), .str sh, .str sd], [.int .u64 0, .int .i64 0, .bool false, .int .u64 0, .int .u64 0, .str [], .str [], .bool false, .int .u64 0, .int .u64 0, .str [], .str [], .bool false, .int .u64 0, .int .u64 0, .str [], .str [], .int .u64 0, .int .u64 0, .int .u64 0, .sl .nil []], [.int .u64 (fl : Int), .int .i64 sum, .bool di, .int .u64 (dn : Int), .int .u64 (ds : Int), .str dh, .str dd, .bool ri, .int .u64 (rn : Int), .int .u64 (rs : Int), .str rh, .str rd, .bool xi, .int .u64 (xn : Int), .int .u64 (xs : Int), .str xh, .str xd, .int .u64 (t : Int), .int .u64 (q : Int), .int .u64 (life : Int), .sl (.own 1) (bksE acc)]] /\ fr = [f0, ⟨c, 5, 69⟩]))) (bl.length + 1) (Lands.mk' (m := bl.length) (Nat.lt_succ_self _) ⟨0, 1, [⟨pty, pnum, pfl, psum, pdata⟩], _, by omega, rfl, fun c hc => by simp at hc; subst hc; exact hpre, by simp, hFq, rfl, .inr ⟨rfl, rfl⟩⟩ ?_ rfl rfl rfl rfl rfl rfl) ?_
 ·exact .cons rfl (.cons rfl (.cons rfl (.cons rfl (.cons rfl (.cons rfl (.cons rfl (.cons rfl (.cons rfl .nil))))))))
 rintro f tm bx fr ⟨i, c, acc, f0, hf, hc, hab, hal, hq, rfl, hst⟩
 rcases Nat.lt_or_ge i bl.length with hlt | hge
 ·have hdl : decide ((i : Int) < ((bksE bl).length : Int)) = true := decide_eq_true (by omega)
  obtain ⟨z, hy⟩ : ∃ y, bl[i]? = some y := ⟨_, List.getElem?_eq_getElem hlt⟩
  have hzo := hok z (List.mem_of_getElem? hy)
  have hG := av_hChange z ⟨si, sn, ss, sh, sd⟩ (IntKind.u64.wrap (now - since)) (Nat.le_trans hzo.2 (by omega)) (hops_lt (Nat.le_trans hzo.2 (by omega)))
  have hco := change_ok ⟨si, sn, ss, sh, sd⟩ (IntKind.u64.wrap (now - since)) hzo
  have hdr : bl.drop i = z :: bl.drop (i + 1) := by
   rw [List.drop_eq_getElem_cons hlt]; congr 1
   exact (List.getElem?_eq_some_iff.1 hy).2
  rw [hdr, onC] at hq
  have ei : IntKind.i64.wrap ((i : Int) + 1) = ((i + 1 : Nat) : Int) := by rw [IntWalk.i64_in _ (by omega)]; omega
  have hv := bks_get hy
  generalize changeH z ⟨si, sn, ss, sh, sd⟩ (IntKind.u64.wrap (now - since)) = r at *
  obtain ⟨cb, ok⟩ := r
  obtain ⟨zty, znum, zfl, zsum, zdata⟩ := z
  dsimp only at hq hco
  cases ok with
  | false =>
   replace hG : AP Tryz.prog 74 _ (.tup [.agg (bkC cb), .bool false]) [] := hG
   dsimp only at hq
   subst hq
   dsimp only [onEnd] at hd
   subst hd
   rcases hst with ⟨rfl, rfl, rfl⟩ | ⟨rfl, rfl⟩
   ·repeat' (first | (apply AL_callPw (hG); kernel_rfl; (iterate 4 exact rfl)) | (apply AL_go ttok; exact rfl) | (apply AW_go ttok; exact rfl) | (apply K_go ttok; exact rfl) | (apply AW_condA; exact rfl; (first | with_reducible assumption | decide +kernel)) | (apply AL_idx ttok; (iterate 6 exact rfl); (first | with_reducible assumption | decide +kernel | exact Int.natCast_nonneg _ | (guard_target = (0:Int) <= (OfNat.ofNat _ : Int); decide) | rotate_left); (first | with_reducible assumption | decide +kernel | exact rfl); (first | exact uniB_ok rfl | with_reducible assumption | decide +kernel | rotate_left)))
    all_goals (apply endQ []; (apply resG_ok ttok; exact rfl); (iterate 4 exact rfl))
    all_goals rfl
   ·repeat' (first | (apply AL_callPw (hG); kernel_rfl; (iterate 4 exact rfl)) | (apply AL_go ttok; exact rfl) | (apply AW_go ttok; exact rfl) | (apply K_go ttok; exact rfl) | (apply AW_condA; exact rfl; (first | with_reducible assumption | decide +kernel)) | (apply AL_idx ttok; (iterate 6 exact rfl); (first | with_reducible assumption | decide +kernel | exact Int.natCast_nonneg _ | (guard_target = (0:Int) <= (OfNat.ofNat _ : Int); decide) | rotate_left); (first | with_reducible assumption | decide +kernel | exact rfl); (first | exact uniB_ok rfl | with_reducible assumption | decide +kernel | rotate_left)))
    all_goals (apply endQ []; (apply resG_ok ttok; exact rfl); (iterate 4 exact rfl))
    all_goals rfl
  | true =>
   replace hG : AP Tryz.prog 74 _ (.tup [.agg (bkC cb), .bool true]) [] := hG
   dsimp only at hq
   have hab2 : ∀ c ∈ acc ++ [cb], okB3 c := fun c hc => by
    rcases List.mem_append.1 hc with hc | hc
    ·exact hab c hc
    ·simp at hc; subst hc; exact hco
   have hU5 := uniK acc
   have hUc := uniK [cb]
   subst hc
   have hbk := bks_len acc
   rcases hst with ⟨rfl, rfl, rfl⟩ | ⟨rfl, rfl⟩
   ·repeat' (first | (apply AL_callPw (hG); kernel_rfl; (iterate 4 exact rfl)) | rw [ei] | (apply AL_append_nilZ ttok; (iterate 6 exact rfl); exact uniB_ok rfl; exact List.cons_ne_nil _ _; exact rfl; decide +kernel; decide +kernel; (iterate 3 exact rfl)) | (apply AL_go ttok; exact rfl) | (apply AW_go ttok; exact rfl) | (apply AW_condA; exact rfl; (first | with_reducible assumption | decide +kernel)) | (apply AW_condB; exact rfl; (first | with_reducible assumption | decide +kernel)) | (apply AL_bsZ ttok; (iterate 12 exact rfl)) | (apply AL_idx ttok; (iterate 6 exact rfl); (first | with_reducible assumption | decide +kernel | exact Int.natCast_nonneg _ | (guard_target = (0:Int) <= (OfNat.ofNat _ : Int); decide) | rotate_left); (first | with_reducible assumption | decide +kernel | exact rfl); (first | exact uniB_ok rfl | with_reducible assumption | decide +kernel | rotate_left)))
    refine Lands.mk' (m := f - 1) (by omega) ⟨i + 1, 1, [cb], _, by omega, rfl, hab2, by simp, hq, rfl, .inr ⟨rfl, rfl⟩⟩ ?_ rfl rfl rfl rfl rfl rfl
    exact .cons rfl (.cons rfl (.cons rfl (.cons rfl (.cons rfl (.cons rfl (.cons rfl (.cons rfl (.cons rfl .nil))))))))
   ·have hs : bksE acc ++ [bkE cb] = bksE (acc ++ [cb]) := (List.map_append (f := bkE) (l₁ := acc) (l₂ := [cb])).symm
    repeat' (first | (apply AL_callPw (hG); kernel_rfl; (iterate 4 exact rfl)) | rw [ei] | (apply AL_go ttok; exact rfl) | (apply AW_go ttok; exact rfl) | (apply AW_condA; exact rfl; (first | with_reducible assumption | decide +kernel)) | (apply AW_condB; exact rfl; (first | with_reducible assumption | decide +kernel)) | (apply AL_bsZ ttok; (iterate 12 exact rfl)) | (apply AL_append ttok; (iterate 6 exact rfl); (first | with_reducible assumption | decide +kernel | exact rfl | rotate_left); exact rfl; exact rfl; (first | exact uniB_ok rfl | with_reducible assumption | decide +kernel | rotate_left); (first | exact uniB_ok rfl | with_reducible assumption | decide +kernel | rotate_left); (first | exact List.cons_ne_nil _ _ | with_reducible assumption | decide +kernel | rotate_left); (first | with_reducible assumption | decide +kernel | rotate_left); (first | with_reducible assumption | decide +kernel | rotate_left); exact rfl; exact rfl) | (apply AL_idx ttok; (iterate 6 exact rfl); (first | with_reducible assumption | decide +kernel | exact Int.natCast_nonneg _ | (guard_target = (0:Int) <= (OfNat.ofNat _ : Int); decide) | rotate_left); (first | with_reducible assumption | decide +kernel | exact rfl); (first | exact uniB_ok rfl | with_reducible assumption | decide +kernel | rotate_left)))
    ·refine Lands.mk' (m := f - 1) (by omega) ⟨i + 1, (bksE acc).length + 1, acc ++ [cb], f0, by omega, by rw [<- hs, List.length_append]; rfl, hab2, by simp; omega, hq, rfl, .inr ⟨by rw [<- hs], rfl⟩⟩ ?_ rfl rfl rfl rfl rfl rfl
     exact .cons rfl (.cons rfl (.cons rfl (.cons rfl (.cons rfl (.cons rfl (.cons rfl (.cons rfl (.cons rfl .nil))))))))
    all_goals (first | rfl | (simp only [List.length_append, List.length_cons, List.length_nil, List.length_map, itEs_len]; done) | (simp only [List.length_append, List.length_cons, List.length_nil, List.length_map, itEs_len] at *; (try unfold maxLen); (try simp only [Nat.add_mul]); omega))
 ·have hdl : decide ((i : Int) < ((bksE bl).length : Int)) = false := decide_eq_false (by omega)
  have hqn : F = some acc := by
   rw [<- hq, List.drop_eq_nil_of_le hge, onC]
  subst hqn
  dsimp only [onEnd] at hd
  have hRt := av_bnRight ⟨⟨fl, sum, ⟨di, dn, ds, dh, dd⟩, ⟨ri, rn, rs, rh, rd⟩, ⟨xi, xn, xs, xh, xd⟩, t, q, life⟩, acc⟩ ⟨hfl, by show acc.length <= _; omega, hab⟩
  cases t13 : rightBn ⟨⟨fl, sum, ⟨di, dn, ds, dh, dd⟩, ⟨ri, rn, rs, rh, rd⟩, ⟨xi, xn, xs, xh, xd⟩, t, q, life⟩, acc⟩ with
  | false =>
   rw [t13] at hRt hd
   dsimp only at hd
   subst hd
   rcases hst with ⟨rfl, rfl, rfl⟩ | ⟨rfl, rfl⟩
   ·repeat' (first | (apply AL_callPw (hRt); kernel_rfl; (iterate 4 exact rfl)) | (apply AL_go ttok; exact rfl) | (apply AW_go ttok; exact rfl) | (apply K_go ttok; exact rfl) | (apply AW_condA; exact rfl; (first | with_reducible assumption | decide +kernel)) | (apply AW_condB; exact rfl; (first | with_reducible assumption | decide +kernel)))
    all_goals (apply endQ []; (apply resG_ok ttok; exact rfl); (iterate 4 exact rfl))
    all_goals rfl
   ·repeat' (first | (apply AL_callPw (hRt); kernel_rfl; (iterate 4 exact rfl)) | (apply AL_go ttok; exact rfl) | (apply AW_go ttok; exact rfl) | (apply K_go ttok; exact rfl) | (apply AW_condA; exact rfl; (first | with_reducible assumption | decide +kernel)) | (apply AW_condB; exact rfl; (first | with_reducible assumption | decide +kernel)))
    all_goals (apply endQ []; (apply resG_ok ttok; exact rfl); (iterate 4 exact rfl))
    all_goals rfl
  | true =>
   rw [t13] at hRt hd
   dsimp only at hd
   subst hd
   rcases hst with ⟨rfl, rfl, rfl⟩ | ⟨rfl, rfl⟩
   ·repeat' (first | (apply AL_callPw (hRt); kernel_rfl; (iterate 4 exact rfl)) | (apply AL_go ttok; exact rfl) | (apply AW_go ttok; exact rfl) | (apply K_go ttok; exact rfl) | (apply AW_condB; exact rfl; (first | with_reducible assumption | decide +kernel)))
    all_goals (apply endQ []; (apply resG_ok ttok; exact rfl); (iterate 4 exact rfl))
    all_goals rfl
   ·repeat' (first | (apply AL_callPw (hRt); kernel_rfl; (iterate 4 exact rfl)) | (apply AL_go ttok; exact rfl) | (apply AW_go ttok; exact rfl) | (apply K_go ttok; exact rfl) | (apply AW_condB; exact rfl; (first | with_reducible assumption | decide +kernel)))
    all_goals (apply endQ []; (apply resG_ok ttok; exact rfl); (iterate 4 exact rfl))
    all_goals rfl
end Go.Proofs.YtfkmicjlaedlkaaGreatDoor
end

/- HopKeeps' walk by cases (HpQyyy). -/
import Derived.Test.YtfkmicjlaedlkaaGreatDoorG31
set_option linter.unusedVariables false
set_option linter.unusedSimpArgs false
section
open Go.RowKit Go.Pl Go.Av
namespace Go.Proofs.YtfkmicjlaedlkaaGreatDoor
set_option maxHeartbeats 4000000
theorem hk_yyy [Known] [KnownU8] (fl : Nat) (sum : Int) (di ri xi : Bool) (dn ds rn rs xn xs t q life : Nat) (dh dd rh rd xh xd : List UInt8) (bl bl2 : List E) (si : Bool) (sn ss : Nat) (sh sd : List UInt8) (since now : Int) (pty pnum pfl : Nat) (psum : Int) (pdata : List E) (xl xm ex yl ym ey : Int) (xty xnum xfl : Nat) (xsum : Int) (xdata : List E) (yty ynum yfl : Nat) (ysum : Int) (ydata : List E) (ua eu va ev : Int) (uty unum ufl : Nat) (usum : Int) (udata : List E) (vty vnum vfl : Nat) (vsum : Int) (vdata : List E) (A A2 : Int) (pay : List UInt8)
  (hA : AP Tryz.prog 27 [] (.bool true) [])
  (hG : AP Tryz.prog 20 [hB fl sum di dn ds dh dd ri rn rs rh rd xi xn xs xh xd t q life bl] (.bool false) [])
  (w0 : decide (IntKind.i64.wrap ((sh.length : Int) + (sd.length : Int)) > 300) = false)
  (hO : AP Tryz.prog 31 [hB fl sum di dn ds dh dd ri rn rs rh rd xi xn xs xh xd t q life bl, .agg [.bool si, .int .u64 (sn : Int), .int .u64 (ss : Int), .str sh, .str sd], .int .u64 since, .int .u64 now] (.tup [hB fl sum di dn ds dh dd ri rn rs rh rd xi xn xs xh xd t q life bl2, .int .i64 0]) [])
  (hF6 : AP Tryz.prog 28 [hB fl sum di dn ds dh dd ri rn rs rh rd xi xn xs xh xd t q life bl2, .int .u64 6] (.tup [.agg [.int .u64 (pty : Int), .int .u64 (pnum : Int), .int .u64 (pfl : Int), .int .i64 psum, .sl .ext pdata], .bool true]) [])
  (hPr : AP Tryz.prog 34 [.agg [.int .u64 (pty : Int), .int .u64 (pnum : Int), .int .u64 (pfl : Int), .int .i64 psum, .sl .ext pdata]] (.tup [.agg [.bool si, .int .u64 (sn : Int), .int .u64 (ss : Int), .str sh, .str sd], .int .i64 0]) [])
  (hSelf : ((si == si) && (((sn : Int) == (sn : Int)) && (((ss : Int) == (ss : Int)) && ((sh == sh) && ((sd == sd) && true))))) = true)
  (hFx : AP Tryz.prog 28 [hB fl sum di dn ds dh dd ri rn rs rh rd xi xn xs xh xd t q life bl, .int .u64 10] (.tup [.agg [.int .u64 (xty : Int), .int .u64 (xnum : Int), .int .u64 (xfl : Int), .int .i64 xsum, .sl .ext xdata], .bool true]) [])
  (hHx : AP Tryz.prog 29 [.agg [.int .u64 (xty : Int), .int .u64 (xnum : Int), .int .u64 (xfl : Int), .int .i64 xsum, .sl .ext xdata]] (.tup [.int .u64 xl, .int .u64 xm, .int .i64 ex]) [])
  (hFy : AP Tryz.prog 28 [hB fl sum di dn ds dh dd ri rn rs rh rd xi xn xs xh xd t q life bl2, .int .u64 10] (.tup [.agg [.int .u64 (yty : Int), .int .u64 (ynum : Int), .int .u64 (yfl : Int), .int .i64 ysum, .sl .ext ydata], .bool true]) [])
  (hHy : AP Tryz.prog 29 [.agg [.int .u64 (yty : Int), .int .u64 (ynum : Int), .int .u64 (yfl : Int), .int .i64 ysum, .sl .ext ydata]] (.tup [.int .u64 yl, .int .u64 ym, .int .i64 ey]) [])
  (k1 : (yl == xl) = true)
  (k2 : (ym == IntKind.u64.wrap (xm + 1)) = true)
  (hFu : AP Tryz.prog 28 [hB fl sum di dn ds dh dd ri rn rs rh rd xi xn xs xh xd t q life bl, .int .u64 7] (.tup [.agg [.int .u64 7, .int .u64 (unum : Int), .int .u64 (ufl : Int), .int .i64 usum, .sl .ext udata], .bool true]) [])
  (hAu : AP Tryz.prog 35 [.agg [.int .u64 7, .int .u64 (unum : Int), .int .u64 (ufl : Int), .int .i64 usum, .sl .ext udata]] (.tup [.int .u64 ua, .int .i64 eu]) [])
  (hFv : AP Tryz.prog 28 [hB fl sum di dn ds dh dd ri rn rs rh rd xi xn xs xh xd t q life bl2, .int .u64 7] (.tup [.agg [.int .u64 7, .int .u64 (vnum : Int), .int .u64 (vfl : Int), .int .i64 vsum, .sl .ext vdata], .bool true]) [])
  (hAv : AP Tryz.prog 35 [.agg [.int .u64 7, .int .u64 (vnum : Int), .int .u64 (vfl : Int), .int .i64 vsum, .sl .ext vdata]] (.tup [.int .u64 va, .int .i64 ev]) [])
  (a1 : (va == IntKind.u64.wrap (ua + IntKind.u64.wrap (now - since))) = true)
  (hL : AP Tryz.prog 33 [hB fl sum di dn ds dh dd ri rn rs rh rd xi xn xs xh xd t q life bl, .int .u64 since, .int .u64 now] (.tup [.int .u64 A, .int .i64 0]) [])
  (hM : AP Tryz.prog 33 [hB fl sum di dn ds dh dd ri rn rs rh rd xi xn xs xh xd t q life bl2, .int .u64 now, .int .u64 now] (.tup [.int .u64 A2, .int .i64 0]) [])
  (tT : ((t : Int) == 0) = true)
  (m1 : (A2 == A) = true)
  (hPb : AP Tryz.prog 36 [hB fl sum di dn ds dh dd ri rn rs rh rd xi xn xs xh xd t q life bl] (byE pay) [])
  (hPc : AP Tryz.prog 36 [hB fl sum di dn ds dh dd ri rn rs rh rd xi xn xs xh xd t q life bl2] (byE pay) [])
  (p1 : (pay == pay) = true)
  (hP : (((fl : Int) == (fl : Int)) && ((sum == sum) && ((di == di) && (((dn : Int) == (dn : Int)) && (((ds : Int) == (ds : Int)) && ((dh == dh) && ((dd == dd) && ((ri == ri) && (((rn : Int) == (rn : Int)) && (((rs : Int) == (rs : Int)) && ((rh == rh) && ((rd == rd) && ((xi == xi) && (((xn : Int) == (xn : Int)) && (((xs : Int) == (xs : Int)) && ((xh == xh) && ((xd == xd) && (((t : Int) == (t : Int)) && (((q : Int) == (q : Int)) && (((life : Int) == (life : Int)) && true)))))))))))))))))))) = true)
  (hRt : AP Tryz.prog 26 [hB fl sum di dn ds dh dd ri rn rs rh rd xi xn xs xh xd t q life bl2] (.bool true) []) :
  AP Tryz.prog 7 [hB fl sum di dn ds dh dd ri rn rs rh rd xi xn xs xh xd t q life bl, .agg [.bool si, .int .u64 (sn : Int), .int .u64 (ss : Int), .str sh, .str sd], .int .u64 since, .int .u64 now] (.bool true) [] := by
 refine AP.ofA ?_
 refine AC_of Tryz.func7 rfl Tryz.ntmps7 rfl rfl ?_
 repeat' (first | (apply AL_callPw (hA); kernel_rfl; (iterate 4 exact rfl)) | (apply AL_callPw (hG); kernel_rfl; (iterate 4 exact rfl)) | (apply AL_callPw (hO); kernel_rfl; (iterate 4 exact rfl)) | (apply AL_callPw (hF6); kernel_rfl; (iterate 4 exact rfl)) | (apply AL_callPw (hPr); kernel_rfl; (iterate 4 exact rfl)) | (apply AL_callPw (hFx); kernel_rfl; (iterate 4 exact rfl)) | (apply AL_callPw (hHx); kernel_rfl; (iterate 4 exact rfl)) | (apply AL_callPw (hFy); kernel_rfl; (iterate 4 exact rfl)) | (apply AL_callPw (hHy); kernel_rfl; (iterate 4 exact rfl)) | (apply AL_callPw (hFu); kernel_rfl; (iterate 4 exact rfl)) | (apply AL_callPw (hAu); kernel_rfl; (iterate 4 exact rfl)) | (apply AL_callPw (hFv); kernel_rfl; (iterate 4 exact rfl)) | (apply AL_callPw (hAv); kernel_rfl; (iterate 4 exact rfl)) | (apply AL_callPw (hL); kernel_rfl; (iterate 4 exact rfl)) | (apply AL_callPw (hM); kernel_rfl; (iterate 4 exact rfl)) | (apply AL_callPw (hPb); kernel_rfl; (iterate 4 exact rfl)) | (apply AL_callPw (hPc); kernel_rfl; (iterate 4 exact rfl)) | (apply AL_callPw (hRt); kernel_rfl; (iterate 4 exact rfl)) | (apply AW_drawE 74 hmix; (decide +kernel); (kernel_rfl); (kernel_rfl); (kernel_rfl); exact rfl; exact rfl) | (apply AL_b2s ttok; (iterate 9 exact rfl)) | (apply AL_go ttok; exact rfl) | (apply AW_go ttok; exact rfl) | (apply K_go ttok; exact rfl) | (apply AL_guardT; (iterate 3 exact rfl); (first | with_reducible assumption | decide +kernel)) | (apply AL_pickT; exact rfl; (first | with_reducible assumption | decide +kernel); exact rfl; exact rfl) | (apply AL_pickF; exact rfl; (first | with_reducible assumption | decide +kernel); exact rfl; exact rfl) | (apply AW_condB; exact rfl; (first | with_reducible assumption | decide +kernel)) | (apply AL_lens ttok; (iterate 4 exact rfl)) | (apply AL_eqS ttok; (iterate 4 exact rfl); (kernel_rfl); (kernel_rfl); (iterate 3 exact rfl)) | (apply AE_consZ; (iterate 4 exact rfl)) | exact AE.nil _ _ _ _ | (apply AEk_puT; exact rfl) | (apply AOt_mk; exact rfl; exact rfl; (decide +kernel); exact rfl) | (apply AO_puT; exact rfl) | exact AO.nil _ _ _ | (apply AOs_skip; (decide +kernel)) | exact AOs.nil | exact qY_ok rfl rfl | (apply AL_b2s ttok; (iterate 9 exact rfl)))
 all_goals (apply endQ []; (apply resG_ok ttok; exact rfl); (iterate 4 exact rfl))
 all_goals rfl
end Go.Proofs.YtfkmicjlaedlkaaGreatDoor
end

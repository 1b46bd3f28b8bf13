/- HopKeeps' walk by cases (HpQnnn). -/
import Derived.Test.YtfkmicjlaedlkaaGreatDoorG31
import Derived.Test.YtfkmicjlaedlkaaGreatDoorG30
set_option linter.unusedVariables false
set_option linter.unusedSimpArgs false
section
open Go.RowKit Go.Pl Go.Av
namespace Go.Proofs.YtfkmicjlaedlkaaGreatDoor
set_option maxHeartbeats 4000000
theorem hk_nnn [Known] [KnownU8] (fl : Nat) (sum : Int) (di ri xi : Bool) (dn ds rn rs xn xs t q life : Nat) (dh dd rh rd xh xd : List UInt8) (bl bl2 : List E) (si : Bool) (sn ss : Nat) (sh sd : List UInt8) (since now : Int) (pty pnum pfl : Nat) (psum : Int) (pdata : List E) (xl xm ex yl ym ey : Int) (ua eu va ev : Int) (A A2 : Int) (pay : List UInt8)
  (hA : AP Tryz.prog 27 [] (.bool true) [])
  (hG : AP Tryz.prog 20 [hB fl sum di dn ds dh dd ri rn rs rh rd xi xn xs xh xd t q life bl] (.bool false) [])
  (w0 : decide (IntKind.i64.wrap ((sh.length : Int) + (sd.length : Int)) > 300) = false)
  (hO : AP Tryz.prog 31 [hB fl sum di dn ds dh dd ri rn rs rh rd xi xn xs xh xd t q life bl, .agg [.bool si, .int .u64 (sn : Int), .int .u64 (ss : Int), .str sh, .str sd], .int .u64 since, .int .u64 now] (.tup [hB fl sum di dn ds dh dd ri rn rs rh rd xi xn xs xh xd t q life bl2, .int .i64 0]) [])
  (hF6 : AP Tryz.prog 28 [hB fl sum di dn ds dh dd ri rn rs rh rd xi xn xs xh xd t q life bl2, .int .u64 6] (.tup [.agg [.int .u64 (pty : Int), .int .u64 (pnum : Int), .int .u64 (pfl : Int), .int .i64 psum, .sl .ext pdata], .bool true]) [])
  (hPr : AP Tryz.prog 34 [.agg [.int .u64 (pty : Int), .int .u64 (pnum : Int), .int .u64 (pfl : Int), .int .i64 psum, .sl .ext pdata]] (.tup [.agg [.bool si, .int .u64 (sn : Int), .int .u64 (ss : Int), .str sh, .str sd], .int .i64 0]) [])
  (hSelf : ((si == si) && (((sn : Int) == (sn : Int)) && (((ss : Int) == (ss : Int)) && ((sh == sh) && ((sd == sd) && true))))) = true)
  (hFx : AP Tryz.prog 28 [hB fl sum di dn ds dh dd ri rn rs rh rd xi xn xs xh xd t q life bl, .int .u64 10] (.tup [.agg [.int .u64 0, .int .u64 0, .int .u64 0, .int .i64 0, .sl .ext []], .bool false]) [])
  (hHx : AP Tryz.prog 29 [.agg [.int .u64 0, .int .u64 0, .int .u64 0, .int .i64 0, .sl .ext []]] (.tup [.int .u64 xl, .int .u64 xm, .int .i64 ex]) [])
  (hFy : AP Tryz.prog 28 [hB fl sum di dn ds dh dd ri rn rs rh rd xi xn xs xh xd t q life bl2, .int .u64 10] (.tup [.agg [.int .u64 0, .int .u64 0, .int .u64 0, .int .i64 0, .sl .ext []], .bool false]) [])
  (hFu : AP Tryz.prog 28 [hB fl sum di dn ds dh dd ri rn rs rh rd xi xn xs xh xd t q life bl, .int .u64 7] (.tup [.agg [.int .u64 0, .int .u64 0, .int .u64 0, .int .i64 0, .sl .ext []], .bool false]) [])
  (hAu : AP Tryz.prog 35 [.agg [.int .u64 0, .int .u64 0, .int .u64 0, .int .i64 0, .sl .ext []]] (.tup [.int .u64 ua, .int .i64 eu]) [])
  (hFv : AP Tryz.prog 28 [hB fl sum di dn ds dh dd ri rn rs rh rd xi xn xs xh xd t q life bl2, .int .u64 7] (.tup [.agg [.int .u64 0, .int .u64 0, .int .u64 0, .int .i64 0, .sl .ext []], .bool false]) [])
  (hL : AP Tryz.prog 33 [hB fl sum di dn ds dh dd ri rn rs rh rd xi xn xs xh xd t q life bl, .int .u64 since, .int .u64 now] (.tup [.int .u64 A, .int .i64 0]) [])
  (hM : AP Tryz.prog 33 [hB fl sum di dn ds dh dd ri rn rs rh rd xi xn xs xh xd t q life bl2, .int .u64 now, .int .u64 now] (.tup [.int .u64 A2, .int .i64 0]) [])
  (tT : ((t : Int) == 0) = false)
  (m1 : (A2 == A) = true)
  (hPb : AP Tryz.prog 36 [hB fl sum di dn ds dh dd ri rn rs rh rd xi xn xs xh xd t q life bl] (byE pay) [])
  (hPc : AP Tryz.prog 36 [hB fl sum di dn ds dh dd ri rn rs rh rd xi xn xs xh xd t q life bl2] (byE pay) [])
  (p1 : (pay == pay) = true)
  (hP : (((fl : Int) == (fl : Int)) && ((sum == sum) && ((di == di) && (((dn : Int) == (dn : Int)) && (((ds : Int) == (ds : Int)) && ((dh == dh) && ((dd == dd) && ((ri == ri) && (((rn : Int) == (rn : Int)) && (((rs : Int) == (rs : Int)) && ((rh == rh) && ((rd == rd) && ((xi == xi) && (((xn : Int) == (xn : Int)) && (((xs : Int) == (xs : Int)) && ((xh == xh) && ((xd == xd) && (((t : Int) == (t : Int)) && (((q : Int) == (q : Int)) && (((life : Int) == (life : Int)) && true)))))))))))))))))))) = true)
  (hRt : AP Tryz.prog 26 [hB fl sum di dn ds dh dd ri rn rs rh rd xi xn xs xh xd t q life bl2] (.bool true) []) :
  AP Tryz.prog 7 [hB fl sum di dn ds dh dd ri rn rs rh rd xi xn xs xh xd t q life bl, .agg [.bool si, .int .u64 (sn : Int), .int .u64 (ss : Int), .str sh, .str sd], .int .u64 since, .int .u64 now] (.bool true) [] := by
 refine AP.ofA ?_
 refine AC_of Tryz.func7 rfl Tryz.ntmps7 rfl rfl ?_
 repeat' (first | (apply AL_callPw (hA); kernel_rfl; (iterate 4 exact rfl)) | (apply AL_callPw (hG); kernel_rfl; (iterate 4 exact rfl)) | (apply AL_callPw (hO); kernel_rfl; (iterate 4 exact rfl)) | (apply AL_callPw (hF6); kernel_rfl; (iterate 4 exact rfl)) | (apply AL_callPw (hPr); kernel_rfl; (iterate 4 exact rfl)) | (apply AL_callPw (hFx); kernel_rfl; (iterate 4 exact rfl)) | (apply AL_callPw (hHx); kernel_rfl; (iterate 4 exact rfl)) | (apply AL_callPw (hFy); kernel_rfl; (iterate 4 exact rfl)) | (apply AL_callPw (hFu); kernel_rfl; (iterate 4 exact rfl)) | (apply AL_callPw (hAu); kernel_rfl; (iterate 4 exact rfl)) | (apply AL_callPw (hFv); kernel_rfl; (iterate 4 exact rfl)) | (apply AL_callPw (hL); kernel_rfl; (iterate 4 exact rfl)) | (apply AL_callPw (hM); kernel_rfl; (iterate 4 exact rfl)) | (apply AL_callPw (hPb); kernel_rfl; (iterate 4 exact rfl)) | (apply AL_callPw (hPc); kernel_rfl; (iterate 4 exact rfl)) | (apply AL_callPw (hRt); kernel_rfl; (iterate 4 exact rfl)) | (apply AW_drawE 74 hmix; (decide +kernel); (kernel_rfl); (kernel_rfl); (kernel_rfl); exact rfl; exact rfl) | (apply AL_b2s ttok; (iterate 9 exact rfl)) | (apply AL_go ttok; exact rfl) | (apply AW_go ttok; exact rfl) | (apply K_go ttok; exact rfl) | (apply AL_guardT; (iterate 3 exact rfl); (first | with_reducible assumption | decide +kernel)) | (apply AL_guardFt; (iterate 3 exact rfl); (first | with_reducible assumption | decide +kernel)) | (apply AL_guardFf; (iterate 3 exact rfl); (first | with_reducible assumption | decide +kernel)) | (apply AL_guardU; (iterate 3 exact rfl)) | (apply AL_pickT; exact rfl; (first | with_reducible assumption | decide +kernel); exact rfl; exact rfl) | (apply AL_pickF; exact rfl; (first | with_reducible assumption | decide +kernel); exact rfl; exact rfl) | (apply AW_condB; exact rfl; (first | with_reducible assumption | decide +kernel)) | (apply AL_lens ttok; (iterate 4 exact rfl)) | (apply AL_eqS ttok; (iterate 4 exact rfl); (kernel_rfl); (kernel_rfl); (iterate 3 exact rfl)) | (apply AE_consZ; (iterate 4 exact rfl)) | exact AE.nil _ _ _ _ | (apply AEk_puT; exact rfl) | (apply AOt_mk; exact rfl; exact rfl; (decide +kernel); exact rfl) | (apply AO_puT; exact rfl) | exact AO.nil _ _ _ | (apply AOs_skip; (decide +kernel)) | exact AOs.nil | exact qY_ok rfl rfl | (apply AL_b2s ttok; (iterate 9 exact rfl)))
 all_goals (apply endQ []; (apply resG_ok ttok; exact rfl); (iterate 4 exact rfl))
 all_goals rfl
end Go.Proofs.YtfkmicjlaedlkaaGreatDoor
end
section
open Go.RowKit Go.Pl Go.Av
namespace Go.Proofs.YtfkmicjlaedlkaaGreatDoor
set_option maxHeartbeats 4000000
def gB : BunV := ⟨⟨0, 0, eidZ, eidZ, eidZ, 5, 0, 10⟩, [⟨1, 1, 0, 0, [104, 105]⟩]⟩
def gS : EidV := ⟨false, 0, 0, [97], []⟩
def gC : BunV := ⟨⟨0, 0, eidZ, eidZ, eidZ, 5, 0, 10⟩, [⟨6, 2, 0, 0, [130, 1, 100, 47, 47, 97, 47]⟩, ⟨1, 1, 0, 0, [104, 105]⟩]⟩
theorem ga1 : overH gB 0 14 = false := by kernel_rfl
theorem ga2 : overH gB 0 15 = true := by kernel_rfl
theorem ga3 : LeftH gB 0 14 = (1, 0) := by kernel_rfl
theorem ga4 : LeftH gB 0 15 = (0, 0) := by kernel_rfl
theorem ga5 : LeftH gB 0 3 = (12, 0) := by kernel_rfl
theorem ga6 : LeftH gB 4 3 = (0, 1) := by kernel_rfl
theorem ga7 : onH gB gS 0 9 = (gC, 0) := by kernel_rfl
theorem ga8 : onH gB gS 0 15 = (bn0, 18) := by kernel_rfl
theorem ga9 : numH gC.bl = 3 := by kernel_rfl
theorem ok_gB : BunOk gB := ⟨by decide, by decide, by decide⟩
theorem ok_gC : BunOk gC := ⟨by decide, by decide, by decide⟩
theorem av_alive10 [Known] [KnownU8] : AP Tryz.prog 27 [] (.bool true) [] := by
 have h1 := fh7
 have h2 := av_hOver gB ok_gB 0 14
 rw [ga1, ga3] at h2
 have h3 := av_hOver gB ok_gB 0 15
 rw [ga2, ga4] at h3
 have h4 := av_hLeft gB ok_gB 0 3
 rw [ga5] at h4
 have h5 := av_hOn gB ok_gB (by decide) gS 0 9
 rw [ga7] at h5
 have h6 := av_hOn gB ok_gB (by decide) gS 0 15
 rw [ga8] at h6
 have h7 := av_hLeft gB ok_gB 4 3
 rw [ga6] at h7
 have h8 := av_hNumber gC ok_gC
 rw [ga9] at h8
 refine AP.ofA ?_
 refine AC_of Tryz.func27 rfl Tryz.ntmps27 rfl rfl ?_
 repeat' (first | (apply AL_callPw (h1); kernel_rfl; (iterate 4 exact rfl)) | (apply AL_callPw (h2); kernel_rfl; (iterate 4 exact rfl)) | (apply AL_callPw (h3); kernel_rfl; (iterate 4 exact rfl)) | (apply AL_callPw (h4); kernel_rfl; (iterate 4 exact rfl)) | (apply AL_callPw (h5); kernel_rfl; (iterate 4 exact rfl)) | (apply AL_callPw (h6); kernel_rfl; (iterate 4 exact rfl)) | (apply AL_callPw (h7); kernel_rfl; (iterate 4 exact rfl)) | (apply AL_callPw (h8); kernel_rfl; (iterate 4 exact rfl)) | (apply AL_go ttok; exact rfl) | (apply AW_go ttok; exact rfl) | (apply AL_guardT; (iterate 3 exact rfl); (first | with_reducible assumption | decide +kernel)) | (apply AL_pickT; exact rfl; (first | with_reducible assumption | decide +kernel); exact rfl; exact rfl) | (apply AL_len ttok; (iterate 4 exact rfl)) | (apply AL_cb ttok; (iterate 12 exact rfl)))
 all_goals (apply endQ []; (apply resG_ok ttok; exact rfl); (iterate 4 exact rfl))
 all_goals rfl
end Go.Proofs.YtfkmicjlaedlkaaGreatDoor
end

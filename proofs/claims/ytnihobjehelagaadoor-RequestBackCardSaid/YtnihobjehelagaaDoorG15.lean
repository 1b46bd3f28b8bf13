/- Package eid: numbers written; a name's text. -/
import Derived.Test.YtnihobjehelagaaDoorG14
import Derived.Shelf.Pu.Lays
import Derived.Shelf.Pu.ParseUintPublic10
import Derived.Test.YtnihobjehelagaaDoorProg
import Derived.Test.YtnihobjehelagaaDoorG11
import Derived.Lib.AtoiErrMem
import Derived.Test.YtnihobjehelagaaDoorG10
import Derived.Lib.Strings
import Derived.Lib.Slices
import Derived.Lib.Walk
import Derived.Lib.Bytealg
section
open Go.RowKit Go.Pl Go.Av
namespace Go.Proofs.YtnihobjehelagaaDoor
set_option linter.unusedVariables false
set_option linter.unusedSimpArgs false
set_option maxHeartbeats 4000000
/-- the powers of ten are known -/
class KnownPow [Known] : Prop where
  pow : 2 ∈ Known.ks
theorem pow_cells : dcs Rows.laid_internal_strconv_uint64pow10 = (List.range 20).map (fun i => Value.int .u64 ((10 ^ i : Nat) : Int)) := by kernel_rfl
theorem pow_mem : ((2, dcs Rows.laid_internal_strconv_uint64pow10) : Nat × List Value) ∈ tabs := by
  unfold tabs
  repeat (first | exact List.mem_cons_self .. | apply List.mem_cons_of_mem)
theorem dec_len (n : Nat) (hn : n < 18446744073709551616) : (Lib.decDigits n).length ≤ 20 := by
  rw [Lib.decDigits_length]
  rcases Nat.eq_zero_or_pos n with rfl | h
  · rw [Lib.nDigits_small (by omega)]; omega
  · have := Lib.numDigits_eq n h hn; split at this <;> omega
theorem av_fmtI [Known] [KnownPow] (n : Nat) (hn : n < 18446744073709551616) : AP Tryd.prog 105 [.int .u64 (n : Int), .int .i64 10] (.str (Lib.decDigits n)) [] := by
  refine ⟨fun g w vs hmem hl hv => ?_⟩
  obtain ⟨v0, v1, rfl⟩ : ∃ v0 v1, vs = [v0, v1] := by
    match vs, hl with
    | [v0, v1], _ => exact ⟨v0, v1, rfl⟩
  have h0 := (hv 0 _ _ rfl rfl).int_inv
  have h1 := (hv 1 _ _ rfl rfl).int_inv
  subst h0 h1
  have hc : ∀ i, i < 20 → w.cell? ⟨2, i, none⟩ = some (.int .u64 ((10 ^ i : Nat) : Int)) := fun i hi =>
    (hmem.gl.1 _ _ ⟨KnownPow.pow, pow_mem⟩ i _ (by rw [pow_cells, List.getElem?_map, List.getElem?_range hi]; rfl)).2
  exact (fmtI_walk n hn w hc).mono fun e w' ⟨he, hb⟩ => endBelow hmem hb he (.str _ (by have := dec_len n hn; unfold maxLen; omega))
theorem av_fmtU [Known] [KnownPow] (n : Nat) (hn : n < 18446744073709551616) : AP Tryd.prog 70 [.int .u64 (n : Int), .int .i64 10] (.str (Lib.decDigits n)) [] := by
  have h := av_fmtI n hn
  refine AP.ofA ?_
  refine AC_of Tryd.func70 rfl Tryd.ntmps70 rfl rfl ?_
  repeat' (first | (apply AL_callPw (h); kernel_rfl; (iterate 4 exact rfl)) | (apply AL_move; exact rfl; exact rfl) | (apply AL_assign; exact rfl; exact rfl) | refine AL_nil ?_ | refine AW_region ?_ | refine AW_seq' ?_ | refine then_norm ?_ | refine AW_ret ?_)
  all_goals (apply endQ []; (repeat (first | exact ResL.nil | (apply ResL.cons; first | exact .tmp _ _ rfl | (apply res_n ttok; (iterate 6 exact rfl)) | (apply res_1 ttok; (iterate 5 exact rfl))))); (iterate 4 exact rfl))
  all_goals rfl
/-- a name's text -/
def textE (x : EidV) : List UInt8 :=
  if isZ x then [100, 116, 110, 58, 110, 111, 110, 101]
  else if x.i then [105, 112, 110, 58] ++ Lib.decDigits x.n ++ [46] ++ Lib.decDigits x.s
  else [100, 116, 110, 58] ++ pathE x
theorem av_eText [Known] [KnownPow] (x : EidV) : AP Tryd.prog 36 [.agg (eC x)] (.tup [.str (if eRight x then textE x else []), .int .i64 (if eRight x then 0 else 3)]) [] := by
  have hR := av_eRight x
  cases hr : eRight x with
  | false =>
    rw [hr] at hR
    refine AP.ofA ?_
    refine AC_of Tryd.func36 rfl Tryd.ntmps36 rfl rfl ?_
    repeat' (first | (apply AL_callPw (hR); kernel_rfl; (iterate 4 exact rfl)) | (apply AL_assign; exact rfl; exact rfl) | (apply AL_loadn ttok; (iterate 7 exact rfl)) | (apply AL_boxZ; (iterate 5 exact rfl)) | (apply AL_not; exact rfl; exact rfl) | refine AL_nil ?_ | refine AW_region ?_ | refine AW_seq' ?_ | (apply AW_condA; exact rfl; (first | with_reducible assumption | decide +kernel)) | refine then_norm ?_ | refine AW_block ?_ | refine AW_ret ?_ | refine then_ret ?_ | refine blk_ret ?_)
    all_goals (apply endQ []; (repeat (first | exact ResL.nil | (apply ResL.cons; first | exact .tmp _ _ rfl | (apply res_n ttok; (iterate 6 exact rfl)) | (apply res_1 ttok; (iterate 5 exact rfl))))); (iterate 4 exact rfl))
    all_goals rfl
  | true =>
    rw [hr] at hR
    rw [if_pos rfl, if_pos rfl]
    unfold textE
    cases hz : isZ x with
    | true =>
      rw [if_pos rfl]
      unfold isZ at hz
      refine AP.ofA ?_
      refine AC_of Tryd.func36 rfl Tryd.ntmps36 rfl rfl ?_
      repeat' (first | (apply AL_callPw (hR); kernel_rfl; (iterate 4 exact rfl)) | (apply AL_assign; exact rfl; exact rfl) | (apply AL_loadn ttok; (iterate 7 exact rfl)) | (apply AL_boxZ; (iterate 5 exact rfl)) | (apply AL_not; exact rfl; exact rfl) | refine AL_nil ?_ | refine AW_region ?_ | refine AW_seq' ?_ | (apply AW_condA; exact rfl; (first | with_reducible assumption | decide +kernel)) | (apply AW_condB; exact rfl; (first | with_reducible assumption | decide +kernel)) | refine then_norm ?_ | refine AW_block ?_ | refine AW_ret ?_ | refine then_ret ?_ | refine blk_ret ?_ | (apply AL_build ttok; (iterate 6 exact rfl)) | (apply AL_eqS ttok; (iterate 4 exact rfl); (kernel_rfl); (kernel_rfl); (iterate 3 exact rfl)))
      all_goals (apply endQ []; (repeat (first | exact ResL.nil | (apply ResL.cons; first | exact .tmp _ _ rfl | (apply res_n ttok; (iterate 6 exact rfl)) | (apply res_1 ttok; (iterate 5 exact rfl))))); (iterate 4 exact rfl))
      all_goals rfl
    | false =>
      rw [if_neg (by simp)]
      cases hi : x.i with
      | true =>
        obtain ⟨b1, b2, _⟩ := eRight_num hr hz hi
        rw [if_pos rfl]
        have f1 := av_fmtU x.n (by omega)
        have f2 := av_fmtU x.s (by omega)
        have d1 := dec_len x.n (by omega)
        have d2 := dec_len x.s (by omega)
        generalize Lib.decDigits x.n = p at *
        generalize Lib.decDigits x.s = q at *
        have l1 : [(105 : UInt8), 112, 110, 58].length + p.length ≤ maxLen := by simp; unfold maxLen; omega
        have l2 : ([(105 : UInt8), 112, 110, 58] ++ p).length + [(46 : UInt8)].length ≤ maxLen := by simp; unfold maxLen; omega
        have l3 : ([(105 : UInt8), 112, 110, 58] ++ p ++ [46]).length + q.length ≤ maxLen := by simp; unfold maxLen; omega
        unfold isZ at hz
        refine AP.ofA ?_
        refine AC_of Tryd.func36 rfl Tryd.ntmps36 rfl rfl ?_
        repeat' (first | (apply AL_callPw (hR); kernel_rfl; (iterate 4 exact rfl)) | (apply AL_callPw (f1); kernel_rfl; (iterate 4 exact rfl)) | (apply AL_callPw (f2); kernel_rfl; (iterate 4 exact rfl)) | (apply AL_cat; exact rfl; exact rfl; (first | exact l1 | exact l2 | exact l3); exact rfl) | (apply AL_assign; exact rfl; exact rfl) | (apply AL_load1 ttok; (iterate 6 exact rfl)) | (apply AL_loadn ttok; (iterate 7 exact rfl)) | (apply AL_fieldAddr ttok; (iterate 7 exact rfl)) | (apply AL_boxZ; (iterate 5 exact rfl)) | (apply AL_not; exact rfl; exact rfl) | refine AL_nil ?_ | refine AW_region ?_ | refine AW_seq' ?_ | (apply AW_condA; exact rfl; (first | with_reducible assumption | decide +kernel)) | (apply AW_condB; exact rfl; (first | with_reducible assumption | decide +kernel)) | refine then_norm ?_ | refine AW_block ?_ | refine AW_ret ?_ | refine then_ret ?_ | refine blk_ret ?_ | (apply AL_build ttok; (iterate 6 exact rfl)) | (apply AL_eqS ttok; (iterate 4 exact rfl); (kernel_rfl); (kernel_rfl); (iterate 3 exact rfl)) | (apply AW_drawE 8 hmix; (decide +kernel); (kernel_rfl); (kernel_rfl); (kernel_rfl); exact rfl; exact rfl) | (apply AE_consZ; (iterate 4 exact rfl)) | exact AE.nil _ _ _ _ | (apply AEk_puT; exact rfl) | (apply AOt_mk; exact rfl; exact rfl; (decide +kernel); exact rfl) | (apply AO_puT; exact rfl) | exact AO.nil _ _ _ | (apply AOs_skip; (decide +kernel)) | exact AOs.nil | exact qY_ok rfl rfl)
        all_goals (apply endQ []; (repeat (first | exact ResL.nil | (apply ResL.cons; first | exact .tmp _ _ rfl | (apply res_n ttok; (iterate 6 exact rfl)) | (apply res_1 ttok; (iterate 5 exact rfl))))); (iterate 4 exact rfl))
        all_goals rfl
      | false =>
        obtain ⟨_, _, _, b1, b2, _⟩ := eRight_txt hr hz hi
        rw [if_neg (by simp)]
        have hP := av_path x b1 b2
        have hpl : (pathE x).length ≤ 100 := by unfold pathE; simp; omega
        generalize pathE x = p at *
        have l1 : [(100 : UInt8), 116, 110, 58].length + p.length ≤ maxLen := by simp; unfold maxLen; omega
        unfold isZ at hz
        refine AP.ofA ?_
        refine AC_of Tryd.func36 rfl Tryd.ntmps36 rfl rfl ?_
        repeat' (first | (apply AL_callPw (hR); kernel_rfl; (iterate 4 exact rfl)) | (apply AL_callPw (hP); kernel_rfl; (iterate 4 exact rfl)) | (apply AL_cat; exact rfl; exact rfl; exact l1; exact rfl) | (apply AL_assign; exact rfl; exact rfl) | (apply AL_load1 ttok; (iterate 6 exact rfl)) | (apply AL_loadn ttok; (iterate 7 exact rfl)) | (apply AL_fieldAddr ttok; (iterate 7 exact rfl)) | (apply AL_boxZ; (iterate 5 exact rfl)) | (apply AL_not; exact rfl; exact rfl) | refine AL_nil ?_ | refine AW_region ?_ | refine AW_seq' ?_ | (apply AW_condB; exact rfl; (first | with_reducible assumption | decide +kernel)) | refine then_norm ?_ | refine AW_block ?_ | refine AW_ret ?_ | (apply AL_build ttok; (iterate 6 exact rfl)) | (apply AL_eqS ttok; (iterate 4 exact rfl); (kernel_rfl); (kernel_rfl); (iterate 3 exact rfl)) | refine AW_skip ?_)
        all_goals (apply endQ []; (repeat (first | exact ResL.nil | (apply ResL.cons; first | exact .tmp _ _ rfl | (apply res_n ttok; (iterate 6 exact rfl)) | (apply res_1 ttok; (iterate 5 exact rfl))))); (iterate 4 exact rfl))
        all_goals rfl
end Go.Proofs.YtnihobjehelagaaDoor
end
/- A name's text is short. -/
section
open Go.RowKit Go.Pl Go.Av
namespace Go.Proofs.YtnihobjehelagaaDoor
set_option linter.unusedVariables false
set_option linter.unusedSimpArgs false
set_option maxHeartbeats 4000000
theorem text_len {x : EidV} (h : eRight x = true) : (textE x).length ≤ 100 := by
  unfold textE
  cases hz : isZ x with
  | true => rw [if_pos rfl]; decide
  | false =>
    rw [if_neg (by simp)]
    cases hi : x.i with
    | true =>
      obtain ⟨b1, b2, _⟩ := eRight_num h hz hi
      have d1 := dec_len x.n (by omega)
      have d2 := dec_len x.s (by omega)
      rw [if_pos rfl]
      simp only [List.length_append, List.length_cons, List.length_nil]
      omega
    | false =>
      obtain ⟨_, _, _, b1, b2, _⟩ := eRight_txt h hz hi
      rw [if_neg (by simp)]
      unfold pathE
      simp only [List.length_append, List.length_cons, List.length_nil]
      omega
end Go.Proofs.YtnihobjehelagaaDoor
end
/- Contracts of the library that are proved once, laid at this program: each body is held against the one that they were proved of. -/
section
namespace Go.Proofs.YtnihobjehelagaaDoor
open Go.Shelf
def laysPu_ren : Go.Shelf.Ren := ⟨fun | 14 => 108 | 16 => 130 | 17 => 131 | 19 => 141 | 20 => 142 | 21 => 143 | 22 => 144 | 23 => 145 | 24 => 146 | 25 => 153 | 27 => 155 | 26 => 154 | 28 => 158 | 29 => 159 | 30 => 124 | 31 => 125 | 32 => 126 | 33 => 127 | 35 => 136 | 34 => 135 | 36 => 137 | 37 => 138 | 38 => 139 | 39 => 147 | 40 => 148 | n => n, fun | 9 => 9 | 3 => 3 | 22 => 22 | 24 => 153 | 25 => 154 | 4 => 4 | 34 => 196 | 5 => 5 | 36 => 161 | 37 => 23 | 0 => 0 | 39 => 199 | 21 => 21 | 44 => 206 | 47 => 212 | 50 => 215 | 48 => 213 | 2 => 2 | 52 => 175 | 55 => 177 | 59 => 191 | 60 => 192 | 20 => 20 | 61 => 193 | 65 => 208 | 66 => 209 | 67 => 217 | n => n, fun | 0 => 4 | 1 => 5 | 2 => 2 | 3 => 6 | 4 => 7 | n => n⟩
theorem laysPu : Go.Proofs.LaysPu.n14 Tryd.prog laysPu_ren := {
  mixed := by kernel_rfl,
  f14 := Tryd.func108.trans (congrArg some (by kernel_rfl)),
  f16 := Tryd.func130.trans (congrArg some (by kernel_rfl)),
  f17 := Tryd.func131.trans (congrArg some (by kernel_rfl)),
  f19 := Tryd.func141.trans (congrArg some (by kernel_rfl)),
  f20 := Tryd.func142.trans (congrArg some (by kernel_rfl)),
  f21 := Tryd.func143.trans (congrArg some (by kernel_rfl)),
  f22 := Tryd.func144.trans (congrArg some (by kernel_rfl)),
  f23 := Tryd.func145.trans (congrArg some (by kernel_rfl)),
  f24 := Tryd.func146.trans (congrArg some (by kernel_rfl)),
  f25 := Tryd.func153.trans (congrArg some (by kernel_rfl)),
  f26 := Tryd.func154.trans (congrArg some (by kernel_rfl)),
  f27 := Tryd.func155.trans (congrArg some (by kernel_rfl)),
  f28 := Tryd.func158.trans (congrArg some (by kernel_rfl)),
  f29 := Tryd.func159.trans (congrArg some (by kernel_rfl)),
  f30 := Tryd.func124.trans (congrArg some (by kernel_rfl)),
  f31 := Tryd.func125.trans (congrArg some (by kernel_rfl)),
  f32 := Tryd.func126.trans (congrArg some (by kernel_rfl)),
  f33 := Tryd.func127.trans (congrArg some (by kernel_rfl)),
  f34 := Tryd.func135.trans (congrArg some (by kernel_rfl)),
  f35 := Tryd.func136.trans (congrArg some (by kernel_rfl)),
  f36 := Tryd.func137.trans (congrArg some (by kernel_rfl)),
  f37 := Tryd.func138.trans (congrArg some (by kernel_rfl)),
  f38 := Tryd.func139.trans (congrArg some (by kernel_rfl)),
  f39 := Tryd.func147.trans (congrArg some (by kernel_rfl)),
  f40 := Tryd.func148.trans (congrArg some (by kernel_rfl)),
  t0 := Tryd.underlying0,
  a0 := Tryd.isAgg0,
  z0 := Tryd.sizeOf0,
  v0 := Tryd.zeroValue0,
  i0 := by kernel_rfl,
  t2 := Tryd.underlying2,
  a2 := Tryd.isAgg2,
  z2 := Tryd.sizeOf2,
  v2 := Tryd.zeroValue2,
  i2 := by kernel_rfl,
  t3 := Tryd.underlying3,
  a3 := Tryd.isAgg3,
  z3 := Tryd.sizeOf3,
  v3 := Tryd.zeroValue3,
  i3 := by kernel_rfl,
  t4 := Tryd.underlying4,
  a4 := Tryd.isAgg4,
  z4 := Tryd.sizeOf4,
  v4 := Tryd.zeroValue4,
  i4 := by kernel_rfl,
  t5 := Tryd.underlying5,
  a5 := Tryd.isAgg5,
  z5 := Tryd.sizeOf5,
  v5 := Tryd.zeroValue5,
  i5 := by kernel_rfl,
  t9 := Tryd.underlying9,
  a9 := Tryd.isAgg9,
  z9 := Tryd.sizeOf9,
  v9 := Tryd.zeroValue9,
  i9 := by kernel_rfl,
  t20 := Tryd.underlying20,
  a20 := Tryd.isAgg20,
  z20 := Tryd.sizeOf20,
  v20 := Tryd.zeroValue20,
  i20 := by kernel_rfl,
  t21 := Tryd.underlying21,
  a21 := Tryd.isAgg21,
  z21 := Tryd.sizeOf21,
  v21 := Tryd.zeroValue21,
  i21 := by kernel_rfl,
  t22 := Tryd.underlying22,
  a22 := Tryd.isAgg22,
  z22 := Tryd.sizeOf22,
  v22 := Tryd.zeroValue22,
  i22 := by kernel_rfl,
  t24 := Tryd.underlying153,
  a24 := Tryd.isAgg153,
  z24 := Tryd.sizeOf153,
  v24 := Tryd.zeroValue153,
  i24 := by kernel_rfl,
  t25 := Tryd.underlying154,
  a25 := Tryd.isAgg154,
  z25 := Tryd.sizeOf154,
  v25 := Tryd.zeroValue154,
  i25 := by kernel_rfl,
  t34 := Tryd.underlying196,
  a34 := Tryd.isAgg196,
  z34 := Tryd.sizeOf196,
  v34 := Tryd.zeroValue196,
  i34 := by kernel_rfl,
  c34 := by kernel_rfl,
  t36 := Tryd.underlying161,
  a36 := Tryd.isAgg161,
  z36 := Tryd.sizeOf161,
  v36 := Tryd.zeroValue161,
  i36 := by kernel_rfl,
  t37 := Tryd.underlying23,
  a37 := Tryd.isAgg23,
  z37 := Tryd.sizeOf23,
  v37 := Tryd.zeroValue23,
  i37 := by kernel_rfl,
  t39 := Tryd.underlying199,
  a39 := Tryd.isAgg199,
  z39 := Tryd.sizeOf199,
  v39 := Tryd.zeroValue199,
  i39 := by kernel_rfl,
  t44 := Tryd.underlying206,
  a44 := Tryd.isAgg206,
  z44 := Tryd.sizeOf206,
  v44 := Tryd.zeroValue206,
  i44 := by kernel_rfl,
  t47 := Tryd.underlying212,
  a47 := Tryd.isAgg212,
  z47 := Tryd.sizeOf212,
  v47 := Tryd.zeroValue212,
  i47 := by kernel_rfl,
  t48 := Tryd.underlying213,
  a48 := Tryd.isAgg213,
  z48 := Tryd.sizeOf213,
  v48 := Tryd.zeroValue213,
  i48 := by kernel_rfl,
  t50 := Tryd.underlying215,
  a50 := Tryd.isAgg215,
  z50 := Tryd.sizeOf215,
  v50 := Tryd.zeroValue215,
  i50 := by kernel_rfl,
  t52 := Tryd.underlying175,
  a52 := Tryd.isAgg175,
  z52 := Tryd.sizeOf175,
  v52 := Tryd.zeroValue175,
  i52 := by kernel_rfl,
  t55 := Tryd.underlying177,
  a55 := Tryd.isAgg177,
  z55 := Tryd.sizeOf177,
  v55 := Tryd.zeroValue177,
  i55 := by kernel_rfl,
  t59 := Tryd.underlying191,
  a59 := Tryd.isAgg191,
  z59 := Tryd.sizeOf191,
  v59 := Tryd.zeroValue191,
  i59 := by kernel_rfl,
  t60 := Tryd.underlying192,
  a60 := Tryd.isAgg192,
  z60 := Tryd.sizeOf192,
  v60 := Tryd.zeroValue192,
  i60 := by kernel_rfl,
  t61 := Tryd.underlying193,
  a61 := Tryd.isAgg193,
  z61 := Tryd.sizeOf193,
  t65 := Tryd.underlying208,
  a65 := Tryd.isAgg208,
  z65 := Tryd.sizeOf208,
  v65 := Tryd.zeroValue208,
  i65 := by kernel_rfl,
  t66 := Tryd.underlying209,
  a66 := Tryd.isAgg209,
  z66 := Tryd.sizeOf209,
  v66 := Tryd.zeroValue209,
  i66 := by kernel_rfl,
  t67 := Tryd.underlying217,
  a67 := Tryd.isAgg217,
  z67 := Tryd.sizeOf217,
  v67 := Tryd.zeroValue217,
  i67 := by kernel_rfl,
  g0 := by kernel_rfl,
  m0 := by kernel_rfl,
  g1 := by kernel_rfl,
  m1 := by kernel_rfl,
  g2 := by kernel_rfl,
  m2 := by kernel_rfl,
  g3 := by kernel_rfl,
  m3 := by kernel_rfl,
  g4 := by kernel_rfl,
  m4 := by kernel_rfl }
end Go.Proofs.YtnihobjehelagaaDoor
end
/- strconv.ParseUint at base 10 and 32 bits: every text. -/
section
open Go.RowKit Go.Pl Go.Av Go.Shelf
namespace Go.Proofs.YtnihobjehelagaaDoor
set_option linter.unusedVariables false
set_option linter.unusedSimpArgs false
/-- what comes of a text that is read as a number -/
def puD (s : List UInt8) : D := match Lib.parseUintB 32 s with
  | .ok u => .tup [.int .u64 (u : Int), .nili]
  | .range => .tup [.int .u64 4294967295, .iface 199 .junk]
  | _ => .tup [.int .u64 0, .iface 199 .junk]
theorem synI : ((4, 213) : Nat × TypeId) ∈ tabI := by
  unfold tabI
  repeat (first | exact List.mem_cons_self .. | apply List.mem_cons_of_mem)
theorem rngI : ((5, 213) : Nat × TypeId) ∈ tabI := by
  unfold tabI
  repeat (first | exact List.mem_cons_self .. | apply List.mem_cons_of_mem)
theorem tup2_V {w : World} {g : G} {fr : List Fr} {d1 d2 : D} {v1 v2 : Value} (h1 : V w g fr d1 v1) (h2 : V w g fr d2 v2) : V w g fr (.tup [d1, d2]) (.tuple #[v1, v2]) := by
  refine .tup _ _ rfl fun j d v hd hv => ?_
  match j, hd, hv with
  | 0, hd, hv => simp at hd hv; subst hd hv; exact h1
  | 1, hd, hv => simp at hd hv; subst hd hv; exact h2
  | j + 2, hd, hv => simp at hd
theorem av_parseU [Known] [KnownSc] (s : List UInt8) (hs : s.length ≤ 281474976710656) : AP Tryd.prog 108 [.str s, .int .i64 10, .int .i64 32] (puD s) [] := by
  refine ⟨fun g w vs hmem hl hv => ?_⟩
  obtain ⟨v0, v1, v2, rfl⟩ : ∃ v0 v1 v2, vs = [v0, v1, v2] := by
    match vs, hl with
    | [v0, v1, v2], _ => exact ⟨v0, v1, v2, rfl⟩
  have h0 := (hv 0 _ _ rfl rfl).str_inv.1
  have h1 := (hv 1 _ _ rfl rfl).int_inv
  have h2 := (hv 2 _ _ rfl rfl).int_inv
  subst h0 h1 h2
  have hsz : (⟨s.toArray⟩ : ByteArray).size = s.length := by show s.toArray.size = _; simp
  have hds : (⟨s.toArray⟩ : ByteArray).data.toList = s := by simp
  unfold puD
  cases h : Lib.parseUintB 32 s with
  | ok u =>
    have hc : Calls Tryd.prog 108 _ w _ := Any.strconv_ParseUint_10_at32_ok (P := Tryd.prog) (ρ := laysPu_ren) laysPu ⟨s.toArray⟩ (by rw [hsz]; omega) u (by rw [hds]; exact h) w
    refine hc.mono fun e w' ⟨he, hw⟩ => endBelow hmem ?_ he (tup2_V (.int _ _) .nili)
    rcases hw with rfl | rfl
    · exact Below.refl _ _
    · exact Lib.bytesWorld_below _ _ _
  | range =>
    obtain ⟨_, v, hvv⟩ := hmem.gl.2 _ _ ⟨KnownSc.range, rngI⟩
    have hc : Calls Tryd.prog 108 _ w _ := Any.strconv_ParseUint_10_at32_range (P := Tryd.prog) (ρ := laysPu_ren) laysPu ⟨s.toArray⟩ (by rw [hsz]; omega) (by rw [hds]; exact h) _ w hvv (.inr ⟨_, _, rfl⟩)
    exact hc.mono fun e w' ⟨N, he, _, _, hb⟩ => endBelow hmem hb he (tup2_V (.int _ _) (.iface _ _ _ (.junk _)))
  | _ =>
    obtain ⟨_, v, hvv⟩ := hmem.gl.2 _ _ ⟨KnownSc.syn, synI⟩
    have hc : Calls Tryd.prog 108 _ w _ := Any.strconv_ParseUint_10_at32_syntax (P := Tryd.prog) (ρ := laysPu_ren) laysPu ⟨s.toArray⟩ (by rw [hsz]; omega) (by rw [hds]; exact h) _ w hvv (.inr ⟨_, _, rfl⟩)
    exact hc.mono fun e w' ⟨N, he, _, _, hb⟩ => endBelow hmem hb he (tup2_V (.int _ _) (.iface _ _ _ (.junk _)))
end Go.Proofs.YtnihobjehelagaaDoor
end
/- Names read out of texts: plain laws, no program in sight. -/
section
open Go.RowKit Go.Pl Go.Av
namespace Go.Proofs.YtnihobjehelagaaDoor
set_option linter.unusedVariables false
set_option linter.unusedSimpArgs false
/-- a text cut at a byte -/
def cutV (c : UInt8) : List UInt8 → List UInt8 × List UInt8 × Bool
  | [] => ([], [], false)
  | x :: s => if x = c then ([], s, true) else (x :: (cutV c s).1, (cutV c s).2.1, (cutV c s).2.2)
theorem cutV_no {c : UInt8} : ∀ {s : List UInt8}, c ∉ s → cutV c s = (s, [], false)
  | [], _ => rfl
  | x :: s, h => by
    have h1 : ¬ x = c := fun e => h (by rw [e]; exact List.mem_cons_self ..)
    have h2 := cutV_no (c := c) (s := s) fun hm => h (List.mem_cons_of_mem _ hm)
    rw [cutV, if_neg h1, h2]
theorem cutV_yes {c : UInt8} : ∀ {a b : List UInt8}, c ∉ a → cutV c (a ++ c :: b) = (a, b, true)
  | [], b, _ => by rw [List.nil_append, cutV, if_pos rfl]
  | x :: a, b, h => by
    have h1 : ¬ x = c := fun e => h (by rw [e]; exact List.mem_cons_self ..)
    have h2 := cutV_yes (c := c) (a := a) (b := b) fun hm => h (List.mem_cons_of_mem _ hm)
    rw [List.cons_append, cutV, if_neg h1, h2]
theorem cutV_back {c : UInt8} : ∀ {s : List UInt8}, (cutV c s).2.2 = true → s = (cutV c s).1 ++ c :: (cutV c s).2.1
  | [], h => by rw [cutV] at h; cases h
  | x :: s, h => by
    rw [cutV] at h ⊢
    by_cases e : x = c
    · rw [if_pos e]; rw [e]; rfl
    · rw [if_neg e] at h ⊢
      have := cutV_back (c := c) (s := s) h
      dsimp only
      rw [List.cons_append, ← this]
/-- a prefix cut off -/
def preV (p s : List UInt8) : List UInt8 × Bool := if s.take p.length == p then (s.drop p.length, true) else (s, false)
theorem preV_app (p r : List UInt8) : preV p (p ++ r) = (r, true) := by
  unfold preV
  rw [List.take_left, beq_self_eq_true, if_pos rfl, List.drop_left]
theorem preV_no {p s : List UInt8} (h : (s.take p.length == p) = false) : preV p s = (s, false) := by
  unfold preV; rw [h]; rfl
theorem preV_back {p s : List UInt8} (h : (preV p s).2 = true) : s = p ++ (preV p s).1 := by
  unfold preV at h ⊢
  split at h
  · rename_i hp
    rw [if_pos hp]
    have := beq_iff_eq.1 hp
    conv => lhs; rw [← List.take_append_drop p.length s, this]
  · cases h
def puN (s : List UInt8) : Nat := match Lib.parseUintB 32 s with
  | .ok u => u
  | .range => 4294967295
  | _ => 0
def puB (s : List UInt8) : Bool := match Lib.parseUintB 32 s with
  | .ok _ => true
  | _ => false
theorem puN_le (s : List UInt8) : puN s ≤ 4294967295 := by
  unfold puN
  cases h : Lib.parseUintB 32 s with
  | ok u => exact Lib.parseUintB_le h
  | range => exact Nat.le_refl _
  | _ => exact Nat.zero_le _
theorem puD_eq (s : List UInt8) : puD s = .tup [.int .u64 (puN s : Int), if puB s then .nili else .iface 199 .junk] := by
  unfold puD puN puB
  cases h : Lib.parseUintB 32 s <;> rfl
theorem puM_app {M : Nat} : ∀ {l r : List UInt8} {acc v : Nat}, Lib.parseUintM M acc l = .ok v → Lib.parseUintM M acc (l ++ r) = Lib.parseUintM M v r
  | [], r, acc, v, h => by
    rw [Lib.parseUintM] at h
    injection h with h
    rw [List.nil_append, h]
  | c :: l, r, acc, v, h => by
    rw [Lib.parseUintM] at h
    rw [List.cons_append, Lib.parseUintM]
    split at h
    · rename_i h1
      rw [if_pos h1]
      split at h
      · cases h
      · rename_i h2
        rw [if_neg h2]
        split at h
        · cases h
        · rename_i h3
          rw [if_neg h3]
          exact puM_app h
    · cases h
theorem dig_nat {k : Nat} (h : k < 10) : (UInt8.ofNat (48 + k)).toNat = 48 + k := by
  rw [UInt8.toNat_ofNat']; omega
theorem puM_dec : ∀ (u : Nat), u ≤ 4294967295 → Lib.parseUintM 4294967295 0 (Lib.decDigits u) = .ok u := by
  intro u
  induction u using Nat.strongRecOn with
  | _ u ih =>
    intro hu
    rw [Lib.decDigits]
    by_cases h : u < 10
    · rw [dif_pos h, Lib.parseUintM, dig_nat h, if_pos (by omega), if_neg (by omega), if_neg (by omega), Lib.parseUintM]
      congr 1; omega
    · rw [dif_neg h, puM_app (ih (u / 10) (by omega) (by omega)), Lib.parseUintM, dig_nat (by omega), if_pos (by omega), if_neg (by omega), if_neg (by omega), Lib.parseUintM]
      congr 1; omega
theorem dec_ne (u : Nat) : Lib.decDigits u ≠ [] := by
  intro h
  have := congrArg List.length h
  rw [Lib.decDigits_length] at this
  have := Lib.nDigits_pos u
  simp at *; omega
theorem pu_dec {u : Nat} (h : u ≤ 4294967295) : puN (Lib.decDigits u) = u ∧ puB (Lib.decDigits u) = true := by
  have e : Lib.parseUintB 32 (Lib.decDigits u) = .ok u := by
    unfold Lib.parseUintB
    rw [if_neg (dec_ne u)]
    exact puM_dec u h
  unfold puN puB
  rw [e]
  exact ⟨rfl, rfl⟩
theorem dec_digit : ∀ (u : Nat) (c : UInt8), c ∈ Lib.decDigits u → 48 ≤ c.toNat ∧ c.toNat ≤ 57 := by
  intro u
  induction u using Nat.strongRecOn with
  | _ u ih =>
    intro c hc
    rw [Lib.decDigits] at hc
    by_cases h : u < 10
    · rw [dif_pos h] at hc
      rw [List.mem_singleton] at hc
      subst hc
      have := dig_nat h
      rw [this]; omega
    · rw [dif_neg h] at hc
      rcases List.mem_append.1 hc with hc | hc
      · exact ih (u / 10) (by omega) c hc
      · rw [List.mem_singleton] at hc
        subst hc
        have := dig_nat (k := u % 10) (by omega)
        rw [this]; omega
/-- the name of two numbers -/
def pnV (s : List UInt8) : EidV × Bool :=
  (⟨true, puN (cutV 46 s).1, puN (cutV 46 s).2.1, [], []⟩, (cutV 46 s).2.2 && (puB (cutV 46 s).1 && (puB (cutV 46 s).2.1 && (eRight ⟨true, puN (cutV 46 s).1, puN (cutV 46 s).2.1, [], []⟩ && (Lib.decDigits (puN (cutV 46 s).1) == (cutV 46 s).1 && Lib.decDigits (puN (cutV 46 s).2.1) == (cutV 46 s).2.1)))))
/-- the name of a path -/
def ppV (s : List UInt8) : EidV × Bool :=
  (⟨false, 0, 0, (cutV 47 (preV [47, 47] s).1).1, (cutV 47 (preV [47, 47] s).1).2.1⟩, (preV [47, 47] s).2 && ((cutV 47 (preV [47, 47] s).1).2.2 && ((cutV 47 (preV [47, 47] s).1).1 != [] && eRight ⟨false, 0, 0, (cutV 47 (preV [47, 47] s).1).1, (cutV 47 (preV [47, 47] s).1).2.1⟩)))
def noneT : List UInt8 := [100, 116, 110, 58, 110, 111, 110, 101]
def ipnT : List UInt8 := [105, 112, 110, 58]
def dtnT : List UInt8 := [100, 116, 110, 58]
/-- the name of a text -/
def parseE (s : List UInt8) : EidV × Bool :=
  if s == noneT then (eidZ, true)
  else if (preV ipnT s).2 then pnV (preV ipnT s).1
  else if (preV dtnT s).2 then ppV (preV dtnT s).1
  else (eidZ, false)
theorem isZ_iff {x : EidV} : isZ x = true ↔ x = eidZ := by
  obtain ⟨i, n, s, h, d⟩ := x
  simp only [isZ, eidZ, Bool.and_eq_true, beq_iff_eq, EidV.mk.injEq]
  constructor
  · rintro ⟨h1, h2, h3, h4, h5, _⟩
    exact ⟨h1, by omega, by omega, h4, h5⟩
  · rintro ⟨h1, h2, h3, h4, h5⟩
    exact ⟨h1, by omega, by omega, h4, h5, trivial⟩
/-- what is read may be, and its text is what was read -/
theorem parse_text {s : List UInt8} (h : (parseE s).2 = true) : eRight (parseE s).1 = true ∧ textE (parseE s).1 = s := by
  unfold parseE at h ⊢
  by_cases h0 : (s == noneT) = true
  · rw [if_pos h0]
    refine ⟨by decide, ?_⟩
    rw [beq_iff_eq.1 h0]; decide
  rw [if_neg h0] at h ⊢
  by_cases h1 : (preV ipnT s).2 = true
  · rw [if_pos h1] at h ⊢
    have e1 := preV_back h1
    generalize (preV ipnT s).1 = r at *
    unfold pnV at h ⊢
    dsimp only at h ⊢
    simp only [Bool.and_eq_true, beq_iff_eq] at h
    obtain ⟨h2, h3, h4, h5, h6, h7⟩ := h
    refine ⟨h5, ?_⟩
    unfold textE
    rw [if_neg (by simp [isZ]), if_pos rfl, h6, h7, e1]
    have := cutV_back h2
    conv => rhs; rw [this]
    simp [ipnT]
  rw [if_neg h1] at h ⊢
  by_cases h2 : (preV dtnT s).2 = true
  · rw [if_pos h2] at h ⊢
    have e1 := preV_back h2
    generalize (preV dtnT s).1 = r at *
    unfold ppV at h ⊢
    dsimp only at h ⊢
    simp only [Bool.and_eq_true, bne_iff_ne] at h
    obtain ⟨h3, h4, h5, h6⟩ := h
    have e2 := preV_back h3
    generalize (preV [47, 47] r).1 = q at *
    refine ⟨h6, ?_⟩
    unfold textE
    rw [if_neg (by rw [isZ_iff]; intro e; exact h5 (congrArg EidV.h e)), if_neg (by simp), e1, e2]
    have := cutV_back h4
    conv => rhs; rw [this]
    simp [pathE, dtnT]
  · rw [if_neg h2] at h; cases h
theorem not_mem_dec {c : UInt8} (h : c.toNat < 48 ∨ 57 < c.toNat) (u : Nat) : c ∉ Lib.decDigits u := fun hm => by
  have := dec_digit u c hm
  omega
theorem not_mem_ok {m : Nat} {c : UInt8} {l : List UInt8} (hl : l.all (okB m) = true) (h : okB m c = false) : c ∉ l := fun hm => by
  have := List.all_eq_true.1 hl c hm
  rw [h] at this; cases this
/-- the text of a name that may be is read as this name -/
theorem text_parse {x : EidV} (h : eRight x = true) : parseE (textE x) = (x, true) := by
  unfold textE
  cases hz : isZ x with
  | true =>
    rw [if_pos rfl]
    rw [isZ_iff.1 hz]
    decide
  | false =>
    rw [if_neg (by simp)]
    cases hi : x.i with
    | true =>
      obtain ⟨b1, b2, b3, b4, b5⟩ := eRight_num h hz hi
      rw [if_pos rfl]
      have e1 : [105, 112, 110, 58] ++ Lib.decDigits x.n ++ [46] ++ Lib.decDigits x.s = ipnT ++ (Lib.decDigits x.n ++ 46 :: Lib.decDigits x.s) := by simp [ipnT]
      rw [e1]
      unfold parseE
      have e2 : (ipnT ++ (Lib.decDigits x.n ++ 46 :: Lib.decDigits x.s) == noneT) = false := by simp [ipnT, noneT]
      rw [e2, preV_app, if_neg (by simp), if_pos rfl]
      unfold pnV
      dsimp only
      rw [cutV_yes (not_mem_dec (by decide) x.n)]
      dsimp only
      rw [(pu_dec b1).1, (pu_dec b1).2, (pu_dec b2).1, (pu_dec b2).2]
      have ex : (⟨true, x.n, x.s, [], []⟩ : EidV) = x := by
        obtain ⟨i, n, s, hh, d⟩ := x
        simp only at hi b3 b4
        rw [hi, b3, b4]
      rw [ex, h]
      simp
    | false =>
      obtain ⟨b1, b2, b3, b4, b5, b6, b7⟩ := eRight_txt h hz hi
      rw [if_neg (by simp)]
      have e1 : [100, 116, 110, 58] ++ pathE x = dtnT ++ ([47, 47] ++ (x.h ++ 47 :: x.d)) := by simp [pathE, dtnT]
      rw [e1]
      unfold parseE
      have e2 : (dtnT ++ ([47, 47] ++ (x.h ++ 47 :: x.d)) == noneT) = false := by simp [dtnT, noneT]
      have e3 : preV ipnT (dtnT ++ ([47, 47] ++ (x.h ++ 47 :: x.d))) = (dtnT ++ ([47, 47] ++ (x.h ++ 47 :: x.d)), false) := preV_no (by simp [dtnT, ipnT])
      rw [e2, e3, preV_app, if_neg (by simp), if_neg (by simp), if_pos rfl]
      unfold ppV
      rw [preV_app]
      dsimp only
      rw [cutV_yes (not_mem_ok b6 (by decide))]
      dsimp only
      have ex : (⟨false, 0, 0, x.h, x.d⟩ : EidV) = x := by
        obtain ⟨i, n, s, hh, d⟩ := x
        simp only at hi b1 b2
        rw [hi, b1, b2]
      rw [ex, h]
      have : (x.h != []) = true := by
        rw [bne_iff_ne]
        intro e
        rw [e] at b3
        simp at b3
      rw [this]
      rfl
theorem text_inj {x y : EidV} (hx : eRight x = true) (hy : eRight y = true) (h : textE x = textE y) : x = y := by
  have h1 := text_parse hx
  have h2 := text_parse hy
  rw [h, h2] at h1
  exact (congrArg Prod.fst h1).symm
theorem text_no32 {x : EidV} (h : eRight x = true) : (32 : UInt8) ∉ textE x := by
  unfold textE
  cases hz : isZ x with
  | true => rw [if_pos rfl]; decide
  | false =>
    rw [if_neg (by simp)]
    cases hi : x.i with
    | true =>
      rw [if_pos rfl]
      intro hm
      simp only [List.mem_append] at hm
      rcases hm with ((hm | hm) | hm) | hm
      · revert hm; decide
      · exact not_mem_dec (by decide) _ hm
      · revert hm; decide
      · exact not_mem_dec (by decide) _ hm
    | false =>
      obtain ⟨b1, b2, b3, b4, b5, b6, b7⟩ := eRight_txt h hz hi
      rw [if_neg (by simp)]
      unfold pathE
      intro hm
      simp only [List.mem_append] at hm
      rcases hm with hm | ((hm | hm) | hm) | hm
      · revert hm; decide
      · revert hm; decide
      · exact not_mem_ok b6 (by decide) hm
      · revert hm; decide
      · exact not_mem_ok b7 (by decide) hm
theorem parse_32 (s : List UInt8) : (parseE (s ++ [32])).2 = false := by
  cases h : (parseE (s ++ [32])).2 with
  | false => rfl
  | true =>
    obtain ⟨h1, h2⟩ := parse_text h
    exfalso
    apply text_no32 h1
    rw [h2]
    simp
end Go.Proofs.YtnihobjehelagaaDoor
end
/- Fixed calls of package eid: names parsed and written. -/
section
open Go.RowKit Go.Pl Go.Av
namespace Go.Proofs.YtnihobjehelagaaDoor
set_option linter.unusedVariables false
set_option linter.unusedSimpArgs false
set_option maxHeartbeats 4000000
set_option maxRecDepth 100000 in
theorem ixb_walk (s : ByteArray) (c : Int) (w : World) : Calls Tryd.prog 149 #[.string s, .int .u8 c] w fun e w' => e = .returned (.int .i64 (Lib.indexByte s.data.toList c.toNat.toUInt8)) ∧ w' = w := by
  go_enter Tryd.func149, Tryd.ntmps149
  go_wp2
  rw [run_callFunc_extern Tryd.func156 (by kernel_rfl) (by kernel_rfl) (by kernel_rfl) (e := Extern.BytealgIndexByte.indexByte) (by kernel_rfl), Lib.run_indexByteString]
  simp only [Result.andThen]
  rw [Oper.upon_value]
  go_wp2
  go_ret
  exact ⟨rfl, rfl⟩
theorem av_ixb [Known] (s : List UInt8) (c : Int) : AP Tryd.prog 149 [.str s, .int .u8 c] (.int .i64 (Lib.indexByte s c.toNat.toUInt8)) [] := by
  refine ⟨fun g w vs hmem hl hv => ?_⟩
  obtain ⟨v0, v1, rfl⟩ : ∃ v0 v1, vs = [v0, v1] := by
    match vs, hl with
    | [v0, v1], _ => exact ⟨v0, v1, rfl⟩
  have h0 := (hv 0 _ _ rfl rfl).str_inv.1
  have h1 := (hv 1 _ _ rfl rfl).int_inv
  subst h0 h1
  exact (ixb_walk ⟨s.toArray⟩ c w).mono fun e w' ⟨he, hb⟩ => endBelow hmem (hb ▸ Below.refl _ _) he (.int _ _)
def e71 : EidV := ⟨true, 7, 1, [], []⟩
theorem cl_pu7 [Known] : AP Tryd.prog 108 [.str [55], .int .i64 10, .int .i64 32] (.tup [.int .u64 7, .nili]) [] := by
  refine AP.ofA ?_
  refine AC_of Tryd.func108 rfl Tryd.ntmps108 rfl rfl ?_
  repeat' (first | (apply AL_inZ Tryd.func130 Tryd.ntmps130; exact rfl; exact rfl; kernel_rfl; (iterate 6 exact rfl)) | (apply in_ret; (repeat (first | exact ResL.nil | (apply ResL.cons; first | exact .tmp _ _ rfl | (apply res_n ttok; (iterate 6 exact rfl)) | (apply res_1 ttok; (iterate 5 exact rfl))))); exact rfl) | refine AW_loopN 80 ?_ | refine AN_succ ?_ | (apply AL_s2b ttok; (iterate 8 exact rfl)) | (apply AL_ifnil; exact rfl; kernel_rfl; exact rfl; exact rfl) | (apply AL_move; exact rfl; exact rfl) | (apply AL_assign; exact rfl; exact rfl) | (apply AL_bin; (iterate 5 exact rfl)) | (apply AL_convT ttok; (iterate 5 exact rfl)) | (apply AL_extract; (iterate 3 exact rfl)) | refine AL_nil ?_ | (apply AL_guardT; (iterate 3 exact rfl); (first | with_reducible assumption | decide +kernel)) | (apply AL_guardFt; (iterate 3 exact rfl); (first | with_reducible assumption | decide +kernel)) | (apply AL_pickT; exact rfl; (first | with_reducible assumption | decide +kernel); exact rfl; exact rfl) | (apply AL_pickF; exact rfl; (first | with_reducible assumption | decide +kernel); exact rfl; exact rfl) | refine AW_region ?_ | refine AW_seq' ?_ | (apply AW_condA; exact rfl; (first | with_reducible assumption | decide +kernel)) | (apply AW_condB; exact rfl; (first | with_reducible assumption | decide +kernel)) | refine then_norm ?_ | refine AW_block ?_ | refine AW_exit ?_ | refine AW_ret ?_ | (apply AL_len ttok; (iterate 4 exact rfl)) | (apply AL_eload1 ttok; (iterate 6 exact rfl)) | (apply AL_str; (iterate 5 exact rfl)) | refine AW_skip ?_ | (apply AL_idx ttok; (iterate 6 exact rfl); (first | with_reducible assumption | decide +kernel | exact Int.natCast_nonneg _ | (guard_target = (0:Int) ≤ (OfNat.ofNat _ : Int); decide) | rotate_left); (first | with_reducible assumption | decide +kernel | exact rfl); (first | exact uniB_ok rfl | with_reducible assumption | decide +kernel | rotate_left)) | (apply AL_shl; exact rfl; exact rfl; (first | with_reducible assumption | decide +kernel | exact Int.natCast_nonneg _ | (exact (by decide)) | rotate_left); exact rfl))
  all_goals (apply endQ []; (repeat (first | exact ResL.nil | (apply ResL.cons; first | exact .tmp _ _ rfl | (apply res_n ttok; (iterate 6 exact rfl)) | (apply res_1 ttok; (iterate 5 exact rfl))))); (iterate 4 exact rfl))
  all_goals rfl
theorem cl_pu1 [Known] : AP Tryd.prog 108 [.str [49], .int .i64 10, .int .i64 32] (.tup [.int .u64 1, .nili]) [] := by
  refine AP.ofA ?_
  refine AC_of Tryd.func108 rfl Tryd.ntmps108 rfl rfl ?_
  repeat' (first | (apply AL_inZ Tryd.func130 Tryd.ntmps130; exact rfl; exact rfl; kernel_rfl; (iterate 6 exact rfl)) | (apply in_ret; (repeat (first | exact ResL.nil | (apply ResL.cons; first | exact .tmp _ _ rfl | (apply res_n ttok; (iterate 6 exact rfl)) | (apply res_1 ttok; (iterate 5 exact rfl))))); exact rfl) | refine AW_loopN 80 ?_ | refine AN_succ ?_ | (apply AL_s2b ttok; (iterate 8 exact rfl)) | (apply AL_ifnil; exact rfl; kernel_rfl; exact rfl; exact rfl) | (apply AL_move; exact rfl; exact rfl) | (apply AL_assign; exact rfl; exact rfl) | (apply AL_bin; (iterate 5 exact rfl)) | (apply AL_convT ttok; (iterate 5 exact rfl)) | (apply AL_extract; (iterate 3 exact rfl)) | refine AL_nil ?_ | (apply AL_guardT; (iterate 3 exact rfl); (first | with_reducible assumption | decide +kernel)) | (apply AL_guardFt; (iterate 3 exact rfl); (first | with_reducible assumption | decide +kernel)) | (apply AL_pickT; exact rfl; (first | with_reducible assumption | decide +kernel); exact rfl; exact rfl) | (apply AL_pickF; exact rfl; (first | with_reducible assumption | decide +kernel); exact rfl; exact rfl) | refine AW_region ?_ | refine AW_seq' ?_ | (apply AW_condA; exact rfl; (first | with_reducible assumption | decide +kernel)) | (apply AW_condB; exact rfl; (first | with_reducible assumption | decide +kernel)) | refine then_norm ?_ | refine AW_block ?_ | refine AW_exit ?_ | refine AW_ret ?_ | (apply AL_len ttok; (iterate 4 exact rfl)) | (apply AL_eload1 ttok; (iterate 6 exact rfl)) | (apply AL_str; (iterate 5 exact rfl)) | refine AW_skip ?_ | (apply AL_idx ttok; (iterate 6 exact rfl); (first | with_reducible assumption | decide +kernel | exact Int.natCast_nonneg _ | (guard_target = (0:Int) ≤ (OfNat.ofNat _ : Int); decide) | rotate_left); (first | with_reducible assumption | decide +kernel | exact rfl); (first | exact uniB_ok rfl | with_reducible assumption | decide +kernel | rotate_left)) | (apply AL_shl; exact rfl; exact rfl; (first | with_reducible assumption | decide +kernel | exact Int.natCast_nonneg _ | (exact (by decide)) | rotate_left); exact rfl))
  all_goals (apply endQ []; (repeat (first | exact ResL.nil | (apply ResL.cons; first | exact .tmp _ _ rfl | (apply res_n ttok; (iterate 6 exact rfl)) | (apply res_1 ttok; (iterate 5 exact rfl))))); (iterate 4 exact rfl))
  all_goals rfl
theorem cl_pn71 [Known] : AP Tryd.prog 73 [.str [55, 46, 49]] (.tup [.agg (eC e71), .bool true]) [] := by
  refine AP.ofA ?_
  refine AC_of Tryd.func73 rfl Tryd.ntmps73 rfl rfl ?_
  repeat' (first | (apply AL_callPw (cl_pu7); kernel_rfl; (iterate 4 exact rfl)) | (apply AL_callPw (cl_pu1); kernel_rfl; (iterate 4 exact rfl)) | (apply AL_callPw (av_ixb _ _); kernel_rfl; (iterate 4 exact rfl)) | (apply AL_callPw (av_eRight e71); kernel_rfl; (iterate 4 exact rfl)) | (apply AL_inZ Tryd.func107 Tryd.ntmps107; exact rfl; exact rfl; kernel_rfl; (iterate 6 exact rfl)) | (apply AL_inZ Tryd.func129 Tryd.ntmps129; exact rfl; exact rfl; kernel_rfl; (iterate 6 exact rfl)) | (apply AL_inZ Tryd.func140 Tryd.ntmps140; exact rfl; exact rfl; kernel_rfl; (iterate 6 exact rfl)) | (apply AL_inZ Tryd.func70 Tryd.ntmps70; exact rfl; exact rfl; kernel_rfl; (iterate 6 exact rfl)) | (apply AL_inZ Tryd.func105 Tryd.ntmps105; exact rfl; exact rfl; kernel_rfl; (iterate 6 exact rfl)) | (apply AL_inZ Tryd.func124 Tryd.ntmps124; exact rfl; exact rfl; kernel_rfl; (iterate 6 exact rfl)) | (apply in_ret; (repeat (first | exact ResL.nil | (apply ResL.cons; first | exact .tmp _ _ rfl | (apply res_n ttok; (iterate 6 exact rfl)) | (apply res_1 ttok; (iterate 5 exact rfl))))); exact rfl) | (apply AL_ifnil; exact rfl; kernel_rfl; exact rfl; exact rfl) | (apply AL_idxs ttok; (iterate 5 exact rfl); (first | exact Int.natCast_nonneg _ | decide +kernel); exact rfl) | (apply AL_sliceS ttok; (iterate 4 exact rfl); (first | exact .dft _ | exact .lit _ _ _ _ rfl (by decide +kernel)); (first | exact .dft _ | exact .lit _ _ _ _ rfl (by decide +kernel)); decide +kernel; decide +kernel; exact rfl) | (apply AL_move; exact rfl; exact rfl) | (apply AL_assign; exact rfl; exact rfl) | (apply AL_bin; (iterate 5 exact rfl)) | (apply AL_loadn ttok; (iterate 7 exact rfl)) | (apply AL_store ttok; (iterate 8 exact rfl)) | (apply AL_convT ttok; (iterate 5 exact rfl)) | (apply AL_extract; (iterate 3 exact rfl)) | refine AL_nil ?_ | (apply AL_guardT; (iterate 3 exact rfl); (first | with_reducible assumption | decide +kernel)) | (apply AL_pickT; exact rfl; (first | with_reducible assumption | decide +kernel); exact rfl; exact rfl) | (apply AL_pickF; exact rfl; (first | with_reducible assumption | decide +kernel); exact rfl; exact rfl) | refine AW_region ?_ | refine AW_seq' ?_ | (apply AW_condA; exact rfl; (first | with_reducible assumption | decide +kernel)) | (apply AW_condB; exact rfl; (first | with_reducible assumption | decide +kernel)) | refine then_norm ?_ | refine AW_block ?_ | refine AW_ret ?_ | (apply AL_lens ttok; (iterate 4 exact rfl)) | (apply AL_build ttok; (iterate 6 exact rfl)) | (apply AL_allocZ ttok; (iterate 4 exact rfl)) | (apply AL_str; (iterate 5 exact rfl)) | (apply AW_drawE 10 hmix; (decide +kernel); (kernel_rfl); (kernel_rfl); (kernel_rfl); exact rfl; exact rfl) | (apply AW_drawE 27 hmix; (decide +kernel); (kernel_rfl); (kernel_rfl); (kernel_rfl); exact rfl; exact rfl) | (apply AE_consZ; (iterate 4 exact rfl)) | exact AE.nil _ _ _ _ | (apply AEk_puT; exact rfl) | (apply AEk_ef; exact rfl) | (apply AOt_mk; exact rfl; exact rfl; (decide +kernel); exact rfl) | (apply AO_puT; exact rfl) | (apply AO_ef; exact rfl) | exact AO.nil _ _ _ | (apply AOs_skip; (decide +kernel)) | (apply AOs_goZ; (iterate 3 exact rfl)) | exact AOs.nil | exact qY_ok rfl rfl | exact qY_efn rfl)
  all_goals (apply endQ []; (repeat (first | exact ResL.nil | (apply ResL.cons; first | exact .tmp _ _ rfl | (apply res_n ttok; (iterate 6 exact rfl)) | (apply res_1 ttok; (iterate 5 exact rfl))))); (iterate 4 exact rfl))
  all_goals rfl
theorem cl_parse71 [Known] : AP Tryd.prog 37 [.str [105, 112, 110, 58, 55, 46, 49]] (.tup [.agg (eC e71), .int .i64 0]) [] := by
  refine AP.ofA ?_
  refine AC_of Tryd.func37 rfl Tryd.ntmps37 rfl rfl ?_
  repeat' (first | (apply AL_callPw (cl_pn71); kernel_rfl; (iterate 4 exact rfl)) | (apply AL_inZ Tryd.func72 Tryd.ntmps72; exact rfl; exact rfl; kernel_rfl; (iterate 6 exact rfl)) | (apply AL_inZ Tryd.func106 Tryd.ntmps106; exact rfl; exact rfl; kernel_rfl; (iterate 6 exact rfl)) | (apply AL_inZ Tryd.func128 Tryd.ntmps128; exact rfl; exact rfl; kernel_rfl; (iterate 6 exact rfl)) | (apply in_ret; (repeat (first | exact ResL.nil | (apply ResL.cons; first | exact .tmp _ _ rfl | (apply res_n ttok; (iterate 6 exact rfl)) | (apply res_1 ttok; (iterate 5 exact rfl))))); exact rfl) | (apply AL_sliceS ttok; (iterate 4 exact rfl); (first | exact .dft _ | exact .lit _ _ _ _ rfl (by decide +kernel)); (first | exact .dft _ | exact .lit _ _ _ _ rfl (by decide +kernel)); decide +kernel; decide +kernel; exact rfl) | (apply AL_move; exact rfl; exact rfl) | (apply AL_assign; exact rfl; exact rfl) | (apply AL_bin; (iterate 5 exact rfl)) | (apply AL_loadn ttok; (iterate 7 exact rfl)) | (apply AL_store ttok; (iterate 8 exact rfl)) | (apply AL_not; exact rfl; exact rfl) | (apply AL_extract; (iterate 3 exact rfl)) | refine AL_nil ?_ | (apply AL_guardT; (iterate 3 exact rfl); (first | with_reducible assumption | decide +kernel)) | (apply AL_pickT; exact rfl; (first | with_reducible assumption | decide +kernel); exact rfl; exact rfl) | refine AW_region ?_ | refine AW_seq' ?_ | (apply AW_condA; exact rfl; (first | with_reducible assumption | decide +kernel)) | (apply AW_condB; exact rfl; (first | with_reducible assumption | decide +kernel)) | refine then_norm ?_ | refine AW_ret ?_ | (apply AL_lens ttok; (iterate 4 exact rfl)) | (apply AL_allocZ ttok; (iterate 4 exact rfl)) | (apply AL_str; (iterate 5 exact rfl)) | refine AW_skip ?_)
  all_goals (apply endQ []; (repeat (first | exact ResL.nil | (apply ResL.cons; first | exact .tmp _ _ rfl | (apply res_n ttok; (iterate 6 exact rfl)) | (apply res_1 ttok; (iterate 5 exact rfl))))); (iterate 4 exact rfl))
  all_goals rfl
theorem cl_text71 [Known] : AP Tryd.prog 36 [.agg (eC e71)] (.tup [.str [105, 112, 110, 58, 55, 46, 49], .int .i64 0]) [] := by
  refine AP.ofA ?_
  refine AC_of Tryd.func36 rfl Tryd.ntmps36 rfl rfl ?_
  repeat' (first | (apply AL_callPw (av_eRight e71); kernel_rfl; (iterate 4 exact rfl)) | (apply AL_cat; exact rfl; exact rfl; decide; exact rfl) | (apply AL_inZ Tryd.func70 Tryd.ntmps70; exact rfl; exact rfl; kernel_rfl; (iterate 6 exact rfl)) | (apply AL_inZ Tryd.func105 Tryd.ntmps105; exact rfl; exact rfl; kernel_rfl; (iterate 6 exact rfl)) | (apply AL_inZ Tryd.func124 Tryd.ntmps124; exact rfl; exact rfl; kernel_rfl; (iterate 6 exact rfl)) | (apply in_ret; (repeat (first | exact ResL.nil | (apply ResL.cons; first | exact .tmp _ _ rfl | (apply res_n ttok; (iterate 6 exact rfl)) | (apply res_1 ttok; (iterate 5 exact rfl))))); exact rfl) | (apply AL_sliceS ttok; (iterate 4 exact rfl); (first | exact .dft _ | exact .lit _ _ _ _ rfl (by decide +kernel)); (first | exact .dft _ | exact .lit _ _ _ _ rfl (by decide +kernel)); decide +kernel; decide +kernel; exact rfl) | (apply AL_move; exact rfl; exact rfl) | (apply AL_assign; exact rfl; exact rfl) | (apply AL_bin; (iterate 5 exact rfl)) | (apply AL_load1 ttok; (iterate 6 exact rfl)) | (apply AL_loadn ttok; (iterate 7 exact rfl)) | (apply AL_fieldAddr ttok; (iterate 7 exact rfl)) | (apply AL_boxZ; (iterate 5 exact rfl)) | (apply AL_not; exact rfl; exact rfl) | (apply AL_convT ttok; (iterate 5 exact rfl)) | refine AL_nil ?_ | refine AW_region ?_ | refine AW_seq' ?_ | (apply AW_condA; exact rfl; (first | with_reducible assumption | decide +kernel)) | (apply AW_condB; exact rfl; (first | with_reducible assumption | decide +kernel)) | refine then_norm ?_ | refine AW_block ?_ | refine AW_ret ?_ | refine then_ret ?_ | refine blk_ret ?_ | (apply AL_build ttok; (iterate 6 exact rfl)) | (apply AL_eqS ttok; (iterate 4 exact rfl); (kernel_rfl); (kernel_rfl); (iterate 3 exact rfl)) | (apply AW_drawE 8 hmix; (decide +kernel); (kernel_rfl); (kernel_rfl); (kernel_rfl); exact rfl; exact rfl) | (apply AE_consZ; (iterate 4 exact rfl)) | exact AE.nil _ _ _ _ | (apply AEk_puT; exact rfl) | (apply AOt_mk; exact rfl; exact rfl; (decide +kernel); exact rfl) | (apply AO_puT; exact rfl) | exact AO.nil _ _ _ | (apply AOs_skip; (decide +kernel)) | exact AOs.nil | exact qY_ok rfl rfl)
  all_goals (apply endQ []; (repeat (first | exact ResL.nil | (apply ResL.cons; first | exact .tmp _ _ rfl | (apply res_n ttok; (iterate 6 exact rfl)) | (apply res_1 ttok; (iterate 5 exact rfl))))); (iterate 4 exact rfl))
  all_goals rfl
end Go.Proofs.YtnihobjehelagaaDoor
end

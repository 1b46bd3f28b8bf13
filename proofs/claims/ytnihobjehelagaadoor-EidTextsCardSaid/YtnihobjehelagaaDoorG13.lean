/- Contracts of the library that are proved once, laid at this program: each body is held against the one that they were proved of. -/
import Derived.Shelf.Pu.Lays
import Derived.Shelf.Pu.ParseUintPublic10
import Derived.Test.YtnihobjehelagaaDoorProg
import Derived.Test.YtnihobjehelagaaDoorG10
import Derived.Lib.AtoiErrMem
section
namespace Go.Proofs.YtnihobjehelagaaDoor
open Go.Shelf
def laysPu_ren : Go.Shelf.Ren := ⟨fun | 14 => 108 | 16 => 130 | 17 => 131 | 19 => 141 | 20 => 142 | 21 => 143 | 22 => 144 | 23 => 145 | 24 => 146 | 25 => 153 | 27 => 155 | 26 => 154 | 28 => 158 | 29 => 159 | 30 => 124 | 31 => 125 | 32 => 126 | 33 => 127 | 35 => 136 | 34 => 135 | 36 => 137 | 37 => 138 | 38 => 139 | 39 => 147 | 40 => 148 | n => n, fun | 9 => 9 | 3 => 3 | 22 => 22 | 24 => 153 | 25 => 154 | 4 => 4 | 34 => 196 | 5 => 5 | 36 => 161 | 37 => 23 | 0 => 0 | 39 => 199 | 21 => 21 | 44 => 206 | 47 => 212 | 50 => 215 | 48 => 213 | 2 => 2 | 52 => 175 | 55 => 177 | 59 => 191 | 60 => 192 | 20 => 20 | 61 => 193 | 65 => 208 | 66 => 209 | 67 => 217 | n => n, fun | 0 => 4 | 1 => 5 | 2 => 2 | 3 => 6 | 4 => 7 | n => n⟩
theorem laysPu : Go.Proofs.LaysPu.n14 Tryd.prog laysPu_ren := {
  mixed := by kernel_rfl,
  f14 := Tryd.func108.trans (congrArg some (by kernel_rfl)),
  f16 := Tryd.func130.trans (congrArg some (by kernel_rfl)),
  f17 := Tryd.func131.trans (congrArg some (by kernel_rfl)),
  f19 := Tryd.func141.trans (congrArg some (by kernel_rfl)),
  f20 := Tryd.func142.trans (congrArg some (by kernel_rfl)),
  f21 := Tryd.func143.trans (congrArg some (by kernel_rfl)),
  f22 := Tryd.func144.trans (congrArg some (by kernel_rfl)),
  f23 := Tryd.func145.trans (congrArg some (by kernel_rfl)),
  f24 := Tryd.func146.trans (congrArg some (by kernel_rfl)),
  f25 := Tryd.func153.trans (congrArg some (by kernel_rfl)),
  f26 := Tryd.func154.trans (congrArg some (by kernel_rfl)),
  f27 := Tryd.func155.trans (congrArg some (by kernel_rfl)),
  f28 := Tryd.func158.trans (congrArg some (by kernel_rfl)),
  f29 := Tryd.func159.trans (congrArg some (by kernel_rfl)),
  f30 := Tryd.func124.trans (congrArg some (by kernel_rfl)),
  f31 := Tryd.func125.trans (congrArg some (by kernel_rfl)),
  f32 := Tryd.func126.trans (congrArg some (by kernel_rfl)),
  f33 := Tryd.func127.trans (congrArg some (by kernel_rfl)),
  f34 := Tryd.func135.trans (congrArg some (by kernel_rfl)),
  f35 := Tryd.func136.trans (congrArg some (by kernel_rfl)),
  f36 := Tryd.func137.trans (congrArg some (by kernel_rfl)),
  f37 := Tryd.func138.trans (congrArg some (by kernel_rfl)),
  f38 := Tryd.func139.trans (congrArg some (by kernel_rfl)),
  f39 := Tryd.func147.trans (congrArg some (by kernel_rfl)),
  f40 := Tryd.func148.trans (congrArg some (by kernel_rfl)),
  t0 := Tryd.underlying0,
  a0 := Tryd.isAgg0,
  z0 := Tryd.sizeOf0,
  v0 := Tryd.zeroValue0,
  i0 := by kernel_rfl,
  t2 := Tryd.underlying2,
  a2 := Tryd.isAgg2,
  z2 := Tryd.sizeOf2,
  v2 := Tryd.zeroValue2,
  i2 := by kernel_rfl,
  t3 := Tryd.underlying3,
  a3 := Tryd.isAgg3,
  z3 := Tryd.sizeOf3,
  v3 := Tryd.zeroValue3,
  i3 := by kernel_rfl,
  t4 := Tryd.underlying4,
  a4 := Tryd.isAgg4,
  z4 := Tryd.sizeOf4,
  v4 := Tryd.zeroValue4,
  i4 := by kernel_rfl,
  t5 := Tryd.underlying5,
  a5 := Tryd.isAgg5,
  z5 := Tryd.sizeOf5,
  v5 := Tryd.zeroValue5,
  i5 := by kernel_rfl,
  t9 := Tryd.underlying9,
  a9 := Tryd.isAgg9,
  z9 := Tryd.sizeOf9,
  v9 := Tryd.zeroValue9,
  i9 := by kernel_rfl,
  t20 := Tryd.underlying20,
  a20 := Tryd.isAgg20,
  z20 := Tryd.sizeOf20,
  v20 := Tryd.zeroValue20,
  i20 := by kernel_rfl,
  t21 := Tryd.underlying21,
  a21 := Tryd.isAgg21,
  z21 := Tryd.sizeOf21,
  v21 := Tryd.zeroValue21,
  i21 := by kernel_rfl,
  t22 := Tryd.underlying22,
  a22 := Tryd.isAgg22,
  z22 := Tryd.sizeOf22,
  v22 := Tryd.zeroValue22,
  i22 := by kernel_rfl,
  t24 := Tryd.underlying153,
  a24 := Tryd.isAgg153,
  z24 := Tryd.sizeOf153,
  v24 := Tryd.zeroValue153,
  i24 := by kernel_rfl,
  t25 := Tryd.underlying154,
  a25 := Tryd.isAgg154,
  z25 := Tryd.sizeOf154,
  v25 := Tryd.zeroValue154,
  i25 := by kernel_rfl,
  t34 := Tryd.underlying196,
  a34 := Tryd.isAgg196,
  z34 := Tryd.sizeOf196,
  v34 := Tryd.zeroValue196,
  i34 := by kernel_rfl,
  c34 := by kernel_rfl,
  t36 := Tryd.underlying161,
  a36 := Tryd.isAgg161,
  z36 := Tryd.sizeOf161,
  v36 := Tryd.zeroValue161,
  i36 := by kernel_rfl,
  t37 := Tryd.underlying23,
  a37 := Tryd.isAgg23,
  z37 := Tryd.sizeOf23,
  v37 := Tryd.zeroValue23,
  i37 := by kernel_rfl,
  t39 := Tryd.underlying199,
  a39 := Tryd.isAgg199,
  z39 := Tryd.sizeOf199,
  v39 := Tryd.zeroValue199,
  i39 := by kernel_rfl,
  t44 := Tryd.underlying206,
  a44 := Tryd.isAgg206,
  z44 := Tryd.sizeOf206,
  v44 := Tryd.zeroValue206,
  i44 := by kernel_rfl,
  t47 := Tryd.underlying212,
  a47 := Tryd.isAgg212,
  z47 := Tryd.sizeOf212,
  v47 := Tryd.zeroValue212,
  i47 := by kernel_rfl,
  t48 := Tryd.underlying213,
  a48 := Tryd.isAgg213,
  z48 := Tryd.sizeOf213,
  v48 := Tryd.zeroValue213,
  i48 := by kernel_rfl,
  t50 := Tryd.underlying215,
  a50 := Tryd.isAgg215,
  z50 := Tryd.sizeOf215,
  v50 := Tryd.zeroValue215,
  i50 := by kernel_rfl,
  t52 := Tryd.underlying175,
  a52 := Tryd.isAgg175,
  z52 := Tryd.sizeOf175,
  v52 := Tryd.zeroValue175,
  i52 := by kernel_rfl,
  t55 := Tryd.underlying177,
  a55 := Tryd.isAgg177,
  z55 := Tryd.sizeOf177,
  v55 := Tryd.zeroValue177,
  i55 := by kernel_rfl,
  t59 := Tryd.underlying191,
  a59 := Tryd.isAgg191,
  z59 := Tryd.sizeOf191,
  v59 := Tryd.zeroValue191,
  i59 := by kernel_rfl,
  t60 := Tryd.underlying192,
  a60 := Tryd.isAgg192,
  z60 := Tryd.sizeOf192,
  v60 := Tryd.zeroValue192,
  i60 := by kernel_rfl,
  t61 := Tryd.underlying193,
  a61 := Tryd.isAgg193,
  z61 := Tryd.sizeOf193,
  t65 := Tryd.underlying208,
  a65 := Tryd.isAgg208,
  z65 := Tryd.sizeOf208,
  v65 := Tryd.zeroValue208,
  i65 := by kernel_rfl,
  t66 := Tryd.underlying209,
  a66 := Tryd.isAgg209,
  z66 := Tryd.sizeOf209,
  v66 := Tryd.zeroValue209,
  i66 := by kernel_rfl,
  t67 := Tryd.underlying217,
  a67 := Tryd.isAgg217,
  z67 := Tryd.sizeOf217,
  v67 := Tryd.zeroValue217,
  i67 := by kernel_rfl,
  g0 := by kernel_rfl,
  m0 := by kernel_rfl,
  g1 := by kernel_rfl,
  m1 := by kernel_rfl,
  g2 := by kernel_rfl,
  m2 := by kernel_rfl,
  g3 := by kernel_rfl,
  m3 := by kernel_rfl,
  g4 := by kernel_rfl,
  m4 := by kernel_rfl }
end Go.Proofs.YtnihobjehelagaaDoor
end
/- strconv.ParseUint at base 10 and 32 bits: every text. -/
section
open Go.RowKit Go.Pl Go.Av Go.Shelf
namespace Go.Proofs.YtnihobjehelagaaDoor
set_option linter.unusedVariables false
set_option linter.unusedSimpArgs false
/-- what comes of a text that is read as a number -/
def puD (s : List UInt8) : D := match Lib.parseUintB 32 s with
  | .ok u => .tup [.int .u64 (u : Int), .nili]
  | .range => .tup [.int .u64 4294967295, .iface 199 .junk]
  | _ => .tup [.int .u64 0, .iface 199 .junk]
theorem synI : ((4, 213) : Nat × TypeId) ∈ tabI := by
  unfold tabI
  repeat (first | exact List.mem_cons_self .. | apply List.mem_cons_of_mem)
theorem rngI : ((5, 213) : Nat × TypeId) ∈ tabI := by
  unfold tabI
  repeat (first | exact List.mem_cons_self .. | apply List.mem_cons_of_mem)
theorem tup2_V {w : World} {g : G} {fr : List Fr} {d1 d2 : D} {v1 v2 : Value} (h1 : V w g fr d1 v1) (h2 : V w g fr d2 v2) : V w g fr (.tup [d1, d2]) (.tuple #[v1, v2]) := by
  refine .tup _ _ rfl fun j d v hd hv => ?_
  match j, hd, hv with
  | 0, hd, hv => simp at hd hv; subst hd hv; exact h1
  | 1, hd, hv => simp at hd hv; subst hd hv; exact h2
  | j + 2, hd, hv => simp at hd
theorem av_parseU [Known] [KnownSc] (s : List UInt8) (hs : s.length ≤ 281474976710656) : AP Tryd.prog 108 [.str s, .int .i64 10, .int .i64 32] (puD s) [] := by
  refine ⟨fun g w vs hmem hl hv => ?_⟩
  obtain ⟨v0, v1, v2, rfl⟩ : ∃ v0 v1 v2, vs = [v0, v1, v2] := by
    match vs, hl with
    | [v0, v1, v2], _ => exact ⟨v0, v1, v2, rfl⟩
  have h0 := (hv 0 _ _ rfl rfl).str_inv.1
  have h1 := (hv 1 _ _ rfl rfl).int_inv
  have h2 := (hv 2 _ _ rfl rfl).int_inv
  subst h0 h1 h2
  have hsz : (⟨s.toArray⟩ : ByteArray).size = s.length := by show s.toArray.size = _; simp
  have hds : (⟨s.toArray⟩ : ByteArray).data.toList = s := by simp
  unfold puD
  cases h : Lib.parseUintB 32 s with
  | ok u =>
    have hc : Calls Tryd.prog 108 _ w _ := Any.strconv_ParseUint_10_at32_ok (P := Tryd.prog) (ρ := laysPu_ren) laysPu ⟨s.toArray⟩ (by rw [hsz]; omega) u (by rw [hds]; exact h) w
    refine hc.mono fun e w' ⟨he, hw⟩ => endBelow hmem ?_ he (tup2_V (.int _ _) .nili)
    rcases hw with rfl | rfl
    · exact Below.refl _ _
    · exact Lib.bytesWorld_below _ _ _
  | range =>
    obtain ⟨_, v, hvv⟩ := hmem.gl.2 _ _ ⟨KnownSc.range, rngI⟩
    have hc : Calls Tryd.prog 108 _ w _ := Any.strconv_ParseUint_10_at32_range (P := Tryd.prog) (ρ := laysPu_ren) laysPu ⟨s.toArray⟩ (by rw [hsz]; omega) (by rw [hds]; exact h) _ w hvv (.inr ⟨_, _, rfl⟩)
    exact hc.mono fun e w' ⟨N, he, _, _, hb⟩ => endBelow hmem hb he (tup2_V (.int _ _) (.iface _ _ _ (.junk _)))
  | _ =>
    obtain ⟨_, v, hvv⟩ := hmem.gl.2 _ _ ⟨KnownSc.syn, synI⟩
    have hc : Calls Tryd.prog 108 _ w _ := Any.strconv_ParseUint_10_at32_syntax (P := Tryd.prog) (ρ := laysPu_ren) laysPu ⟨s.toArray⟩ (by rw [hsz]; omega) (by rw [hds]; exact h) _ w hvv (.inr ⟨_, _, rfl⟩)
    exact hc.mono fun e w' ⟨N, he, _, _, hb⟩ => endBelow hmem hb he (tup2_V (.int _ _) (.iface _ _ _ (.junk _)))
end Go.Proofs.YtnihobjehelagaaDoor
end

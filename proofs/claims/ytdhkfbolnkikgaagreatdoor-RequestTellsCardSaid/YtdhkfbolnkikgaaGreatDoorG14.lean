/- Texts cut, and a path's name: plain laws, no program in sight. -/
import Derived.Test.YtdhkfbolnkikgaaGreatDoorG10
import Derived.Shelf.Pu.Lays
import Derived.Shelf.Pu.ParseUintPublic10
import Derived.Test.YtdhkfbolnkikgaaGreatDoorProg
import Derived.Lib.AtoiErrMem
import Derived.Test.YtdhkfbolnkikgaaGreatDoorG13
import Derived.Lib.Strings
import Derived.Lib.Slices
import Derived.Lib.Walk
import Derived.Lib.Bytealg
section
open Go.RowKit Go.Pl Go.Av
namespace Go.Proofs.YtdhkfbolnkikgaaGreatDoor
set_option linter.unusedVariables false
set_option linter.unusedSimpArgs false
/-- a text cut at a byte -/
def cutV (c : UInt8) : List UInt8 → List UInt8 × List UInt8 × Bool
  | [] => ([], [], false)
  | x :: s => if x = c then ([], s, true) else (x :: (cutV c s).1, (cutV c s).2.1, (cutV c s).2.2)
theorem cutV_no {c : UInt8} : ∀ {s : List UInt8}, c ∉ s → cutV c s = (s, [], false)
  | [], _ => rfl
  | x :: s, h => by
    have h1 : ¬ x = c := fun e => h (by rw [e]; exact List.mem_cons_self ..)
    have h2 := cutV_no (c := c) (s := s) fun hm => h (List.mem_cons_of_mem _ hm)
    rw [cutV, if_neg h1, h2]
theorem cutV_yes {c : UInt8} : ∀ {a b : List UInt8}, c ∉ a → cutV c (a ++ c :: b) = (a, b, true)
  | [], b, _ => by rw [List.nil_append, cutV, if_pos rfl]
  | x :: a, b, h => by
    have h1 : ¬ x = c := fun e => h (by rw [e]; exact List.mem_cons_self ..)
    have h2 := cutV_yes (c := c) (a := a) (b := b) fun hm => h (List.mem_cons_of_mem _ hm)
    rw [List.cons_append, cutV, if_neg h1, h2]
theorem cutV_back {c : UInt8} : ∀ {s : List UInt8}, (cutV c s).2.2 = true → s = (cutV c s).1 ++ c :: (cutV c s).2.1
  | [], h => by rw [cutV] at h; cases h
  | x :: s, h => by
    rw [cutV] at h ⊢
    by_cases e : x = c
    · rw [if_pos e]; rw [e]; rfl
    · rw [if_neg e] at h ⊢
      have := cutV_back (c := c) (s := s) h
      dsimp only
      rw [List.cons_append, ← this]
/-- a prefix cut off -/
def preV (p s : List UInt8) : List UInt8 × Bool := if s.take p.length == p then (s.drop p.length, true) else (s, false)
theorem preV_app (p r : List UInt8) : preV p (p ++ r) = (r, true) := by
  unfold preV
  rw [List.take_left, beq_self_eq_true, if_pos rfl, List.drop_left]
theorem preV_no {p s : List UInt8} (h : (s.take p.length == p) = false) : preV p s = (s, false) := by
  unfold preV; rw [h]; rfl
theorem preV_back {p s : List UInt8} (h : (preV p s).2 = true) : s = p ++ (preV p s).1 := by
  unfold preV at h ⊢
  split at h
  · rename_i hp
    rw [if_pos hp]
    have := beq_iff_eq.1 hp
    conv => lhs; rw [← List.take_append_drop p.length s, this]
  · cases h
/-- the name of a path -/
def ppV (s : List UInt8) : EidV × Bool :=
  (⟨false, 0, 0, (cutV 47 (preV [47, 47] s).1).1, (cutV 47 (preV [47, 47] s).1).2.1⟩, (preV [47, 47] s).2 && ((cutV 47 (preV [47, 47] s).1).2.2 && ((cutV 47 (preV [47, 47] s).1).1 != [] && eRight ⟨false, 0, 0, (cutV 47 (preV [47, 47] s).1).1, (cutV 47 (preV [47, 47] s).1).2.1⟩)))
def noneT : List UInt8 := [100, 116, 110, 58, 110, 111, 110, 101]
def ipnT : List UInt8 := [105, 112, 110, 58]
def dtnT : List UInt8 := [100, 116, 110, 58]
theorem isZ_iff {x : EidV} : isZ x = true ↔ x = eidZ := by
  obtain ⟨i, n, s, h, d⟩ := x
  simp only [isZ, eidZ, Bool.and_eq_true, beq_iff_eq, EidV.mk.injEq]
  constructor
  · rintro ⟨h1, h2, h3, h4, h5, _⟩
    exact ⟨h1, by omega, by omega, h4, h5⟩
  · rintro ⟨h1, h2, h3, h4, h5⟩
    exact ⟨h1, by omega, by omega, h4, h5, trivial⟩
theorem not_mem_ok {m : Nat} {c : UInt8} {l : List UInt8} (hl : l.all (okB m) = true) (h : okB m c = false) : c ∉ l := fun hm => by
  have := List.all_eq_true.1 hl c hm
  rw [h] at this; cases this
end Go.Proofs.YtdhkfbolnkikgaaGreatDoor
end
/- Contracts of the library that are proved once, laid at this program: each body is held against the one that they were proved of. -/
section
namespace Go.Proofs.YtdhkfbolnkikgaaGreatDoor
open Go.Shelf
def laysPu_ren : Go.Shelf.Ren := ⟨fun | 14 => 68 | 16 => 75 | 17 => 76 | 19 => 83 | 20 => 84 | 21 => 85 | 22 => 86 | 23 => 87 | 24 => 88 | 25 => 95 | 27 => 97 | 26 => 96 | 28 => 100 | 29 => 101 | 30 => 69 | 31 => 70 | 32 => 71 | 33 => 72 | 35 => 78 | 34 => 77 | 36 => 79 | 37 => 80 | 38 => 81 | 39 => 89 | 40 => 90 | n => n, fun | 9 => 9 | 3 => 3 | 22 => 22 | 24 => 108 | 25 => 109 | 4 => 4 | 34 => 126 | 5 => 5 | 36 => 79 | 37 => 25 | 0 => 0 | 39 => 129 | 21 => 21 | 44 => 136 | 47 => 142 | 50 => 145 | 48 => 143 | 2 => 2 | 52 => 111 | 55 => 114 | 59 => 120 | 60 => 121 | 20 => 20 | 61 => 122 | 65 => 138 | 66 => 139 | 67 => 147 | n => n, fun | 0 => 2 | 1 => 3 | 2 => 0 | 3 => 4 | 4 => 5 | n => n⟩
theorem laysPu : Go.Proofs.LaysPu.n14 Tryz.prog laysPu_ren := {
  mixed := by kernel_rfl,
  f14 := Tryz.func68.trans (congrArg some (by kernel_rfl)),
  f16 := Tryz.func75.trans (congrArg some (by kernel_rfl)),
  f17 := Tryz.func76.trans (congrArg some (by kernel_rfl)),
  f19 := Tryz.func83.trans (congrArg some (by kernel_rfl)),
  f20 := Tryz.func84.trans (congrArg some (by kernel_rfl)),
  f21 := Tryz.func85.trans (congrArg some (by kernel_rfl)),
  f22 := Tryz.func86.trans (congrArg some (by kernel_rfl)),
  f23 := Tryz.func87.trans (congrArg some (by kernel_rfl)),
  f24 := Tryz.func88.trans (congrArg some (by kernel_rfl)),
  f25 := Tryz.func95.trans (congrArg some (by kernel_rfl)),
  f26 := Tryz.func96.trans (congrArg some (by kernel_rfl)),
  f27 := Tryz.func97.trans (congrArg some (by kernel_rfl)),
  f28 := Tryz.func100.trans (congrArg some (by kernel_rfl)),
  f29 := Tryz.func101.trans (congrArg some (by kernel_rfl)),
  f30 := Tryz.func69.trans (congrArg some (by kernel_rfl)),
  f31 := Tryz.func70.trans (congrArg some (by kernel_rfl)),
  f32 := Tryz.func71.trans (congrArg some (by kernel_rfl)),
  f33 := Tryz.func72.trans (congrArg some (by kernel_rfl)),
  f34 := Tryz.func77.trans (congrArg some (by kernel_rfl)),
  f35 := Tryz.func78.trans (congrArg some (by kernel_rfl)),
  f36 := Tryz.func79.trans (congrArg some (by kernel_rfl)),
  f37 := Tryz.func80.trans (congrArg some (by kernel_rfl)),
  f38 := Tryz.func81.trans (congrArg some (by kernel_rfl)),
  f39 := Tryz.func89.trans (congrArg some (by kernel_rfl)),
  f40 := Tryz.func90.trans (congrArg some (by kernel_rfl)),
  t0 := Tryz.underlying0,
  a0 := Tryz.isAgg0,
  z0 := Tryz.sizeOf0,
  v0 := Tryz.zeroValue0,
  i0 := by kernel_rfl,
  t2 := Tryz.underlying2,
  a2 := Tryz.isAgg2,
  z2 := Tryz.sizeOf2,
  v2 := Tryz.zeroValue2,
  i2 := by kernel_rfl,
  t3 := Tryz.underlying3,
  a3 := Tryz.isAgg3,
  z3 := Tryz.sizeOf3,
  v3 := Tryz.zeroValue3,
  i3 := by kernel_rfl,
  t4 := Tryz.underlying4,
  a4 := Tryz.isAgg4,
  z4 := Tryz.sizeOf4,
  v4 := Tryz.zeroValue4,
  i4 := by kernel_rfl,
  t5 := Tryz.underlying5,
  a5 := Tryz.isAgg5,
  z5 := Tryz.sizeOf5,
  v5 := Tryz.zeroValue5,
  i5 := by kernel_rfl,
  t9 := Tryz.underlying9,
  a9 := Tryz.isAgg9,
  z9 := Tryz.sizeOf9,
  v9 := Tryz.zeroValue9,
  i9 := by kernel_rfl,
  t20 := Tryz.underlying20,
  a20 := Tryz.isAgg20,
  z20 := Tryz.sizeOf20,
  v20 := Tryz.zeroValue20,
  i20 := by kernel_rfl,
  t21 := Tryz.underlying21,
  a21 := Tryz.isAgg21,
  z21 := Tryz.sizeOf21,
  v21 := Tryz.zeroValue21,
  i21 := by kernel_rfl,
  t22 := Tryz.underlying22,
  a22 := Tryz.isAgg22,
  z22 := Tryz.sizeOf22,
  v22 := Tryz.zeroValue22,
  i22 := by kernel_rfl,
  t24 := Tryz.underlying108,
  a24 := Tryz.isAgg108,
  z24 := Tryz.sizeOf108,
  v24 := Tryz.zeroValue108,
  i24 := by kernel_rfl,
  t25 := Tryz.underlying109,
  a25 := Tryz.isAgg109,
  z25 := Tryz.sizeOf109,
  v25 := Tryz.zeroValue109,
  i25 := by kernel_rfl,
  t34 := Tryz.underlying126,
  a34 := Tryz.isAgg126,
  z34 := Tryz.sizeOf126,
  v34 := Tryz.zeroValue126,
  i34 := by kernel_rfl,
  c34 := by kernel_rfl,
  t36 := Tryz.underlying79,
  a36 := Tryz.isAgg79,
  z36 := Tryz.sizeOf79,
  v36 := Tryz.zeroValue79,
  i36 := by kernel_rfl,
  t37 := Tryz.underlying25,
  a37 := Tryz.isAgg25,
  z37 := Tryz.sizeOf25,
  v37 := Tryz.zeroValue25,
  i37 := by kernel_rfl,
  t39 := Tryz.underlying129,
  a39 := Tryz.isAgg129,
  z39 := Tryz.sizeOf129,
  v39 := Tryz.zeroValue129,
  i39 := by kernel_rfl,
  t44 := Tryz.underlying136,
  a44 := Tryz.isAgg136,
  z44 := Tryz.sizeOf136,
  v44 := Tryz.zeroValue136,
  i44 := by kernel_rfl,
  t47 := Tryz.underlying142,
  a47 := Tryz.isAgg142,
  z47 := Tryz.sizeOf142,
  v47 := Tryz.zeroValue142,
  i47 := by kernel_rfl,
  t48 := Tryz.underlying143,
  a48 := Tryz.isAgg143,
  z48 := Tryz.sizeOf143,
  v48 := Tryz.zeroValue143,
  i48 := by kernel_rfl,
  t50 := Tryz.underlying145,
  a50 := Tryz.isAgg145,
  z50 := Tryz.sizeOf145,
  v50 := Tryz.zeroValue145,
  i50 := by kernel_rfl,
  t52 := Tryz.underlying111,
  a52 := Tryz.isAgg111,
  z52 := Tryz.sizeOf111,
  v52 := Tryz.zeroValue111,
  i52 := by kernel_rfl,
  t55 := Tryz.underlying114,
  a55 := Tryz.isAgg114,
  z55 := Tryz.sizeOf114,
  v55 := Tryz.zeroValue114,
  i55 := by kernel_rfl,
  t59 := Tryz.underlying120,
  a59 := Tryz.isAgg120,
  z59 := Tryz.sizeOf120,
  v59 := Tryz.zeroValue120,
  i59 := by kernel_rfl,
  t60 := Tryz.underlying121,
  a60 := Tryz.isAgg121,
  z60 := Tryz.sizeOf121,
  v60 := Tryz.zeroValue121,
  i60 := by kernel_rfl,
  t61 := Tryz.underlying122,
  a61 := Tryz.isAgg122,
  z61 := Tryz.sizeOf122,
  t65 := Tryz.underlying138,
  a65 := Tryz.isAgg138,
  z65 := Tryz.sizeOf138,
  v65 := Tryz.zeroValue138,
  i65 := by kernel_rfl,
  t66 := Tryz.underlying139,
  a66 := Tryz.isAgg139,
  z66 := Tryz.sizeOf139,
  v66 := Tryz.zeroValue139,
  i66 := by kernel_rfl,
  t67 := Tryz.underlying147,
  a67 := Tryz.isAgg147,
  z67 := Tryz.sizeOf147,
  v67 := Tryz.zeroValue147,
  i67 := by kernel_rfl,
  g0 := by kernel_rfl,
  m0 := by kernel_rfl,
  g1 := by kernel_rfl,
  m1 := by kernel_rfl,
  g2 := by kernel_rfl,
  m2 := by kernel_rfl,
  g3 := by kernel_rfl,
  m3 := by kernel_rfl,
  g4 := by kernel_rfl,
  m4 := by kernel_rfl }
end Go.Proofs.YtdhkfbolnkikgaaGreatDoor
end
/- strconv.ParseUint at base 10 and 32 bits: every text. -/
section
open Go.RowKit Go.Pl Go.Av Go.Shelf
namespace Go.Proofs.YtdhkfbolnkikgaaGreatDoor
set_option linter.unusedVariables false
set_option linter.unusedSimpArgs false
/-- what comes of a text that is read as a number -/
def puD (s : List UInt8) : D := match Lib.parseUintB 32 s with
  | .ok u => .tup [.int .u64 (u : Int), .nili]
  | .range => .tup [.int .u64 4294967295, .iface 129 .junk]
  | _ => .tup [.int .u64 0, .iface 129 .junk]
theorem synI : ((2, 143) : Nat × TypeId) ∈ tabI := by
  unfold tabI
  repeat (first | exact List.mem_cons_self .. | apply List.mem_cons_of_mem)
theorem rngI : ((3, 143) : Nat × TypeId) ∈ tabI := by
  unfold tabI
  repeat (first | exact List.mem_cons_self .. | apply List.mem_cons_of_mem)
theorem tup2_V {w : World} {g : G} {fr : List Fr} {d1 d2 : D} {v1 v2 : Value} (h1 : V w g fr d1 v1) (h2 : V w g fr d2 v2) : V w g fr (.tup [d1, d2]) (.tuple #[v1, v2]) := by
  refine .tup _ _ rfl fun j d v hd hv => ?_
  match j, hd, hv with
  | 0, hd, hv => simp at hd hv; subst hd hv; exact h1
  | 1, hd, hv => simp at hd hv; subst hd hv; exact h2
  | j + 2, hd, hv => simp at hd
theorem av_parseU [Known] [KnownSc] (s : List UInt8) (hs : s.length ≤ 281474976710656) : AP Tryz.prog 68 [.str s, .int .i64 10, .int .i64 32] (puD s) [] := by
  refine ⟨fun g w vs hmem hl hv => ?_⟩
  obtain ⟨v0, v1, v2, rfl⟩ : ∃ v0 v1 v2, vs = [v0, v1, v2] := by
    match vs, hl with
    | [v0, v1, v2], _ => exact ⟨v0, v1, v2, rfl⟩
  have h0 := (hv 0 _ _ rfl rfl).str_inv.1
  have h1 := (hv 1 _ _ rfl rfl).int_inv
  have h2 := (hv 2 _ _ rfl rfl).int_inv
  subst h0 h1 h2
  have hsz : (⟨s.toArray⟩ : ByteArray).size = s.length := by show s.toArray.size = _; simp
  have hds : (⟨s.toArray⟩ : ByteArray).data.toList = s := by simp
  unfold puD
  cases h : Lib.parseUintB 32 s with
  | ok u =>
    have hc : Calls Tryz.prog 68 _ w _ := Any.strconv_ParseUint_10_at32_ok (P := Tryz.prog) (ρ := laysPu_ren) laysPu ⟨s.toArray⟩ (by rw [hsz]; omega) u (by rw [hds]; exact h) w
    refine hc.mono fun e w' ⟨he, hw⟩ => endBelow hmem ?_ he (tup2_V (.int _ _) .nili)
    rcases hw with rfl | rfl
    · exact Below.refl _ _
    · exact Lib.bytesWorld_below _ _ _
  | range =>
    obtain ⟨_, v, hvv⟩ := hmem.gl.2 _ _ ⟨KnownSc.range, rngI⟩
    have hc : Calls Tryz.prog 68 _ w _ := Any.strconv_ParseUint_10_at32_range (P := Tryz.prog) (ρ := laysPu_ren) laysPu ⟨s.toArray⟩ (by rw [hsz]; omega) (by rw [hds]; exact h) _ w hvv (.inr ⟨_, _, rfl⟩)
    exact hc.mono fun e w' ⟨N, he, _, _, hb⟩ => endBelow hmem hb he (tup2_V (.int _ _) (.iface _ _ _ (.junk _)))
  | _ =>
    obtain ⟨_, v, hvv⟩ := hmem.gl.2 _ _ ⟨KnownSc.syn, synI⟩
    have hc : Calls Tryz.prog 68 _ w _ := Any.strconv_ParseUint_10_at32_syntax (P := Tryz.prog) (ρ := laysPu_ren) laysPu ⟨s.toArray⟩ (by rw [hsz]; omega) (by rw [hds]; exact h) _ w hvv (.inr ⟨_, _, rfl⟩)
    exact hc.mono fun e w' ⟨N, he, _, _, hb⟩ => endBelow hmem hb he (tup2_V (.int _ _) (.iface _ _ _ (.junk _)))
end Go.Proofs.YtdhkfbolnkikgaaGreatDoor
end
/- Names read out of texts: plain laws, no program in sight. -/
section
open Go.RowKit Go.Pl Go.Av
namespace Go.Proofs.YtdhkfbolnkikgaaGreatDoor
set_option linter.unusedVariables false
set_option linter.unusedSimpArgs false
def puN (s : List UInt8) : Nat := match Lib.parseUintB 32 s with
  | .ok u => u
  | .range => 4294967295
  | _ => 0
def puB (s : List UInt8) : Bool := match Lib.parseUintB 32 s with
  | .ok _ => true
  | _ => false
theorem puN_le (s : List UInt8) : puN s ≤ 4294967295 := by
  unfold puN
  cases h : Lib.parseUintB 32 s with
  | ok u => exact Lib.parseUintB_le h
  | range => exact Nat.le_refl _
  | _ => exact Nat.zero_le _
theorem puD_eq (s : List UInt8) : puD s = .tup [.int .u64 (puN s : Int), if puB s then .nili else .iface 129 .junk] := by
  unfold puD puN puB
  cases h : Lib.parseUintB 32 s <;> rfl
theorem puM_app {M : Nat} : ∀ {l r : List UInt8} {acc v : Nat}, Lib.parseUintM M acc l = .ok v → Lib.parseUintM M acc (l ++ r) = Lib.parseUintM M v r
  | [], r, acc, v, h => by
    rw [Lib.parseUintM] at h
    injection h with h
    rw [List.nil_append, h]
  | c :: l, r, acc, v, h => by
    rw [Lib.parseUintM] at h
    rw [List.cons_append, Lib.parseUintM]
    split at h
    · rename_i h1
      rw [if_pos h1]
      split at h
      · cases h
      · rename_i h2
        rw [if_neg h2]
        split at h
        · cases h
        · rename_i h3
          rw [if_neg h3]
          exact puM_app h
    · cases h
theorem dig_nat {k : Nat} (h : k < 10) : (UInt8.ofNat (48 + k)).toNat = 48 + k := by
  rw [UInt8.toNat_ofNat']; omega
theorem puM_dec : ∀ (u : Nat), u ≤ 4294967295 → Lib.parseUintM 4294967295 0 (Lib.decDigits u) = .ok u := by
  intro u
  induction u using Nat.strongRecOn with
  | _ u ih =>
    intro hu
    rw [Lib.decDigits]
    by_cases h : u < 10
    · rw [dif_pos h, Lib.parseUintM, dig_nat h, if_pos (by omega), if_neg (by omega), if_neg (by omega), Lib.parseUintM]
      congr 1; omega
    · rw [dif_neg h, puM_app (ih (u / 10) (by omega) (by omega)), Lib.parseUintM, dig_nat (by omega), if_pos (by omega), if_neg (by omega), if_neg (by omega), Lib.parseUintM]
      congr 1; omega
theorem dec_ne (u : Nat) : Lib.decDigits u ≠ [] := by
  intro h
  have := congrArg List.length h
  rw [Lib.decDigits_length] at this
  have := Lib.nDigits_pos u
  simp at *; omega
theorem pu_dec {u : Nat} (h : u ≤ 4294967295) : puN (Lib.decDigits u) = u ∧ puB (Lib.decDigits u) = true := by
  have e : Lib.parseUintB 32 (Lib.decDigits u) = .ok u := by
    unfold Lib.parseUintB
    rw [if_neg (dec_ne u)]
    exact puM_dec u h
  unfold puN puB
  rw [e]
  exact ⟨rfl, rfl⟩
theorem dec_digit : ∀ (u : Nat) (c : UInt8), c ∈ Lib.decDigits u → 48 ≤ c.toNat ∧ c.toNat ≤ 57 := by
  intro u
  induction u using Nat.strongRecOn with
  | _ u ih =>
    intro c hc
    rw [Lib.decDigits] at hc
    by_cases h : u < 10
    · rw [dif_pos h] at hc
      rw [List.mem_singleton] at hc
      subst hc
      have := dig_nat h
      rw [this]; omega
    · rw [dif_neg h] at hc
      rcases List.mem_append.1 hc with hc | hc
      · exact ih (u / 10) (by omega) c hc
      · rw [List.mem_singleton] at hc
        subst hc
        have := dig_nat (k := u % 10) (by omega)
        rw [this]; omega
/-- the name of two numbers -/
def pnV (s : List UInt8) : EidV × Bool :=
  (⟨true, puN (cutV 46 s).1, puN (cutV 46 s).2.1, [], []⟩, (cutV 46 s).2.2 && (puB (cutV 46 s).1 && (puB (cutV 46 s).2.1 && (eRight ⟨true, puN (cutV 46 s).1, puN (cutV 46 s).2.1, [], []⟩ && (Lib.decDigits (puN (cutV 46 s).1) == (cutV 46 s).1 && Lib.decDigits (puN (cutV 46 s).2.1) == (cutV 46 s).2.1)))))
/-- the name of a text -/
def parseE (s : List UInt8) : EidV × Bool :=
  if s == noneT then (eidZ, true)
  else if (preV ipnT s).2 then pnV (preV ipnT s).1
  else if (preV dtnT s).2 then ppV (preV dtnT s).1
  else (eidZ, false)
/-- what is read may be, and its text is what was read -/
theorem parse_text {s : List UInt8} (h : (parseE s).2 = true) : eRight (parseE s).1 = true ∧ textE (parseE s).1 = s := by
  unfold parseE at h ⊢
  by_cases h0 : (s == noneT) = true
  · rw [if_pos h0]
    refine ⟨by decide, ?_⟩
    rw [beq_iff_eq.1 h0]; decide
  rw [if_neg h0] at h ⊢
  by_cases h1 : (preV ipnT s).2 = true
  · rw [if_pos h1] at h ⊢
    have e1 := preV_back h1
    generalize (preV ipnT s).1 = r at *
    unfold pnV at h ⊢
    dsimp only at h ⊢
    simp only [Bool.and_eq_true, beq_iff_eq] at h
    obtain ⟨h2, h3, h4, h5, h6, h7⟩ := h
    refine ⟨h5, ?_⟩
    unfold textE
    rw [if_neg (by simp [isZ]), if_pos rfl, h6, h7, e1]
    have := cutV_back h2
    conv => rhs; rw [this]
    simp [ipnT]
  rw [if_neg h1] at h ⊢
  by_cases h2 : (preV dtnT s).2 = true
  · rw [if_pos h2] at h ⊢
    have e1 := preV_back h2
    generalize (preV dtnT s).1 = r at *
    unfold ppV at h ⊢
    dsimp only at h ⊢
    simp only [Bool.and_eq_true, bne_iff_ne] at h
    obtain ⟨h3, h4, h5, h6⟩ := h
    have e2 := preV_back h3
    generalize (preV [47, 47] r).1 = q at *
    refine ⟨h6, ?_⟩
    unfold textE
    rw [if_neg (by rw [isZ_iff]; intro e; exact h5 (congrArg EidV.h e)), if_neg (by simp), e1, e2]
    have := cutV_back h4
    conv => rhs; rw [this]
    simp [pathE, dtnT]
  · rw [if_neg h2] at h; cases h
theorem not_mem_dec {c : UInt8} (h : c.toNat < 48 ∨ 57 < c.toNat) (u : Nat) : c ∉ Lib.decDigits u := fun hm => by
  have := dec_digit u c hm
  omega
/-- the text of a name that may be is read as this name -/
theorem text_parse {x : EidV} (h : eRight x = true) : parseE (textE x) = (x, true) := by
  unfold textE
  cases hz : isZ x with
  | true =>
    rw [if_pos rfl]
    rw [isZ_iff.1 hz]
    decide
  | false =>
    rw [if_neg (by simp)]
    cases hi : x.i with
    | true =>
      obtain ⟨b1, b2, b3, b4, b5⟩ := eRight_num h hz hi
      rw [if_pos rfl]
      have e1 : [105, 112, 110, 58] ++ Lib.decDigits x.n ++ [46] ++ Lib.decDigits x.s = ipnT ++ (Lib.decDigits x.n ++ 46 :: Lib.decDigits x.s) := by simp [ipnT]
      rw [e1]
      unfold parseE
      have e2 : (ipnT ++ (Lib.decDigits x.n ++ 46 :: Lib.decDigits x.s) == noneT) = false := by simp [ipnT, noneT]
      rw [e2, preV_app, if_neg (by simp), if_pos rfl]
      unfold pnV
      dsimp only
      rw [cutV_yes (not_mem_dec (by decide) x.n)]
      dsimp only
      rw [(pu_dec b1).1, (pu_dec b1).2, (pu_dec b2).1, (pu_dec b2).2]
      have ex : (⟨true, x.n, x.s, [], []⟩ : EidV) = x := by
        obtain ⟨i, n, s, hh, d⟩ := x
        simp only at hi b3 b4
        rw [hi, b3, b4]
      rw [ex, h]
      simp
    | false =>
      obtain ⟨b1, b2, b3, b4, b5, b6, b7⟩ := eRight_txt h hz hi
      rw [if_neg (by simp)]
      have e1 : [100, 116, 110, 58] ++ pathE x = dtnT ++ ([47, 47] ++ (x.h ++ 47 :: x.d)) := by simp [pathE, dtnT]
      rw [e1]
      unfold parseE
      have e2 : (dtnT ++ ([47, 47] ++ (x.h ++ 47 :: x.d)) == noneT) = false := by simp [dtnT, noneT]
      have e3 : preV ipnT (dtnT ++ ([47, 47] ++ (x.h ++ 47 :: x.d))) = (dtnT ++ ([47, 47] ++ (x.h ++ 47 :: x.d)), false) := preV_no (by simp [dtnT, ipnT])
      rw [e2, e3, preV_app, if_neg (by simp), if_neg (by simp), if_pos rfl]
      unfold ppV
      rw [preV_app]
      dsimp only
      rw [cutV_yes (not_mem_ok b6 (by decide))]
      dsimp only
      have ex : (⟨false, 0, 0, x.h, x.d⟩ : EidV) = x := by
        obtain ⟨i, n, s, hh, d⟩ := x
        simp only at hi b1 b2
        rw [hi, b1, b2]
      rw [ex, h]
      have : (x.h != []) = true := by
        rw [bne_iff_ne]
        intro e
        rw [e] at b3
        simp at b3
      rw [this]
      rfl
end Go.Proofs.YtdhkfbolnkikgaaGreatDoor
end
/- Fixed calls of package eid: names parsed and written. -/
section
open Go.RowKit Go.Pl Go.Av
namespace Go.Proofs.YtdhkfbolnkikgaaGreatDoor
set_option linter.unusedVariables false
set_option linter.unusedSimpArgs false
set_option maxHeartbeats 4000000
set_option maxRecDepth 100000 in
theorem ixb_walk (s : ByteArray) (c : Int) (w : World) : Calls Tryz.prog 91 #[.string s, .int .u8 c] w fun e w' => e = .returned (.int .i64 (Lib.indexByte s.data.toList c.toNat.toUInt8)) ∧ w' = w := by
  go_enter Tryz.func91, Tryz.ntmps91
  go_wp2
  rw [run_callFunc_extern Tryz.func98 (by kernel_rfl) (by kernel_rfl) (by kernel_rfl) (e := Extern.BytealgIndexByte.indexByte) (by kernel_rfl), Lib.run_indexByteString]
  simp only [Result.andThen]
  rw [Oper.upon_value]
  go_wp2
  go_ret
  exact ⟨rfl, rfl⟩
theorem av_ixb [Known] (s : List UInt8) (c : Int) : AP Tryz.prog 91 [.str s, .int .u8 c] (.int .i64 (Lib.indexByte s c.toNat.toUInt8)) [] := by
  refine ⟨fun g w vs hmem hl hv => ?_⟩
  obtain ⟨v0, v1, rfl⟩ : ∃ v0 v1, vs = [v0, v1] := by
    match vs, hl with
    | [v0, v1], _ => exact ⟨v0, v1, rfl⟩
  have h0 := (hv 0 _ _ rfl rfl).str_inv.1
  have h1 := (hv 1 _ _ rfl rfl).int_inv
  subst h0 h1
  exact (ixb_walk ⟨s.toArray⟩ c w).mono fun e w' ⟨he, hb⟩ => endBelow hmem (hb ▸ Below.refl _ _) he (.int _ _)
def e71 : EidV := ⟨true, 7, 1, [], []⟩
theorem cl_pu7 [Known] : AP Tryz.prog 68 [.str [55], .int .i64 10, .int .i64 32] (.tup [.int .u64 7, .nili]) [] := by
  refine AP.ofA ?_
  refine AC_of Tryz.func68 rfl Tryz.ntmps68 rfl rfl ?_
  repeat' (first | (apply AL_inZ Tryz.func75 Tryz.ntmps75; exact rfl; exact rfl; kernel_rfl; (iterate 6 exact rfl)) | (apply in_ret; (repeat (first | exact ResL.nil | (apply ResL.cons; first | exact .tmp _ _ rfl | (apply res_n ttok; (iterate 6 exact rfl)) | (apply res_1 ttok; (iterate 5 exact rfl))))); exact rfl) | refine AW_loopN 80 ?_ | refine AN_succ ?_ | (apply AL_s2b ttok; (iterate 8 exact rfl)) | (apply AL_ifnil; exact rfl; kernel_rfl; exact rfl; exact rfl) | (apply AL_move; exact rfl; exact rfl) | (apply AL_assign; exact rfl; exact rfl) | (apply AL_bin; (iterate 5 exact rfl)) | (apply AL_convT ttok; (iterate 5 exact rfl)) | (apply AL_extract; (iterate 3 exact rfl)) | refine AL_nil ?_ | (apply AL_guardT; (iterate 3 exact rfl); (first | with_reducible assumption | decide +kernel)) | (apply AL_guardFt; (iterate 3 exact rfl); (first | with_reducible assumption | decide +kernel)) | (apply AL_pickT; exact rfl; (first | with_reducible assumption | decide +kernel); exact rfl; exact rfl) | (apply AL_pickF; exact rfl; (first | with_reducible assumption | decide +kernel); exact rfl; exact rfl) | refine AW_region ?_ | refine AW_seq' ?_ | (apply AW_condA; exact rfl; (first | with_reducible assumption | decide +kernel)) | (apply AW_condB; exact rfl; (first | with_reducible assumption | decide +kernel)) | refine then_norm ?_ | refine AW_block ?_ | refine AW_exit ?_ | refine AW_ret ?_ | (apply AL_len ttok; (iterate 4 exact rfl)) | (apply AL_eload1 ttok; (iterate 6 exact rfl)) | (apply AL_str; (iterate 5 exact rfl)) | refine AW_skip ?_ | (apply AL_idx ttok; (iterate 6 exact rfl); (first | with_reducible assumption | decide +kernel | exact Int.natCast_nonneg _ | (guard_target = (0:Int) ≤ (OfNat.ofNat _ : Int); decide) | rotate_left); (first | with_reducible assumption | decide +kernel | exact rfl); (first | exact uniB_ok rfl | with_reducible assumption | decide +kernel | rotate_left)) | (apply AL_shl; exact rfl; exact rfl; (first | with_reducible assumption | decide +kernel | exact Int.natCast_nonneg _ | (exact (by decide)) | rotate_left); exact rfl))
  all_goals (apply endQ []; (repeat (first | exact ResL.nil | (apply ResL.cons; first | exact .tmp _ _ rfl | (apply res_n ttok; (iterate 6 exact rfl)) | (apply res_1 ttok; (iterate 5 exact rfl))))); (iterate 4 exact rfl))
  all_goals rfl
theorem cl_pu1 [Known] : AP Tryz.prog 68 [.str [49], .int .i64 10, .int .i64 32] (.tup [.int .u64 1, .nili]) [] := by
  refine AP.ofA ?_
  refine AC_of Tryz.func68 rfl Tryz.ntmps68 rfl rfl ?_
  repeat' (first | (apply AL_inZ Tryz.func75 Tryz.ntmps75; exact rfl; exact rfl; kernel_rfl; (iterate 6 exact rfl)) | (apply in_ret; (repeat (first | exact ResL.nil | (apply ResL.cons; first | exact .tmp _ _ rfl | (apply res_n ttok; (iterate 6 exact rfl)) | (apply res_1 ttok; (iterate 5 exact rfl))))); exact rfl) | refine AW_loopN 80 ?_ | refine AN_succ ?_ | (apply AL_s2b ttok; (iterate 8 exact rfl)) | (apply AL_ifnil; exact rfl; kernel_rfl; exact rfl; exact rfl) | (apply AL_move; exact rfl; exact rfl) | (apply AL_assign; exact rfl; exact rfl) | (apply AL_bin; (iterate 5 exact rfl)) | (apply AL_convT ttok; (iterate 5 exact rfl)) | (apply AL_extract; (iterate 3 exact rfl)) | refine AL_nil ?_ | (apply AL_guardT; (iterate 3 exact rfl); (first | with_reducible assumption | decide +kernel)) | (apply AL_guardFt; (iterate 3 exact rfl); (first | with_reducible assumption | decide +kernel)) | (apply AL_pickT; exact rfl; (first | with_reducible assumption | decide +kernel); exact rfl; exact rfl) | (apply AL_pickF; exact rfl; (first | with_reducible assumption | decide +kernel); exact rfl; exact rfl) | refine AW_region ?_ | refine AW_seq' ?_ | (apply AW_condA; exact rfl; (first | with_reducible assumption | decide +kernel)) | (apply AW_condB; exact rfl; (first | with_reducible assumption | decide +kernel)) | refine then_norm ?_ | refine AW_block ?_ | refine AW_exit ?_ | refine AW_ret ?_ | (apply AL_len ttok; (iterate 4 exact rfl)) | (apply AL_eload1 ttok; (iterate 6 exact rfl)) | (apply AL_str; (iterate 5 exact rfl)) | refine AW_skip ?_ | (apply AL_idx ttok; (iterate 6 exact rfl); (first | with_reducible assumption | decide +kernel | exact Int.natCast_nonneg _ | (guard_target = (0:Int) ≤ (OfNat.ofNat _ : Int); decide) | rotate_left); (first | with_reducible assumption | decide +kernel | exact rfl); (first | exact uniB_ok rfl | with_reducible assumption | decide +kernel | rotate_left)) | (apply AL_shl; exact rfl; exact rfl; (first | with_reducible assumption | decide +kernel | exact Int.natCast_nonneg _ | (exact (by decide)) | rotate_left); exact rfl))
  all_goals (apply endQ []; (repeat (first | exact ResL.nil | (apply ResL.cons; first | exact .tmp _ _ rfl | (apply res_n ttok; (iterate 6 exact rfl)) | (apply res_1 ttok; (iterate 5 exact rfl))))); (iterate 4 exact rfl))
  all_goals rfl
theorem cl_pn71 [Known] : AP Tryz.prog 61 [.str [55, 46, 49]] (.tup [.agg (eC e71), .bool true]) [] := by
  refine AP.ofA ?_
  refine AC_of Tryz.func61 rfl Tryz.ntmps61 rfl rfl ?_
  repeat' (first | (apply AL_callPw (cl_pu7); kernel_rfl; (iterate 4 exact rfl)) | (apply AL_callPw (cl_pu1); kernel_rfl; (iterate 4 exact rfl)) | (apply AL_callPw (av_ixb _ _); kernel_rfl; (iterate 4 exact rfl)) | (apply AL_callPw (av_eRight e71); kernel_rfl; (iterate 4 exact rfl)) | (apply AL_inZ Tryz.func67 Tryz.ntmps67; exact rfl; exact rfl; kernel_rfl; (iterate 6 exact rfl)) | (apply AL_inZ Tryz.func74 Tryz.ntmps74; exact rfl; exact rfl; kernel_rfl; (iterate 6 exact rfl)) | (apply AL_inZ Tryz.func82 Tryz.ntmps82; exact rfl; exact rfl; kernel_rfl; (iterate 6 exact rfl)) | (apply AL_inZ Tryz.func58 Tryz.ntmps58; exact rfl; exact rfl; kernel_rfl; (iterate 6 exact rfl)) | (apply AL_inZ Tryz.func65 Tryz.ntmps65; exact rfl; exact rfl; kernel_rfl; (iterate 6 exact rfl)) | (apply AL_inZ Tryz.func69 Tryz.ntmps69; exact rfl; exact rfl; kernel_rfl; (iterate 6 exact rfl)) | (apply in_ret; (repeat (first | exact ResL.nil | (apply ResL.cons; first | exact .tmp _ _ rfl | (apply res_n ttok; (iterate 6 exact rfl)) | (apply res_1 ttok; (iterate 5 exact rfl))))); exact rfl) | (apply AL_ifnil; exact rfl; kernel_rfl; exact rfl; exact rfl) | (apply AL_idxs ttok; (iterate 5 exact rfl); (first | exact Int.natCast_nonneg _ | decide +kernel); exact rfl) | (apply AL_sliceS ttok; (iterate 4 exact rfl); (first | exact .dft _ | exact .lit _ _ _ _ rfl (by decide +kernel)); (first | exact .dft _ | exact .lit _ _ _ _ rfl (by decide +kernel)); decide +kernel; decide +kernel; exact rfl) | (apply AL_move; exact rfl; exact rfl) | (apply AL_assign; exact rfl; exact rfl) | (apply AL_bin; (iterate 5 exact rfl)) | (apply AL_loadn ttok; (iterate 7 exact rfl)) | (apply AL_store ttok; (iterate 8 exact rfl)) | (apply AL_convT ttok; (iterate 5 exact rfl)) | (apply AL_extract; (iterate 3 exact rfl)) | refine AL_nil ?_ | (apply AL_guardT; (iterate 3 exact rfl); (first | with_reducible assumption | decide +kernel)) | (apply AL_pickT; exact rfl; (first | with_reducible assumption | decide +kernel); exact rfl; exact rfl) | (apply AL_pickF; exact rfl; (first | with_reducible assumption | decide +kernel); exact rfl; exact rfl) | refine AW_region ?_ | refine AW_seq' ?_ | (apply AW_condA; exact rfl; (first | with_reducible assumption | decide +kernel)) | (apply AW_condB; exact rfl; (first | with_reducible assumption | decide +kernel)) | refine then_norm ?_ | refine AW_block ?_ | refine AW_ret ?_ | (apply AL_lens ttok; (iterate 4 exact rfl)) | (apply AL_build ttok; (iterate 6 exact rfl)) | (apply AL_allocZ ttok; (iterate 4 exact rfl)) | (apply AL_str; (iterate 5 exact rfl)) | (apply AW_drawE 10 hmix; (decide +kernel); (kernel_rfl); (kernel_rfl); (kernel_rfl); exact rfl; exact rfl) | (apply AW_drawE 27 hmix; (decide +kernel); (kernel_rfl); (kernel_rfl); (kernel_rfl); exact rfl; exact rfl) | (apply AE_consZ; (iterate 4 exact rfl)) | exact AE.nil _ _ _ _ | (apply AEk_puT; exact rfl) | (apply AEk_ef; exact rfl) | (apply AOt_mk; exact rfl; exact rfl; (decide +kernel); exact rfl) | (apply AO_puT; exact rfl) | (apply AO_ef; exact rfl) | exact AO.nil _ _ _ | (apply AOs_skip; (decide +kernel)) | (apply AOs_goZ; (iterate 3 exact rfl)) | exact AOs.nil | exact qY_ok rfl rfl | exact qY_efn rfl)
  all_goals (apply endQ []; (repeat (first | exact ResL.nil | (apply ResL.cons; first | exact .tmp _ _ rfl | (apply res_n ttok; (iterate 6 exact rfl)) | (apply res_1 ttok; (iterate 5 exact rfl))))); (iterate 4 exact rfl))
  all_goals rfl
theorem cl_parse71 [Known] : AP Tryz.prog 50 [.str [105, 112, 110, 58, 55, 46, 49]] (.tup [.agg (eC e71), .int .i64 0]) [] := by
  refine AP.ofA ?_
  refine AC_of Tryz.func50 rfl Tryz.ntmps50 rfl rfl ?_
  repeat' (first | (apply AL_callPw (cl_pn71); kernel_rfl; (iterate 4 exact rfl)) | (apply AL_inZ Tryz.func60 Tryz.ntmps60; exact rfl; exact rfl; kernel_rfl; (iterate 6 exact rfl)) | (apply AL_inZ Tryz.func66 Tryz.ntmps66; exact rfl; exact rfl; kernel_rfl; (iterate 6 exact rfl)) | (apply AL_inZ Tryz.func73 Tryz.ntmps73; exact rfl; exact rfl; kernel_rfl; (iterate 6 exact rfl)) | (apply in_ret; (repeat (first | exact ResL.nil | (apply ResL.cons; first | exact .tmp _ _ rfl | (apply res_n ttok; (iterate 6 exact rfl)) | (apply res_1 ttok; (iterate 5 exact rfl))))); exact rfl) | (apply AL_sliceS ttok; (iterate 4 exact rfl); (first | exact .dft _ | exact .lit _ _ _ _ rfl (by decide +kernel)); (first | exact .dft _ | exact .lit _ _ _ _ rfl (by decide +kernel)); decide +kernel; decide +kernel; exact rfl) | (apply AL_move; exact rfl; exact rfl) | (apply AL_assign; exact rfl; exact rfl) | (apply AL_bin; (iterate 5 exact rfl)) | (apply AL_loadn ttok; (iterate 7 exact rfl)) | (apply AL_store ttok; (iterate 8 exact rfl)) | (apply AL_not; exact rfl; exact rfl) | (apply AL_extract; (iterate 3 exact rfl)) | refine AL_nil ?_ | (apply AL_guardT; (iterate 3 exact rfl); (first | with_reducible assumption | decide +kernel)) | (apply AL_pickT; exact rfl; (first | with_reducible assumption | decide +kernel); exact rfl; exact rfl) | refine AW_region ?_ | refine AW_seq' ?_ | (apply AW_condA; exact rfl; (first | with_reducible assumption | decide +kernel)) | (apply AW_condB; exact rfl; (first | with_reducible assumption | decide +kernel)) | refine then_norm ?_ | refine AW_ret ?_ | (apply AL_lens ttok; (iterate 4 exact rfl)) | (apply AL_allocZ ttok; (iterate 4 exact rfl)) | (apply AL_str; (iterate 5 exact rfl)) | refine AW_skip ?_)
  all_goals (apply endQ []; (repeat (first | exact ResL.nil | (apply ResL.cons; first | exact .tmp _ _ rfl | (apply res_n ttok; (iterate 6 exact rfl)) | (apply res_1 ttok; (iterate 5 exact rfl))))); (iterate 4 exact rfl))
  all_goals rfl
theorem cl_text71 [Known] : AP Tryz.prog 45 [.agg (eC e71)] (.tup [.str [105, 112, 110, 58, 55, 46, 49], .int .i64 0]) [] := by
  refine AP.ofA ?_
  refine AC_of Tryz.func45 rfl Tryz.ntmps45 rfl rfl ?_
  repeat' (first | (apply AL_callPw (av_eRight e71); kernel_rfl; (iterate 4 exact rfl)) | (apply AL_cat; exact rfl; exact rfl; decide; exact rfl) | (apply AL_inZ Tryz.func58 Tryz.ntmps58; exact rfl; exact rfl; kernel_rfl; (iterate 6 exact rfl)) | (apply AL_inZ Tryz.func65 Tryz.ntmps65; exact rfl; exact rfl; kernel_rfl; (iterate 6 exact rfl)) | (apply AL_inZ Tryz.func69 Tryz.ntmps69; exact rfl; exact rfl; kernel_rfl; (iterate 6 exact rfl)) | (apply in_ret; (repeat (first | exact ResL.nil | (apply ResL.cons; first | exact .tmp _ _ rfl | (apply res_n ttok; (iterate 6 exact rfl)) | (apply res_1 ttok; (iterate 5 exact rfl))))); exact rfl) | (apply AL_sliceS ttok; (iterate 4 exact rfl); (first | exact .dft _ | exact .lit _ _ _ _ rfl (by decide +kernel)); (first | exact .dft _ | exact .lit _ _ _ _ rfl (by decide +kernel)); decide +kernel; decide +kernel; exact rfl) | (apply AL_move; exact rfl; exact rfl) | (apply AL_assign; exact rfl; exact rfl) | (apply AL_bin; (iterate 5 exact rfl)) | (apply AL_load1 ttok; (iterate 6 exact rfl)) | (apply AL_loadn ttok; (iterate 7 exact rfl)) | (apply AL_fieldAddr ttok; (iterate 7 exact rfl)) | (apply AL_boxZ; (iterate 5 exact rfl)) | (apply AL_not; exact rfl; exact rfl) | (apply AL_convT ttok; (iterate 5 exact rfl)) | refine AL_nil ?_ | refine AW_region ?_ | refine AW_seq' ?_ | (apply AW_condA; exact rfl; (first | with_reducible assumption | decide +kernel)) | (apply AW_condB; exact rfl; (first | with_reducible assumption | decide +kernel)) | refine then_norm ?_ | refine AW_block ?_ | refine AW_ret ?_ | refine then_ret ?_ | refine blk_ret ?_ | (apply AL_build ttok; (iterate 6 exact rfl)) | (apply AL_eqS ttok; (iterate 4 exact rfl); (kernel_rfl); (kernel_rfl); (iterate 3 exact rfl)) | (apply AW_drawE 8 hmix; (decide +kernel); (kernel_rfl); (kernel_rfl); (kernel_rfl); exact rfl; exact rfl) | (apply AE_consZ; (iterate 4 exact rfl)) | exact AE.nil _ _ _ _ | (apply AEk_puT; exact rfl) | (apply AOt_mk; exact rfl; exact rfl; (decide +kernel); exact rfl) | (apply AO_puT; exact rfl) | exact AO.nil _ _ _ | (apply AOs_skip; (decide +kernel)) | exact AOs.nil | exact qY_ok rfl rfl)
  all_goals (apply endQ []; (repeat (first | exact ResL.nil | (apply ResL.cons; first | exact .tmp _ _ rfl | (apply res_n ttok; (iterate 6 exact rfl)) | (apply res_1 ttok; (iterate 5 exact rfl))))); (iterate 4 exact rfl))
  all_goals rfl
end Go.Proofs.YtdhkfbolnkikgaaGreatDoor
end

/- Package primary: the sum of a list's bytes. -/
import Derived.Test.YtfkmicjlaedlkaaGreatDoorG20
import Derived.Test.YtfkmicjlaedlkaaGreatDoorG19
import Derived.Test.YtfkmicjlaedlkaaGreatDoorG08
import Derived.Lib.Strings
import Derived.Lib.Slices
import Derived.Lib.Walk
import Derived.Lib.Bytealg
set_option linter.unusedVariables false
set_option linter.unusedSimpArgs false
section
open Go.RowKit Go.Pl Go.Av
namespace Go.Proofs.YtfkmicjlaedlkaaGreatDoor
set_option maxHeartbeats 4000000
def zeroL (s : Nat) (l : List It) : It := .mk 4 0 [] (l ++ [.mk 2 0 (List.replicate (2 * s) 0) []])
abbrev shU (k : IntKind) (z : Int) (q : Int) : Int := IntKind.u8.wrap (z.fdiv (2 ^ (min q.toNat k.bits)))
def sumE (s : Nat) (b : List UInt8) : List E :=
 if s = 1 then [.int .u8 (shU .u16 (shortV b) 8), .int .u8 (IntKind.u8.wrap (shortV b))]
 else [.int .u8 (shU .u32 (longV b) 24), .int .u8 (shU .u32 (longV b) 16), .int .u8 (shU .u32 (longV b) 8), .int .u8 (IntKind.u8.wrap (longV b))]
def by8 (z : Int) : UInt8 := UInt8.ofNat (IntKind.u8.wrap z).toNat
theorem by8_E (z : Int) : E.byte (by8 z) = .int .u8 (IntKind.u8.wrap z) := by
 have h : 0 <= IntKind.u8.wrap z /\ IntKind.u8.wrap z < 256 := by
  rw [IntKind.wrap_u8]; omega
 show E.int .u8 ((by8 z).toNat : Int) = _
 have e : ((by8 z).toNat : Int) = IntKind.u8.wrap z := by
  unfold by8
  rw [UInt8.toNat_ofNat']
  omega
 rw [e]
def sumB (s : Nat) (b : List UInt8) : List UInt8 :=
 if s = 1 then [by8 ((shortV b).fdiv (2 ^ (min (8 : Int).toNat IntKind.u16.bits))), by8 (shortV b)]
 else [by8 ((longV b).fdiv (2 ^ (min (24 : Int).toNat IntKind.u32.bits))), by8 ((longV b).fdiv (2 ^ (min (16 : Int).toNat IntKind.u32.bits))), by8 ((longV b).fdiv (2 ^ (min (8 : Int).toNat IntKind.u32.bits))), by8 (longV b)]
theorem sumB_E (s : Nat) (b : List UInt8) : (sumB s b).map E.byte = sumE s b := by
 unfold sumB sumE
 split <;> simp only [List.map_cons, List.map_nil, by8_E]
theorem sumB_len (s : Nat) (b : List UInt8) (hs : s = 1 \/ s = 2) : (sumB s b).length = 2 * s := by
 unfold sumB
 rcases hs with rfl | rfl <;> rfl
theorem wfs_app : ∀ {l r : List It}, wfs l -> wfs r -> wfs (l ++ r)
 | [], r, _, h => h
 | x :: l, r, h1, h2 => ⟨h1.1, wfs_app h1.2 h2⟩
theorem wf_zero {s : Nat} {l : List It} (hs : s = 1 \/ s = 2) (hws : wfs l) (hl : l.length <= 1000000) : wfI (zeroL s l) := by
 refine ⟨by decide, by simp, by simp; omega, wfs_app hws ⟨⟨by decide, ?_, by simp, trivial⟩, trivial⟩⟩
 rcases hs with rfl | rfl <;> decide
theorem av_sumSize [Known] (s : Nat) (hs : s = 1 \/ s = 2) : AP Tryz.prog 88 [.int .i64 (s : Int)] (.int .i64 ((2 * s : Nat) : Int)) [] := by
 rcases hs with rfl | rfl
 all_goals
  refine AP.ofA ?_
  refine AC_of Tryz.func88 rfl Tryz.ntmps88 rfl rfl ?_
  repeat' (first | (apply AW_go ttok; exact rfl))
  all_goals (apply endQ []; (apply resG_ok ttok; exact rfl); (iterate 4 exact rfl))
  all_goals rfl
theorem av_sumOf [Known] [KnownU8] (l : List It) (s : Nat) (hs : s = 1 \/ s = 2) (hne : l ≠ []) (hws : wfs l) (hl : l.length <= 1000000) (hlim : (putI (zeroL s l)).length <= 1000000000) :
  AP Tryz.prog 86 [.sl .ext (itEs l), .int .i64 (s : Int)] (match rightI (zeroL s l) with | true => .tup [byE (sumB s (putI (zeroL s l))), .int .i64 0] | false => .tup [.sl .ext [], .int .i64 3]) [] := by
 have hwz := wf_zero hs hws hl
 have hC := av_cloneI l hne hl
 have hW := av_writeI (zeroL s l) hwz (by omega) (av_rightI _ hwz)
 have hU := uniI l
 have hlen := itEs_len l
 have hmx : (itEs l).length <= 1000000 := by omega
 have hZ := av_sumSize s hs
 have hB := av_bytes (List.replicate (2 * s) 0) (by rcases hs with rfl | rfl <;> decide)
 have hL := av_list (l ++ [.mk 2 0 (List.replicate (2 * s) 0) []]) (by simp; omega) hwz.2.2.2
 have hSh := av_short (putI (zeroL s l)) hlim
 have hLo := av_long (putI (zeroL s l)) hlim
 rw [itEs_app] at hL
 have eZ : itD (.mk 4 0 [] (l ++ [.mk 2 0 (List.replicate (2 * s) 0) []])) = itD (zeroL s l) := rfl
 rw [eZ] at hL
 unfold byE
 rw [sumB_E]
 rw [<- hlen] at hC
 cases hr : rightI (zeroL s l) with
 | false =>
  rw [hr] at hW
  replace hW : AP Tryz.prog 104 [itD (zeroL s l)] (.tup [.sl .ext [], .int .i64 3]) [] := hW
  have eL : itD (zeroL s l) = .agg [.int .i64 4, .int .u64 0, .sl .ext [], .sl .ext (itEs (l ++ [.mk 2 0 (List.replicate (2 * s) 0) []]))] := rfl
  rw [eL] at hL hW
  generalize itEs (l ++ [.mk 2 0 (List.replicate (2 * s) 0) []]) = ZL at *
  clear hSh hLo hlim hwz eZ eL
  rcases hs with rfl | rfl
  all_goals
   refine AP.ofA ?_
   refine AC_of Tryz.func86 rfl Tryz.ntmps86 rfl rfl ?_
   repeat' (first | (apply AL_callT [] [] (hC); kernel_rfl; (iterate 10 exact rfl)) | (apply AL_callPw (hZ); kernel_rfl; (iterate 4 exact rfl)) | (apply AL_make0 ttok (l := 2); (iterate 12 exact rfl)) | (apply AL_make0 ttok (l := 4); (iterate 12 exact rfl)) | (apply AL_callPw (hB); kernel_rfl; (iterate 4 exact rfl)) | (apply AL_callPw (hL); kernel_rfl; (iterate 4 exact rfl)) | (apply AL_callPw (hW); kernel_rfl; (iterate 4 exact rfl)) | (apply AL_go ttok; exact rfl) | (apply AW_go ttok; exact rfl) | (apply K_go ttok; exact rfl) | (apply AW_condA; exact rfl; (first | with_reducible assumption | decide +kernel)) | (apply AL_bsZ ttok; (iterate 12 exact rfl)) | (apply AL_append ttok; (iterate 6 exact rfl); (first | with_reducible assumption | decide +kernel | exact rfl | rotate_left); exact rfl; exact rfl; (first | exact uniB_ok rfl | with_reducible assumption | decide +kernel | rotate_left); (first | exact uniB_ok rfl | with_reducible assumption | decide +kernel | rotate_left); (first | exact List.cons_ne_nil _ _ | with_reducible assumption | decide +kernel | rotate_left); (first | with_reducible assumption | decide +kernel | rotate_left); (first | with_reducible assumption | decide +kernel | rotate_left); exact rfl; exact rfl))
   all_goals first | ((apply endQ []; (apply resG_ok ttok; exact rfl); (iterate 4 exact rfl))) | skip
   all_goals first | rfl | (first | rfl | (simp only [List.length_append, List.length_cons, List.length_nil, List.length_map, itEs_len]; done) | (simp only [List.length_append, List.length_cons, List.length_nil, List.length_map, itEs_len] at *; (try unfold maxLen); (try simp only [Nat.add_mul]); omega)) | (simp; done) | (simp; omega) | (simp; unfold maxLen; omega)
 | true =>
  rw [hr] at hW
  replace hW : AP Tryz.prog 104 [itD (zeroL s l)] (.tup [byE (putI (zeroL s l)), .int .i64 0]) [] := hW
  have eL : itD (zeroL s l) = .agg [.int .i64 4, .int .u64 0, .sl .ext [], .sl .ext (itEs (l ++ [.mk 2 0 (List.replicate (2 * s) 0) []]))] := rfl
  rw [eL] at hL hW
  generalize itEs (l ++ [.mk 2 0 (List.replicate (2 * s) 0) []]) = ZL at *
  generalize putI (zeroL s l) = PZ at *
  clear hlim hwz eZ eL hr
  rcases hs with rfl | rfl
  all_goals
   refine AP.ofA ?_
   refine AC_of Tryz.func86 rfl Tryz.ntmps86 rfl rfl ?_
   repeat' (first | (apply AL_callT [] [] (hC); kernel_rfl; (iterate 10 exact rfl)) | (apply AL_callPw (hZ); kernel_rfl; (iterate 4 exact rfl)) | (apply AL_make0 ttok (l := 2); (iterate 12 exact rfl)) | (apply AL_make0 ttok (l := 4); (iterate 12 exact rfl)) | (apply AL_callPw (hB); kernel_rfl; (iterate 4 exact rfl)) | (apply AL_callPw (hL); kernel_rfl; (iterate 4 exact rfl)) | (apply AL_callPw (hW); kernel_rfl; (iterate 4 exact rfl)) | (apply AL_callPw (hSh); kernel_rfl; (iterate 4 exact rfl)) | (apply AL_callPw (hLo); kernel_rfl; (iterate 4 exact rfl)) | (apply AL_go ttok; exact rfl) | (apply AW_go ttok; exact rfl) | (apply AW_condA; exact rfl; (first | with_reducible assumption | decide +kernel)) | (apply AW_condB; exact rfl; (first | with_reducible assumption | decide +kernel)) | (apply AL_bsZ ttok; (iterate 12 exact rfl)) | (apply AL_append ttok; (iterate 6 exact rfl); (first | with_reducible assumption | decide +kernel | exact rfl | rotate_left); exact rfl; exact rfl; (first | exact uniB_ok rfl | with_reducible assumption | decide +kernel | rotate_left); (first | exact uniB_ok rfl | with_reducible assumption | decide +kernel | rotate_left); (first | exact List.cons_ne_nil _ _ | with_reducible assumption | decide +kernel | rotate_left); (first | with_reducible assumption | decide +kernel | rotate_left); (first | with_reducible assumption | decide +kernel | rotate_left); exact rfl; exact rfl) | (apply AL_shr; exact rfl; exact rfl; (first | with_reducible assumption | decide +kernel | exact Int.natCast_nonneg _ | (exact (by decide)) | rotate_left); exact rfl))
   all_goals first | ((apply endQ []; (apply resG_ok ttok; exact rfl); (iterate 4 exact rfl))) | skip
   all_goals first | rfl | (first | rfl | (simp only [List.length_append, List.length_cons, List.length_nil, List.length_map, itEs_len]; done) | (simp only [List.length_append, List.length_cons, List.length_nil, List.length_map, itEs_len] at *; (try unfold maxLen); (try simp only [Nat.add_mul]); omega)) | (simp; done) | (simp; omega) | (simp; unfold maxLen; omega)
end Go.Proofs.YtfkmicjlaedlkaaGreatDoor
end
section
open Go.RowKit Go.Pl Go.Av
namespace Go.Proofs.YtfkmicjlaedlkaaGreatDoor
set_option maxHeartbeats 4000000
theorem av_listT [Known] (l : List It) (hne : l ≠ []) (hl : l.length <= 2199023255488) (hws : wfs l) : AT Tryz.prog 47 [.sl .ext (itEs l)] [] [] (.agg [.int .i64 4, .int .u64 0, .sl .nil [], .sl (.own 0) (itEs l)]) [] [⟨(itEs l).length, 4, 32⟩] := by
 have ih' : ∀ y ∈ l, AP Tryz.prog 91 [itD y] (itD y) [] := fun y hy => av_copied y (wfs_mem hws y hy)
 have hlen := itEs_len l
 refine AC_of Tryz.func47 rfl Tryz.ntmps47 rfl rfl ?_
 repeat' (first | (apply AL_go ttok; exact rfl) | (apply AW_go ttok; exact rfl) | (apply AL_len ttok; (iterate 4 exact rfl)))
 refine AW_loopJ (fun k' tm bx fr => ∃ (i c : Nat) (L : List E), k' + i = l.length /\ c = L.length /\ L = itEs (l.take i) /\ tm = [(3, .ptr 1 0), (2, .ptr 0 0), (7, .sl .ext (itEs l)), (8, .int .i64 ((itEs l).length : Int)), (9, .int .i64 (i : Int))] /\
  ((i = 0 /\ bx = [[.int .i64 0, .int .u64 0, .sl .nil [], .sl .nil []], [.int .i64 4, .int .u64 0, .sl .nil [], .sl .nil []]] /\ fr = []) \/
  (bx = [[.int .i64 0, .int .u64 0, .sl .nil [], .sl .nil []], [.int .i64 4, .int .u64 0, .sl .nil [], .sl (.own 0) L]] /\ fr = [⟨c, 4, 32⟩]))) (l.length + 1) (Lands.mk' (m := l.length) (Nat.lt_succ_self _) ⟨0, 0, [], rfl, rfl, rfl, rfl, .inl ⟨rfl, rfl, rfl⟩⟩ ?_ rfl rfl rfl rfl rfl rfl) ?_
 ·exact .cons rfl (.cons rfl (.cons rfl (.cons rfl (.cons rfl .nil))))
 rintro k' tm bx fr ⟨i, c, L, hi, hc, hL, rfl, ⟨rfl, rfl, rfl⟩ | ⟨rfl, rfl⟩⟩
 ·cases l with
  | nil => exact absurd rfl hne
  | cons y l =>
   have hc := ih' y (List.mem_cons_self ..)
   have hU := uniI (y :: l)
   have hd : decide (((0 : Nat) : Int) < ((itEs (y :: l)).length : Int)) = true := decide_eq_true (by rw [itEs]; simp)
   obtain ⟨k1, n1, b1, l1⟩ := y
   repeat' (first | (apply AL_callPw (hc); kernel_rfl; (iterate 4 exact rfl)) | (apply AL_append_nilZ ttok; (iterate 6 exact rfl); exact uniB_ok rfl; exact List.cons_ne_nil _ _; exact rfl; decide +kernel; decide +kernel; (iterate 3 exact rfl)) | (apply AL_go ttok; exact rfl) | (apply AW_go ttok; exact rfl) | (apply K_go ttok; exact rfl) | (apply AW_condA; exact rfl; (first | with_reducible assumption | decide +kernel)) | (apply AL_bsZ ttok; (iterate 12 exact rfl)) | (apply AW_drawE 5 hmix; (decide +kernel); (kernel_rfl); (kernel_rfl); (kernel_rfl); exact rfl; exact rfl) | (apply AE_consZ; (iterate 4 exact rfl)) | exact AE.nil _ _ _ _ | (apply AEk_puT; exact rfl) | (apply AOt_mk; exact rfl; exact rfl; (decide +kernel); exact rfl) | (apply AO_puT; exact rfl) | exact AO.nil _ _ _ | (apply AOs_skip; (decide +kernel)) | exact AOs.nil | exact qY_ok rfl rfl | exact qY_wk rfl rfl rfl rfl rfl | (apply AL_idx ttok; (iterate 6 exact rfl); (first | with_reducible assumption | decide +kernel | exact Int.natCast_nonneg _ | (guard_target = (0:Int) <= (OfNat.ofNat _ : Int); decide) | rotate_left); (first | with_reducible assumption | decide +kernel | exact rfl); (first | exact uniB_ok rfl | with_reducible assumption | decide +kernel | rotate_left)))
   refine Lands.mk' (m := k' - 1) (by simp at hi; omega) ⟨1, 1, itEs [It.mk k1 n1 b1 l1], by simp at hi ⊢; omega, rfl, rfl, rfl, .inr ⟨rfl, rfl⟩⟩ ?_ rfl rfl rfl rfl rfl rfl
   exact .cons rfl (.cons rfl (.cons rfl (.cons rfl (.cons rfl .nil))))
 ·have hU := uniI l
  have hU2 : Uni 4 L := hL ▸ uniI (l.take i)
  have el := itEs_len (l.take i)
  rw [<- hL] at el
  subst hc
  rcases Nat.lt_or_ge i l.length with hlt | hge
  ·have hd : decide ((i : Int) < ((itEs l).length : Int)) = true := decide_eq_true (by omega)
   obtain ⟨⟨k1, n1, b1, l1⟩, hy⟩ : ∃ y, l[i]? = some y := ⟨_, List.getElem?_eq_getElem hlt⟩
   have hv : (itEs l)[((i : Nat) : Int).toNat]? = some (.agg [.int .i64 k1, .int .u64 (n1 : Int), .sl (b1.map E.byte), .sl (itEs l1)]) := by
    rw [Int.toNat_natCast, itEs_map, List.getElem?_map, hy]; rfl
   have hc := ih' _ (List.mem_of_getElem? hy)
   have ei : IntKind.i64.wrap ((i : Int) + 1) = ((i + 1 : Nat) : Int) := by rw [IntWalk.i64_in _ (by omega)]; omega
   have hs : L ++ [E.agg [.int .i64 k1, .int .u64 (n1 : Int), .sl (b1.map E.byte), .sl (itEs l1)]] = itEs (l.take (i + 1)) := by
    rw [hL, List.take_add_one, hy]; exact (itEs_app _ [It.mk k1 n1 b1 l1]).symm
   rw [List.length_take] at el
   repeat' (first | (apply AL_callPw (hc); kernel_rfl; (iterate 4 exact rfl)) | rw [ei] | (apply AL_go ttok; exact rfl) | (apply AW_go ttok; exact rfl) | (apply K_go ttok; exact rfl) | (apply AW_condA; exact rfl; (first | with_reducible assumption | decide +kernel)) | (apply AL_bsZ ttok; (iterate 12 exact rfl)) | (apply AW_drawE 5 hmix; (decide +kernel); (kernel_rfl); (kernel_rfl); (kernel_rfl); exact rfl; exact rfl) | (apply AE_consZ; (iterate 4 exact rfl)) | exact AE.nil _ _ _ _ | (apply AEk_puT; exact rfl) | (apply AOt_mk; exact rfl; exact rfl; (decide +kernel); exact rfl) | (apply AO_puT; exact rfl) | exact AO.nil _ _ _ | (apply AOs_skip; (decide +kernel)) | exact AOs.nil | exact qY_ok rfl rfl | exact qY_wk rfl rfl rfl rfl rfl | (apply AL_append ttok; (iterate 6 exact rfl); (first | with_reducible assumption | decide +kernel | exact rfl | rotate_left); exact rfl; exact rfl; (first | exact uniB_ok rfl | with_reducible assumption | decide +kernel | rotate_left); (first | exact uniB_ok rfl | with_reducible assumption | decide +kernel | rotate_left); (first | exact List.cons_ne_nil _ _ | with_reducible assumption | decide +kernel | rotate_left); (first | with_reducible assumption | decide +kernel | rotate_left); (first | with_reducible assumption | decide +kernel | rotate_left); exact rfl; exact rfl) | (apply AL_idx ttok; (iterate 6 exact rfl); (first | with_reducible assumption | decide +kernel | exact Int.natCast_nonneg _ | (guard_target = (0:Int) <= (OfNat.ofNat _ : Int); decide) | rotate_left); (first | with_reducible assumption | decide +kernel | exact rfl); (first | exact uniB_ok rfl | with_reducible assumption | decide +kernel | rotate_left)))
   ·refine Lands.mk' (m := k' - 1) (by omega) ⟨i + 1, L.length + 1, _, by omega, by rw [List.length_append]; rfl, hs, rfl, .inr ⟨rfl, rfl⟩⟩ ?_ rfl rfl rfl rfl rfl rfl
    exact .cons rfl (.cons rfl (.cons rfl (.cons rfl (.cons rfl .nil))))
   all_goals (first | rfl | (simp only [List.length_append, List.length_cons, List.length_nil, List.length_map, itEs_len]; done) | (simp only [List.length_append, List.length_cons, List.length_nil, List.length_map, itEs_len] at *; (try unfold maxLen); (try simp only [Nat.add_mul]); omega))
  ·have hd : decide ((i : Int) < ((itEs l).length : Int)) = false := decide_eq_false (by omega)
   rw [List.take_of_length_le hge] at hL
   subst hL
   repeat' (first | (apply AW_go ttok; exact rfl) | (apply AW_condB; exact rfl; (first | with_reducible assumption | decide +kernel)))
   all_goals (apply endT [] [0]; (apply resG_ok ttok; exact rfl); (iterate 7 exact rfl))
   all_goals rfl
def z0 : It := .mk 0 0 [] []
def outL (s : Nat) (l : List It) : It := .mk 4 0 [] (l ++ [.mk 2 0 (sumB s (putI (zeroL s l))) []])
def sealV (l : List It) (a : Int) : It × Int := match decide (a < 0) || decide (a ≥ (l.length : Int)) with
 | true => (z0, 1)
 | false => match l.all rightI && decide (typeV l a ≥ 0) with
  | false => (z0, 3)
  | true => match decide (typeV l a > 0) with
   | false => (match rightI (.mk 4 0 [] l) with | true => (.mk 4 0 [] l, 0) | false => (z0, 3))
   | true => (match rightI (zeroL (typeV l a).toNat l) with
    | false => (z0, 3)
    | true => match rightI (outL (typeV l a).toNat l) with
     | false => (z0, 3)
     | true => (outL (typeV l a).toNat l, 0))
abbrev sealD (r : It × Int) : D := .tup [itD r.1, .int .i64 r.2]
theorem typeV_cases (l : List It) (a : Int) : typeV l a = -1 \/ ((typeV l a = 0 \/ typeV l a = 1 \/ typeV l a = 2) /\ 0 <= a /\ a < (l.length : Int)) := by
 unfold typeV
 split
 ·exact .inl rfl
 rename_i h0
 cases h : l[a.toNat]? with
 | none => exact .inl rfl
 | some x =>
  obtain ⟨k, n, b, r⟩ := x
  have hlt := (List.getElem?_eq_some_iff.1 h).1
  dsimp only
  cases t : decide ((n : Int) > 2) with
  | true => exact .inl rfl
  | false =>
   have := of_decide_eq_false t
   cases It.beq (.mk k n b r) (.mk 0 n [] []) with
   | false => exact .inl rfl
   | true => dsimp only; omega
theorem wf_out {s : Nat} {l : List It} (hs : s = 1 \/ s = 2) (hws : wfs l) (hl : l.length <= 1000000) : wfI (outL s l) := by
 refine ⟨by decide, by simp, by simp; omega, wfs_app hws ⟨⟨by decide, ?_, by simp, trivial⟩, trivial⟩⟩
 rw [sumB_len _ _ hs]
 omega
theorem av_seal [Known] [KnownU8] (l : List It) (a : Int) (hws : wfs l) (hl : l.length <= 1000000) (hlim : ∀ s, s = 1 \/ s = 2 -> (putI (zeroL s l)).length <= 1000000000) : AP Tryz.prog 43 [.sl .ext (itEs l), .int .i64 a] (sealD (sealV l a)) [] := by
 have hlen := itEs_len l
 have hU := uniI l
 have hC := av_contF l hws hl
 have hT := av_typeAt l hws a
 unfold sealV
 rw [<- hlen]
 rcases Int.lt_or_le a 0 with h0 | h0
 ·have t1 : decide (a < 0) = true := decide_eq_true h0
  rw [t1, Bool.true_or]
  dsimp only [z0]
  refine AP.ofA ?_
  refine AC_of Tryz.func43 rfl Tryz.ntmps43 rfl rfl ?_
  repeat' (first | (apply AL_go ttok; exact rfl) | (apply AW_go ttok; exact rfl) | (apply K_go ttok; exact rfl) | (apply AL_guardFf; (iterate 3 exact rfl); (first | with_reducible assumption | decide +kernel)) | (apply AL_pickT; exact rfl; (first | with_reducible assumption | decide +kernel); exact rfl; exact rfl) | (apply AW_condA; exact rfl; (first | with_reducible assumption | decide +kernel)))
  all_goals (apply endQ []; (apply resG_ok ttok; exact rfl); (iterate 4 exact rfl))
  all_goals rfl
 have t1 : decide (a < 0) = false := decide_eq_false (by omega)
 rw [t1, Bool.false_or]
 cases t2 : decide (a ≥ ((itEs l).length : Int)) with
 | true =>
  dsimp only [z0]
  refine AP.ofA ?_
  refine AC_of Tryz.func43 rfl Tryz.ntmps43 rfl rfl ?_
  repeat' (first | (apply AL_go ttok; exact rfl) | (apply AW_go ttok; exact rfl) | (apply K_go ttok; exact rfl) | (apply AL_guardT; (iterate 3 exact rfl); (first | with_reducible assumption | decide +kernel)) | (apply AL_pickF; exact rfl; (first | with_reducible assumption | decide +kernel); exact rfl; exact rfl) | (apply AW_condA; exact rfl; (first | with_reducible assumption | decide +kernel)) | (apply AL_len ttok; (iterate 4 exact rfl)))
  all_goals (apply endQ []; (apply resG_ok ttok; exact rfl); (iterate 4 exact rfl))
  all_goals rfl
 | false =>
 have hne : l ≠ [] := by rintro rfl; have := of_decide_eq_false t2; simp [itEs] at this; omega
 cases hA : l.all rightI with
 | false =>
  rw [hA] at hC
  replace hC : AP Tryz.prog 85 _ (.bool true) [] := hC
  rw [Bool.false_and]
  dsimp only [z0]
  generalize typeV l a = tv at *
  refine AP.ofA ?_
  refine AC_of Tryz.func43 rfl Tryz.ntmps43 rfl rfl ?_
  repeat' (first | (apply AL_callPw (hC); kernel_rfl; (iterate 4 exact rfl)) | (apply AL_callPw (hT); kernel_rfl; (iterate 4 exact rfl)) | (apply AL_go ttok; exact rfl) | (apply AW_go ttok; exact rfl) | (apply K_go ttok; exact rfl) | (apply AL_guardT; (iterate 3 exact rfl); (first | with_reducible assumption | decide +kernel)) | (apply AL_guardFf; (iterate 3 exact rfl); (first | with_reducible assumption | decide +kernel)) | (apply AL_pickT; exact rfl; (first | with_reducible assumption | decide +kernel); exact rfl; exact rfl) | (apply AL_pickF; exact rfl; (first | with_reducible assumption | decide +kernel); exact rfl; exact rfl) | (apply AW_condA; exact rfl; (first | with_reducible assumption | decide +kernel)) | (apply AW_condB; exact rfl; (first | with_reducible assumption | decide +kernel)) | (apply AL_len ttok; (iterate 4 exact rfl)))
  all_goals (apply endQ []; (apply resG_ok ttok; exact rfl); (iterate 4 exact rfl))
  all_goals rfl
 | true =>
  rw [hA] at hC
  replace hC : AP Tryz.prog 85 _ (.bool false) [] := hC
  rw [Bool.true_and]
  rcases typeV_cases l a with e | ⟨e | e, _, _⟩
  ·rw [e] at hT ⊢
   dsimp only [z0]
   refine AP.ofA ?_
   refine AC_of Tryz.func43 rfl Tryz.ntmps43 rfl rfl ?_
   repeat' (first | (apply AL_callPw (hC); kernel_rfl; (iterate 4 exact rfl)) | (apply AL_callPw (hT); kernel_rfl; (iterate 4 exact rfl)) | (apply AL_go ttok; exact rfl) | (apply AW_go ttok; exact rfl) | (apply K_go ttok; exact rfl) | (apply AL_guardT; (iterate 3 exact rfl); (first | with_reducible assumption | decide +kernel)) | (apply AL_pickF; exact rfl; (first | with_reducible assumption | decide +kernel); exact rfl; exact rfl) | (apply AW_condA; exact rfl; (first | with_reducible assumption | decide +kernel)) | (apply AW_condB; exact rfl; (first | with_reducible assumption | decide +kernel)) | (apply AL_len ttok; (iterate 4 exact rfl)))
   all_goals (apply endQ []; (apply resG_ok ttok; exact rfl); (iterate 4 exact rfl))
   all_goals rfl
  ·rw [e] at hT ⊢
   have hL := av_list l (by omega) hws
   have hR := av_rightI (.mk 4 0 [] l) ⟨by decide, by simp, by omega, hws⟩
   cases hr : rightI (.mk 4 0 [] l) with
   | false =>
    rw [hr] at hR
    dsimp only [z0]
    refine AP.ofA ?_
    refine AC_of Tryz.func43 rfl Tryz.ntmps43 rfl rfl ?_
    repeat' (first | (apply AL_callPw (hC); kernel_rfl; (iterate 4 exact rfl)) | (apply AL_callPw (hT); kernel_rfl; (iterate 4 exact rfl)) | (apply AL_callPw (hL); kernel_rfl; (iterate 4 exact rfl)) | (apply AL_callPw (hR); kernel_rfl; (iterate 4 exact rfl)) | (apply AL_go ttok; exact rfl) | (apply AW_go ttok; exact rfl) | (apply K_go ttok; exact rfl) | (apply AL_guardT; (iterate 3 exact rfl); (first | with_reducible assumption | decide +kernel)) | (apply AL_pickF; exact rfl; (first | with_reducible assumption | decide +kernel); exact rfl; exact rfl) | (apply AW_condA; exact rfl; (first | with_reducible assumption | decide +kernel)) | (apply AW_condB; exact rfl; (first | with_reducible assumption | decide +kernel)) | (apply AL_len ttok; (iterate 4 exact rfl)))
    all_goals (apply endQ []; (apply resG_ok ttok; exact rfl); (iterate 4 exact rfl))
    all_goals rfl
   | true =>
    rw [hr] at hR
    refine AP.ofA ?_
    refine AC_of Tryz.func43 rfl Tryz.ntmps43 rfl rfl ?_
    repeat' (first | (apply AL_callPw (hC); kernel_rfl; (iterate 4 exact rfl)) | (apply AL_callPw (hT); kernel_rfl; (iterate 4 exact rfl)) | (apply AL_callPw (hL); kernel_rfl; (iterate 4 exact rfl)) | (apply AL_callPw (hR); kernel_rfl; (iterate 4 exact rfl)) | (apply AL_go ttok; exact rfl) | (apply AW_go ttok; exact rfl) | (apply K_go ttok; exact rfl) | (apply AL_guardT; (iterate 3 exact rfl); (first | with_reducible assumption | decide +kernel)) | (apply AL_pickF; exact rfl; (first | with_reducible assumption | decide +kernel); exact rfl; exact rfl) | (apply AW_condB; exact rfl; (first | with_reducible assumption | decide +kernel)) | (apply AL_len ttok; (iterate 4 exact rfl)))
    all_goals (apply endQ []; (apply resG_ok ttok; exact rfl); (iterate 4 exact rfl))
    all_goals rfl
  ·obtain ⟨s, hs, es⟩ : ∃ s : Nat, (s = 1 \/ s = 2) /\ typeV l a = (s : Int) := ⟨(typeV l a).toNat, by omega, by omega⟩
   rw [es] at hT ⊢
   rw [Int.toNat_natCast]
   have hS := av_sumOf l s hs hne hws hl (hlim s hs)
   have hL := av_listT l hne (by omega) hws
   have hsl := sumB_len s (putI (zeroL s l)) hs
   have hB := av_bytes (sumB s (putI (zeroL s l))) (by omega)
   have hR := av_rightI (outL s l) (wf_out hs hws hl)
   have hmx : (itEs l).length <= 1000000 := by omega
   have d1 : decide ((s : Int) < 0) = false := decide_eq_false (by omega)
   have d2 : decide ((s : Int) > 0) = true := decide_eq_true (by omega)
   have d3 : decide ((s : Int) ≥ 0) = true := decide_eq_true (by omega)
   rw [d2, d3]
   cases hz : rightI (zeroL s l) with
   | false =>
    rw [hz] at hS
    dsimp only [z0]
    dsimp only at hS
    refine AP.ofA ?_
    refine AC_of Tryz.func43 rfl Tryz.ntmps43 rfl rfl ?_
    repeat' (first | (apply AL_callPw (hC); kernel_rfl; (iterate 4 exact rfl)) | (apply AL_callPw (hT); kernel_rfl; (iterate 4 exact rfl)) | (apply AL_callT [] [] (hL); kernel_rfl; (iterate 10 exact rfl)) | (apply AL_callPw (hS); kernel_rfl; (iterate 4 exact rfl)) | (apply AL_go ttok; exact rfl) | (apply AW_go ttok; exact rfl) | (apply K_go ttok; exact rfl) | (apply AL_guardT; (iterate 3 exact rfl); (first | with_reducible assumption | decide +kernel)) | (apply AL_pickF; exact rfl; (first | with_reducible assumption | decide +kernel); exact rfl; exact rfl) | (apply AW_condA; exact rfl; (first | with_reducible assumption | decide +kernel)) | (apply AW_condB; exact rfl; (first | with_reducible assumption | decide +kernel)) | (apply AL_len ttok; (iterate 4 exact rfl)))
    all_goals (apply endQ []; (apply resG_ok ttok; exact rfl); (iterate 4 exact rfl))
    all_goals rfl
   | true =>
    rw [hz] at hS
    dsimp only at hS ⊢
    have eO : itD (outL s l) = .agg [.int .i64 4, .int .u64 0, .sl .ext [], .sl .ext (itEs l ++ [.agg [.int .i64 2, .int .u64 0, .sl ((sumB s (putI (zeroL s l))).map E.byte), .sl []]])] := by
     show D.agg [.int .i64 4, .int .u64 0, .sl .ext [], .sl .ext (itEs (l ++ [.mk 2 0 (sumB s (putI (zeroL s l))) []]))] = _
     rw [itEs_app]
     rfl
    cases hr : rightI (outL s l) with
    | false =>
     rw [hr, eO] at hR
     dsimp only [z0]
     generalize sumB s (putI (zeroL s l)) = SB at *
     refine AP.ofA ?_
     refine AC_of Tryz.func43 rfl Tryz.ntmps43 rfl rfl ?_
     repeat' (first | (apply AL_callPw (hC); kernel_rfl; (iterate 4 exact rfl)) | (apply AL_callPw (hT); kernel_rfl; (iterate 4 exact rfl)) | (apply AL_callT [] [] (hL); kernel_rfl; (iterate 10 exact rfl)) | (apply AL_callPw (hS); kernel_rfl; (iterate 4 exact rfl)) | (apply AL_callPw (hB); kernel_rfl; (iterate 4 exact rfl)) | (apply AL_callPw (hR); kernel_rfl; (iterate 4 exact rfl)) | (apply AL_go ttok; exact rfl) | (apply AW_go ttok; exact rfl) | (apply K_go ttok; exact rfl) | (apply AL_guardT; (iterate 3 exact rfl); (first | with_reducible assumption | decide +kernel)) | (apply AL_pickF; exact rfl; (first | with_reducible assumption | decide +kernel); exact rfl; exact rfl) | (apply AW_condA; exact rfl; (first | with_reducible assumption | decide +kernel)) | (apply AW_condB; exact rfl; (first | with_reducible assumption | decide +kernel)) | (apply AL_len ttok; (iterate 4 exact rfl)) | (apply AL_bsZ ttok; (iterate 12 exact rfl)) | (apply AW_drawE 5 hmix; (decide +kernel); (kernel_rfl); (kernel_rfl); (kernel_rfl); exact rfl; exact rfl) | (apply AE_consZ; (iterate 4 exact rfl)) | exact AE.nil _ _ _ _ | (apply AEk_puT; exact rfl) | (apply AOt_mk; exact rfl; exact rfl; (decide +kernel); exact rfl) | (apply AO_puT; exact rfl) | exact AO.nil _ _ _ | (apply AOs_skip; (decide +kernel)) | exact AOs.nil | exact qY_ok rfl rfl | exact qY_wk rfl rfl rfl rfl rfl | (apply AL_append ttok; (iterate 6 exact rfl); (first | with_reducible assumption | decide +kernel | exact rfl | rotate_left); exact rfl; exact rfl; (first | exact uniB_ok rfl | with_reducible assumption | decide +kernel | rotate_left); (first | exact uniB_ok rfl | with_reducible assumption | decide +kernel | rotate_left); (first | exact List.cons_ne_nil _ _ | with_reducible assumption | decide +kernel | rotate_left); (first | with_reducible assumption | decide +kernel | rotate_left); (first | with_reducible assumption | decide +kernel | rotate_left); exact rfl; exact rfl))
     all_goals first | ((apply endQ []; (apply resG_ok ttok; exact rfl); (iterate 4 exact rfl))) | skip
     all_goals first | rfl | (first | rfl | (simp only [List.length_append, List.length_cons, List.length_nil, List.length_map, itEs_len]; done) | (simp only [List.length_append, List.length_cons, List.length_nil, List.length_map, itEs_len] at *; (try unfold maxLen); (try simp only [Nat.add_mul]); omega)) | (simp; done) | (simp; omega) | (simp; unfold maxLen; omega)
    | true =>
     rw [hr, eO] at hR
     dsimp only [sealD]
     rw [eO]
     generalize sumB s (putI (zeroL s l)) = SB at *
     refine AP.ofA ?_
     refine AC_of Tryz.func43 rfl Tryz.ntmps43 rfl rfl ?_
     repeat' (first | (apply AL_callPw (hC); kernel_rfl; (iterate 4 exact rfl)) | (apply AL_callPw (hT); kernel_rfl; (iterate 4 exact rfl)) | (apply AL_callT [] [] (hL); kernel_rfl; (iterate 10 exact rfl)) | (apply AL_callPw (hS); kernel_rfl; (iterate 4 exact rfl)) | (apply AL_callPw (hB); kernel_rfl; (iterate 4 exact rfl)) | (apply AL_callPw (hR); kernel_rfl; (iterate 4 exact rfl)) | (apply AL_go ttok; exact rfl) | (apply AW_go ttok; exact rfl) | (apply K_go ttok; exact rfl) | (apply AL_guardT; (iterate 3 exact rfl); (first | with_reducible assumption | decide +kernel)) | (apply AL_pickF; exact rfl; (first | with_reducible assumption | decide +kernel); exact rfl; exact rfl) | (apply AW_condA; exact rfl; (first | with_reducible assumption | decide +kernel)) | (apply AW_condB; exact rfl; (first | with_reducible assumption | decide +kernel)) | (apply AL_len ttok; (iterate 4 exact rfl)) | (apply AL_bsZ ttok; (iterate 12 exact rfl)) | (apply AW_drawE 5 hmix; (decide +kernel); (kernel_rfl); (kernel_rfl); (kernel_rfl); exact rfl; exact rfl) | (apply AE_consZ; (iterate 4 exact rfl)) | exact AE.nil _ _ _ _ | (apply AEk_puT; exact rfl) | (apply AOt_mk; exact rfl; exact rfl; (decide +kernel); exact rfl) | (apply AO_puT; exact rfl) | exact AO.nil _ _ _ | (apply AOs_skip; (decide +kernel)) | exact AOs.nil | exact qY_ok rfl rfl | exact qY_wk rfl rfl rfl rfl rfl | (apply AL_append ttok; (iterate 6 exact rfl); (first | with_reducible assumption | decide +kernel | exact rfl | rotate_left); exact rfl; exact rfl; (first | exact uniB_ok rfl | with_reducible assumption | decide +kernel | rotate_left); (first | exact uniB_ok rfl | with_reducible assumption | decide +kernel | rotate_left); (first | exact List.cons_ne_nil _ _ | with_reducible assumption | decide +kernel | rotate_left); (first | with_reducible assumption | decide +kernel | rotate_left); (first | with_reducible assumption | decide +kernel | rotate_left); exact rfl; exact rfl))
     all_goals first | ((apply endQ []; (apply resG_ok ttok; exact rfl); (iterate 4 exact rfl))) | skip
     all_goals first | rfl | (first | rfl | (simp only [List.length_append, List.length_cons, List.length_nil, List.length_map, itEs_len]; done) | (simp only [List.length_append, List.length_cons, List.length_nil, List.length_map, itEs_len] at *; (try unfold maxLen); (try simp only [Nat.add_mul]); omega)) | (simp; done) | (simp; omega) | (simp; unfold maxLen; omega)
end Go.Proofs.YtfkmicjlaedlkaaGreatDoor
end
section
open Go.RowKit Go.Pl Go.Av
namespace Go.Proofs.YtfkmicjlaedlkaaGreatDoor
set_option maxHeartbeats 4000000
end Go.Proofs.YtfkmicjlaedlkaaGreatDoor
end
section
open Go.RowKit Go.Pl Go.Av
namespace Go.Proofs.YtfkmicjlaedlkaaGreatDoor
set_option maxHeartbeats 4000000
theorem uniU (l : List Nat) : Uni 1 (l.map fun n : Nat => E.int .u64 (n : Int)) := Uni.map (f := fun n : Nat => E.int .u64 (n : Int)) (fun _ => rfl) l
def badN (n : Nat) : Bool := decide ((n : Int) < 1) || decide ((n : Int) > 255)
theorem av_within1 [Known] (n : Nat) : AP Tryz.prog 146 [.int .u64 (n : Int)] (.bool (badN n)) [] := by
 unfold badN
 refine AP.ofA ?_
 refine AC_of Tryz.func146 rfl Tryz.ntmps146 rfl rfl ?_
 repeat' (first | (apply AL_go ttok; exact rfl) | (apply AW_go ttok; exact rfl) | (apply AL_guardT; (iterate 3 exact rfl); (first | with_reducible assumption | (solve | simp only [bn]))) | (apply AL_guardFf; (iterate 3 exact rfl); (first | with_reducible assumption | (solve | simp only [bn]))) | (apply AL_guardS; exact rfl; exact rfl; all_goals intro hb) | (apply AL_pickT; exact rfl; (first | with_reducible assumption | (solve | simp only [bn])); exact rfl; exact rfl) | (apply AL_pickF; exact rfl; (first | with_reducible assumption | (solve | simp only [bn])); exact rfl; exact rfl))
 all_goals (apply endQ []; (apply resG_ok ttok; exact rfl); (iterate 4 exact rfl))
 all_goals first | rfl | (simp only [*]; done) | (simp only [*]; rfl)
def idx2 : Bool -> Bool -> Int
 | true, _ => 0
 | false, true => 1
 | false, false => -1
theorem av_idxU [Known] (a b : Nat) (x y : Bool) (hx : badN a = x) (hy : badN b = y) : AP Tryz.prog 156 [.sl .ext [.int .u64 (a : Int), .int .u64 (b : Int)], .fn 146 []] (.int .i64 (idx2 x y)) [] := by
 have ga := av_within1 a
 have gb := av_within1 b
 rw [hx] at ga
 rw [hy] at gb
 have hU := uniU [a, b]
 have q0 : decide ((0 : Int) < (([.int .u64 (a : Int), .int .u64 (b : Int)] : List E).length : Int)) = true := rfl
 have q1 : decide ((1 : Int) < (([.int .u64 (a : Int), .int .u64 (b : Int)] : List E).length : Int)) = true := rfl
 have q2 : decide ((2 : Int) < (([.int .u64 (a : Int), .int .u64 (b : Int)] : List E).length : Int)) = false := rfl
 have e1 : IntKind.i64.wrap (0 + 1) = 1 := by decide
 have e2 : IntKind.i64.wrap (1 + 1) = 2 := by decide
 cases x <;> cases y
 all_goals
  refine AP.ofA ?_
  refine AC_of Tryz.func156 rfl Tryz.ntmps156 rfl rfl ?_
  repeat' (first | rw [e1] | rw [e2] | (apply AL_callPv (ga); exact rfl; kernel_rfl; (iterate 3 exact rfl)) | (apply AL_callPv (gb); exact rfl; kernel_rfl; (iterate 3 exact rfl)) | (apply AL_idx ttok; (iterate 6 exact rfl); exact (by decide); exact rfl; exact hU) | refine AW_loopN 20 ?_ | refine AN_succ ?_ | (apply AL_go ttok; exact rfl) | (apply AW_go ttok; exact rfl) | (apply K_go ttok; exact rfl) | (apply AW_condA; exact rfl; (first | with_reducible assumption | decide +kernel)) | (apply AW_condB; exact rfl; (first | with_reducible assumption | decide +kernel)) | refine then_ret ?_ | (apply AL_len ttok; (iterate 4 exact rfl)))
  all_goals (apply endQ []; (apply resG_ok ttok; exact rfl); (iterate 4 exact rfl))
  all_goals rfl
theorem av_contU [Known] (a b : Nat) : AP Tryz.prog 145 [.sl .ext [.int .u64 (a : Int), .int .u64 (b : Int)], .fn 146 []] (.bool (badN a || badN b)) [] := by
 cases hx : badN a <;> cases hy : badN b
 all_goals
  have hI := av_idxU a b _ _ hx hy
  refine AP.ofA ?_
  refine AC_of Tryz.func145 rfl Tryz.ntmps145 rfl rfl ?_
  repeat' (first | (apply AL_callPw (hI); kernel_rfl; (iterate 4 exact rfl)) | (apply AL_go ttok; exact rfl) | (apply AW_go ttok; exact rfl))
  all_goals (apply endQ []; (apply resG_ok ttok; exact rfl); (iterate 4 exact rfl))
  all_goals rfl
theorem av_within2 [Known] (a b : Nat) : AP Tryz.prog 129 [.sl .ext [.int .u64 (a : Int), .int .u64 (b : Int)]] (.bool (!(badN a || badN b))) [] := by
 have hI := av_contU a b
 refine AP.ofA ?_
 refine AC_of Tryz.func129 rfl Tryz.ntmps129 rfl rfl ?_
 repeat' (first | (apply AL_callPw (hI); kernel_rfl; (iterate 4 exact rfl)) | (apply AL_go ttok; exact rfl) | (apply AW_go ttok; exact rfl))
 all_goals (apply endQ []; (apply resG_ok ttok; exact rfl); (iterate 4 exact rfl))
 all_goals rfl
theorem av_list0 [Known] : AT Tryz.prog 47 [.sl .nil []] [] [] (.agg [.int .i64 4, .int .u64 0, .sl .nil [], .sl .nil []]) [] [] := by
 refine AC_of Tryz.func47 rfl Tryz.ntmps47 rfl rfl ?_
 repeat' (first | refine AW_loopN 20 ?_ | refine AN_succ ?_ | (apply AL_go ttok; exact rfl) | (apply AW_go ttok; exact rfl) | (apply AW_condB; exact rfl; (first | with_reducible assumption | decide +kernel)) | (apply AL_len ttok; (iterate 4 exact rfl)))
 all_goals (apply endT [] []; (apply resG_ok ttok; exact rfl); (iterate 7 exact rfl))
 all_goals rfl
abbrev nmE (n : Nat) : E := .agg [.int .i64 0, .int .u64 (n : Int), .sl [], .sl []]
theorem av_numbers2 [Known] (a b : Nat) : AP Tryz.prog 111 [.sl .ext [.int .u64 (a : Int), .int .u64 (b : Int)]] (.agg [.int .i64 4, .int .u64 0, .sl .ext [], .sl .ext [nmE a, nmE b]]) [] := by
 have ga := av_num a
 have gb := av_num b
 have hL := av_list0
 have hU := uniU [a, b]
 have e1 : IntKind.i64.wrap (0 + 1) = 1 := by decide
 have e2 : IntKind.i64.wrap (1 + 1) = 2 := by decide
 have hU4 : ∀ (l : List Nat), Uni 4 (l.map nmE) := fun l => Uni.map (f := nmE) (fun _ => rfl) l
 have q0 : decide ((0 : Int) < (([.int .u64 (a : Int), .int .u64 (b : Int)] : List E).length : Int)) = true := rfl
 have q1 : decide ((1 : Int) < (([.int .u64 (a : Int), .int .u64 (b : Int)] : List E).length : Int)) = true := rfl
 have q2 : decide ((2 : Int) < (([.int .u64 (a : Int), .int .u64 (b : Int)] : List E).length : Int)) = false := rfl
 have hu1 := hU4 [a]
 have hu2 := hU4 [a, b]
 refine AP.ofA ?_
 refine AC_of Tryz.func111 rfl Tryz.ntmps111 rfl rfl ?_
 repeat' (first | rw [e1] | rw [e2] | (apply AL_callT [] [] (hL); kernel_rfl; (iterate 10 exact rfl)) | (apply AL_callPw (ga); kernel_rfl; (iterate 4 exact rfl)) | (apply AL_callPw (gb); kernel_rfl; (iterate 4 exact rfl)) | (apply AL_idx ttok; (iterate 6 exact rfl); exact (by decide); exact rfl; exact hU) | refine AW_loopN 20 ?_ | refine AN_succ ?_ | (apply AL_appendZ ttok; (iterate 11 exact rfl); exact uniB_ok rfl; exact uniB_ok rfl; exact List.cons_ne_nil _ _; decide +kernel; decide +kernel; exact rfl; exact rfl) | (apply AL_append_nilZ ttok; (iterate 6 exact rfl); exact uniB_ok rfl; exact List.cons_ne_nil _ _; exact rfl; decide +kernel; decide +kernel; (iterate 3 exact rfl)) | (apply AL_go ttok; exact rfl) | (apply AW_go ttok; exact rfl) | (apply K_go ttok; exact rfl) | (apply AW_condA; exact rfl; (first | with_reducible assumption | decide +kernel)) | (apply AW_condB; exact rfl; (first | with_reducible assumption | decide +kernel)) | (apply AL_len ttok; (iterate 4 exact rfl)) | (apply AL_bsZ ttok; (iterate 12 exact rfl)) | (apply AW_drawE 5 hmix; (decide +kernel); (kernel_rfl); (kernel_rfl); (kernel_rfl); exact rfl; exact rfl) | (apply AE_consZ; (iterate 4 exact rfl)) | exact AE.nil _ _ _ _ | (apply AEk_puT; exact rfl) | (apply AOt_mk; exact rfl; exact rfl; (decide +kernel); exact rfl) | (apply AO_puT; exact rfl) | exact AO.nil _ _ _ | (apply AOs_skip; (decide +kernel)) | exact AOs.nil | exact qY_ok rfl rfl | exact qY_wk rfl rfl rfl rfl rfl)
 all_goals (apply endQ []; (apply resG_ok ttok; exact rfl); (iterate 4 exact rfl))
 all_goals rfl
theorem av_numbers4 [Known] (a b c d : Nat) : AT Tryz.prog 111 [.sl .ext [.int .u64 (a : Int), .int .u64 (b : Int), .int .u64 (c : Int), .int .u64 (d : Int)]] [] [] (.agg [.int .i64 4, .int .u64 0, .sl .nil [], .sl (.own 0) [nmE a, nmE b, nmE c, nmE d]]) [] [⟨4, 4, 32⟩] := by
 have ga := av_num a
 have gb := av_num b
 have gc := av_num c
 have gd := av_num d
 have hL := av_list0
 have hU := uniU [a, b, c, d]
 have e1 : IntKind.i64.wrap (0 + 1) = 1 := by decide
 have e2 : IntKind.i64.wrap (1 + 1) = 2 := by decide
 have e3 : IntKind.i64.wrap (2 + 1) = 3 := by decide
 have e4 : IntKind.i64.wrap (3 + 1) = 4 := by decide
 have hU4 : ∀ (l : List Nat), Uni 4 (l.map nmE) := fun l => Uni.map (f := nmE) (fun _ => rfl) l
 have q0 : decide ((0 : Int) < (([.int .u64 (a : Int), .int .u64 (b : Int), .int .u64 (c : Int), .int .u64 (d : Int)] : List E).length : Int)) = true := rfl
 have q1 : decide ((1 : Int) < (([.int .u64 (a : Int), .int .u64 (b : Int), .int .u64 (c : Int), .int .u64 (d : Int)] : List E).length : Int)) = true := rfl
 have q2 : decide ((2 : Int) < (([.int .u64 (a : Int), .int .u64 (b : Int), .int .u64 (c : Int), .int .u64 (d : Int)] : List E).length : Int)) = true := rfl
 have q3 : decide ((3 : Int) < (([.int .u64 (a : Int), .int .u64 (b : Int), .int .u64 (c : Int), .int .u64 (d : Int)] : List E).length : Int)) = true := rfl
 have q4 : decide ((4 : Int) < (([.int .u64 (a : Int), .int .u64 (b : Int), .int .u64 (c : Int), .int .u64 (d : Int)] : List E).length : Int)) = false := rfl
 have hu1 := hU4 [a]
 have hu2 := hU4 [a, b]
 have hu3 := hU4 [a, b, c]
 have hu4 := hU4 [a, b, c, d]
 refine AC_of Tryz.func111 rfl Tryz.ntmps111 rfl rfl ?_
 repeat' (first | rw [e1] | rw [e2] | rw [e3] | rw [e4] | (apply AL_callT [] [] (hL); kernel_rfl; (iterate 10 exact rfl)) | (apply AL_callPw (ga); kernel_rfl; (iterate 4 exact rfl)) | (apply AL_callPw (gb); kernel_rfl; (iterate 4 exact rfl)) | (apply AL_callPw (gc); kernel_rfl; (iterate 4 exact rfl)) | (apply AL_callPw (gd); kernel_rfl; (iterate 4 exact rfl)) | (apply AL_idx ttok; (iterate 6 exact rfl); exact (by decide); exact rfl; exact hU) | refine AW_loopN 20 ?_ | refine AN_succ ?_ | (apply AL_appendZ ttok; (iterate 11 exact rfl); exact uniB_ok rfl; exact uniB_ok rfl; exact List.cons_ne_nil _ _; decide +kernel; decide +kernel; exact rfl; exact rfl) | (apply AL_append_nilZ ttok; (iterate 6 exact rfl); exact uniB_ok rfl; exact List.cons_ne_nil _ _; exact rfl; decide +kernel; decide +kernel; (iterate 3 exact rfl)) | (apply AL_go ttok; exact rfl) | (apply AW_go ttok; exact rfl) | (apply K_go ttok; exact rfl) | (apply AW_condA; exact rfl; (first | with_reducible assumption | decide +kernel)) | (apply AW_condB; exact rfl; (first | with_reducible assumption | decide +kernel)) | (apply AL_len ttok; (iterate 4 exact rfl)) | (apply AL_bsZ ttok; (iterate 12 exact rfl)) | (apply AW_drawE 5 hmix; (decide +kernel); (kernel_rfl); (kernel_rfl); (kernel_rfl); exact rfl; exact rfl) | (apply AE_consZ; (iterate 4 exact rfl)) | exact AE.nil _ _ _ _ | (apply AEk_puT; exact rfl) | (apply AOt_mk; exact rfl; exact rfl; (decide +kernel); exact rfl) | (apply AO_puT; exact rfl) | exact AO.nil _ _ _ | (apply AOs_skip; (decide +kernel)) | exact AOs.nil | exact qY_ok rfl rfl | exact qY_wk rfl rfl rfl rfl rfl)
 all_goals (apply endT [] [0]; (apply resG_ok ttok; exact rfl); (iterate 7 exact rfl))
 all_goals rfl
end Go.Proofs.YtfkmicjlaedlkaaGreatDoor
end
section
open Go.RowKit Go.Pl Go.Av
namespace Go.Proofs.YtfkmicjlaedlkaaGreatDoor
def cutV (c : UInt8) : List UInt8 -> List UInt8 × List UInt8 × Bool
 | [] => ([], [], false)
 | x :: s => if x = c then ([], s, true) else (x :: (cutV c s).1, (cutV c s).2.1, (cutV c s).2.2)
theorem cutV_no {c : UInt8} : ∀ {s : List UInt8}, c ∉ s -> cutV c s = (s, [], false)
 | [], _ => rfl
 | x :: s, h => by
  have h1 : ¬ x = c := fun e => h (by rw [e]; exact List.mem_cons_self ..)
  have h2 := cutV_no (c := c) (s := s) fun hm => h (List.mem_cons_of_mem _ hm)
  rw [cutV, if_neg h1, h2]
theorem cutV_yes {c : UInt8} : ∀ {a b : List UInt8}, c ∉ a -> cutV c (a ++ c :: b) = (a, b, true)
 | [], b, _ => by rw [List.nil_append, cutV, if_pos rfl]
 | x :: a, b, h => by
  have h1 : ¬ x = c := fun e => h (by rw [e]; exact List.mem_cons_self ..)
  have h2 := cutV_yes (c := c) (a := a) (b := b) fun hm => h (List.mem_cons_of_mem _ hm)
  rw [List.cons_append, cutV, if_neg h1, h2]
def preV (p s : List UInt8) : List UInt8 × Bool := if s.take p.length == p then (s.drop p.length, true) else (s, false)
theorem preV_app (p r : List UInt8) : preV p (p ++ r) = (r, true) := by
 unfold preV
 rw [List.take_left, beq_self_eq_true, if_pos rfl, List.drop_left]
theorem preV_no {p s : List UInt8} (h : (s.take p.length == p) = false) : preV p s = (s, false) := by
 unfold preV; rw [h]; rfl
def ppV (s : List UInt8) : EidV × Bool :=
 (⟨false, 0, 0, (cutV 47 (preV [47, 47] s).1).1, (cutV 47 (preV [47, 47] s).1).2.1⟩, (preV [47, 47] s).2 && ((cutV 47 (preV [47, 47] s).1).2.2 && ((cutV 47 (preV [47, 47] s).1).1 != [] && eRight ⟨false, 0, 0, (cutV 47 (preV [47, 47] s).1).1, (cutV 47 (preV [47, 47] s).1).2.1⟩)))
theorem isZ_iff {x : EidV} : isZ x = true ↔ x = eidZ := by
 obtain ⟨i, n, s, h, d⟩ := x
 simp only [isZ, eidZ, Bool.and_eq_true, beq_iff_eq, EidV.mk.injEq]
 constructor
 ·rintro ⟨h1, h2, h3, h4, h5, _⟩
  exact ⟨h1, by omega, by omega, h4, h5⟩
 ·rintro ⟨h1, h2, h3, h4, h5⟩
  exact ⟨h1, by omega, by omega, h4, h5, trivial⟩
theorem not_mem_ok {m : Nat} {c : UInt8} {l : List UInt8} (hl : l.all (okB m) = true) (h : okB m c = false) : c ∉ l := fun hm => by
 have := List.all_eq_true.1 hl c hm
 rw [h] at this; cases this
end Go.Proofs.YtfkmicjlaedlkaaGreatDoor
end
section
open Go.RowKit Go.Pl Go.Av
namespace Go.Proofs.YtfkmicjlaedlkaaGreatDoor
set_option maxHeartbeats 4000000
set_option maxRecDepth 100000 in
theorem ixb_walk (s : ByteArray) (c : Int) (w : World) : Calls Tryz.prog 163 #[.string s, .int .u8 c] w fun e w' => e = .returned (.int .i64 (Lib.indexByte s.data.toList c.toNat.toUInt8)) /\ w' = w := by
 go_enter Tryz.func163, Tryz.ntmps163
 go_wp2
 rw [run_callFunc_extern Tryz.func168 (by kernel_rfl) (by kernel_rfl) (by kernel_rfl) (e := Extern.BytealgIndexByte.indexByte) (by kernel_rfl), Lib.run_indexByteString]
 simp only [Result.andThen]
 rw [Oper.upon_value]
 go_wp2
 go_ret
 exact ⟨rfl, rfl⟩
theorem av_ixb [Known] (s : List UInt8) (c : Int) : AP Tryz.prog 163 [.str s, .int .u8 c] (.int .i64 (Lib.indexByte s c.toNat.toUInt8)) [] := by
 refine ⟨fun g w vs hmem hl hv => ?_⟩
 obtain ⟨v0, v1, rfl⟩ : ∃ v0 v1, vs = [v0, v1] := by
  match vs, hl with
  | [v0, v1], _ => exact ⟨v0, v1, rfl⟩
 have h0 := (hv 0 _ _ rfl rfl).str_inv.1
 have h1 := (hv 1 _ _ rfl rfl).int_inv
 subst h0 h1
 exact (ixb_walk ⟨s.toArray⟩ c w).mono fun e w' ⟨he, hb⟩ => endBelow hmem (hb ▸ Below.refl _ _) he (.int _ _)
end Go.Proofs.YtfkmicjlaedlkaaGreatDoor
end

/- Package canon: numbers. -/
import Derived.Test.YtfkmicjlaedlkaaDoorG18
import Derived.Test.YtfkmicjlaedlkaaDoorG11
import Derived.Test.YtfkmicjlaedlkaaDoorG14
import Derived.Test.YtfkmicjlaedlkaaDoorG09
import Derived.Scope
import Derived.Test.YtfkmicjlaedlkaaDoorG15
import Derived.Test.YtfkmicjlaedlkaaDoorG16
import Derived.Test.YtfkmicjlaedlkaaDoorG08
import Derived.Lib.Strings
import Derived.Lib.Slices
import Derived.Lib.Walk
import Derived.Lib.Bytealg
import Derived.Test.YtfkmicjlaedlkaaDoorG07
import Derived.LaidEql
set_option linter.unusedVariables false
set_option linter.unusedSimpArgs false
section
open Go.RowKit Go.Pl Go.Av
namespace Go.Proofs.YtfkmicjlaedlkaaDoor
set_option maxHeartbeats 4000000
abbrev nmE (n : Nat) : E := .agg [.int .i64 0, .int .u64 (n : Int), .sl [], .sl []]
end Go.Proofs.YtfkmicjlaedlkaaDoor
end
section
open Go.RowKit Go.Pl Go.Av
namespace Go.Proofs.YtfkmicjlaedlkaaDoor
set_option maxHeartbeats 4000000
mutual
def greatI : It -> Nat -> Int -> Int
 | .mk k n b l, d, m => if 9 < d then -1 else if 3000 < b.length then -1 else greats l (d + 1) (m - 1)
def greats : List It -> Nat -> Int -> Int
 | [], _, m => m
 | x :: l, d, m => if m < 0 then m else greats l d (greatI x d m)
end
mutual
theorem greatI_lt : ∀ (x : It) (d : Nat) (m : Int), 0 <= m -> greatI x d m < m /\ -1 <= greatI x d m
 | .mk k n b l, d, m, h => by
  rw [greatI]
  split
  ·omega
  ·split
   ·omega
   ·have := greats_le l (d + 1) (m - 1) (by omega); omega
theorem greats_le : ∀ (l : List It) (d : Nat) (m : Int), -1 <= m -> greats l d m <= m /\ -1 <= greats l d m
 | [], _, m, h => by rw [greats]; omega
 | x :: l, d, m, h => by
  rw [greats]
  split
  ·omega
  ·have h1 := greatI_lt x d m (by omega)
   have h2 := greats_le l d (greatI x d m) (by omega)
   omega
end
mutual
def nI : It -> Prop
 | .mk _ n _ l => n < 18446744073709551616 /\ nIs l
def nIs : List It -> Prop
 | [] => True
 | x :: l => nI x /\ nIs l
end
mutual
def deepI : It -> Nat -> Bool
 | .mk _ _ _ l, d => match d with
  | 0 => false
  | d + 1 => deeps l d
def deeps : List It -> Nat -> Bool
 | [], _ => true
 | x :: l, d => deepI x d && deeps l d
end
mutual
theorem small_wf : ∀ (x : It) (d : Nat) (m : Int), m <= 400 -> 0 <= greatI x d m -> nI x -> wfI x /\ (putI x).length <= 3009 * (m - greatI x d m) /\ m - greatI x d m ≥ 1 /\ deepI x (10 - d) = true
 | .mk k n b l, d, m, hm, h, hn => by
  rw [greatI] at h ⊢
  split at h
  ·omega
  split at h
  ·omega
  rename_i h1 h2
  rw [if_neg h1, if_neg h2]
  obtain ⟨q1, q2, q3, q4⟩ := smalls_wf l (d + 1) (m - 1) (by omega) h hn.2
  refine ⟨⟨hn.1, by omega, by omega, q1⟩, ?_, by omega, ?_⟩
  ·rw [putI]
   have hw : (if rightB (k, (It.mk k n b l).hn, false) then writeL (k, (It.mk k n b l).hn, false) else []).length <= 9 := by
    split
    ·rename_i hr; rw [writeL_length _ hr]; exact sizeN_le _
    ·exact Nat.zero_le _
   rw [List.length_append, List.length_append]
   omega
  ·obtain ⟨e, he⟩ : ∃ e, 10 - d = e + 1 := ⟨9 - d, by omega⟩
   rw [he, deepI]
   rw [show 10 - (d + 1) = e by omega] at q4
   exact q4
theorem smalls_wf : ∀ (l : List It) (d : Nat) (m : Int), m <= 400 -> 0 <= greats l d m -> nIs l -> wfs l /\ (puts l).length <= 3009 * (m - greats l d m) /\ m - greats l d m ≥ l.length /\ deeps l (10 - d) = true
 | [], _, m, _, h, hn => by simp [wfs, puts, greats, deeps]
 | x :: l, d, m, hm, h, hn => by
  rw [greats] at h ⊢
  split at h
  ·omega
  rename_i h1
  rw [if_neg h1]
  have h0 : 0 <= greatI x d m := by
   rcases Int.lt_or_le (greatI x d m) 0 with hlt | hge
   ·have := greats_le l d (greatI x d m) (by have := greatI_lt x d m (by omega); omega); omega
   ·exact hge
  obtain ⟨q1, q2, q3, q4⟩ := small_wf x d m hm h0 hn.1
  obtain ⟨r1, r2, r3, r4⟩ := smalls_wf l d _ (by have := greatI_lt x d m (by omega); omega) h hn.2
  refine ⟨⟨q1, r1⟩, ?_, ?_, ?_⟩
  ·rw [puts, List.length_append]; omega
  ·rw [List.length_cons]; omega
  ·rw [deeps, q4, r4]; rfl
end
end Go.Proofs.YtfkmicjlaedlkaaDoor
end
section
open Go.RowKit Go.Pl
namespace Go.Av
section
variable {P : Program} {Q : X -> St -> Prop} {n : Nat} {ee : Nat × Nat} {tm : List (Nat × D)} {bx : List (List D)} {fr : List Fr} {T : Tab}
variable {ops : Array Oper} {rest : List Oper} {t ty : Nat} {pos : String} {after : Array Edge}
end
end Go.Av
end
section
open Go.RowKit Go.Pl Go.Av
namespace Go.Proofs.YtfkmicjlaedlkaaDoor
set_option maxHeartbeats 1000000
end Go.Proofs.YtfkmicjlaedlkaaDoor
end
section
open Go.RowKit Go.Pl Go.Av
namespace Go.Proofs.YtfkmicjlaedlkaaDoor
set_option maxHeartbeats 4000000
end Go.Proofs.YtfkmicjlaedlkaaDoor
end
section
open Go.RowKit Go.Pl Go.Av
namespace Go.Proofs.YtfkmicjlaedlkaaDoor
set_option maxHeartbeats 4000000
end Go.Proofs.YtfkmicjlaedlkaaDoor
end
section
open Go.RowKit Go.Pl Go.Av
namespace Go.Proofs.YtfkmicjlaedlkaaDoor
set_option maxHeartbeats 4000000
end Go.Proofs.YtfkmicjlaedlkaaDoor
end
section
open Go.RowKit Go.Pl Go.Av
namespace Go.Proofs.YtfkmicjlaedlkaaDoor
set_option maxHeartbeats 4000000
end Go.Proofs.YtfkmicjlaedlkaaDoor
end
section
open Go.RowKit Go.Pl Go.Av
namespace Go.Proofs.YtfkmicjlaedlkaaDoor
set_option maxHeartbeats 4000000
end Go.Proofs.YtfkmicjlaedlkaaDoor
end
section
open Go.RowKit Go.Pl Go.Av
namespace Go.Proofs.YtfkmicjlaedlkaaDoor
set_option maxHeartbeats 4000000
end Go.Proofs.YtfkmicjlaedlkaaDoor
end
section
open Go.RowKit Go.Pl Go.Av
namespace Go.Proofs.YtfkmicjlaedlkaaDoor
set_option maxHeartbeats 4000000
end Go.Proofs.YtfkmicjlaedlkaaDoor
end
section
open Go.RowKit Go.Pl Go.Av
namespace Go.Proofs.YtfkmicjlaedlkaaDoor
set_option maxHeartbeats 4000000
def x0 : It := .mk 4 0 [] [.mk 0 1 [] [], .mk 3 0 [97, 98] []]
end Go.Proofs.YtfkmicjlaedlkaaDoor
end
section
open Go.RowKit Go.Pl Go.Av
namespace Go.Proofs.YtfkmicjlaedlkaaDoor
set_option maxHeartbeats 4000000
end Go.Proofs.YtfkmicjlaedlkaaDoor
end
section
open Go.RowKit Go.Pl Go.Av
namespace Go.Proofs.YtfkmicjlaedlkaaDoor
mutual
def sizeI : It -> Nat
 | .mk _ _ _ l => 1 + sizes l
def sizes : List It -> Nat
 | [] => 0
 | x :: l => sizeI x + sizes l
end
mutual
def fineI : It -> Bool
 | .mk k n b l => ownI k n b l && fines l
def fines : List It -> Bool
 | [] => true
 | x :: l => fineI x && fines l
end
mutual
theorem walk_iff : ∀ (x : It) (d m : Nat), walkI x d m = if deepI x (7 - d) = true /\ sizeI x <= m /\ fineI x = true then some (m - sizeI x) else none
 | .mk k n b l, d, m => by
  rw [walkI]
  split
  ·rename_i h
   rw [if_neg]
   rintro ⟨h1, _⟩
   rw [show 7 - d = 0 by omega, deepI] at h1
   cases h1
  rename_i hd
  rw [show 7 - d = (7 - (d + 1)) + 1 by omega, deepI, sizeI, fineI]
  split
  ·rename_i h
   rw [if_neg]
   rintro ⟨_, h1, _⟩
   omega
  rename_i hm
  cases ho : ownI k n b l with
  | false =>
   dsimp only
   rw [if_neg]
   rintro ⟨_, _, h1⟩
   simp at h1
  | true =>
   dsimp only
   rw [walks_iff l (d + 1) (m - 1), Bool.true_and]
   by_cases h : deeps l (7 - (d + 1)) = true /\ sizes l <= m - 1 /\ fines l = true
   ·rw [if_pos h, if_pos ⟨h.1, by omega, h.2.2⟩]
    congr 1; omega
   ·rw [if_neg h, if_neg]
    exact fun ⟨a, b, c⟩ => h ⟨a, by omega, c⟩
theorem walks_iff : ∀ (l : List It) (d m : Nat), walks l d m = if deeps l (7 - d) = true /\ sizes l <= m /\ fines l = true then some (m - sizes l) else none
 | [], d, m => by rw [walks, if_pos ⟨by rw [deeps], by rw [sizes]; omega, by rw [fines]⟩, sizes]; rfl
 | x :: l, d, m => by
  rw [walks, walk_iff x d m, deeps, sizes, fines]
  by_cases h : deepI x (7 - d) = true /\ sizeI x <= m /\ fineI x = true
  ·rw [if_pos h]
   dsimp only
   rw [walks_iff l d (m - sizeI x), h.1, h.2.2, Bool.true_and, Bool.true_and]
   by_cases h2 : deeps l (7 - d) = true /\ sizes l <= m - sizeI x /\ fines l = true
   ·rw [if_pos h2, if_pos ⟨h2.1, by omega, h2.2.2⟩]
    congr 1; omega
   ·rw [if_neg h2, if_neg]
    exact fun ⟨a, b, c⟩ => h2 ⟨a, by omega, c⟩
  ·rw [if_neg h]
   dsimp only
   rw [if_neg]
   rintro ⟨a, b, c⟩
   rw [Bool.and_eq_true] at a c
   exact h ⟨a.1, by omega, c.1⟩
end
theorem right_iff (x : It) : rightI x = (deepI x 6 && (decide (sizeI x <= 256) && fineI x)) := by
 unfold rightI
 rw [walk_iff]
 split
 ·rename_i h
  obtain ⟨a, b, c⟩ := h
  rw [show 7 - 1 = 6 from rfl] at a
  simp [a, b, c]
 ·rename_i h
  rw [show 7 - 1 = 6 from rfl] at h
  show false = _
  cases h2 : (deepI x 6 && (decide (sizeI x <= 256) && fineI x)) with
  | false => rfl
  | true =>
   simp only [Bool.and_eq_true, decide_eq_true_eq] at h2
   exact absurd ⟨h2.1, h2.2.1, h2.2.2⟩ h
mutual
theorem deepI_more : ∀ (x : It) (d e : Nat), deepI x d = true -> d <= e -> deepI x e = true
 | .mk k n b l, 0, e, h, _ => by rw [deepI] at h; cases h
 | .mk k n b l, d + 1, 0, h, hle => by omega
 | .mk k n b l, d + 1, e + 1, h, hle => by
  rw [deepI] at h ⊢
  exact deeps_more l d e h (by omega)
theorem deeps_more : ∀ (l : List It) (d e : Nat), deeps l d = true -> d <= e -> deeps l e = true
 | [], _, _, _, _ => by rw [deeps]
 | x :: l, d, e, h, hle => by
  rw [deeps, Bool.and_eq_true] at h ⊢
  exact ⟨deepI_more x d e h.1 hle, deeps_more l d e h.2 hle⟩
end
mutual
theorem great_size : ∀ (x : It) (d : Nat) (m : Int), 0 <= greatI x d m -> (sizeI x : Int) = m - greatI x d m
 | .mk k n b l, d, m, h => by
  rw [greatI] at h ⊢
  split at h
  ·omega
  split at h
  ·omega
  rename_i h1 h2
  rw [if_neg h1, if_neg h2, sizeI]
  have := greats_size l (d + 1) (m - 1) h
  omega
theorem greats_size : ∀ (l : List It) (d : Nat) (m : Int), 0 <= greats l d m -> (sizes l : Int) = m - greats l d m
 | [], d, m, h => by rw [greats, sizes]; omega
 | x :: l, d, m, h => by
  rw [greats] at h ⊢
  split at h
  ·omega
  rename_i h1
  rw [if_neg h1, sizes]
  have h0 : 0 <= greatI x d m := by
   rcases Int.lt_or_le (greatI x d m) 0 with hlt | hge
   ·have := greats_le l d (greatI x d m) (by have := greatI_lt x d m (by omega); omega); omega
   ·exact hge
  have a := great_size x d m h0
  have b := greats_size l d _ h
  omega
end
end Go.Proofs.YtfkmicjlaedlkaaDoor
end
section
open Go.RowKit Go.Pl Go.Av
namespace Go.Proofs.YtfkmicjlaedlkaaDoor
set_option maxHeartbeats 4000000
end Go.Proofs.YtfkmicjlaedlkaaDoor
end
section
open Go.RowKit Go.Pl Go.Av
namespace Go.Proofs.YtfkmicjlaedlkaaDoor
set_option maxHeartbeats 4000000
end Go.Proofs.YtfkmicjlaedlkaaDoor
end
section
open Go.RowKit Go.Pl Go.Av
namespace Go.Proofs.YtfkmicjlaedlkaaDoor
def cutV (c : UInt8) : List UInt8 -> List UInt8 × List UInt8 × Bool
 | [] => ([], [], false)
 | x :: s => if x = c then ([], s, true) else (x :: (cutV c s).1, (cutV c s).2.1, (cutV c s).2.2)
theorem cutV_no {c : UInt8} : ∀ {s : List UInt8}, c ∉ s -> cutV c s = (s, [], false)
 | [], _ => rfl
 | x :: s, h => by
  have h1 : ¬ x = c := fun e => h (by rw [e]; exact List.mem_cons_self ..)
  have h2 := cutV_no (c := c) (s := s) fun hm => h (List.mem_cons_of_mem _ hm)
  rw [cutV, if_neg h1, h2]
theorem cutV_yes {c : UInt8} : ∀ {a b : List UInt8}, c ∉ a -> cutV c (a ++ c :: b) = (a, b, true)
 | [], b, _ => by rw [List.nil_append, cutV, if_pos rfl]
 | x :: a, b, h => by
  have h1 : ¬ x = c := fun e => h (by rw [e]; exact List.mem_cons_self ..)
  have h2 := cutV_yes (c := c) (a := a) (b := b) fun hm => h (List.mem_cons_of_mem _ hm)
  rw [List.cons_append, cutV, if_neg h1, h2]
def preV (p s : List UInt8) : List UInt8 × Bool := if s.take p.length == p then (s.drop p.length, true) else (s, false)
theorem preV_app (p r : List UInt8) : preV p (p ++ r) = (r, true) := by
 unfold preV
 rw [List.take_left, beq_self_eq_true, if_pos rfl, List.drop_left]
theorem preV_no {p s : List UInt8} (h : (s.take p.length == p) = false) : preV p s = (s, false) := by
 unfold preV; rw [h]; rfl
def ppV (s : List UInt8) : EidV × Bool :=
 (⟨false, 0, 0, (cutV 47 (preV [47, 47] s).1).1, (cutV 47 (preV [47, 47] s).1).2.1⟩, (preV [47, 47] s).2 && ((cutV 47 (preV [47, 47] s).1).2.2 && ((cutV 47 (preV [47, 47] s).1).1 != [] && eRight ⟨false, 0, 0, (cutV 47 (preV [47, 47] s).1).1, (cutV 47 (preV [47, 47] s).1).2.1⟩)))
end Go.Proofs.YtfkmicjlaedlkaaDoor
end
section
open Go.RowKit Go.Pl Go.Av
namespace Go.Proofs.YtfkmicjlaedlkaaDoor
set_option maxHeartbeats 4000000
set_option maxRecDepth 100000 in
theorem ixb_walk (s : ByteArray) (c : Int) (w : World) : Calls Tryd.prog 134 #[.string s, .int .u8 c] w fun e w' => e = .returned (.int .i64 (Lib.indexByte s.data.toList c.toNat.toUInt8)) /\ w' = w := by
 go_enter Tryd.func134, Tryd.ntmps134
 go_wp2
 rw [run_callFunc_extern Tryd.func138 (by kernel_rfl) (by kernel_rfl) (by kernel_rfl) (e := Extern.BytealgIndexByte.indexByte) (by kernel_rfl), Lib.run_indexByteString]
 simp only [Result.andThen]
 rw [Oper.upon_value]
 go_wp2
 go_ret
 exact ⟨rfl, rfl⟩
theorem av_ixb [Known] (s : List UInt8) (c : Int) : AP Tryd.prog 134 [.str s, .int .u8 c] (.int .i64 (Lib.indexByte s c.toNat.toUInt8)) [] := by
 refine ⟨fun g w vs hmem hl hv => ?_⟩
 obtain ⟨v0, v1, rfl⟩ : ∃ v0 v1, vs = [v0, v1] := by
  match vs, hl with
  | [v0, v1], _ => exact ⟨v0, v1, rfl⟩
 have h0 := (hv 0 _ _ rfl rfl).str_inv.1
 have h1 := (hv 1 _ _ rfl rfl).int_inv
 subst h0 h1
 exact (ixb_walk ⟨s.toArray⟩ c w).mono fun e w' ⟨he, hb⟩ => endBelow hmem (hb ▸ Below.refl _ _) he (.int _ _)
end Go.Proofs.YtfkmicjlaedlkaaDoor
end
section
open Go.RowKit Go.Pl Go.Av
namespace Go.Proofs.YtfkmicjlaedlkaaDoor
set_option maxHeartbeats 4000000
theorem av_hasPre [Known] (s p : List UInt8) (hs : s.length <= 4611686018427387904) (hp : p.length <= 4611686018427387904) : AP Tryd.prog 130 [.str s, .str p] (.bool (s.take p.length == p)) [] := by
 by_cases h : p.length <= s.length
 ·have t1 : decide ((s.length : Int) ≥ (p.length : Int)) = true := decide_eq_true (by omega)
  have hq : ((p.length : Nat) : Int).toNat <= s.length := by rw [Int.toNat_natCast]; exact h
  have hs2 : (s.take ((p.length : Nat) : Int).toNat).drop 0 = s.take p.length := by rw [Int.toNat_natCast, List.drop_zero]
  generalize s.take p.length = s2 at *
  refine AP.ofA ?_
  refine AC_of Tryd.func130 rfl Tryd.ntmps130 rfl rfl ?_
  repeat' (first | (apply AL_sliceS ttok; (iterate 4 exact rfl); exact .dft _; exact .lit _ _ _ _ rfl (Int.natCast_nonneg _); exact Nat.zero_le _; exact hq; exact hs2) | (apply AL_go ttok; exact rfl) | (apply AW_go ttok; exact rfl) | (apply AL_guardT; (iterate 3 exact rfl); (first | with_reducible assumption | decide +kernel)) | (apply AL_pickT; exact rfl; (first | with_reducible assumption | decide +kernel); exact rfl; exact rfl) | (apply AL_lens ttok; (iterate 4 exact rfl)))
  all_goals (apply endQ []; (apply resG_ok ttok; exact rfl); (iterate 4 exact rfl))
  all_goals rfl
 ·have t1 : decide ((s.length : Int) ≥ (p.length : Int)) = false := decide_eq_false (by omega)
  have e : (s.take p.length == p) = false := by
   rw [beq_eq_false_iff_ne]
   intro e
   have := congrArg List.length e
   rw [List.length_take] at this
   omega
  rw [e]
  refine AP.ofA ?_
  refine AC_of Tryd.func130 rfl Tryd.ntmps130 rfl rfl ?_
  repeat' (first | (apply AL_go ttok; exact rfl) | (apply AW_go ttok; exact rfl) | (apply AL_guardFt; (iterate 3 exact rfl); (first | with_reducible assumption | decide +kernel)) | (apply AL_pickF; exact rfl; (first | with_reducible assumption | decide +kernel); exact rfl; exact rfl) | (apply AL_lens ttok; (iterate 4 exact rfl)))
  all_goals (apply endQ []; (apply resG_ok ttok; exact rfl); (iterate 4 exact rfl))
  all_goals rfl
theorem av_cutPreY [Known] (p r : List UInt8) (hs : (p ++ r).length <= 4611686018427387904) : AP Tryd.prog 103 [.str (p ++ r), .str p] (.tup [.str r, .bool true]) [] := by
 have hH := av_hasPre (p ++ r) p hs (by rw [List.length_append] at hs; omega)
 rw [List.take_left, beq_self_eq_true] at hH
 have hq : ((p.length : Nat) : Int).toNat <= (p ++ r).length := by rw [Int.toNat_natCast, List.length_append]; omega
 have hs2 : ((p ++ r).take (p ++ r).length).drop ((p.length : Nat) : Int).toNat = r := by rw [Int.toNat_natCast, List.take_length, List.drop_left]
 have hC : AP Tryd.prog 119 [.str (p ++ r), .str p] (.tup [.str r, .bool true]) [] := by
  generalize p ++ r = s at *
  refine AP.ofA ?_
  refine AC_of Tryd.func119 rfl Tryd.ntmps119 rfl rfl ?_
  repeat' (first | (apply AL_callPw (hH); kernel_rfl; (iterate 4 exact rfl)) | (apply AL_sliceS ttok; (iterate 4 exact rfl); exact .lit _ _ _ _ rfl (Int.natCast_nonneg _); exact .dft _; exact hq; exact Nat.le_refl _; exact hs2) | (apply AL_go ttok; exact rfl) | (apply AW_go ttok; exact rfl) | (apply K_go ttok; exact rfl) | (apply AW_condB; exact rfl; (first | with_reducible assumption | decide +kernel)) | (apply AL_lens ttok; (iterate 4 exact rfl)))
  all_goals (apply endQ []; (apply resG_ok ttok; exact rfl); (iterate 4 exact rfl))
  all_goals rfl
 refine AP.ofA ?_
 refine AC_of Tryd.func103 rfl Tryd.ntmps103 rfl rfl ?_
 repeat' (first | (apply AL_callPw (hC); kernel_rfl; (iterate 4 exact rfl)) | (apply AL_go ttok; exact rfl) | (apply AW_go ttok; exact rfl))
 all_goals (apply endQ []; (apply resG_ok ttok; exact rfl); (iterate 4 exact rfl))
 all_goals rfl
theorem av_cutPreN [Known] (s p : List UInt8) (hs : s.length <= 4611686018427387904) (hp : p.length <= 4611686018427387904) (h : (s.take p.length == p) = false) : AP Tryd.prog 103 [.str s, .str p] (.tup [.str s, .bool false]) [] := by
 have hH := av_hasPre s p hs hp
 rw [h] at hH
 have hC : AP Tryd.prog 119 [.str s, .str p] (.tup [.str s, .bool false]) [] := by
  refine AP.ofA ?_
  refine AC_of Tryd.func119 rfl Tryd.ntmps119 rfl rfl ?_
  repeat' (first | (apply AL_callPw (hH); kernel_rfl; (iterate 4 exact rfl)) | (apply AL_go ttok; exact rfl) | (apply AW_go ttok; exact rfl) | (apply K_go ttok; exact rfl) | (apply AW_condA; exact rfl; (first | with_reducible assumption | decide +kernel)))
  all_goals (apply endQ []; (apply resG_ok ttok; exact rfl); (iterate 4 exact rfl))
  all_goals rfl
 refine AP.ofA ?_
 refine AC_of Tryd.func103 rfl Tryd.ntmps103 rfl rfl ?_
 repeat' (first | (apply AL_callPw (hC); kernel_rfl; (iterate 4 exact rfl)) | (apply AL_go ttok; exact rfl) | (apply AW_go ttok; exact rfl))
 all_goals (apply endQ []; (apply resG_ok ttok; exact rfl); (iterate 4 exact rfl))
 all_goals rfl
theorem pre_cases (s p : List UInt8) : (∃ r, s = p ++ r) \/ (s.take p.length == p) = false := by
 cases h : s.take p.length == p with
 | true =>
  refine .inl ⟨s.drop p.length, ?_⟩
  have := beq_iff_eq.1 h
  conv => lhs; rw [<- List.take_append_drop p.length s, this]
 | false => exact .inr rfl
theorem ixb_no : ∀ {l : List UInt8} {c : UInt8}, c ∉ l -> Lib.indexByte l c = -1
 | [], _, _ => rfl
 | x :: l, c, h => by
  have h1 : ¬ x = c := fun e => h (by rw [e]; exact List.mem_cons_self ..)
  have h2 := ixb_no (l := l) (c := c) fun hm => h (List.mem_cons_of_mem _ hm)
  simp [Lib.indexByte, h1, h2]
theorem ixb_yes : ∀ {a b : List UInt8} {c : UInt8}, c ∉ a -> Lib.indexByte (a ++ c :: b) c = (a.length : Int)
 | [], b, c, _ => by simp [Lib.indexByte]
 | x :: a, b, c, h => by
  have h1 : ¬ x = c := fun e => h (by rw [e]; exact List.mem_cons_self ..)
  have h2 := ixb_yes (a := a) (b := b) (c := c) fun hm => h (List.mem_cons_of_mem _ hm)
  rw [List.cons_append]
  simp only [Lib.indexByte, h2, List.length_cons, beq_iff_eq, h1, if_false]
  (repeat' split) <;> omega
theorem av_index1 [Known] (s : List UInt8) (c : UInt8) : AP Tryd.prog 131 [.str s, .str [c]] (.int .i64 (Lib.indexByte s c)) [] := by
 have hI := av_ixb s (c.toNat : Int)
 have e : ((c.toNat : Int)).toNat.toUInt8 = c := by rw [Int.toNat_natCast]; simp
 rw [e] at hI
 have t0 : ((([c] : List UInt8).length : Int) == 0) = false := rfl
 have t1 : ((([c] : List UInt8).length : Int) == 1) = true := rfl
 by_cases hs : [c] = s
 ·subst hs
  have t2 : ([c] == [c]) = true := by simp
  have e0 : Lib.indexByte [c] c = 0 := by simp [Lib.indexByte]
  rw [e0]
  refine AP.ofA ?_
  refine AC_of Tryd.func131 rfl Tryd.ntmps131 rfl rfl ?_
  repeat' (first | (apply AL_go ttok; exact rfl) | (apply AW_go ttok; exact rfl) | (apply K_go ttok; exact rfl) | (apply AL_guardT; (iterate 3 exact rfl); (first | with_reducible assumption | decide +kernel)) | (apply AL_pickF; exact rfl; (first | with_reducible assumption | decide +kernel); exact rfl; exact rfl) | (apply AW_condA; exact rfl; (first | with_reducible assumption | decide +kernel)) | (apply AL_lens ttok; (iterate 4 exact rfl)))
  all_goals (apply endQ []; (apply resG_ok ttok; exact rfl); (iterate 4 exact rfl))
  all_goals rfl
 ·have t2 : ([c] == s) = false := by simpa using hs
  refine AP.ofA ?_
  refine AC_of Tryd.func131 rfl Tryd.ntmps131 rfl rfl ?_
  repeat' (first | (apply AL_callPw (hI); kernel_rfl; (iterate 4 exact rfl)) | (apply AL_idxs ttok; (iterate 5 exact rfl); decide +kernel; exact rfl) | (apply AL_go ttok; exact rfl) | (apply AW_go ttok; exact rfl) | (apply K_go ttok; exact rfl) | (apply AL_guardT; (iterate 3 exact rfl); (first | with_reducible assumption | decide +kernel)) | (apply AL_pickF; exact rfl; (first | with_reducible assumption | decide +kernel); exact rfl; exact rfl) | (apply AW_condA; exact rfl; (first | with_reducible assumption | decide +kernel)) | (apply AW_condB; exact rfl; (first | with_reducible assumption | decide +kernel)) | (apply AL_lens ttok; (iterate 4 exact rfl)))
  all_goals (apply endQ []; (apply resG_ok ttok; exact rfl); (iterate 4 exact rfl))
  all_goals rfl
theorem av_cutN [Known] (s : List UInt8) (c : UInt8) (h : c ∉ s) : AP Tryd.prog 104 [.str s, .str [c]] (.tup [.str s, .str [], .bool false]) [] := by
 have hI := av_index1 s c
 rw [ixb_no h] at hI
 have hC : AP Tryd.prog 120 [.str s, .str [c]] (.tup [.str s, .str [], .bool false]) [] := by
  refine AP.ofA ?_
  refine AC_of Tryd.func120 rfl Tryd.ntmps120 rfl rfl ?_
  repeat' (first | (apply AL_callPw (hI); kernel_rfl; (iterate 4 exact rfl)) | (apply AL_go ttok; exact rfl) | (apply AW_go ttok; exact rfl) | (apply AW_condB; exact rfl; (first | with_reducible assumption | decide +kernel)))
  all_goals (apply endQ []; (apply resG_ok ttok; exact rfl); (iterate 4 exact rfl))
  all_goals rfl
 refine AP.ofA ?_
 refine AC_of Tryd.func104 rfl Tryd.ntmps104 rfl rfl ?_
 repeat' (first | (apply AL_callPw (hC); kernel_rfl; (iterate 4 exact rfl)) | (apply AL_go ttok; exact rfl) | (apply AW_go ttok; exact rfl))
 all_goals (apply endQ []; (apply resG_ok ttok; exact rfl); (iterate 4 exact rfl))
 all_goals rfl
theorem av_cutY [Known] (a b : List UInt8) (c : UInt8) (h : c ∉ a) (hl : (a ++ c :: b).length <= 4611686018427387904) : AP Tryd.prog 104 [.str (a ++ c :: b), .str [c]] (.tup [.str a, .str b, .bool true]) [] := by
 have hI := av_index1 (a ++ c :: b) c
 rw [ixb_yes h] at hI
 have hal : a.length + 1 <= (a ++ c :: b).length := by rw [List.length_append, List.length_cons]; omega
 have t1 : decide ((a.length : Int) ≥ 0) = true := decide_eq_true (by omega)
 have e1 : IntKind.i64.wrap ((a.length : Int) + (([c] : List UInt8).length : Int)) = ((a.length + 1 : Nat) : Int) := by
  rw [IntWalk.i64_in _ (by simp; omega)]; simp
 have q1 : ((a.length : Nat) : Int).toNat <= (a ++ c :: b).length := by rw [Int.toNat_natCast]; omega
 have q2 : ((a.length + 1 : Nat) : Int).toNat <= (a ++ c :: b).length := by rw [Int.toNat_natCast]; omega
 have s1 : ((a ++ c :: b).take ((a.length : Nat) : Int).toNat).drop 0 = a := by rw [Int.toNat_natCast, List.drop_zero, List.take_left]
 have s2 : ((a ++ c :: b).take (a ++ c :: b).length).drop ((a.length + 1 : Nat) : Int).toNat = b := by
  rw [Int.toNat_natCast, List.take_length, show a.length + 1 = (a ++ [c]).length by simp, show a ++ c :: b = (a ++ [c]) ++ b by simp, List.drop_left]
 have hC : AP Tryd.prog 120 [.str (a ++ c :: b), .str [c]] (.tup [.str a, .str b, .bool true]) [] := by
  generalize a ++ c :: b = s at *
  refine AP.ofA ?_
  refine AC_of Tryd.func120 rfl Tryd.ntmps120 rfl rfl ?_
  repeat' (first | rw [e1] | (apply AL_callPw (hI); kernel_rfl; (iterate 4 exact rfl)) | (apply AL_sliceS ttok; (iterate 4 exact rfl); exact .dft _; exact .lit _ _ _ _ rfl (Int.natCast_nonneg _); exact Nat.zero_le _; exact q1; exact s1) | (apply AL_sliceS ttok; (iterate 4 exact rfl); exact .lit _ _ _ _ rfl (Int.natCast_nonneg _); exact .dft _; exact q2; exact Nat.le_refl _; exact s2) | (apply AL_go ttok; exact rfl) | (apply AW_go ttok; exact rfl) | (apply AW_condA; exact rfl; (first | with_reducible assumption | decide +kernel)) | (apply AL_lens ttok; (iterate 4 exact rfl)) | (apply AW_drawE 10 hmix; (decide +kernel); (kernel_rfl); (kernel_rfl); (kernel_rfl); exact rfl; exact rfl) | (apply AE_consZ; (iterate 4 exact rfl)) | exact AE.nil _ _ _ _ | (apply AEk_puT; exact rfl) | (apply AOt_mk; exact rfl; exact rfl; (decide +kernel); exact rfl) | (apply AO_puT; exact rfl) | exact AO.nil _ _ _ | (apply AOs_skip; (decide +kernel)) | exact AOs.nil | exact qY_ok rfl rfl)
  all_goals (apply endQ []; (apply resG_ok ttok; exact rfl); (iterate 4 exact rfl))
  all_goals rfl
 refine AP.ofA ?_
 refine AC_of Tryd.func104 rfl Tryd.ntmps104 rfl rfl ?_
 repeat' (first | (apply AL_callPw (hC); kernel_rfl; (iterate 4 exact rfl)) | (apply AL_go ttok; exact rfl) | (apply AW_go ttok; exact rfl))
 all_goals (apply endQ []; (apply resG_ok ttok; exact rfl); (iterate 4 exact rfl))
 all_goals rfl
theorem cut_cases (c : UInt8) : ∀ s : List UInt8, (c ∉ s) \/ ∃ a b, s = a ++ c :: b /\ c ∉ a
 | [] => .inl (by simp)
 | x :: s => by
  by_cases e : x = c
  ·subst e; exact .inr ⟨[], s, rfl, by simp⟩
  ·rcases cut_cases c s with h | ⟨a, b, rfl, h⟩
   ·refine .inl fun hm => ?_
    rcases List.mem_cons.1 hm with h2 | h2
    ·exact e h2.symm
    ·exact h h2
   ·refine .inr ⟨x :: a, b, rfl, fun hm => ?_⟩
    rcases List.mem_cons.1 hm with h2 | h2
    ·exact e h2.symm
    ·exact h h2
end Go.Proofs.YtfkmicjlaedlkaaDoor
end
section
open Go.RowKit Go.Pl
namespace Go.Av
section
variable {P : Program} {Q : X -> St -> Prop} {n : Nat} {ee : Nat × Nat} {tm : List (Nat × D)} {bx : List (List D)} {fr : List Fr}
variable {ops : Array Oper} {rest : List Oper} {t ty : Nat} {pos : String} {after : Array Edge}
end
end Go.Av
end
section
open Go.RowKit Go.Pl Go.Av
namespace Go.Proofs.YtfkmicjlaedlkaaDoor
set_option maxHeartbeats 4000000
theorem preV_len (p s : List UInt8) : (preV p s).1.length <= s.length := by
 unfold preV
 split
 ·simp
 ·exact Nat.le_refl _
theorem av_cut [Known] (s : List UInt8) (c : UInt8) (hl : s.length <= 4611686018427387904) : AP Tryd.prog 104 [.str s, .str [c]] (.tup [.str (cutV c s).1, .str (cutV c s).2.1, .bool (cutV c s).2.2]) [] := by
 rcases cut_cases c s with h | ⟨a, b, rfl, h⟩
 ·rw [cutV_no h]; exact av_cutN s c h
 ·rw [cutV_yes h]; exact av_cutY a b c h hl
theorem av_cutPre [Known] (s p : List UInt8) (hs : s.length <= 4611686018427387904) (hp : p.length <= 4611686018427387904) : AP Tryd.prog 103 [.str s, .str p] (.tup [.str (preV p s).1, .bool (preV p s).2]) [] := by
 rcases pre_cases s p with ⟨r, rfl⟩ | h
 ·rw [preV_app]; exact av_cutPreY p r hs
 ·rw [preV_no h]; exact av_cutPreN s p hs hp h
theorem av_pp [Known] (s : List UInt8) (hs : s.length <= 140737488351232) : AP Tryd.prog 85 [.str s] (.tup [.agg (eC (ppV s).1), .bool (ppV s).2]) [] := by
 have hP := av_cutPre s [47, 47] (by omega) (by decide)
 have hl := preV_len [47, 47] s
 unfold ppV
 dsimp only
 generalize (preV [47, 47] s).1 = r at *
 generalize (preV [47, 47] s).2 = ok at *
 have hC := av_cut r 47 (by omega)
 generalize (cutV 47 r).1 = a at *
 generalize (cutV 47 r).2.1 = b at *
 generalize (cutV 47 r).2.2 = k at *
 have hR := av_eRight ⟨false, 0, 0, a, b⟩
 generalize eRight ⟨false, 0, 0, a, b⟩ = R at *
 replace hR : AP Tryd.prog _ [.agg [.bool false, .int .u64 0, .int .u64 0, .str a, .str b]] (.bool R) [] := hR
 show AP Tryd.prog _ _ (.tup [.agg [.bool false, .int .u64 0, .int .u64 0, .str a, .str b], _]) _
 obtain ⟨ne, h1⟩ : ∃ ne, (a != []) = ne := ⟨_, rfl⟩
 rw [h1]
 cases ok with
 | false =>
  refine AP.ofA ?_
  refine AC_of Tryd.func85 rfl Tryd.ntmps85 rfl rfl ?_
  repeat' (first | (apply AL_callPw (hP); kernel_rfl; (iterate 4 exact rfl)) | (apply AL_callPw (hC); kernel_rfl; (iterate 4 exact rfl)) | (apply AL_go ttok; exact rfl) | (apply AW_go ttok; exact rfl) | (apply AL_guardFt; (iterate 3 exact rfl); (first | with_reducible assumption | decide +kernel)) | (apply AL_pickF; exact rfl; (first | with_reducible assumption | decide +kernel); exact rfl; exact rfl) | (apply AW_drawE 14 hmix; (decide +kernel); (kernel_rfl); (kernel_rfl); (kernel_rfl); exact rfl; exact rfl) | (apply AE_consZ; (iterate 4 exact rfl)) | exact AE.nil _ _ _ _ | (apply AEk_puT; exact rfl) | (apply AEk_ef; exact rfl) | (apply AOt_mk; exact rfl; exact rfl; (decide +kernel); exact rfl) | (apply AO_puT; exact rfl) | (apply AO_ef; exact rfl) | exact AO.nil _ _ _ | (apply AOs_skip; (decide +kernel)) | (apply AOs_goZ; (iterate 3 exact rfl)) | exact AOs.nil | exact qY_ok rfl rfl | exact qY_efn rfl)
  all_goals (apply endQ []; (apply resG_ok ttok; exact rfl); (iterate 4 exact rfl))
  all_goals rfl
 | true =>
  cases k with
  | false =>
   refine AP.ofA ?_
   refine AC_of Tryd.func85 rfl Tryd.ntmps85 rfl rfl ?_
   repeat' (first | (apply AL_callPw (hP); kernel_rfl; (iterate 4 exact rfl)) | (apply AL_callPw (hC); kernel_rfl; (iterate 4 exact rfl)) | (apply AL_go ttok; exact rfl) | (apply AW_go ttok; exact rfl) | (apply AL_guardT; (iterate 3 exact rfl); (first | with_reducible assumption | decide +kernel)) | (apply AL_guardFt; (iterate 3 exact rfl); (first | with_reducible assumption | decide +kernel)) | (apply AL_pickT; exact rfl; (first | with_reducible assumption | decide +kernel); exact rfl; exact rfl) | (apply AL_pickF; exact rfl; (first | with_reducible assumption | decide +kernel); exact rfl; exact rfl) | (apply AW_drawE 14 hmix; (decide +kernel); (kernel_rfl); (kernel_rfl); (kernel_rfl); exact rfl; exact rfl) | (apply AE_consZ; (iterate 4 exact rfl)) | exact AE.nil _ _ _ _ | (apply AEk_puT; exact rfl) | (apply AEk_ef; exact rfl) | (apply AOt_mk; exact rfl; exact rfl; (decide +kernel); exact rfl) | (apply AO_puT; exact rfl) | (apply AO_ef; exact rfl) | exact AO.nil _ _ _ | (apply AOs_skip; (decide +kernel)) | (apply AOs_goZ; (iterate 3 exact rfl)) | exact AOs.nil | exact qY_ok rfl rfl | exact qY_efn rfl)
   all_goals (apply endQ []; (apply resG_ok ttok; exact rfl); (iterate 4 exact rfl))
   all_goals rfl
  | true =>
   cases ne <;> cases R
   all_goals
    refine AP.ofA ?_
    refine AC_of Tryd.func85 rfl Tryd.ntmps85 rfl rfl ?_
    repeat' (first | rw [h1] | (apply AL_callPw (hP); kernel_rfl; (iterate 4 exact rfl)) | (apply AL_callPw (hC); kernel_rfl; (iterate 4 exact rfl)) | (apply AL_callPw (hR); kernel_rfl; (iterate 4 exact rfl)) | (apply AL_go ttok; exact rfl) | (apply AW_go ttok; exact rfl) | (apply AL_guardT; (iterate 3 exact rfl); (first | with_reducible assumption | decide +kernel)) | (apply AL_guardFt; (iterate 3 exact rfl); (first | with_reducible assumption | decide +kernel)) | (apply AL_pickT; exact rfl; (first | with_reducible assumption | decide +kernel); exact rfl; exact rfl) | (apply AL_pickF; exact rfl; (first | with_reducible assumption | decide +kernel); exact rfl; exact rfl) | (apply AW_drawE 14 hmix; (decide +kernel); (kernel_rfl); (kernel_rfl); (kernel_rfl); exact rfl; exact rfl) | (apply AE_consZ; (iterate 4 exact rfl)) | exact AE.nil _ _ _ _ | (apply AEk_puT; exact rfl) | (apply AEk_ef; exact rfl) | (apply AOt_mk; exact rfl; exact rfl; (decide +kernel); exact rfl) | (apply AO_puT; exact rfl) | (apply AO_ef; exact rfl) | exact AO.nil _ _ _ | (apply AOs_skip; (decide +kernel)) | (apply AOs_goZ; (iterate 3 exact rfl)) | exact AOs.nil | exact qY_ok rfl rfl | exact qY_efn rfl)
    all_goals (apply endQ []; (apply resG_ok ttok; exact rfl); (iterate 4 exact rfl))
    all_goals rfl
end Go.Proofs.YtfkmicjlaedlkaaDoor
end
section
open Go.RowKit Go.Pl
namespace Go.Av
inductive Zy where
 | pu (d : D)
 | al (cs : List D)
def z0 (p : Nat × Zy) : Nat × D := (p.1, match p.2 with | .pu d => d | .al _ => .junk)
def zfin : Nat -> List (Nat × Zy) -> List (Nat × D) -> List (Nat × D)
 | _, [], tm => tm
 | m, (_, .pu _) :: zs, tm => zfin m zs tm
 | m, (t, .al _) :: zs, tm => zfin (m + 1) zs ((t, .ptr m 0) :: tm)
def zcs : List (Nat × Zy) -> List (List D)
 | [] => []
 | (_, .pu _) :: zs => zcs zs
 | (_, .al cs) :: zs => cs :: zcs zs
section
variable {P : Program} {T : Tab} {Q : X -> St -> Prop} {n : Nat} {ee : Nat × Nat} {tm tm' : List (Nat × D)} {bx : List (List D)} {fr : List Fr} {b0 : Bs} {g g' : G} {w w' : World} {a : Act}
inductive AZ [Known] [Dfr] (P : Program) (T : Tab) (l : List Oper) (n : Nat) (bx : List (List D)) (fr : List Fr) : List Oper -> List (Nat × D) -> List (Nat × Zy) -> List (Nat × D) -> Prop
 | nil (tm : List (Nat × D)) : AZ P T l n bx fr [] tm [] tm
 | pu (o : Oper) (rest : List Oper) (t : Nat) (d : D) (tm : List (Nat × D)) (zs : List (Nat × Zy)) (tm' : List (Nat × D)) (hd : o.dst = some t) (ht : Nat.blt t n = true) (h : AL P l.toArray [o] ⟨n, restr l o tm, bx, fr, (bx.length, fr.length)⟩ (qY o bx fr (.pu d))) (k : AZ P T l n bx fr rest ((t, d) :: tm) zs tm') : AZ P T l n bx fr (o :: rest) tm ((t, .pu d) :: zs) tm'
 | al (t : Nat) (e : TypeId) (ty : Nat) (pos : String) (after : Array Edge) (rest : List Oper) (ti : Ti) (tm : List (Nat × D)) (zs : List (Nat × Zy)) (tm' : List (Nat × D)) (ht : Nat.blt t n = true) (hti : tl T e = some ti) (k : AZ P T l n bx fr rest ((t, .junk) :: tm) zs tm') : AZ P T l n bx fr (⟨some t, .alloc e, ty, pos, after, none⟩ :: rest) tm ((t, .al (ti.zero.map ZK.d)) :: zs) tm'
theorem restr_filter (l : List Oper) (o : Oper) : ∀ tm : List (Nat × D), restr l o tm = tm.filter fun p => (looks l o).contains p.1
 | [] => rfl
 | p :: tm => by
  rw [restr, List.filter_cons, restr_filter l o tm]
  cases (looks l o).contains p.1 <;> rfl
theorem Evo.al [Known] (hm : Mem g bx fr w) (o : Obj) : Evo ⟨g, fr, w⟩ ⟨g, fr, w.alloc o⟩ :=
 ⟨rfl, rfl, rfl, by simp, fun k hk _ => Below.heap_alloc w _ k hk, fun _ _ h => h, fun k p h => cell_alloc w _ (hm.Clt k p h) p, fun _ _ h => .inl h, fun _ _ h => h, fun _ h => .inl h, fun k c h => .inl ⟨c, h⟩, TokOn.refl _ _⟩
theorem Mem.al [Known] (hm : Mem g bx fr w) (o : Obj) : Mem g bx fr (w.alloc o) where
 bl := hm.bl
 bat i k cs' h1 h2 := by
  obtain ⟨us, ty, k1, k2, k3⟩ := hm.bat i k cs' h1 h2
  exact ⟨us, ty, (Below.heap_alloc w _ k (Array.getElem?_eq_some_iff.1 k1).1).trans k1, k2, fun j d v hd hv => (k3 j d v hd hv).evo (Evo.al hm o)⟩
 bC := hm.bC
 bN := hm.bN
 tl := hm.tl
 tat i k c f h1 h2 := by
  have hT := hm.tat i k c f h1 h2
  obtain ⟨cur, r1, r2⟩ := hT.row
  exact ⟨⟨cur, (Below.heap_alloc w _ k (Array.getElem?_eq_some_iff.1 r1).1).trans r1, r2⟩, hT.le, hT.max, hT.pos, hT.far⟩
 tN := hm.tN
 tρ := hm.tρ
 Clt k p hC := by
  have := hm.Clt k p hC
  simp; omega
 gl := hm.gl.evo (Evo.al hm o)
theorem mem_snoc {k k' : Nat} (h : M ⟨g.C, g.ρ ++ [k], g.τ⟩ k') : M g k' \/ k' = k := by
 rcases h with h | h
 ·rcases List.mem_append.1 h with h | h
  ·exact .inl (.inl h)
  ·simp at h; exact .inr h
 ·exact .inl (.inr h)
structure AZk [Known] [Dfr] (P : Program) (l acts : List Oper) (n : Nat) (zs : List (Nat × Zy)) (tm : List (Nat × D)) (bx : List (List D)) (fr : List Fr) (ee : Nat × Nat) (Q : X -> St -> Prop) : Prop where
 run : AL P l.toArray acts ⟨n, zfin bx.length zs tm, bx ++ zcs zs, fr, ee⟩ Q
end
end Go.Av
end
section
open Go.RowKit Go.Pl Go.Av
namespace Go.Proofs.YtfkmicjlaedlkaaDoor
set_option maxHeartbeats 4000000
def isNum (m : Nat) (x : It) : Bool := It.beq x (.mk 0 m [] [])
def numsV : It -> Option (Nat × Nat)
 | .mk k _ _ [y0, y1] => if k = 4 then (match isNum y0.n y0 && isNum y1.n y1 with | true => some (y0.n, y1.n) | false => none) else none
 | _ => none
def numsD : Option (Nat × Nat) -> D
 | some (a, b) => .tup [.sl .ext [.int .u64 (a : Int), .int .u64 (b : Int)], .bool true]
 | none => .tup [.sl .ext [], .bool false]
theorem av_isNum [Known] (x : It) (hw : wfI x) (m : Nat) (hm : m < 18446744073709551616) : AP Tryd.prog 27 [itD x, .agg [.int .i64 0, .int .u64 (m : Int), .sl .ext [], .sl .ext []]] (.bool (isNum m x)) [] :=
 av_same x hw (.mk 0 m [] []) (by simp [wfI, wfs]; omega)
theorem av_numA [Known] (n : Nat) : AP Tryd.prog 13 [.int .u64 (n : Int)] (.agg [.int .i64 0, .int .u64 (n : Int), .sl .ext [], .sl .ext []]) [] := av_num n
theorem av_nums [Known] (x : It) (hw : wfI x) : AP Tryd.prog 86 [itD x, .int .i64 2] (numsD (numsV x)) [] := by
 obtain ⟨k, n, b, l⟩ := x
 obtain ⟨_, _, _, hws⟩ := hw
 by_cases hk : k = 4
 case neg =>
  have t1 : (k != 4) = true := by simpa using hk
  have e : numsV (.mk k n b l) = none := by unfold numsV; split <;> simp_all
  rw [e]
  refine AP.ofA ?_
  refine AC_of Tryd.func86 rfl Tryd.ntmps86 rfl rfl ?_
  repeat' (first | (apply AL_go ttok; exact rfl) | (apply AW_go ttok; exact rfl) | (apply K_go ttok; exact rfl) | (apply AL_guardFf; (iterate 3 exact rfl); (first | with_reducible assumption | decide +kernel)) | (apply AL_pickT; exact rfl; (first | with_reducible assumption | decide +kernel); exact rfl; exact rfl) | (apply AW_condA; exact rfl; (first | with_reducible assumption | decide +kernel)))
  all_goals (apply endQ []; (apply resG_ok ttok; exact rfl); (iterate 4 exact rfl))
  all_goals rfl
 subst hk
 have t1 : ((4 : Int) != 4) = false := rfl
 by_cases hl : l.length = 2
 case neg =>
  have t2 : (((itEs l).length : Int) != 2) = true := by rw [itEs_len]; simp; omega
  have e : numsV (.mk 4 n b l) = none := by unfold numsV; split <;> simp_all
  rw [e]
  refine AP.ofA ?_
  refine AC_of Tryd.func86 rfl Tryd.ntmps86 rfl rfl ?_
  repeat' (first | (apply AL_go ttok; exact rfl) | (apply AW_go ttok; exact rfl) | (apply K_go ttok; exact rfl) | (apply AL_guardT; (iterate 3 exact rfl); (first | with_reducible assumption | decide +kernel)) | (apply AL_pickF; exact rfl; (first | with_reducible assumption | decide +kernel); exact rfl; exact rfl) | (apply AW_condA; exact rfl; (first | with_reducible assumption | decide +kernel)) | (apply AL_len ttok; (iterate 4 exact rfl)))
  all_goals (apply endQ []; (apply resG_ok ttok; exact rfl); (iterate 4 exact rfl))
  all_goals rfl
 match l, hl with
 | [⟨k0, n0, b0, l0⟩, ⟨k1, n1, b1, l1⟩], _ =>
  have hU := uniI [It.mk k0 n0 b0 l0, It.mk k1 n1 b1 l1]
  obtain ⟨hw0, hw1, _⟩ := hws
  have m0 : n0 < 18446744073709551616 := hw0.1
  have m1 : n1 < 18446744073709551616 := hw1.1
  have h0 := av_isNum _ hw0 n0 m0
  have h1 := av_isNum _ hw1 n1 m1
  have a0 := av_numA n0
  have a1 := av_numA n1
  unfold numsV
  simp only [It.n, if_true]
  have t2 : (((itEs [It.mk k0 n0 b0 l0, It.mk k1 n1 b1 l1]).length : Int) != 2) = false := rfl
  have t3 : decide ((0 : Int) < ((itEs [It.mk k0 n0 b0 l0, It.mk k1 n1 b1 l1]).length : Int)) = true := rfl
  have t4 : decide ((IntKind.i64.wrap (0 + 1) : Int) < ((itEs [It.mk k0 n0 b0 l0, It.mk k1 n1 b1 l1]).length : Int)) = true := rfl
  have t5 : decide ((IntKind.i64.wrap (IntKind.i64.wrap (0 + 1) + 1) : Int) < ((itEs [It.mk k0 n0 b0 l0, It.mk k1 n1 b1 l1]).length : Int)) = false := rfl
  have hv0 : (itEs [It.mk k0 n0 b0 l0, It.mk k1 n1 b1 l1])[Int.toNat 0]? = some (.agg [.int .i64 k0, .int .u64 (n0 : Int), .sl (b0.map E.byte), .sl (itEs l0)]) := rfl
  cases c0 : isNum n0 (.mk k0 n0 b0 l0) with
  | false =>
   rw [c0] at h0
   refine AP.ofA ?_
   refine AC_of Tryd.func86 rfl Tryd.ntmps86 rfl rfl ?_
   repeat' (first | (apply AL_callPw (h0); kernel_rfl; (iterate 4 exact rfl)) | (apply AL_callPw (a0); kernel_rfl; (iterate 4 exact rfl)) | refine AW_loopN 70 ?_ | refine AN_succ ?_ | (apply AL_go ttok; exact rfl) | (apply AW_go ttok; exact rfl) | (apply K_go ttok; exact rfl) | (apply AL_guardT; (iterate 3 exact rfl); (first | with_reducible assumption | decide +kernel)) | (apply AL_pickF; exact rfl; (first | with_reducible assumption | decide +kernel); exact rfl; exact rfl) | (apply AW_condA; exact rfl; (first | with_reducible assumption | decide +kernel)) | (apply AW_condB; exact rfl; (first | with_reducible assumption | decide +kernel)) | refine then_ret ?_ | (apply AL_len ttok; (iterate 4 exact rfl)) | (apply AW_drawE 4 hmix; (decide +kernel); (kernel_rfl); (kernel_rfl); (kernel_rfl); exact rfl; exact rfl) | (apply AE_consZ; (iterate 4 exact rfl)) | exact AE.nil _ _ _ _ | (apply AEk_puT; exact rfl) | (apply AOt_mk; exact rfl; exact rfl; (decide +kernel); exact rfl) | (apply AO_puT; exact rfl) | exact AO.nil _ _ _ | (apply AOs_skip; (decide +kernel)) | exact AOs.nil | exact qY_ok rfl rfl | (apply AL_idx ttok; (iterate 6 exact rfl); (first | with_reducible assumption | decide +kernel | exact Int.natCast_nonneg _ | (guard_target = (0:Int) <= (OfNat.ofNat _ : Int); decide) | rotate_left); (first | with_reducible assumption | decide +kernel | exact rfl); (first | exact uniB_ok rfl | with_reducible assumption | decide +kernel | rotate_left)))
   all_goals (apply endQ []; (apply resG_ok ttok; exact rfl); (iterate 4 exact rfl))
   all_goals rfl
  | true =>
   rw [c0] at h0
   cases c1 : isNum n1 (.mk k1 n1 b1 l1) with
   | false =>
    rw [c1] at h1
    refine AP.ofA ?_
    refine AC_of Tryd.func86 rfl Tryd.ntmps86 rfl rfl ?_
    repeat' (first | (apply AL_callPw (h0); kernel_rfl; (iterate 4 exact rfl)) | (apply AL_callPw (a0); kernel_rfl; (iterate 4 exact rfl)) | (apply AL_callPw (h1); kernel_rfl; (iterate 4 exact rfl)) | (apply AL_callPw (a1); kernel_rfl; (iterate 4 exact rfl)) | refine AW_loopN 70 ?_ | refine AN_succ ?_ | (apply AL_append_nilZ ttok; (iterate 6 exact rfl); exact uniB_ok rfl; exact List.cons_ne_nil _ _; exact rfl; decide +kernel; decide +kernel; (iterate 3 exact rfl)) | (apply AL_go ttok; exact rfl) | (apply AW_go ttok; exact rfl) | (apply K_go ttok; exact rfl) | (apply AL_guardT; (iterate 3 exact rfl); (first | with_reducible assumption | decide +kernel)) | (apply AL_pickF; exact rfl; (first | with_reducible assumption | decide +kernel); exact rfl; exact rfl) | (apply AW_condA; exact rfl; (first | with_reducible assumption | decide +kernel)) | (apply AW_condB; exact rfl; (first | with_reducible assumption | decide +kernel)) | refine then_ret ?_ | (apply AL_len ttok; (iterate 4 exact rfl)) | (apply AL_bsZ ttok; (iterate 12 exact rfl)) | (apply AW_drawE 4 hmix; (decide +kernel); (kernel_rfl); (kernel_rfl); (kernel_rfl); exact rfl; exact rfl) | (apply AE_consZ; (iterate 4 exact rfl)) | exact AE.nil _ _ _ _ | (apply AEk_puT; exact rfl) | (apply AOt_mk; exact rfl; exact rfl; (decide +kernel); exact rfl) | (apply AO_puT; exact rfl) | exact AO.nil _ _ _ | (apply AOs_skip; (decide +kernel)) | exact AOs.nil | exact qY_ok rfl rfl | (apply AL_idx ttok; (iterate 6 exact rfl); (first | with_reducible assumption | decide +kernel | exact Int.natCast_nonneg _ | (guard_target = (0:Int) <= (OfNat.ofNat _ : Int); decide) | rotate_left); (first | with_reducible assumption | decide +kernel | exact rfl); (first | exact uniB_ok rfl | with_reducible assumption | decide +kernel | rotate_left)))
    all_goals (apply endQ []; (apply resG_ok ttok; exact rfl); (iterate 4 exact rfl))
    all_goals rfl
   | true =>
    rw [c1] at h1
    refine AP.ofA ?_
    refine AC_of Tryd.func86 rfl Tryd.ntmps86 rfl rfl ?_
    repeat' (first | (apply AL_callPw (h0); kernel_rfl; (iterate 4 exact rfl)) | (apply AL_callPw (a0); kernel_rfl; (iterate 4 exact rfl)) | (apply AL_callPw (h1); kernel_rfl; (iterate 4 exact rfl)) | (apply AL_callPw (a1); kernel_rfl; (iterate 4 exact rfl)) | refine AW_loopN 70 ?_ | refine AN_succ ?_ | (apply AL_appendZ ttok; (iterate 11 exact rfl); exact uniB_ok rfl; exact uniB_ok rfl; exact List.cons_ne_nil _ _; decide +kernel; decide +kernel; exact rfl; exact rfl) | (apply AL_append_nilZ ttok; (iterate 6 exact rfl); exact uniB_ok rfl; exact List.cons_ne_nil _ _; exact rfl; decide +kernel; decide +kernel; (iterate 3 exact rfl)) | (apply AL_go ttok; exact rfl) | (apply AW_go ttok; exact rfl) | (apply K_go ttok; exact rfl) | (apply AL_guardT; (iterate 3 exact rfl); (first | with_reducible assumption | decide +kernel)) | (apply AL_pickF; exact rfl; (first | with_reducible assumption | decide +kernel); exact rfl; exact rfl) | (apply AW_condA; exact rfl; (first | with_reducible assumption | decide +kernel)) | (apply AW_condB; exact rfl; (first | with_reducible assumption | decide +kernel)) | (apply AL_len ttok; (iterate 4 exact rfl)) | (apply AL_bsZ ttok; (iterate 12 exact rfl)) | (apply AW_drawE 4 hmix; (decide +kernel); (kernel_rfl); (kernel_rfl); (kernel_rfl); exact rfl; exact rfl) | (apply AE_consZ; (iterate 4 exact rfl)) | exact AE.nil _ _ _ _ | (apply AEk_puT; exact rfl) | (apply AOt_mk; exact rfl; exact rfl; (decide +kernel); exact rfl) | (apply AO_puT; exact rfl) | exact AO.nil _ _ _ | (apply AOs_skip; (decide +kernel)) | exact AOs.nil | exact qY_ok rfl rfl | (apply AL_idx ttok; (iterate 6 exact rfl); (first | with_reducible assumption | decide +kernel | exact Int.natCast_nonneg _ | (guard_target = (0:Int) <= (OfNat.ofNat _ : Int); decide) | rotate_left); (first | with_reducible assumption | decide +kernel | exact rfl); (first | exact uniB_ok rfl | with_reducible assumption | decide +kernel | rotate_left)))
    all_goals (apply endQ []; (apply resG_ok ttok; exact rfl); (iterate 4 exact rfl))
    all_goals rfl
end Go.Proofs.YtfkmicjlaedlkaaDoor
end

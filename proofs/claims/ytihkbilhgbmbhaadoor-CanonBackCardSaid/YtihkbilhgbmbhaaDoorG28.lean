/- Items: what is shortest. -/
import Derived.Test.YtihkbilhgbmbhaaDoorG13
import Derived.Test.YtihkbilhgbmbhaaDoorG27
import Derived.Test.YtihkbilhgbmbhaaDoorG20
import Derived.Test.YtihkbilhgbmbhaaDoorG23
import Derived.Test.YtihkbilhgbmbhaaDoorG17
import Derived.Test.YtihkbilhgbmbhaaDoorG18
import Derived.Test.YtihkbilhgbmbhaaDoorG08
import Derived.Lib.Strings
import Derived.Lib.Slices
import Derived.Lib.Walk
import Derived.Lib.Bytealg
import Derived.Test.YtihkbilhgbmbhaaDoorG07
import Derived.LaidEql
set_option linter.unusedVariables false
set_option linter.unusedSimpArgs false
section
open Go.RowKit Go.Pl Go.Av
namespace Go.Proofs.YtihkbilhgbmbhaaDoor
set_option maxHeartbeats 4000000
theorem rdE0 {s : List UInt8} {e : Nat} (h : rdS s = .error e) : e ≠ 0 := by
 cases s with
 | nil => simp only [rdS, Except.error.injEq] at h; omega
 | cons c r =>
  simp only [rdS] at h
  repeat' split at h
  all_goals (cases h; try omega)
theorem piece_err {p : Hd} {s : List UInt8} {e : Nat} (h : pieceS p s = .error e) : e ≠ 0 := by
 simp only [pieceS] at h
 repeat' split at h
 all_goals (cases h; try omega)
theorem str_err (m : Int) : ∀ (f : Nat) (acc s : List UInt8) (e : Nat), strS m f acc s = .error e -> e ≠ 0
 | 0, _, _, e, h => by simp only [strS, Except.error.injEq] at h; omega
 | f + 1, acc, s, e, h => by
  rw [strS] at h
  cases hb : endB s <;> rw [hb] at h
  ·cases hr : rdS s with
   | error c => rw [hr] at h; dsimp only at h; simp only [Except.error.injEq] at h; exact h ▸ rdE0 hr
   | ok y =>
    obtain ⟨p, r⟩ := y
    rw [hr] at h; dsimp only at h
    split at h
    ·cases hp : pieceS p r with
     | error c => rw [hp] at h; dsimp only at h; simp only [Except.error.injEq] at h; exact h ▸ piece_err hp
     | ok z => rw [hp] at h; exact str_err m f _ _ e h
    ·simp only [Except.error.injEq] at h; omega
  ·exact nomatch h
theorem lstN_err {it : Nat -> List UInt8 -> Res (It × List UInt8 × Nat)} (hi : ∀ m s e, it m s = .error e -> e ≠ 0) : ∀ (f : Nat) (acc : List It) (m : Nat) (s : List UInt8) (e : Nat), lstN it f acc m s = .error e -> e ≠ 0
 | 0, _, _, _, _, h => nomatch h
 | f + 1, acc, m, s, e, h => by
  rw [lstN] at h
  cases hr : it m s with
  | error c => rw [hr] at h; dsimp only at h; simp only [Except.error.injEq] at h; exact h ▸ hi _ _ _ hr
  | ok y => obtain ⟨x, r, m'⟩ := y; rw [hr] at h; exact lstN_err hi f _ _ _ e h
theorem lstO_err {it : Nat -> List UInt8 -> Res (It × List UInt8 × Nat)} (hi : ∀ m s e, it m s = .error e -> e ≠ 0) : ∀ (f : Nat) (acc : List It) (m : Nat) (s : List UInt8) (e : Nat), lstO it f acc m s = .error e -> e ≠ 0
 | 0, _, _, _, e, h => by simp only [lstO, Except.error.injEq] at h; omega
 | f + 1, acc, m, s, e, h => by
  rw [lstO] at h
  cases hb : endB s <;> rw [hb] at h
  ·cases hr : it m s with
   | error c => rw [hr] at h; dsimp only at h; simp only [Except.error.injEq] at h; exact h ▸ hi _ _ _ hr
   | ok y => obtain ⟨x, r, m'⟩ := y; rw [hr] at h; exact lstO_err hi f _ _ _ e h
  ·exact nomatch h
theorem body_err {it : Nat -> List UInt8 -> Res (It × List UInt8 × Nat)} (hi : ∀ m s e, it m s = .error e -> e ≠ 0) {p : Hd} {m : Nat} {r : List UInt8} {e : Nat} (h : bodyS it p m r = .error e) : e ≠ 0 := by
 have h1 : ∀ e, txtS p r = .error e -> e ≠ 0 := by
  intro e h; simp only [txtS] at h
  split at h
  ·exact str_err _ _ _ _ _ h
  ·exact piece_err h
 have h2 : ∀ e, lisS it p m r = .error e -> e ≠ 0 := by
  intro e h; simp only [lisS] at h
  split at h
  ·exact lstO_err hi _ _ _ _ _ h
  ·split at h
   ·exact lstN_err hi _ _ _ _ _ h
   ·cases h; omega
 simp only [bodyS] at h
 repeat' split at h
 all_goals first
  | (cases h; done)
  | (rename_i hq; cases h; exact h1 _ hq)
  | (rename_i hq; cases h; exact h2 _ hq)
theorem item_err : ∀ (d m : Nat) (s : List UInt8) (e : Nat), itemS d m s = .error e -> e ≠ 0
 | 0, m, s, e, h => by
  rw [itemS] at h
  cases hr : rdS s with
  | error c => rw [hr] at h; dsimp only at h; simp only [Except.error.injEq] at h; exact h ▸ rdE0 hr
  | ok y =>
   obtain ⟨p, r⟩ := y
   rw [hr] at h; dsimp only at h
   split at h <;> (simp only [Except.error.injEq] at h; omega)
 | d + 1, m, s, e, h => by
  rw [itemS] at h
  cases hr : rdS s with
  | error c => rw [hr] at h; dsimp only at h; simp only [Except.error.injEq] at h; exact h ▸ rdE0 hr
  | ok y =>
   obtain ⟨p, r⟩ := y
   rw [hr] at h; dsimp only at h
   split at h
   ·simp only [Except.error.injEq] at h; omega
   ·split at h
    ·simp only [Except.error.injEq] at h; omega
    ·exact body_err (item_err d) h
theorem av_shortestI [Known] [KnownU8] (b : List UInt8) (hb : b.length < 4294967296) : AP Tryd.prog 42 [byE b] (.bool (shortI b)) [] := by
 have hR := av_readC b 0 (by omega)
 have e : readI b 0 = match itemS 6 256 b with
   | .error e => (.mk 0 0 [] [], 0, e)
   | .ok (x, r, _) => (x, b.length - r.length, 0) := by rw [readI, if_neg (by omega)]; rfl
 rw [e] at hR
 unfold shortI
 cases hx : itemS 6 256 b with
 | error c =>
  rw [hx] at hR
  dsimp only
  have hc : ((c : Int) == 0) = false := by
   have h0 := item_err _ _ _ _ hx
   rw [<- Bool.not_eq_true, beq_iff_eq]; omega
  replace hR : AP Tryd.prog _ _ (.tup [itD (.mk 0 0 [] []), .int .i64 0, .int .i64 (c : Int)]) [] := hR
  refine AP.ofA ?_
  refine AC_of Tryd.func42 rfl Tryd.ntmps42 rfl rfl ?_
  repeat' (first | rw [hc] | (apply AL_callPw (hR); kernel_rfl; (iterate 4 exact rfl)) | (apply AL_move; exact rfl; exact rfl) | (apply AL_assign; exact rfl; exact rfl) | (apply AL_bin; (iterate 5 exact rfl)) | (apply AL_store ttok; (iterate 8 exact rfl)) | (apply AL_extract; (iterate 3 exact rfl)) | refine AL_nil ?_ | (apply AL_guardFt; (iterate 3 exact rfl); (first | with_reducible assumption | decide +kernel)) | (apply AL_pickF; exact rfl; (first | with_reducible assumption | decide +kernel); exact rfl; exact rfl) | refine AW_region ?_ | refine AW_seq' ?_ | refine then_norm ?_ | refine AW_ret ?_ | (apply AL_alloc ttok; (iterate 4 exact rfl)))
  all_goals (apply endQ []; (repeat (first | exact ResL.nil | (apply ResL.cons; first | exact .tmp _ _ rfl | (apply res_n ttok; (iterate 6 exact rfl)) | (apply res_1 ttok; (iterate 5 exact rfl))))); (iterate 4 exact rfl))
  all_goals rfl
 | ok y =>
  obtain ⟨⟨k1, n1, b1, l1⟩, r, m1⟩ := y
  rw [hx] at hR
  replace hR : AP Tryd.prog _ _ (.tup [itD (.mk k1 n1 b1 l1), .int .i64 ((b.length - r.length : Nat) : Int), .int .i64 0]) [] := hR
  obtain ⟨hwk, hwf, pre, hpre, _, hlen⟩ := item_ok 6 (Nat.le_refl _) _ _ _ _ _ hx (by omega)
  have hle := hlen ⟨Nat.le_refl _, hb⟩
  have hpl := congrArg List.length hpre
  rw [List.length_append] at hpl
  have hP := av_putN (.mk k1 n1 b1 l1) hwf (walk_okx hwk) (by omega)
  have hB := av_bEq (putI (.mk k1 n1 b1 l1)) b
  have hn : (((b.length - r.length : Nat) : Int) == ((b.map E.byte).length : Int)) = r.isEmpty := by
   rw [List.length_map]
   cases r with
   | nil => simp
   | cons c r => simp at hpl ⊢; omega
  dsimp only
  cases hr : r.isEmpty
  all_goals
   rw [hr] at hn
   refine AP.ofA ?_
   refine AC_of Tryd.func42 rfl Tryd.ntmps42 rfl rfl ?_
   repeat' (first | rw [hn] | (apply AL_callPw (hR); kernel_rfl; (iterate 4 exact rfl)) | (apply AL_callT [] [] (hP); kernel_rfl; (iterate 10 exact rfl)) | (apply AL_callPw (hB); kernel_rfl; (iterate 4 exact rfl)) | (apply AL_move; exact rfl; exact rfl) | (apply AL_assign; exact rfl; exact rfl) | (apply AL_bin; (iterate 5 exact rfl)) | (apply AL_loadn ttok; (iterate 7 exact rfl)) | (apply AL_store ttok; (iterate 8 exact rfl)) | (apply AL_extract; (iterate 3 exact rfl)) | refine AL_nil ?_ | (apply AL_guardT; (iterate 3 exact rfl); (first | with_reducible assumption | decide +kernel)) | (apply AL_guardFt; (iterate 3 exact rfl); (first | with_reducible assumption | decide +kernel)) | (apply AL_pickT; exact rfl; (first | with_reducible assumption | decide +kernel); exact rfl; exact rfl) | (apply AL_pickF; exact rfl; (first | with_reducible assumption | decide +kernel); exact rfl; exact rfl) | refine AW_region ?_ | refine AW_seq' ?_ | refine then_norm ?_ | refine AW_ret ?_ | (apply AL_len ttok; (iterate 4 exact rfl)) | (apply AL_alloc ttok; (iterate 4 exact rfl)))
   all_goals (apply endQ []; (repeat (first | exact ResL.nil | (apply ResL.cons; first | exact .tmp _ _ rfl | (apply res_n ttok; (iterate 6 exact rfl)) | (apply res_1 ttok; (iterate 5 exact rfl))))); (iterate 4 exact rfl))
   all_goals rfl
end Go.Proofs.YtihkbilhgbmbhaaDoor
end
section
open Go.RowKit Go.Pl Go.Av
namespace Go.Proofs.YtihkbilhgbmbhaaDoor
set_option maxHeartbeats 4000000
def x0 : It := .mk 4 0 [] [.mk 0 1 [] [], .mk 3 0 [97, 98] []]
end Go.Proofs.YtihkbilhgbmbhaaDoor
end
section
open Go.RowKit Go.Pl Go.Av
namespace Go.Proofs.YtihkbilhgbmbhaaDoor
set_option maxHeartbeats 4000000
theorem read_put {x : It} (hw : wfI x) (hr : rightI x = true) (r : List UInt8) : itemS 6 256 (putI x ++ r) = .ok (x, r, ((walkI x 1 256).getD 0)) := by
 unfold rightI at hr
 cases h : walkI x 1 256 with
 | none => rw [h] at hr; cases hr
 | some m => exact item_put x 6 256 m r hw (Nat.le_refl _) h
theorem read_put0 {x : It} (hw : wfI x) (hr : rightI x = true) (r : List UInt8) : readI (putI x ++ r) 0 = (x, (putI x).length, 0) := by
 rw [readI, if_neg (by omega), show (0 : Int).toNat = 0 from rfl, List.drop_zero, read_put hw hr]
 dsimp only
 rw [List.length_append, Nat.add_sub_cancel]
end Go.Proofs.YtihkbilhgbmbhaaDoor
end
section
open Go.RowKit Go.Pl Go.Av
namespace Go.Proofs.YtihkbilhgbmbhaaDoor
mutual
def sizeI : It -> Nat
 | .mk _ _ _ l => 1 + sizes l
def sizes : List It -> Nat
 | [] => 0
 | x :: l => sizeI x + sizes l
end
mutual
def fineI : It -> Bool
 | .mk k n b l => ownI k n b l && fines l
def fines : List It -> Bool
 | [] => true
 | x :: l => fineI x && fines l
end
mutual
theorem walk_iff : ∀ (x : It) (d m : Nat), walkI x d m = if deepI x (7 - d) = true /\ sizeI x <= m /\ fineI x = true then some (m - sizeI x) else none
 | .mk k n b l, d, m => by
  rw [walkI]
  split
  ·rename_i h
   rw [if_neg]
   rintro ⟨h1, _⟩
   rw [show 7 - d = 0 by omega, deepI] at h1
   cases h1
  rename_i hd
  rw [show 7 - d = (7 - (d + 1)) + 1 by omega, deepI, sizeI, fineI]
  split
  ·rename_i h
   rw [if_neg]
   rintro ⟨_, h1, _⟩
   omega
  rename_i hm
  cases ho : ownI k n b l with
  | false =>
   dsimp only
   rw [if_neg]
   rintro ⟨_, _, h1⟩
   simp at h1
  | true =>
   dsimp only
   rw [walks_iff l (d + 1) (m - 1), Bool.true_and]
   by_cases h : deeps l (7 - (d + 1)) = true /\ sizes l <= m - 1 /\ fines l = true
   ·rw [if_pos h, if_pos ⟨h.1, by omega, h.2.2⟩]
    congr 1; omega
   ·rw [if_neg h, if_neg]
    exact fun ⟨a, b, c⟩ => h ⟨a, by omega, c⟩
theorem walks_iff : ∀ (l : List It) (d m : Nat), walks l d m = if deeps l (7 - d) = true /\ sizes l <= m /\ fines l = true then some (m - sizes l) else none
 | [], d, m => by rw [walks, if_pos ⟨by rw [deeps], by rw [sizes]; omega, by rw [fines]⟩, sizes]; rfl
 | x :: l, d, m => by
  rw [walks, walk_iff x d m, deeps, sizes, fines]
  by_cases h : deepI x (7 - d) = true /\ sizeI x <= m /\ fineI x = true
  ·rw [if_pos h]
   dsimp only
   rw [walks_iff l d (m - sizeI x), h.1, h.2.2, Bool.true_and, Bool.true_and]
   by_cases h2 : deeps l (7 - d) = true /\ sizes l <= m - sizeI x /\ fines l = true
   ·rw [if_pos h2, if_pos ⟨h2.1, by omega, h2.2.2⟩]
    congr 1; omega
   ·rw [if_neg h2, if_neg]
    exact fun ⟨a, b, c⟩ => h2 ⟨a, by omega, c⟩
  ·rw [if_neg h]
   dsimp only
   rw [if_neg]
   rintro ⟨a, b, c⟩
   rw [Bool.and_eq_true] at a c
   exact h ⟨a.1, by omega, c.1⟩
end
mutual
theorem deepI_more : ∀ (x : It) (d e : Nat), deepI x d = true -> d <= e -> deepI x e = true
 | .mk k n b l, 0, e, h, _ => by rw [deepI] at h; cases h
 | .mk k n b l, d + 1, 0, h, hle => by omega
 | .mk k n b l, d + 1, e + 1, h, hle => by
  rw [deepI] at h ⊢
  exact deeps_more l d e h (by omega)
theorem deeps_more : ∀ (l : List It) (d e : Nat), deeps l d = true -> d <= e -> deeps l e = true
 | [], _, _, _, _ => by rw [deeps]
 | x :: l, d, e, h, hle => by
  rw [deeps, Bool.and_eq_true] at h ⊢
  exact ⟨deepI_more x d e h.1 hle, deeps_more l d e h.2 hle⟩
end
mutual
theorem great_size : ∀ (x : It) (d : Nat) (m : Int), 0 <= greatI x d m -> (sizeI x : Int) = m - greatI x d m
 | .mk k n b l, d, m, h => by
  rw [greatI] at h ⊢
  split at h
  ·omega
  split at h
  ·omega
  rename_i h1 h2
  rw [if_neg h1, if_neg h2, sizeI]
  have := greats_size l (d + 1) (m - 1) h
  omega
theorem greats_size : ∀ (l : List It) (d : Nat) (m : Int), 0 <= greats l d m -> (sizes l : Int) = m - greats l d m
 | [], d, m, h => by rw [greats, sizes]; omega
 | x :: l, d, m, h => by
  rw [greats] at h ⊢
  split at h
  ·omega
  rename_i h1
  rw [if_neg h1, sizes]
  have h0 : 0 <= greatI x d m := by
   rcases Int.lt_or_le (greatI x d m) 0 with hlt | hge
   ·have := greats_le l d (greatI x d m) (by have := greatI_lt x d m (by omega); omega); omega
   ·exact hge
  have a := great_size x d m h0
  have b := greats_size l d _ h
  omega
end
end Go.Proofs.YtihkbilhgbmbhaaDoor
end
section
open Go.RowKit Go.Pl Go.Av
namespace Go.Proofs.YtihkbilhgbmbhaaDoor
set_option maxHeartbeats 4000000
end Go.Proofs.YtihkbilhgbmbhaaDoor
end
section
open Go.RowKit Go.Pl Go.Av
namespace Go.Proofs.YtihkbilhgbmbhaaDoor
set_option maxHeartbeats 4000000
theorem short_put {x : It} (hw : wfI x) (hr : rightI x = true) : shortI (putI x) = true := by
 unfold shortI
 have h := read_put hw hr []
 rw [List.append_nil] at h
 rw [h]
 simp
theorem read_put00 {x : It} (hw : wfI x) (hr : rightI x = true) : readI (putI x) 0 = (x, (putI x).length, 0) := by
 have h := read_put0 hw hr []
 rw [List.append_nil] at h
 exact h
theorem read_case (b : List UInt8) (hb : b.length < 4294967296) : (∃ e : Nat, e ≠ 0 /\ readI b 0 = (.mk 0 0 [] [], 0, e) /\ shortI b = false) \/ (∃ (y : It) (n : Nat), readI b 0 = (y, n, 0) /\ wfI y /\ rightI y = true /\ (putI y).length <= n /\ n <= b.length) := by
 have e : readI b 0 = match itemS 6 256 b with
   | .error e => (.mk 0 0 [] [], 0, e)
   | .ok (x, r, _) => (x, b.length - r.length, 0) := by rw [readI, if_neg (by omega)]; rfl
 unfold shortI
 rw [e]
 cases hx : itemS 6 256 b with
 | error c => exact .inl ⟨c, item_err _ _ _ _ hx, rfl, rfl⟩
 | ok y =>
  obtain ⟨y, r, m1⟩ := y
  obtain ⟨hwk, hwf, pre, hpre, _, hlen⟩ := item_ok 6 (Nat.le_refl _) _ _ _ _ _ hx (by omega)
  have hle := hlen ⟨Nat.le_refl _, hb⟩
  have hpl := congrArg List.length hpre
  rw [List.length_append] at hpl
  refine .inr ⟨y, b.length - r.length, rfl, hwf, ?_, by omega, by omega⟩
  have hwk : walkI y 1 256 = some m1 := hwk
  unfold rightI; rw [hwk]; rfl
end Go.Proofs.YtihkbilhgbmbhaaDoor
end
section
open Go.RowKit Go.Pl Go.Av
namespace Go.Proofs.YtihkbilhgbmbhaaDoor
def cutV (c : UInt8) : List UInt8 -> List UInt8 × List UInt8 × Bool
 | [] => ([], [], false)
 | x :: s => if x = c then ([], s, true) else (x :: (cutV c s).1, (cutV c s).2.1, (cutV c s).2.2)
theorem cutV_no {c : UInt8} : ∀ {s : List UInt8}, c ∉ s -> cutV c s = (s, [], false)
 | [], _ => rfl
 | x :: s, h => by
  have h1 : ¬ x = c := fun e => h (by rw [e]; exact List.mem_cons_self ..)
  have h2 := cutV_no (c := c) (s := s) fun hm => h (List.mem_cons_of_mem _ hm)
  rw [cutV, if_neg h1, h2]
theorem cutV_yes {c : UInt8} : ∀ {a b : List UInt8}, c ∉ a -> cutV c (a ++ c :: b) = (a, b, true)
 | [], b, _ => by rw [List.nil_append, cutV, if_pos rfl]
 | x :: a, b, h => by
  have h1 : ¬ x = c := fun e => h (by rw [e]; exact List.mem_cons_self ..)
  have h2 := cutV_yes (c := c) (a := a) (b := b) fun hm => h (List.mem_cons_of_mem _ hm)
  rw [List.cons_append, cutV, if_neg h1, h2]
def preV (p s : List UInt8) : List UInt8 × Bool := if s.take p.length == p then (s.drop p.length, true) else (s, false)
theorem preV_app (p r : List UInt8) : preV p (p ++ r) = (r, true) := by
 unfold preV
 rw [List.take_left, beq_self_eq_true, if_pos rfl, List.drop_left]
theorem preV_no {p s : List UInt8} (h : (s.take p.length == p) = false) : preV p s = (s, false) := by
 unfold preV; rw [h]; rfl
def ppV (s : List UInt8) : EidV × Bool :=
 (⟨false, 0, 0, (cutV 47 (preV [47, 47] s).1).1, (cutV 47 (preV [47, 47] s).1).2.1⟩, (preV [47, 47] s).2 && ((cutV 47 (preV [47, 47] s).1).2.2 && ((cutV 47 (preV [47, 47] s).1).1 != [] && eRight ⟨false, 0, 0, (cutV 47 (preV [47, 47] s).1).1, (cutV 47 (preV [47, 47] s).1).2.1⟩)))
theorem isZ_iff {x : EidV} : isZ x = true ↔ x = eidZ := by
 obtain ⟨i, n, s, h, d⟩ := x
 simp only [isZ, eidZ, Bool.and_eq_true, beq_iff_eq, EidV.mk.injEq]
 constructor
 ·rintro ⟨h1, h2, h3, h4, h5, _⟩
  exact ⟨h1, by omega, by omega, h4, h5⟩
 ·rintro ⟨h1, h2, h3, h4, h5⟩
  exact ⟨h1, by omega, by omega, h4, h5, trivial⟩
theorem not_mem_ok {m : Nat} {c : UInt8} {l : List UInt8} (hl : l.all (okB m) = true) (h : okB m c = false) : c ∉ l := fun hm => by
 have := List.all_eq_true.1 hl c hm
 rw [h] at this; cases this
end Go.Proofs.YtihkbilhgbmbhaaDoor
end
section
open Go.RowKit Go.Pl Go.Av
namespace Go.Proofs.YtihkbilhgbmbhaaDoor
set_option maxHeartbeats 4000000
set_option maxRecDepth 100000 in
theorem ixb_walk (s : ByteArray) (c : Int) (w : World) : Calls Tryd.prog 126 #[.string s, .int .u8 c] w fun e w' => e = .returned (.int .i64 (Lib.indexByte s.data.toList c.toNat.toUInt8)) /\ w' = w := by
 go_enter Tryd.func126, Tryd.ntmps126
 go_wp2
 rw [run_callFunc_extern Tryd.func130 (by kernel_rfl) (by kernel_rfl) (by kernel_rfl) (e := Extern.BytealgIndexByte.indexByte) (by kernel_rfl), Lib.run_indexByteString]
 simp only [Result.andThen]
 rw [Oper.upon_value]
 go_wp2
 go_ret
 exact ⟨rfl, rfl⟩
theorem av_ixb [Known] (s : List UInt8) (c : Int) : AP Tryd.prog 126 [.str s, .int .u8 c] (.int .i64 (Lib.indexByte s c.toNat.toUInt8)) [] := by
 refine ⟨fun g w vs hmem hl hv => ?_⟩
 obtain ⟨v0, v1, rfl⟩ : ∃ v0 v1, vs = [v0, v1] := by
  match vs, hl with
  | [v0, v1], _ => exact ⟨v0, v1, rfl⟩
 have h0 := (hv 0 _ _ rfl rfl).str_inv.1
 have h1 := (hv 1 _ _ rfl rfl).int_inv
 subst h0 h1
 exact (ixb_walk ⟨s.toArray⟩ c w).mono fun e w' ⟨he, hb⟩ => endBelow hmem (hb ▸ Below.refl _ _) he (.int _ _)
end Go.Proofs.YtihkbilhgbmbhaaDoor
end
section
open Go.RowKit Go.Pl Go.Av
namespace Go.Proofs.YtihkbilhgbmbhaaDoor
set_option maxHeartbeats 4000000
theorem av_hasPre [Known] (s p : List UInt8) (hs : s.length <= 4611686018427387904) (hp : p.length <= 4611686018427387904) : AP Tryd.prog 124 [.str s, .str p] (.bool (s.take p.length == p)) [] := by
 by_cases h : p.length <= s.length
 ·have t1 : decide ((s.length : Int) ≥ (p.length : Int)) = true := decide_eq_true (by omega)
  have hq : ((p.length : Nat) : Int).toNat <= s.length := by rw [Int.toNat_natCast]; exact h
  have hs2 : (s.take ((p.length : Nat) : Int).toNat).drop 0 = s.take p.length := by rw [Int.toNat_natCast, List.drop_zero]
  generalize s.take p.length = s2 at *
  refine AP.ofA ?_
  refine AC_of Tryd.func124 rfl Tryd.ntmps124 rfl rfl ?_
  repeat' (first | (apply AL_sliceS ttok; (iterate 4 exact rfl); exact .dft _; exact .lit _ _ _ _ rfl (Int.natCast_nonneg _); exact Nat.zero_le _; exact hq; exact hs2) | (apply AL_move; exact rfl; exact rfl) | (apply AL_assign; exact rfl; exact rfl) | (apply AL_bin; (iterate 5 exact rfl)) | refine AL_nil ?_ | (apply AL_guardT; (iterate 3 exact rfl); (first | with_reducible assumption | decide +kernel)) | (apply AL_pickT; exact rfl; (first | with_reducible assumption | decide +kernel); exact rfl; exact rfl) | refine AW_region ?_ | refine AW_seq' ?_ | refine then_norm ?_ | refine AW_ret ?_ | (apply AL_lens ttok; (iterate 4 exact rfl)) | (apply AL_str; (iterate 5 exact rfl)))
  all_goals (apply endQ []; (repeat (first | exact ResL.nil | (apply ResL.cons; first | exact .tmp _ _ rfl | (apply res_n ttok; (iterate 6 exact rfl)) | (apply res_1 ttok; (iterate 5 exact rfl))))); (iterate 4 exact rfl))
  all_goals rfl
 ·have t1 : decide ((s.length : Int) ≥ (p.length : Int)) = false := decide_eq_false (by omega)
  have e : (s.take p.length == p) = false := by
   rw [beq_eq_false_iff_ne]
   intro e
   have := congrArg List.length e
   rw [List.length_take] at this
   omega
  rw [e]
  refine AP.ofA ?_
  refine AC_of Tryd.func124 rfl Tryd.ntmps124 rfl rfl ?_
  repeat' (first | (apply AL_move; exact rfl; exact rfl) | (apply AL_assign; exact rfl; exact rfl) | (apply AL_bin; (iterate 5 exact rfl)) | refine AL_nil ?_ | (apply AL_guardFt; (iterate 3 exact rfl); (first | with_reducible assumption | decide +kernel)) | (apply AL_pickF; exact rfl; (first | with_reducible assumption | decide +kernel); exact rfl; exact rfl) | refine AW_region ?_ | refine AW_seq' ?_ | refine then_norm ?_ | refine AW_ret ?_ | (apply AL_lens ttok; (iterate 4 exact rfl)))
  all_goals (apply endQ []; (repeat (first | exact ResL.nil | (apply ResL.cons; first | exact .tmp _ _ rfl | (apply res_n ttok; (iterate 6 exact rfl)) | (apply res_1 ttok; (iterate 5 exact rfl))))); (iterate 4 exact rfl))
  all_goals rfl
theorem av_cutPreY [Known] (p r : List UInt8) (hs : (p ++ r).length <= 4611686018427387904) : AP Tryd.prog 104 [.str (p ++ r), .str p] (.tup [.str r, .bool true]) [] := by
 have hH := av_hasPre (p ++ r) p hs (by rw [List.length_append] at hs; omega)
 rw [List.take_left, beq_self_eq_true] at hH
 have hq : ((p.length : Nat) : Int).toNat <= (p ++ r).length := by rw [Int.toNat_natCast, List.length_append]; omega
 have hs2 : ((p ++ r).take (p ++ r).length).drop ((p.length : Nat) : Int).toNat = r := by rw [Int.toNat_natCast, List.take_length, List.drop_left]
 have hC : AP Tryd.prog 118 [.str (p ++ r), .str p] (.tup [.str r, .bool true]) [] := by
  generalize p ++ r = s at *
  refine AP.ofA ?_
  refine AC_of Tryd.func118 rfl Tryd.ntmps118 rfl rfl ?_
  repeat' (first | (apply AL_callPw (hH); kernel_rfl; (iterate 4 exact rfl)) | (apply AL_sliceS ttok; (iterate 4 exact rfl); exact .lit _ _ _ _ rfl (Int.natCast_nonneg _); exact .dft _; exact hq; exact Nat.le_refl _; exact hs2) | (apply AL_move; exact rfl; exact rfl) | (apply AL_assign; exact rfl; exact rfl) | (apply AL_not; exact rfl; exact rfl) | refine AL_nil ?_ | refine AW_region ?_ | refine AW_seq' ?_ | (apply AW_condB; exact rfl; (first | with_reducible assumption | decide +kernel)) | refine then_norm ?_ | refine AW_ret ?_ | (apply AL_lens ttok; (iterate 4 exact rfl)) | refine AW_skip ?_)
  all_goals (apply endQ []; (repeat (first | exact ResL.nil | (apply ResL.cons; first | exact .tmp _ _ rfl | (apply res_n ttok; (iterate 6 exact rfl)) | (apply res_1 ttok; (iterate 5 exact rfl))))); (iterate 4 exact rfl))
  all_goals rfl
 refine AP.ofA ?_
 refine AC_of Tryd.func104 rfl Tryd.ntmps104 rfl rfl ?_
 repeat' (first | (apply AL_callPw (hC); kernel_rfl; (iterate 4 exact rfl)) | (apply AL_move; exact rfl; exact rfl) | (apply AL_assign; exact rfl; exact rfl) | (apply AL_extract; (iterate 3 exact rfl)) | refine AL_nil ?_ | refine AW_region ?_ | refine AW_seq' ?_ | refine then_norm ?_ | refine AW_ret ?_)
 all_goals (apply endQ []; (repeat (first | exact ResL.nil | (apply ResL.cons; first | exact .tmp _ _ rfl | (apply res_n ttok; (iterate 6 exact rfl)) | (apply res_1 ttok; (iterate 5 exact rfl))))); (iterate 4 exact rfl))
 all_goals rfl
theorem av_cutPreN [Known] (s p : List UInt8) (hs : s.length <= 4611686018427387904) (hp : p.length <= 4611686018427387904) (h : (s.take p.length == p) = false) : AP Tryd.prog 104 [.str s, .str p] (.tup [.str s, .bool false]) [] := by
 have hH := av_hasPre s p hs hp
 rw [h] at hH
 have hC : AP Tryd.prog 118 [.str s, .str p] (.tup [.str s, .bool false]) [] := by
  refine AP.ofA ?_
  refine AC_of Tryd.func118 rfl Tryd.ntmps118 rfl rfl ?_
  repeat' (first | (apply AL_callPw (hH); kernel_rfl; (iterate 4 exact rfl)) | (apply AL_move; exact rfl; exact rfl) | (apply AL_assign; exact rfl; exact rfl) | (apply AL_not; exact rfl; exact rfl) | refine AL_nil ?_ | refine AW_region ?_ | refine AW_seq' ?_ | (apply AW_condA; exact rfl; (first | with_reducible assumption | decide +kernel)) | refine then_norm ?_ | refine AW_ret ?_ | refine then_ret ?_)
  all_goals (apply endQ []; (repeat (first | exact ResL.nil | (apply ResL.cons; first | exact .tmp _ _ rfl | (apply res_n ttok; (iterate 6 exact rfl)) | (apply res_1 ttok; (iterate 5 exact rfl))))); (iterate 4 exact rfl))
  all_goals rfl
 refine AP.ofA ?_
 refine AC_of Tryd.func104 rfl Tryd.ntmps104 rfl rfl ?_
 repeat' (first | (apply AL_callPw (hC); kernel_rfl; (iterate 4 exact rfl)) | (apply AL_move; exact rfl; exact rfl) | (apply AL_assign; exact rfl; exact rfl) | (apply AL_extract; (iterate 3 exact rfl)) | refine AL_nil ?_ | refine AW_region ?_ | refine AW_seq' ?_ | refine then_norm ?_ | refine AW_ret ?_)
 all_goals (apply endQ []; (repeat (first | exact ResL.nil | (apply ResL.cons; first | exact .tmp _ _ rfl | (apply res_n ttok; (iterate 6 exact rfl)) | (apply res_1 ttok; (iterate 5 exact rfl))))); (iterate 4 exact rfl))
 all_goals rfl
theorem pre_cases (s p : List UInt8) : (∃ r, s = p ++ r) \/ (s.take p.length == p) = false := by
 cases h : s.take p.length == p with
 | true =>
  refine .inl ⟨s.drop p.length, ?_⟩
  have := beq_iff_eq.1 h
  conv => lhs; rw [<- List.take_append_drop p.length s, this]
 | false => exact .inr rfl
theorem ixb_no : ∀ {l : List UInt8} {c : UInt8}, c ∉ l -> Lib.indexByte l c = -1
 | [], _, _ => rfl
 | x :: l, c, h => by
  have h1 : ¬ x = c := fun e => h (by rw [e]; exact List.mem_cons_self ..)
  have h2 := ixb_no (l := l) (c := c) fun hm => h (List.mem_cons_of_mem _ hm)
  simp [Lib.indexByte, h1, h2]
theorem ixb_yes : ∀ {a b : List UInt8} {c : UInt8}, c ∉ a -> Lib.indexByte (a ++ c :: b) c = (a.length : Int)
 | [], b, c, _ => by simp [Lib.indexByte]
 | x :: a, b, c, h => by
  have h1 : ¬ x = c := fun e => h (by rw [e]; exact List.mem_cons_self ..)
  have h2 := ixb_yes (a := a) (b := b) (c := c) fun hm => h (List.mem_cons_of_mem _ hm)
  rw [List.cons_append]
  simp only [Lib.indexByte, h2, List.length_cons, beq_iff_eq, h1, if_false]
  (repeat' split) <;> omega
theorem av_index1 [Known] (s : List UInt8) (c : UInt8) : AP Tryd.prog 125 [.str s, .str [c]] (.int .i64 (Lib.indexByte s c)) [] := by
 have hI := av_ixb s (c.toNat : Int)
 have e : ((c.toNat : Int)).toNat.toUInt8 = c := by rw [Int.toNat_natCast]; simp
 rw [e] at hI
 have t0 : ((([c] : List UInt8).length : Int) == 0) = false := rfl
 have t1 : ((([c] : List UInt8).length : Int) == 1) = true := rfl
 by_cases hs : [c] = s
 ·subst hs
  have t2 : ([c] == [c]) = true := by simp
  have e0 : Lib.indexByte [c] c = 0 := by simp [Lib.indexByte]
  rw [e0]
  refine AP.ofA ?_
  refine AC_of Tryd.func125 rfl Tryd.ntmps125 rfl rfl ?_
  repeat' (first | (apply AL_move; exact rfl; exact rfl) | (apply AL_assign; exact rfl; exact rfl) | (apply AL_bin; (iterate 5 exact rfl)) | refine AL_nil ?_ | (apply AL_guardT; (iterate 3 exact rfl); (first | with_reducible assumption | decide +kernel)) | (apply AL_pickF; exact rfl; (first | with_reducible assumption | decide +kernel); exact rfl; exact rfl) | refine AW_region ?_ | refine AW_seq' ?_ | (apply AW_condA; exact rfl; (first | with_reducible assumption | decide +kernel)) | refine then_norm ?_ | refine AW_block ?_ | refine AW_ret ?_ | refine then_ret ?_ | refine blk_ret ?_ | (apply AL_lens ttok; (iterate 4 exact rfl)) | (apply AL_str; (iterate 5 exact rfl)))
  all_goals (apply endQ []; (repeat (first | exact ResL.nil | (apply ResL.cons; first | exact .tmp _ _ rfl | (apply res_n ttok; (iterate 6 exact rfl)) | (apply res_1 ttok; (iterate 5 exact rfl))))); (iterate 4 exact rfl))
  all_goals rfl
 ·have t2 : ([c] == s) = false := by simpa using hs
  refine AP.ofA ?_
  refine AC_of Tryd.func125 rfl Tryd.ntmps125 rfl rfl ?_
  repeat' (first | (apply AL_callPw (hI); kernel_rfl; (iterate 4 exact rfl)) | (apply AL_idxs ttok; (iterate 5 exact rfl); decide +kernel; exact rfl) | (apply AL_move; exact rfl; exact rfl) | (apply AL_assign; exact rfl; exact rfl) | (apply AL_bin; (iterate 5 exact rfl)) | refine AL_nil ?_ | (apply AL_guardT; (iterate 3 exact rfl); (first | with_reducible assumption | decide +kernel)) | (apply AL_pickF; exact rfl; (first | with_reducible assumption | decide +kernel); exact rfl; exact rfl) | refine AW_region ?_ | refine AW_seq' ?_ | (apply AW_condA; exact rfl; (first | with_reducible assumption | decide +kernel)) | (apply AW_condB; exact rfl; (first | with_reducible assumption | decide +kernel)) | refine then_norm ?_ | refine AW_block ?_ | refine AW_ret ?_ | refine then_ret ?_ | refine blk_ret ?_ | (apply AL_lens ttok; (iterate 4 exact rfl)) | (apply AL_str; (iterate 5 exact rfl)))
  all_goals (apply endQ []; (repeat (first | exact ResL.nil | (apply ResL.cons; first | exact .tmp _ _ rfl | (apply res_n ttok; (iterate 6 exact rfl)) | (apply res_1 ttok; (iterate 5 exact rfl))))); (iterate 4 exact rfl))
  all_goals rfl
theorem av_cutN [Known] (s : List UInt8) (c : UInt8) (h : c ∉ s) : AP Tryd.prog 105 [.str s, .str [c]] (.tup [.str s, .str [], .bool false]) [] := by
 have hI := av_index1 s c
 rw [ixb_no h] at hI
 have hC : AP Tryd.prog 119 [.str s, .str [c]] (.tup [.str s, .str [], .bool false]) [] := by
  refine AP.ofA ?_
  refine AC_of Tryd.func119 rfl Tryd.ntmps119 rfl rfl ?_
  repeat' (first | (apply AL_callPw (hI); kernel_rfl; (iterate 4 exact rfl)) | (apply AL_move; exact rfl; exact rfl) | (apply AL_assign; exact rfl; exact rfl) | (apply AL_bin; (iterate 5 exact rfl)) | refine AL_nil ?_ | refine AW_region ?_ | refine AW_seq' ?_ | (apply AW_condB; exact rfl; (first | with_reducible assumption | decide +kernel)) | refine then_norm ?_ | refine AW_ret ?_ | refine AW_skip ?_)
  all_goals (apply endQ []; (repeat (first | exact ResL.nil | (apply ResL.cons; first | exact .tmp _ _ rfl | (apply res_n ttok; (iterate 6 exact rfl)) | (apply res_1 ttok; (iterate 5 exact rfl))))); (iterate 4 exact rfl))
  all_goals rfl
 refine AP.ofA ?_
 refine AC_of Tryd.func105 rfl Tryd.ntmps105 rfl rfl ?_
 repeat' (first | (apply AL_callPw (hC); kernel_rfl; (iterate 4 exact rfl)) | (apply AL_move; exact rfl; exact rfl) | (apply AL_assign; exact rfl; exact rfl) | (apply AL_extract; (iterate 3 exact rfl)) | refine AL_nil ?_ | refine AW_region ?_ | refine AW_seq' ?_ | refine then_norm ?_ | refine AW_ret ?_)
 all_goals (apply endQ []; (repeat (first | exact ResL.nil | (apply ResL.cons; first | exact .tmp _ _ rfl | (apply res_n ttok; (iterate 6 exact rfl)) | (apply res_1 ttok; (iterate 5 exact rfl))))); (iterate 4 exact rfl))
 all_goals rfl
theorem av_cutY [Known] (a b : List UInt8) (c : UInt8) (h : c ∉ a) (hl : (a ++ c :: b).length <= 4611686018427387904) : AP Tryd.prog 105 [.str (a ++ c :: b), .str [c]] (.tup [.str a, .str b, .bool true]) [] := by
 have hI := av_index1 (a ++ c :: b) c
 rw [ixb_yes h] at hI
 have hal : a.length + 1 <= (a ++ c :: b).length := by rw [List.length_append, List.length_cons]; omega
 have t1 : decide ((a.length : Int) ≥ 0) = true := decide_eq_true (by omega)
 have e1 : IntKind.i64.wrap ((a.length : Int) + (([c] : List UInt8).length : Int)) = ((a.length + 1 : Nat) : Int) := by
  rw [IntWalk.i64_in _ (by simp; omega)]; simp
 have q1 : ((a.length : Nat) : Int).toNat <= (a ++ c :: b).length := by rw [Int.toNat_natCast]; omega
 have q2 : ((a.length + 1 : Nat) : Int).toNat <= (a ++ c :: b).length := by rw [Int.toNat_natCast]; omega
 have s1 : ((a ++ c :: b).take ((a.length : Nat) : Int).toNat).drop 0 = a := by rw [Int.toNat_natCast, List.drop_zero, List.take_left]
 have s2 : ((a ++ c :: b).take (a ++ c :: b).length).drop ((a.length + 1 : Nat) : Int).toNat = b := by
  rw [Int.toNat_natCast, List.take_length, show a.length + 1 = (a ++ [c]).length by simp, show a ++ c :: b = (a ++ [c]) ++ b by simp, List.drop_left]
 have hC : AP Tryd.prog 119 [.str (a ++ c :: b), .str [c]] (.tup [.str a, .str b, .bool true]) [] := by
  generalize a ++ c :: b = s at *
  refine AP.ofA ?_
  refine AC_of Tryd.func119 rfl Tryd.ntmps119 rfl rfl ?_
  repeat' (first | rw [e1] | (apply AL_callPw (hI); kernel_rfl; (iterate 4 exact rfl)) | (apply AL_sliceS ttok; (iterate 4 exact rfl); exact .dft _; exact .lit _ _ _ _ rfl (Int.natCast_nonneg _); exact Nat.zero_le _; exact q1; exact s1) | (apply AL_sliceS ttok; (iterate 4 exact rfl); exact .lit _ _ _ _ rfl (Int.natCast_nonneg _); exact .dft _; exact q2; exact Nat.le_refl _; exact s2) | (apply AL_move; exact rfl; exact rfl) | (apply AL_assign; exact rfl; exact rfl) | (apply AL_bin; (iterate 5 exact rfl)) | refine AL_nil ?_ | refine AW_region ?_ | refine AW_seq' ?_ | (apply AW_condA; exact rfl; (first | with_reducible assumption | decide +kernel)) | refine then_norm ?_ | refine AW_ret ?_ | refine then_ret ?_ | (apply AL_lens ttok; (iterate 4 exact rfl)) | (apply AW_drawE 10 hmix; (decide +kernel); (kernel_rfl); (kernel_rfl); (kernel_rfl); exact rfl; exact rfl) | (apply AE_consZ; (iterate 4 exact rfl)) | exact AE.nil _ _ _ _ | (apply AEk_puT; exact rfl) | (apply AOt_mk; exact rfl; exact rfl; (decide +kernel); exact rfl) | (apply AO_puT; exact rfl) | exact AO.nil _ _ _ | (apply AOs_skip; (decide +kernel)) | exact AOs.nil | exact qY_ok rfl rfl)
  all_goals (apply endQ []; (repeat (first | exact ResL.nil | (apply ResL.cons; first | exact .tmp _ _ rfl | (apply res_n ttok; (iterate 6 exact rfl)) | (apply res_1 ttok; (iterate 5 exact rfl))))); (iterate 4 exact rfl))
  all_goals rfl
 refine AP.ofA ?_
 refine AC_of Tryd.func105 rfl Tryd.ntmps105 rfl rfl ?_
 repeat' (first | (apply AL_callPw (hC); kernel_rfl; (iterate 4 exact rfl)) | (apply AL_move; exact rfl; exact rfl) | (apply AL_assign; exact rfl; exact rfl) | (apply AL_extract; (iterate 3 exact rfl)) | refine AL_nil ?_ | refine AW_region ?_ | refine AW_seq' ?_ | refine then_norm ?_ | refine AW_ret ?_)
 all_goals (apply endQ []; (repeat (first | exact ResL.nil | (apply ResL.cons; first | exact .tmp _ _ rfl | (apply res_n ttok; (iterate 6 exact rfl)) | (apply res_1 ttok; (iterate 5 exact rfl))))); (iterate 4 exact rfl))
 all_goals rfl
theorem cut_cases (c : UInt8) : ∀ s : List UInt8, (c ∉ s) \/ ∃ a b, s = a ++ c :: b /\ c ∉ a
 | [] => .inl (by simp)
 | x :: s => by
  by_cases e : x = c
  ·subst e; exact .inr ⟨[], s, rfl, by simp⟩
  ·rcases cut_cases c s with h | ⟨a, b, rfl, h⟩
   ·refine .inl fun hm => ?_
    rcases List.mem_cons.1 hm with h2 | h2
    ·exact e h2.symm
    ·exact h h2
   ·refine .inr ⟨x :: a, b, rfl, fun hm => ?_⟩
    rcases List.mem_cons.1 hm with h2 | h2
    ·exact e h2.symm
    ·exact h h2
end Go.Proofs.YtihkbilhgbmbhaaDoor
end
section
open Go.RowKit Go.Pl
namespace Go.Av
section
variable {P : Program} {Q : X -> St -> Prop} {n : Nat} {ee : Nat × Nat} {tm : List (Nat × D)} {bx : List (List D)} {fr : List Fr}
variable {ops : Array Oper} {rest : List Oper} {t ty : Nat} {pos : String} {after : Array Edge}
end
end Go.Av
end
section
open Go.RowKit Go.Pl Go.Av
namespace Go.Proofs.YtihkbilhgbmbhaaDoor
set_option maxHeartbeats 4000000
theorem preV_len (p s : List UInt8) : (preV p s).1.length <= s.length := by
 unfold preV
 split
 ·simp
 ·exact Nat.le_refl _
theorem av_cut [Known] (s : List UInt8) (c : UInt8) (hl : s.length <= 4611686018427387904) : AP Tryd.prog 105 [.str s, .str [c]] (.tup [.str (cutV c s).1, .str (cutV c s).2.1, .bool (cutV c s).2.2]) [] := by
 rcases cut_cases c s with h | ⟨a, b, rfl, h⟩
 ·rw [cutV_no h]; exact av_cutN s c h
 ·rw [cutV_yes h]; exact av_cutY a b c h hl
theorem av_cutPre [Known] (s p : List UInt8) (hs : s.length <= 4611686018427387904) (hp : p.length <= 4611686018427387904) : AP Tryd.prog 104 [.str s, .str p] (.tup [.str (preV p s).1, .bool (preV p s).2]) [] := by
 rcases pre_cases s p with ⟨r, rfl⟩ | h
 ·rw [preV_app]; exact av_cutPreY p r hs
 ·rw [preV_no h]; exact av_cutPreN s p hs hp h
theorem av_pp [Known] (s : List UInt8) (hs : s.length <= 140737488351232) : AP Tryd.prog 88 [.str s] (.tup [.agg (eC (ppV s).1), .bool (ppV s).2]) [] := by
 have hP := av_cutPre s [47, 47] (by omega) (by decide)
 have hl := preV_len [47, 47] s
 unfold ppV
 dsimp only
 generalize (preV [47, 47] s).1 = r at *
 generalize (preV [47, 47] s).2 = ok at *
 have hC := av_cut r 47 (by omega)
 generalize (cutV 47 r).1 = a at *
 generalize (cutV 47 r).2.1 = b at *
 generalize (cutV 47 r).2.2 = k at *
 have hR := av_eRight ⟨false, 0, 0, a, b⟩
 generalize eRight ⟨false, 0, 0, a, b⟩ = R at *
 replace hR : AP Tryd.prog _ [.agg [.bool false, .int .u64 0, .int .u64 0, .str a, .str b]] (.bool R) [] := hR
 show AP Tryd.prog _ _ (.tup [.agg [.bool false, .int .u64 0, .int .u64 0, .str a, .str b], _]) _
 obtain ⟨ne, h1⟩ : ∃ ne, (a != []) = ne := ⟨_, rfl⟩
 rw [h1]
 cases ok with
 | false =>
  refine AP.ofA ?_
  refine AC_of Tryd.func88 rfl Tryd.ntmps88 rfl rfl ?_
  repeat' (first | (apply AL_callPw (hP); kernel_rfl; (iterate 4 exact rfl)) | (apply AL_callPw (hC); kernel_rfl; (iterate 4 exact rfl)) | (apply AL_move; exact rfl; exact rfl) | (apply AL_assign; exact rfl; exact rfl) | (apply AL_loadn ttok; (iterate 7 exact rfl)) | (apply AL_store ttok; (iterate 8 exact rfl)) | (apply AL_extract; (iterate 3 exact rfl)) | refine AL_nil ?_ | (apply AL_guardFt; (iterate 3 exact rfl); (first | with_reducible assumption | decide +kernel)) | (apply AL_pickF; exact rfl; (first | with_reducible assumption | decide +kernel); exact rfl; exact rfl) | refine AW_region ?_ | refine AW_seq' ?_ | refine then_norm ?_ | refine AW_ret ?_ | (apply AL_build ttok; (iterate 6 exact rfl)) | (apply AL_allocZ ttok; (iterate 4 exact rfl)) | (apply AW_drawE 14 hmix; (decide +kernel); (kernel_rfl); (kernel_rfl); (kernel_rfl); exact rfl; exact rfl) | (apply AE_consZ; (iterate 4 exact rfl)) | exact AE.nil _ _ _ _ | (apply AEk_puT; exact rfl) | (apply AEk_ef; exact rfl) | (apply AOt_mk; exact rfl; exact rfl; (decide +kernel); exact rfl) | (apply AO_puT; exact rfl) | (apply AO_ef; exact rfl) | exact AO.nil _ _ _ | (apply AOs_skip; (decide +kernel)) | (apply AOs_goZ; (iterate 3 exact rfl)) | exact AOs.nil | exact qY_ok rfl rfl | exact qY_efn rfl)
  all_goals (apply endQ []; (repeat (first | exact ResL.nil | (apply ResL.cons; first | exact .tmp _ _ rfl | (apply res_n ttok; (iterate 6 exact rfl)) | (apply res_1 ttok; (iterate 5 exact rfl))))); (iterate 4 exact rfl))
  all_goals rfl
 | true =>
  cases k with
  | false =>
   refine AP.ofA ?_
   refine AC_of Tryd.func88 rfl Tryd.ntmps88 rfl rfl ?_
   repeat' (first | (apply AL_callPw (hP); kernel_rfl; (iterate 4 exact rfl)) | (apply AL_callPw (hC); kernel_rfl; (iterate 4 exact rfl)) | (apply AL_move; exact rfl; exact rfl) | (apply AL_assign; exact rfl; exact rfl) | (apply AL_loadn ttok; (iterate 7 exact rfl)) | (apply AL_store ttok; (iterate 8 exact rfl)) | (apply AL_extract; (iterate 3 exact rfl)) | refine AL_nil ?_ | (apply AL_guardT; (iterate 3 exact rfl); (first | with_reducible assumption | decide +kernel)) | (apply AL_guardFt; (iterate 3 exact rfl); (first | with_reducible assumption | decide +kernel)) | (apply AL_pickT; exact rfl; (first | with_reducible assumption | decide +kernel); exact rfl; exact rfl) | (apply AL_pickF; exact rfl; (first | with_reducible assumption | decide +kernel); exact rfl; exact rfl) | refine AW_region ?_ | refine AW_seq' ?_ | refine then_norm ?_ | refine AW_ret ?_ | (apply AL_build ttok; (iterate 6 exact rfl)) | (apply AL_allocZ ttok; (iterate 4 exact rfl)) | (apply AW_drawE 14 hmix; (decide +kernel); (kernel_rfl); (kernel_rfl); (kernel_rfl); exact rfl; exact rfl) | (apply AE_consZ; (iterate 4 exact rfl)) | exact AE.nil _ _ _ _ | (apply AEk_puT; exact rfl) | (apply AEk_ef; exact rfl) | (apply AOt_mk; exact rfl; exact rfl; (decide +kernel); exact rfl) | (apply AO_puT; exact rfl) | (apply AO_ef; exact rfl) | exact AO.nil _ _ _ | (apply AOs_skip; (decide +kernel)) | (apply AOs_goZ; (iterate 3 exact rfl)) | exact AOs.nil | exact qY_ok rfl rfl | exact qY_efn rfl)
   all_goals (apply endQ []; (repeat (first | exact ResL.nil | (apply ResL.cons; first | exact .tmp _ _ rfl | (apply res_n ttok; (iterate 6 exact rfl)) | (apply res_1 ttok; (iterate 5 exact rfl))))); (iterate 4 exact rfl))
   all_goals rfl
  | true =>
   cases ne <;> cases R
   all_goals
    refine AP.ofA ?_
    refine AC_of Tryd.func88 rfl Tryd.ntmps88 rfl rfl ?_
    repeat' (first | rw [h1] | (apply AL_callPw (hP); kernel_rfl; (iterate 4 exact rfl)) | (apply AL_callPw (hC); kernel_rfl; (iterate 4 exact rfl)) | (apply AL_callPw (hR); kernel_rfl; (iterate 4 exact rfl)) | (apply AL_move; exact rfl; exact rfl) | (apply AL_assign; exact rfl; exact rfl) | (apply AL_loadn ttok; (iterate 7 exact rfl)) | (apply AL_store ttok; (iterate 8 exact rfl)) | (apply AL_extract; (iterate 3 exact rfl)) | refine AL_nil ?_ | (apply AL_guardT; (iterate 3 exact rfl); (first | with_reducible assumption | decide +kernel)) | (apply AL_guardFt; (iterate 3 exact rfl); (first | with_reducible assumption | decide +kernel)) | (apply AL_pickT; exact rfl; (first | with_reducible assumption | decide +kernel); exact rfl; exact rfl) | (apply AL_pickF; exact rfl; (first | with_reducible assumption | decide +kernel); exact rfl; exact rfl) | refine AW_region ?_ | refine AW_seq' ?_ | refine then_norm ?_ | refine AW_ret ?_ | (apply AL_build ttok; (iterate 6 exact rfl)) | (apply AL_allocZ ttok; (iterate 4 exact rfl)) | (apply AL_str; (iterate 5 exact rfl)) | (apply AW_drawE 14 hmix; (decide +kernel); (kernel_rfl); (kernel_rfl); (kernel_rfl); exact rfl; exact rfl) | (apply AE_consZ; (iterate 4 exact rfl)) | exact AE.nil _ _ _ _ | (apply AEk_puT; exact rfl) | (apply AEk_ef; exact rfl) | (apply AOt_mk; exact rfl; exact rfl; (decide +kernel); exact rfl) | (apply AO_puT; exact rfl) | (apply AO_ef; exact rfl) | exact AO.nil _ _ _ | (apply AOs_skip; (decide +kernel)) | (apply AOs_goZ; (iterate 3 exact rfl)) | exact AOs.nil | exact qY_ok rfl rfl | exact qY_efn rfl)
    all_goals (apply endQ []; (repeat (first | exact ResL.nil | (apply ResL.cons; first | exact .tmp _ _ rfl | (apply res_n ttok; (iterate 6 exact rfl)) | (apply res_1 ttok; (iterate 5 exact rfl))))); (iterate 4 exact rfl))
    all_goals rfl
end Go.Proofs.YtihkbilhgbmbhaaDoor
end

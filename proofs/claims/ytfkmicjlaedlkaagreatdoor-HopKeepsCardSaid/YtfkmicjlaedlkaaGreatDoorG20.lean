/- Items: what is shortest. -/
import Derived.Test.YtfkmicjlaedlkaaGreatDoorG12
import Derived.Test.YtfkmicjlaedlkaaGreatDoorG18
import Derived.Test.YtfkmicjlaedlkaaGreatDoorG19
import Derived.Test.YtfkmicjlaedlkaaGreatDoorG15
import Derived.Test.YtfkmicjlaedlkaaGreatDoorG10
import Derived.Test.YtfkmicjlaedlkaaGreatDoorG07
import Derived.Laws.RangeAny
import Derived.LoopTactic
import Derived.Test.YtfkmicjlaedlkaaGreatDoorG09
set_option linter.unusedVariables false
set_option linter.unusedSimpArgs false
section
open Go.RowKit Go.Pl Go.Av
namespace Go.Proofs.YtfkmicjlaedlkaaGreatDoor
set_option maxHeartbeats 4000000
theorem rdE0 {s : List UInt8} {e : Nat} (h : rdS s = .error e) : e ≠ 0 := by
 cases s with
 | nil => simp only [rdS, Except.error.injEq] at h; omega
 | cons c r =>
  simp only [rdS] at h
  repeat' split at h
  all_goals (cases h; try omega)
theorem piece_err {p : Hd} {s : List UInt8} {e : Nat} (h : pieceS p s = .error e) : e ≠ 0 := by
 simp only [pieceS] at h
 repeat' split at h
 all_goals (cases h; try omega)
theorem str_err (m : Int) : ∀ (f : Nat) (acc s : List UInt8) (e : Nat), strS m f acc s = .error e -> e ≠ 0
 | 0, _, _, e, h => by simp only [strS, Except.error.injEq] at h; omega
 | f + 1, acc, s, e, h => by
  rw [strS] at h
  cases hb : endB s <;> rw [hb] at h
  ·cases hr : rdS s with
   | error c => rw [hr] at h; dsimp only at h; simp only [Except.error.injEq] at h; exact h ▸ rdE0 hr
   | ok y =>
    obtain ⟨p, r⟩ := y
    rw [hr] at h; dsimp only at h
    split at h
    ·cases hp : pieceS p r with
     | error c => rw [hp] at h; dsimp only at h; simp only [Except.error.injEq] at h; exact h ▸ piece_err hp
     | ok z => rw [hp] at h; exact str_err m f _ _ e h
    ·simp only [Except.error.injEq] at h; omega
  ·exact nomatch h
theorem lstN_err {it : Nat -> List UInt8 -> Res (It × List UInt8 × Nat)} (hi : ∀ m s e, it m s = .error e -> e ≠ 0) : ∀ (f : Nat) (acc : List It) (m : Nat) (s : List UInt8) (e : Nat), lstN it f acc m s = .error e -> e ≠ 0
 | 0, _, _, _, _, h => nomatch h
 | f + 1, acc, m, s, e, h => by
  rw [lstN] at h
  cases hr : it m s with
  | error c => rw [hr] at h; dsimp only at h; simp only [Except.error.injEq] at h; exact h ▸ hi _ _ _ hr
  | ok y => obtain ⟨x, r, m'⟩ := y; rw [hr] at h; exact lstN_err hi f _ _ _ e h
theorem lstO_err {it : Nat -> List UInt8 -> Res (It × List UInt8 × Nat)} (hi : ∀ m s e, it m s = .error e -> e ≠ 0) : ∀ (f : Nat) (acc : List It) (m : Nat) (s : List UInt8) (e : Nat), lstO it f acc m s = .error e -> e ≠ 0
 | 0, _, _, _, e, h => by simp only [lstO, Except.error.injEq] at h; omega
 | f + 1, acc, m, s, e, h => by
  rw [lstO] at h
  cases hb : endB s <;> rw [hb] at h
  ·cases hr : it m s with
   | error c => rw [hr] at h; dsimp only at h; simp only [Except.error.injEq] at h; exact h ▸ hi _ _ _ hr
   | ok y => obtain ⟨x, r, m'⟩ := y; rw [hr] at h; exact lstO_err hi f _ _ _ e h
  ·exact nomatch h
theorem body_err {it : Nat -> List UInt8 -> Res (It × List UInt8 × Nat)} (hi : ∀ m s e, it m s = .error e -> e ≠ 0) {p : Hd} {m : Nat} {r : List UInt8} {e : Nat} (h : bodyS it p m r = .error e) : e ≠ 0 := by
 have h1 : ∀ e, txtS p r = .error e -> e ≠ 0 := by
  intro e h; simp only [txtS] at h
  split at h
  ·exact str_err _ _ _ _ _ h
  ·exact piece_err h
 have h2 : ∀ e, lisS it p m r = .error e -> e ≠ 0 := by
  intro e h; simp only [lisS] at h
  split at h
  ·exact lstO_err hi _ _ _ _ _ h
  ·split at h
   ·exact lstN_err hi _ _ _ _ _ h
   ·cases h; omega
 simp only [bodyS] at h
 repeat' split at h
 all_goals first
  | (cases h; done)
  | (rename_i hq; cases h; exact h1 _ hq)
  | (rename_i hq; cases h; exact h2 _ hq)
theorem item_err : ∀ (d m : Nat) (s : List UInt8) (e : Nat), itemS d m s = .error e -> e ≠ 0
 | 0, m, s, e, h => by
  rw [itemS] at h
  cases hr : rdS s with
  | error c => rw [hr] at h; dsimp only at h; simp only [Except.error.injEq] at h; exact h ▸ rdE0 hr
  | ok y =>
   obtain ⟨p, r⟩ := y
   rw [hr] at h; dsimp only at h
   split at h <;> (simp only [Except.error.injEq] at h; omega)
 | d + 1, m, s, e, h => by
  rw [itemS] at h
  cases hr : rdS s with
  | error c => rw [hr] at h; dsimp only at h; simp only [Except.error.injEq] at h; exact h ▸ rdE0 hr
  | ok y =>
   obtain ⟨p, r⟩ := y
   rw [hr] at h; dsimp only at h
   split at h
   ·simp only [Except.error.injEq] at h; omega
   ·split at h
    ·simp only [Except.error.injEq] at h; omega
    ·exact body_err (item_err d) h
theorem av_shortestI [Known] [KnownU8] (b : List UInt8) (hb : b.length < 4294967296) : AP Tryz.prog 136 [byE b] (.bool (shortI b)) [] := by
 have hR := av_readC b 0 (by omega)
 have e : readI b 0 = match itemS 6 256 b with
   | .error e => (.mk 0 0 [] [], 0, e)
   | .ok (x, r, _) => (x, b.length - r.length, 0) := by rw [readI, if_neg (by omega)]; rfl
 rw [e] at hR
 unfold shortI
 cases hx : itemS 6 256 b with
 | error c =>
  rw [hx] at hR
  dsimp only
  have hc : ((c : Int) == 0) = false := by
   have h0 := item_err _ _ _ _ hx
   rw [<- Bool.not_eq_true, beq_iff_eq]; omega
  replace hR : AP Tryz.prog _ _ (.tup [itD (.mk 0 0 [] []), .int .i64 0, .int .i64 (c : Int)]) [] := hR
  refine AP.ofA ?_
  refine AC_of Tryz.func136 rfl Tryz.ntmps136 rfl rfl ?_
  repeat' (first | rw [hc] | (apply AL_callPw (hR); kernel_rfl; (iterate 4 exact rfl)) | (apply AL_go ttok; exact rfl) | (apply AW_go ttok; exact rfl) | (apply AL_guardFt; (iterate 3 exact rfl); (first | with_reducible assumption | decide +kernel)) | (apply AL_pickF; exact rfl; (first | with_reducible assumption | decide +kernel); exact rfl; exact rfl))
  all_goals (apply endQ []; (apply resG_ok ttok; exact rfl); (iterate 4 exact rfl))
  all_goals rfl
 | ok y =>
  obtain ⟨⟨k1, n1, b1, l1⟩, r, m1⟩ := y
  rw [hx] at hR
  replace hR : AP Tryz.prog _ _ (.tup [itD (.mk k1 n1 b1 l1), .int .i64 ((b.length - r.length : Nat) : Int), .int .i64 0]) [] := hR
  obtain ⟨hwk, hwf, pre, hpre, _, hlen⟩ := item_ok 6 (Nat.le_refl _) _ _ _ _ _ hx (by omega)
  have hle := hlen ⟨Nat.le_refl _, hb⟩
  have hpl := congrArg List.length hpre
  rw [List.length_append] at hpl
  have hP := av_putN (.mk k1 n1 b1 l1) hwf (walk_okx hwk) (by omega)
  have hB := av_bEq (putI (.mk k1 n1 b1 l1)) b
  have hn : (((b.length - r.length : Nat) : Int) == ((b.map E.byte).length : Int)) = r.isEmpty := by
   rw [List.length_map]
   cases r with
   | nil => simp
   | cons c r => simp at hpl ⊢; omega
  dsimp only
  cases hr : r.isEmpty
  all_goals
   rw [hr] at hn
   refine AP.ofA ?_
   refine AC_of Tryz.func136 rfl Tryz.ntmps136 rfl rfl ?_
   repeat' (first | rw [hn] | (apply AL_callPw (hR); kernel_rfl; (iterate 4 exact rfl)) | (apply AL_callT [] [] (hP); kernel_rfl; (iterate 10 exact rfl)) | (apply AL_callPw (hB); kernel_rfl; (iterate 4 exact rfl)) | (apply AL_go ttok; exact rfl) | (apply AW_go ttok; exact rfl) | (apply AL_guardT; (iterate 3 exact rfl); (first | with_reducible assumption | decide +kernel)) | (apply AL_guardFt; (iterate 3 exact rfl); (first | with_reducible assumption | decide +kernel)) | (apply AL_pickT; exact rfl; (first | with_reducible assumption | decide +kernel); exact rfl; exact rfl) | (apply AL_pickF; exact rfl; (first | with_reducible assumption | decide +kernel); exact rfl; exact rfl) | (apply AL_len ttok; (iterate 4 exact rfl)))
   all_goals (apply endQ []; (apply resG_ok ttok; exact rfl); (iterate 4 exact rfl))
   all_goals rfl
end Go.Proofs.YtfkmicjlaedlkaaGreatDoor
end
section
open Go.RowKit Go.Pl Go.Av
namespace Go.Proofs.YtfkmicjlaedlkaaGreatDoor
set_option maxHeartbeats 4000000
theorem av_writeT [Known] [KnownU8] (x : It) (hw : wfI x) (hr : rightI x = true) (hlim : (putI x).length <= 1099511627776) : AT Tryz.prog 104 [itD x] [] [] (.tup [.sl (.own 0) ((putI x).map E.byte), .int .i64 0]) [] [⟨(putI x).length, 1, 5⟩] := by
 have hR := av_rightI x hw
 rw [hr] at hR
 have hp := av_putN x hw (right_okx hr) hlim
 obtain ⟨k, n, b, l⟩ := x
 refine AC_of Tryz.func104 rfl Tryz.ntmps104 rfl rfl ?_
 repeat' (first | (apply AL_callPw (hR); kernel_rfl; (iterate 4 exact rfl)) | (apply AL_callT [] [] (hp); kernel_rfl; (iterate 10 exact rfl)) | (apply AL_go ttok; exact rfl) | (apply AW_go ttok; exact rfl) | (apply K_go ttok; exact rfl) | (apply AW_condB; exact rfl; (first | with_reducible assumption | decide +kernel)))
 all_goals (apply endT [] [0]; (apply resG_ok ttok; exact rfl); (iterate 7 exact rfl))
 all_goals rfl
end Go.Proofs.YtfkmicjlaedlkaaGreatDoor
end
section
open Go.RowKit Go.Pl Go.Av
namespace Go.Proofs.YtfkmicjlaedlkaaGreatDoor
set_option maxHeartbeats 4000000
theorem read_put {x : It} (hw : wfI x) (hr : rightI x = true) (r : List UInt8) : itemS 6 256 (putI x ++ r) = .ok (x, r, ((walkI x 1 256).getD 0)) := by
 unfold rightI at hr
 cases h : walkI x 1 256 with
 | none => rw [h] at hr; cases hr
 | some m => exact item_put x 6 256 m r hw (Nat.le_refl _) h
theorem read_put0 {x : It} (hw : wfI x) (hr : rightI x = true) (r : List UInt8) : readI (putI x ++ r) 0 = (x, (putI x).length, 0) := by
 rw [readI, if_neg (by omega), show (0 : Int).toNat = 0 from rfl, List.drop_zero, read_put hw hr]
 dsimp only
 rw [List.length_append, Nat.add_sub_cancel]
theorem av_writeYes [Known] [KnownU8] (x : It) (hw : wfI x) (hlim : (putI x).length <= 1099511627776) (hr : rightI x = true) : AP Tryz.prog 104 [itD x] (.tup [byE (putI x), .int .i64 0]) [] := by
 have h := av_writeI x hw hlim (av_rightI x hw)
 rw [hr] at h
 exact h
theorem put_ne (x : It) (hw : wfI x) (hr : rightI x = true) : ∃ c t, putI x = c :: t := by
 cases hp : putI x with
 | cons c t => exact ⟨c, t, rfl⟩
 | nil =>
  have h := read_put hw hr []
  rw [hp] at h
  have e : itemS 6 256 [] = .error 8 := rfl
  rw [List.append_nil, e] at h
  cases h
end Go.Proofs.YtfkmicjlaedlkaaGreatDoor
end
section
open Go.RowKit Go.Pl Go.Av
namespace Go.Proofs.YtfkmicjlaedlkaaGreatDoor
mutual
def sizeI : It -> Nat
 | .mk _ _ _ l => 1 + sizes l
def sizes : List It -> Nat
 | [] => 0
 | x :: l => sizeI x + sizes l
end
mutual
def fineI : It -> Bool
 | .mk k n b l => ownI k n b l && fines l
def fines : List It -> Bool
 | [] => true
 | x :: l => fineI x && fines l
end
mutual
theorem walk_iff : ∀ (x : It) (d m : Nat), walkI x d m = if deepI x (7 - d) = true /\ sizeI x <= m /\ fineI x = true then some (m - sizeI x) else none
 | .mk k n b l, d, m => by
  rw [walkI]
  split
  ·rename_i h
   rw [if_neg]
   rintro ⟨h1, _⟩
   rw [show 7 - d = 0 by omega, deepI] at h1
   cases h1
  rename_i hd
  rw [show 7 - d = (7 - (d + 1)) + 1 by omega, deepI, sizeI, fineI]
  split
  ·rename_i h
   rw [if_neg]
   rintro ⟨_, h1, _⟩
   omega
  rename_i hm
  cases ho : ownI k n b l with
  | false =>
   dsimp only
   rw [if_neg]
   rintro ⟨_, _, h1⟩
   simp at h1
  | true =>
   dsimp only
   rw [walks_iff l (d + 1) (m - 1), Bool.true_and]
   by_cases h : deeps l (7 - (d + 1)) = true /\ sizes l <= m - 1 /\ fines l = true
   ·rw [if_pos h, if_pos ⟨h.1, by omega, h.2.2⟩]
    congr 1; omega
   ·rw [if_neg h, if_neg]
    exact fun ⟨a, b, c⟩ => h ⟨a, by omega, c⟩
theorem walks_iff : ∀ (l : List It) (d m : Nat), walks l d m = if deeps l (7 - d) = true /\ sizes l <= m /\ fines l = true then some (m - sizes l) else none
 | [], d, m => by rw [walks, if_pos ⟨by rw [deeps], by rw [sizes]; omega, by rw [fines]⟩, sizes]; rfl
 | x :: l, d, m => by
  rw [walks, walk_iff x d m, deeps, sizes, fines]
  by_cases h : deepI x (7 - d) = true /\ sizeI x <= m /\ fineI x = true
  ·rw [if_pos h]
   dsimp only
   rw [walks_iff l d (m - sizeI x), h.1, h.2.2, Bool.true_and, Bool.true_and]
   by_cases h2 : deeps l (7 - d) = true /\ sizes l <= m - sizeI x /\ fines l = true
   ·rw [if_pos h2, if_pos ⟨h2.1, by omega, h2.2.2⟩]
    congr 1; omega
   ·rw [if_neg h2, if_neg]
    exact fun ⟨a, b, c⟩ => h2 ⟨a, by omega, c⟩
  ·rw [if_neg h]
   dsimp only
   rw [if_neg]
   rintro ⟨a, b, c⟩
   rw [Bool.and_eq_true] at a c
   exact h ⟨a.1, by omega, c.1⟩
end
mutual
theorem deepI_more : ∀ (x : It) (d e : Nat), deepI x d = true -> d <= e -> deepI x e = true
 | .mk k n b l, 0, e, h, _ => by rw [deepI] at h; cases h
 | .mk k n b l, d + 1, 0, h, hle => by omega
 | .mk k n b l, d + 1, e + 1, h, hle => by
  rw [deepI] at h ⊢
  exact deeps_more l d e h (by omega)
theorem deeps_more : ∀ (l : List It) (d e : Nat), deeps l d = true -> d <= e -> deeps l e = true
 | [], _, _, _, _ => by rw [deeps]
 | x :: l, d, e, h, hle => by
  rw [deeps, Bool.and_eq_true] at h ⊢
  exact ⟨deepI_more x d e h.1 hle, deeps_more l d e h.2 hle⟩
end
mutual
theorem great_size : ∀ (x : It) (d : Nat) (m : Int), 0 <= greatI x d m -> (sizeI x : Int) = m - greatI x d m
 | .mk k n b l, d, m, h => by
  rw [greatI] at h ⊢
  split at h
  ·omega
  split at h
  ·omega
  rename_i h1 h2
  rw [if_neg h1, if_neg h2, sizeI]
  have := greats_size l (d + 1) (m - 1) h
  omega
theorem greats_size : ∀ (l : List It) (d : Nat) (m : Int), 0 <= greats l d m -> (sizes l : Int) = m - greats l d m
 | [], d, m, h => by rw [greats, sizes]; omega
 | x :: l, d, m, h => by
  rw [greats] at h ⊢
  split at h
  ·omega
  rename_i h1
  rw [if_neg h1, sizes]
  have h0 : 0 <= greatI x d m := by
   rcases Int.lt_or_le (greatI x d m) 0 with hlt | hge
   ·have := greats_le l d (greatI x d m) (by have := greatI_lt x d m (by omega); omega); omega
   ·exact hge
  have a := great_size x d m h0
  have b := greats_size l d _ h
  omega
end
end Go.Proofs.YtfkmicjlaedlkaaGreatDoor
end
section
open Go.RowKit Go.Pl Go.Av
namespace Go.Proofs.YtfkmicjlaedlkaaGreatDoor
set_option maxHeartbeats 4000000
end Go.Proofs.YtfkmicjlaedlkaaGreatDoor
end
section
open Go.RowKit Go.Pl Go.Av
namespace Go.Proofs.YtfkmicjlaedlkaaGreatDoor
set_option maxHeartbeats 4000000
theorem short_put {x : It} (hw : wfI x) (hr : rightI x = true) : shortI (putI x) = true := by
 unfold shortI
 have h := read_put hw hr []
 rw [List.append_nil] at h
 rw [h]
 simp
theorem read_put00 {x : It} (hw : wfI x) (hr : rightI x = true) : readI (putI x) 0 = (x, (putI x).length, 0) := by
 have h := read_put0 hw hr []
 rw [List.append_nil] at h
 exact h
theorem read_case (b : List UInt8) (hb : b.length < 4294967296) : (∃ e : Nat, e ≠ 0 /\ readI b 0 = (.mk 0 0 [] [], 0, e) /\ shortI b = false) \/ (∃ (y : It) (n : Nat), readI b 0 = (y, n, 0) /\ wfI y /\ rightI y = true /\ (putI y).length <= n /\ n <= b.length) := by
 have e : readI b 0 = match itemS 6 256 b with
   | .error e => (.mk 0 0 [] [], 0, e)
   | .ok (x, r, _) => (x, b.length - r.length, 0) := by rw [readI, if_neg (by omega)]; rfl
 unfold shortI
 rw [e]
 cases hx : itemS 6 256 b with
 | error c => exact .inl ⟨c, item_err _ _ _ _ hx, rfl, rfl⟩
 | ok y =>
  obtain ⟨y, r, m1⟩ := y
  obtain ⟨hwk, hwf, pre, hpre, _, hlen⟩ := item_ok 6 (Nat.le_refl _) _ _ _ _ _ hx (by omega)
  have hle := hlen ⟨Nat.le_refl _, hb⟩
  have hpl := congrArg List.length hpre
  rw [List.length_append] at hpl
  refine .inr ⟨y, b.length - r.length, rfl, hwf, ?_, by omega, by omega⟩
  have hwk : walkI y 1 256 = some m1 := hwk
  unfold rightI; rw [hwk]; rfl
end Go.Proofs.YtfkmicjlaedlkaaGreatDoor
end
section
open Go.RowKit Go.Pl Go.Av
namespace Go.Proofs.YtfkmicjlaedlkaaGreatDoor
end Go.Proofs.YtfkmicjlaedlkaaGreatDoor
end
section
open Go.RowKit Go.Pl Go.Av
namespace Go.Proofs.YtfkmicjlaedlkaaGreatDoor
set_option maxHeartbeats 4000000
theorem av_cloneI [Known] (l : List It) (hne : l ≠ []) (hl : l.length <= 1000000) : AT Tryz.prog 117 [.sl .ext (itEs l)] [] [] (.sl (.own 0) (itEs l)) [] [⟨l.length, 4, 32⟩] := by
 have hU := uniI l
 have hlen := itEs_len l
 rw [<- hlen]
 rw [<- hlen] at hl
 have hE : itEs l ≠ [] := fun h => hne (by rw [h] at hlen; exact List.length_eq_zero_iff.1 hlen.symm)
 refine AC_of Tryz.func117 rfl Tryz.ntmps117 rfl rfl ?_
 repeat' (first | (apply AL_snil ttok; (iterate 5 exact rfl); intro b hbn; (have hbn2 := hbn hE); subst hbn2; clear hbn) | (apply AL_go ttok; exact rfl) | (apply AW_go ttok; exact rfl) | (apply K_go ttok; exact rfl) | (apply AW_condB; exact rfl; (first | with_reducible assumption | (solve | simp only [bn]))) | (apply AL_bs ttok; (iterate 12 exact rfl)) | (apply AL_append ttok; (iterate 6 exact rfl); (first | with_reducible assumption | exact rfl | rotate_left); exact rfl; exact rfl; (first | exact uniB_ok rfl | with_reducible assumption | rotate_left); (first | exact uniB_ok rfl | with_reducible assumption | rotate_left); (first | exact List.cons_ne_nil _ _ | with_reducible assumption | rotate_left); (first | with_reducible assumption | rotate_left); (first | with_reducible assumption | rotate_left); exact rfl; exact rfl))
 all_goals first | (apply endT [] [0]; (apply resG_ok ttok; exact rfl); (iterate 7 exact rfl)) | skip
 all_goals first | rfl | (simp at hl ⊢; (try unfold maxLen); omega) | (simp at hl ⊢; done)
theorem av_wrong [Known] [KnownU8] (x : It) (hw : wfI x) : AP Tryz.prog 82 [itD x] (.bool (!rightI x)) [] := by
 have hR := av_rightI x hw
 obtain ⟨k, n, b, l⟩ := x
 refine AP.ofA ?_
 refine AC_of Tryz.func82 rfl Tryz.ntmps82 rfl rfl ?_
 repeat' (first | (apply AL_callPw (hR); kernel_rfl; (iterate 4 exact rfl)) | (apply AL_go ttok; exact rfl) | (apply AW_go ttok; exact rfl))
 all_goals (apply endQ []; (apply resG_ok ttok; exact rfl); (iterate 4 exact rfl))
 all_goals rfl
def fiI : List It -> Nat -> Int
 | [], _ => -1
 | x :: l, i => match rightI x with | true => fiI l (i + 1) | false => (i : Int)
theorem fiI_ge : ∀ (l : List It) (i : Nat), decide (fiI l i ≥ 0) = !(l.all rightI)
 | [], _ => rfl
 | x :: l, i => by
  rw [fiI, List.all_cons]
  cases rightI x with
  | true => simpa using fiI_ge l (i + 1)
  | false => simp
theorem av_idxF [Known] [KnownU8] (l : List It) (hws : wfs l) (hl : l.length <= 1000000) : AP Tryz.prog 116 [.sl .ext (itEs l), .fn 82 []] (.int .i64 (fiI l 0)) [] := by
 have hlen := itEs_len l
 have hU := uniI l
 generalize hfin : fiI l 0 = fin
 refine AP.ofA ?_
 refine AC_of Tryz.func116 rfl Tryz.ntmps116 rfl rfl ?_
 repeat' (first | (apply AL_go ttok; exact rfl) | (apply AW_go ttok; exact rfl) | (apply AL_len ttok; (iterate 4 exact rfl)))
 refine AW_loopJ (fun f tm bx fr => ∃ (i : Nat), f + i = l.length /\ fiI (l.drop i) i = fin /\ tm = [(0, .sl .ext (itEs l)), (1, .fn 82 []), (4, .int .i64 0), (7, .int .i64 ((itEs l).length : Int)), (8, .int .i64 (i : Int))] /\ bx = [] /\ fr = []) (l.length + 1) (Lands.mk' (m := l.length) (Nat.lt_succ_self _) ⟨0, by omega, hfin, rfl, rfl, rfl⟩ ?_ rfl rfl rfl rfl rfl rfl) ?_
 ·exact .cons rfl (.cons rfl (.cons rfl (.cons rfl (.cons rfl .nil))))
 rintro f tm bx fr ⟨i, hf, hq, rfl, rfl, rfl⟩
 rcases Nat.lt_or_ge i l.length with hlt | hge
 ·have hdl : decide ((i : Int) < ((itEs l).length : Int)) = true := decide_eq_true (by omega)
  obtain ⟨⟨k1, n1, b1, l1⟩, hy⟩ : ∃ y, l[i]? = some y := ⟨_, List.getElem?_eq_getElem hlt⟩
  have hv : (itEs l)[((i : Nat) : Int).toNat]? = some (.agg [.int .i64 k1, .int .u64 (n1 : Int), .sl (b1.map E.byte), .sl (itEs l1)]) := by
   rw [Int.toNat_natCast, itEs_map, List.getElem?_map, hy]; rfl
  have hc := av_wrong _ (wfs_mem hws _ (List.mem_of_getElem? hy))
  have hdr : l.drop i = It.mk k1 n1 b1 l1 :: l.drop (i + 1) := by
   rw [List.drop_eq_getElem_cons hlt]; congr 1
   exact (List.getElem?_eq_some_iff.1 hy).2
  rw [hdr, fiI] at hq
  have ei : IntKind.i64.wrap ((i : Int) + 1) = ((i + 1 : Nat) : Int) := by rw [IntWalk.i64_in _ (by omega)]; omega
  cases hb : rightI (.mk k1 n1 b1 l1) with
  | true =>
   rw [hb] at hq hc
   replace hc : AP Tryz.prog _ _ (.bool false) [] := hc
   repeat' (first | rw [ei] | (apply AL_callPv (hc); exact rfl; kernel_rfl; (iterate 3 exact rfl)) | (apply AL_go ttok; exact rfl) | (apply AW_go ttok; exact rfl) | (apply K_go ttok; exact rfl) | (apply AW_condA; exact rfl; (first | with_reducible assumption | decide +kernel)) | (apply AW_condB; exact rfl; (first | with_reducible assumption | decide +kernel)) | (apply AL_idx ttok; (iterate 6 exact rfl); (first | with_reducible assumption | decide +kernel | exact Int.natCast_nonneg _ | (guard_target = (0:Int) <= (OfNat.ofNat _ : Int); decide) | rotate_left); (first | with_reducible assumption | decide +kernel | exact rfl); (first | exact uniB_ok rfl | with_reducible assumption | decide +kernel | rotate_left)))
   refine Lands.mk' (m := f - 1) (by omega) ⟨i + 1, by omega, hq, rfl, rfl, rfl⟩ ?_ rfl rfl rfl rfl rfl rfl
   exact .cons rfl (.cons rfl (.cons rfl (.cons rfl (.cons rfl .nil))))
  | false =>
   rw [hb] at hq hc
   replace hc : AP Tryz.prog _ _ (.bool true) [] := hc
   have hq : (i : Int) = fin := hq
   subst hq
   repeat' (first | (apply AL_callPv (hc); exact rfl; kernel_rfl; (iterate 3 exact rfl)) | (apply AL_go ttok; exact rfl) | (apply AW_go ttok; exact rfl) | (apply K_go ttok; exact rfl) | (apply AW_condA; exact rfl; (first | with_reducible assumption | decide +kernel)) | refine then_ret ?_ | (apply AL_idx ttok; (iterate 6 exact rfl); (first | with_reducible assumption | decide +kernel | exact Int.natCast_nonneg _ | (guard_target = (0:Int) <= (OfNat.ofNat _ : Int); decide) | rotate_left); (first | with_reducible assumption | decide +kernel | exact rfl); (first | exact uniB_ok rfl | with_reducible assumption | decide +kernel | rotate_left)))
   all_goals (apply endQ []; (apply resG_ok ttok; exact rfl); (iterate 4 exact rfl))
   all_goals rfl
 ·have hdl : decide ((i : Int) < ((itEs l).length : Int)) = false := decide_eq_false (by omega)
  rw [List.drop_eq_nil_of_le hge] at hq
  have hq : (-1 : Int) = fin := hq
  subst hq
  repeat' (first | (apply AW_go ttok; exact rfl) | (apply AW_condB; exact rfl; (first | with_reducible assumption | decide +kernel)))
  all_goals (apply endQ []; (apply resG_ok ttok; exact rfl); (iterate 4 exact rfl))
  all_goals rfl
theorem av_contF [Known] [KnownU8] (l : List It) (hws : wfs l) (hl : l.length <= 1000000) : AP Tryz.prog 85 [.sl .ext (itEs l), .fn 82 []] (.bool (!(l.all rightI))) [] := by
 have hI := av_idxF l hws hl
 rw [<- fiI_ge l 0]
 refine AP.ofA ?_
 refine AC_of Tryz.func85 rfl Tryz.ntmps85 rfl rfl ?_
 repeat' (first | (apply AL_callPw (hI); kernel_rfl; (iterate 4 exact rfl)) | (apply AL_go ttok; exact rfl) | (apply AW_go ttok; exact rfl))
 all_goals (apply endQ []; (apply resG_ok ttok; exact rfl); (iterate 4 exact rfl))
 all_goals rfl
def typeV (l : List It) (a : Int) : Int := if a < 0 then -1 else match l[a.toNat]? with
 | none => -1
 | some (.mk k n b r) => match decide ((n : Int) > 2) with
  | true => -1
  | false => match It.beq (.mk k n b r) (.mk 0 n [] []) with
   | true => (n : Int)
   | false => -1
theorem av_typeAt [Known] (l : List It) (hws : wfs l) (a : Int) : AP Tryz.prog 84 [.sl .ext (itEs l), .int .i64 a] (.int .i64 (typeV l a)) [] := by
 have hlen := itEs_len l
 have hU := uniI l
 unfold typeV
 rcases Int.lt_or_le a 0 with h0 | h0
 ·have t1 : decide (a < 0) = true := decide_eq_true h0
  rw [if_pos h0]
  refine AP.ofA ?_
  refine AC_of Tryz.func84 rfl Tryz.ntmps84 rfl rfl ?_
  repeat' (first | (apply AL_go ttok; exact rfl) | (apply AW_go ttok; exact rfl) | (apply K_go ttok; exact rfl) | (apply AL_guardFf; (iterate 3 exact rfl); (first | with_reducible assumption | decide +kernel)) | (apply AL_pickT; exact rfl; (first | with_reducible assumption | decide +kernel); exact rfl; exact rfl) | (apply AW_condA; exact rfl; (first | with_reducible assumption | decide +kernel)) | (apply AW_drawE 27 hmix; (decide +kernel); (kernel_rfl); (kernel_rfl); (kernel_rfl); exact rfl; exact rfl) | (apply AE_consZ; (iterate 4 exact rfl)) | exact AE.nil _ _ _ _ | (apply AEk_puT; exact rfl) | (apply AOt_mk; exact rfl; exact rfl; (decide +kernel); exact rfl) | (apply AO_puT; exact rfl) | exact AO.nil _ _ _ | (apply AOs_skip; (decide +kernel)) | exact AOs.nil | exact qY_ok rfl rfl)
  all_goals (apply endQ []; (apply resG_ok ttok; exact rfl); (iterate 4 exact rfl))
  all_goals rfl
 have t1 : decide (a < 0) = false := decide_eq_false (by omega)
 rw [if_neg (by omega)]
 rcases Int.lt_or_le a l.length with h1 | h1
 case inr =>
  have t2 : decide (a ≥ ((itEs l).length : Int)) = true := decide_eq_true (by omega)
  rw [List.getElem?_eq_none (by omega)]
  refine AP.ofA ?_
  refine AC_of Tryz.func84 rfl Tryz.ntmps84 rfl rfl ?_
  repeat' (first | (apply AL_go ttok; exact rfl) | (apply AW_go ttok; exact rfl) | (apply K_go ttok; exact rfl) | (apply AL_guardT; (iterate 3 exact rfl); (first | with_reducible assumption | decide +kernel)) | (apply AL_guardFf; (iterate 3 exact rfl); (first | with_reducible assumption | decide +kernel)) | (apply AL_pickT; exact rfl; (first | with_reducible assumption | decide +kernel); exact rfl; exact rfl) | (apply AL_pickF; exact rfl; (first | with_reducible assumption | decide +kernel); exact rfl; exact rfl) | (apply AW_condA; exact rfl; (first | with_reducible assumption | decide +kernel)) | (apply AL_len ttok; (iterate 4 exact rfl)) | (apply AW_drawE 27 hmix; (decide +kernel); (kernel_rfl); (kernel_rfl); (kernel_rfl); exact rfl; exact rfl) | (apply AE_consZ; (iterate 4 exact rfl)) | exact AE.nil _ _ _ _ | (apply AEk_puT; exact rfl) | (apply AOt_mk; exact rfl; exact rfl; (decide +kernel); exact rfl) | (apply AO_puT; exact rfl) | exact AO.nil _ _ _ | (apply AOs_skip; (decide +kernel)) | exact AOs.nil | exact qY_ok rfl rfl)
  all_goals (apply endQ []; (apply resG_ok ttok; exact rfl); (iterate 4 exact rfl))
  all_goals rfl
 have t2 : decide (a ≥ ((itEs l).length : Int)) = false := decide_eq_false (by omega)
 obtain ⟨⟨k, n, b, l1⟩, hy⟩ : ∃ y, l[a.toNat]? = some y := ⟨_, List.getElem?_eq_getElem (by omega)⟩
 have hv : (itEs l)[a.toNat]? = some (.agg [.int .i64 k, .int .u64 (n : Int), .sl (b.map E.byte), .sl (itEs l1)]) := by
  rw [itEs_map, List.getElem?_map, hy]; rfl
 have hw := wfs_mem hws _ (List.mem_of_getElem? hy)
 have hS := av_same (.mk k n b l1) hw (.mk 0 n [] []) (by obtain ⟨h1, _⟩ := hw; exact ⟨h1, by simp, by simp, trivial⟩)
 have hN := av_num n
 rw [hy]
 dsimp only
 cases t3 : decide ((n : Int) > 2) with
 | true =>
  refine AP.ofA ?_
  refine AC_of Tryz.func84 rfl Tryz.ntmps84 rfl rfl ?_
  repeat' (first | (apply AL_go ttok; exact rfl) | (apply AW_go ttok; exact rfl) | (apply K_go ttok; exact rfl) | (apply AL_guardT; (iterate 3 exact rfl); (first | with_reducible assumption | decide +kernel)) | (apply AL_guardFf; (iterate 3 exact rfl); (first | with_reducible assumption | decide +kernel)) | (apply AL_pickT; exact rfl; (first | with_reducible assumption | decide +kernel); exact rfl; exact rfl) | (apply AL_pickF; exact rfl; (first | with_reducible assumption | decide +kernel); exact rfl; exact rfl) | (apply AW_condA; exact rfl; (first | with_reducible assumption | decide +kernel)) | (apply AL_len ttok; (iterate 4 exact rfl)) | (apply AW_drawE 27 hmix; (decide +kernel); (kernel_rfl); (kernel_rfl); (kernel_rfl); exact rfl; exact rfl) | (apply AE_consZ; (iterate 4 exact rfl)) | exact AE.nil _ _ _ _ | (apply AEk_puT; exact rfl) | (apply AOt_mk; exact rfl; exact rfl; (decide +kernel); exact rfl) | (apply AO_puT; exact rfl) | exact AO.nil _ _ _ | (apply AOs_skip; (decide +kernel)) | exact AOs.nil | exact qY_ok rfl rfl | (apply AL_idx ttok; (iterate 6 exact rfl); (first | with_reducible assumption | decide +kernel | exact Int.natCast_nonneg _ | (guard_target = (0:Int) <= (OfNat.ofNat _ : Int); decide) | rotate_left); (first | with_reducible assumption | decide +kernel | exact rfl); (first | exact uniB_ok rfl | with_reducible assumption | decide +kernel | rotate_left)))
  all_goals (apply endQ []; (apply resG_ok ttok; exact rfl); (iterate 4 exact rfl))
  all_goals rfl
 | false =>
  have en : IntKind.i64.wrap (n : Int) = (n : Int) := IntWalk.i64_in _ (by simp at t3; omega)
  cases t4 : It.beq (.mk k n b l1) (.mk 0 n [] []) with
  | true =>
   rw [t4] at hS
   refine AP.ofA ?_
   refine AC_of Tryz.func84 rfl Tryz.ntmps84 rfl rfl ?_
   repeat' (first | (apply AL_callPw (hN); kernel_rfl; (iterate 4 exact rfl)) | (apply AL_callPw (hS); kernel_rfl; (iterate 4 exact rfl)) | rw [en] | (apply AL_go ttok; exact rfl) | (apply AW_go ttok; exact rfl) | (apply K_go ttok; exact rfl) | (apply AL_guardT; (iterate 3 exact rfl); (first | with_reducible assumption | decide +kernel)) | (apply AL_pickF; exact rfl; (first | with_reducible assumption | decide +kernel); exact rfl; exact rfl) | (apply AW_condB; exact rfl; (first | with_reducible assumption | decide +kernel)) | (apply AL_len ttok; (iterate 4 exact rfl)) | (apply AW_drawE 27 hmix; (decide +kernel); (kernel_rfl); (kernel_rfl); (kernel_rfl); exact rfl; exact rfl) | (apply AE_consZ; (iterate 4 exact rfl)) | exact AE.nil _ _ _ _ | (apply AEk_puT; exact rfl) | (apply AOt_mk; exact rfl; exact rfl; (decide +kernel); exact rfl) | (apply AO_puT; exact rfl) | exact AO.nil _ _ _ | (apply AOs_skip; (decide +kernel)) | exact AOs.nil | exact qY_ok rfl rfl | (apply AL_idx ttok; (iterate 6 exact rfl); (first | with_reducible assumption | decide +kernel | exact Int.natCast_nonneg _ | (guard_target = (0:Int) <= (OfNat.ofNat _ : Int); decide) | rotate_left); (first | with_reducible assumption | decide +kernel | exact rfl); (first | exact uniB_ok rfl | with_reducible assumption | decide +kernel | rotate_left)))
   all_goals (apply endQ []; (apply resG_ok ttok; exact rfl); (iterate 4 exact rfl))
   all_goals rfl
  | false =>
   rw [t4] at hS
   refine AP.ofA ?_
   refine AC_of Tryz.func84 rfl Tryz.ntmps84 rfl rfl ?_
   repeat' (first | (apply AL_callPw (hN); kernel_rfl; (iterate 4 exact rfl)) | (apply AL_callPw (hS); kernel_rfl; (iterate 4 exact rfl)) | (apply AL_go ttok; exact rfl) | (apply AW_go ttok; exact rfl) | (apply K_go ttok; exact rfl) | (apply AL_guardT; (iterate 3 exact rfl); (first | with_reducible assumption | decide +kernel)) | (apply AL_pickF; exact rfl; (first | with_reducible assumption | decide +kernel); exact rfl; exact rfl) | (apply AW_condA; exact rfl; (first | with_reducible assumption | decide +kernel)) | (apply AL_len ttok; (iterate 4 exact rfl)) | (apply AW_drawE 27 hmix; (decide +kernel); (kernel_rfl); (kernel_rfl); (kernel_rfl); exact rfl; exact rfl) | (apply AE_consZ; (iterate 4 exact rfl)) | exact AE.nil _ _ _ _ | (apply AEk_puT; exact rfl) | (apply AOt_mk; exact rfl; exact rfl; (decide +kernel); exact rfl) | (apply AO_puT; exact rfl) | exact AO.nil _ _ _ | (apply AOs_skip; (decide +kernel)) | exact AOs.nil | exact qY_ok rfl rfl | (apply AL_idx ttok; (iterate 6 exact rfl); (first | with_reducible assumption | decide +kernel | exact Int.natCast_nonneg _ | (guard_target = (0:Int) <= (OfNat.ofNat _ : Int); decide) | rotate_left); (first | with_reducible assumption | decide +kernel | exact rfl); (first | exact uniB_ok rfl | with_reducible assumption | decide +kernel | rotate_left)))
   all_goals (apply endQ []; (apply resG_ok ttok; exact rfl); (iterate 4 exact rfl))
   all_goals rfl
end Go.Proofs.YtfkmicjlaedlkaaGreatDoor
end
section
open Go.RowKit Go.Pl Go.Av
namespace Go.Proofs.YtfkmicjlaedlkaaGreatDoor
set_option maxHeartbeats 1000000
def okB (m : Nat) (c : UInt8) : Bool := (97 <= c.toNat && c.toNat <= 122) || (48 <= c.toNat && c.toNat <= 57) || c.toNat == 45 || c.toNat == m
theorem okB_true {m : Nat} {c : UInt8} : okB m c = true ↔ (97 <= (c.toNat : Int) /\ (c.toNat : Int) <= 122) \/ (48 <= (c.toNat : Int) /\ (c.toNat : Int) <= 57) \/ (c.toNat : Int) = 45 \/ (c.toNat : Int) = (m : Int) := by
 simp only [okB, Bool.or_eq_true, Bool.and_eq_true, decide_eq_true_eq, beq_iff_eq]
 omega
theorem plain_walk (s : ByteArray) (m : Nat) (hm : m < 128) (w : World) (B : Bool) (hB : s.data.toList.all (okB m) = B) :
  Calls Tryz.prog 75 #[.string s, .int .i32 (m : Int)] w fun e w' => e = .returned (.bool B) /\ Below w.heap.size w w' := by
 have hT : (∀ j, j < s.size -> ∀ c, s.data.toList[j]? = some c -> okB m c = true) -> B = true := fun h => by
  rw [<- hB, List.all_eq_true]
  intro x hx
  obtain ⟨j, hj⟩ := List.getElem?_of_mem hx
  have hlt := (List.getElem?_eq_some_iff.1 hj).1
  exact h j (by simpa using hlt) x hj
 have hF : ∀ (j : Nat) (c : UInt8), s.data.toList[j]? = some c -> ¬ okB m c = true -> B = false := fun j c hj hc => by
  rw [<- hB, List.all_eq_false]
  exact ⟨c, List.mem_of_getElem? hj, hc⟩
 clear hB
 go_enter Tryz.func75, Tryz.ntmps75
 go_wp2
 go_loopw [] (fun w' => ∃ pos, w' = w.iter s pos /\ pos <= s.size /\ Hid (∀ j, j < pos -> ∀ c, s.data.toList[j]? = some c -> okB m c = true)) (fun w' => s.size - w'.iterPos w.heap.size)
 case atStart => exact ⟨0, rfl, Nat.zero_le _, fun j hj => by omega⟩
 case round =>
  obtain ⟨pos, rfl, hps, hall⟩ := hrel
  have hb : ∀ p, Below w.heap.size w (w.iter s p) := fun p => (Below.refl _ _).alloc (Nat.le_refl _) _
  by_cases hp : pos < s.size
  ·have hget : s.data.toList[pos]? = some (s[pos]'hp) := by
    have hlt : pos < s.data.toList.length := by simpa using hp
    rw [List.getElem?_eq_getElem hlt]; rfl
   by_cases ha : (s[pos]'hp).toNat < 128
   ·obtain ⟨c, hc⟩ : ∃ c, c = s[pos]'hp := ⟨_, rfl⟩
    have hnx : ∀ ty, (Instr.next (.pointer (some ⟨w.heap.size, 0, none⟩)) true ty).run Tryz.prog (w.iter s pos) = .ok (.tuple #[.bool true, .int .i64 pos, .int .i32 (c.toNat : Int)]) (w.iter s (pos + 1)) := fun ty => by
     rw [hc]; exact run_next_ascii w s pos ty hp ha
    rw [<- hc] at hget ha
    clear hc
    have hbad := hid (hF pos c hget)
    have hstep : Hid (okB m c = true -> ∀ j, j < pos + 1 -> ∀ c, s.data.toList[j]? = some c -> okB m c = true) := fun hc j hj c' hj' => by
     rcases Nat.lt_or_ge j pos with h | h
     ·exact hall j h c' hj'
     ·have : j = pos := by omega
      subst this
      rw [hget] at hj'
      injection hj' with hj'
      subst hj'
      exact hc
    clear hT hF hget
    go_wp2
    all_goals first
     | (go_ret
        have hBf := hbad (fun h => by rw [okB_true] at h; clear hbad hstep hnx; (try simp only [bne_iff_ne, ne_eq, bne_eq_false_iff_eq] at *); omega)
        subst hBf
        exact ⟨rfl, hb _⟩)
     | (refine ⟨⟨pos + 1, rfl, by omega, hstep ?_⟩, ?_⟩
        ·rw [okB_true]
         clear hbad hstep hnx
         try simp only [bne_iff_ne, ne_eq, bne_eq_false_iff_eq] at *
         omega
        ·simp; omega)
   ·obtain ⟨hd1, hd2⟩ := decode_high s pos hp (by omega)
    have hle := decode_le s pos
    have hnx : ∀ ty, (Instr.next (.pointer (some ⟨w.heap.size, 0, none⟩)) true ty).run Tryz.prog (w.iter s pos) = _ := fun ty => run_next_any w s pos ty hp
    have hBf := hF pos _ hget (fun h => by rw [okB_true] at h; omega)
    clear hT hF hget
    subst hBf
    generalize Utf8.decode s pos = dd at hd1 hd2 hle hnx
    have n1 : ¬ ((dd.1 : Int) < 97) := by omega
    have n2 : ((dd.1 : Int) > 122) := by omega
    have n3 : ¬ ((dd.1 : Int) < 48) := by omega
    have n4 : ((dd.1 : Int) > 57) := by omega
    have n5 : ¬ ((dd.1 : Int) = 45) := by omega
    have n6 : ¬ ((dd.1 : Int) = (m : Int)) := by omega
    go_wp2
    all_goals first
     | (go_ret; exact ⟨rfl, hb _⟩)
     | (exfalso; clear hnx hb hall; (try simp only [bne_iff_ne, ne_eq, bne_eq_false_iff_eq] at *); omega)
  ·have hnx : ∀ ty, (Instr.next (.pointer (some ⟨w.heap.size, 0, none⟩)) true ty).run Tryz.prog (w.iter s pos) = _ := fun ty => run_next_end w s pos ty hp
   have hBt := hT (fun j hj => hall j (by omega))
   subst hBt
   go_wp2
   go_ret
   exact ⟨rfl, hb _⟩
end Go.Proofs.YtfkmicjlaedlkaaGreatDoor
end
section
open Go.RowKit Go.Pl Go.Av
namespace Go.Proofs.YtfkmicjlaedlkaaGreatDoor
set_option maxHeartbeats 1000000
theorem av_plain [Known] (s : List UInt8) (m : Nat) (hm : m < 128) : AP Tryz.prog 75 [.str s, .int .i32 (m : Int)] (.bool (s.all (okB m))) [] := by
 refine ⟨fun g w vs hmem hl hv => ?_⟩
 obtain ⟨v0, v1, rfl⟩ : ∃ v0 v1, vs = [v0, v1] := by
  match vs, hl with
  | [v0, v1], _ => exact ⟨v0, v1, rfl⟩
 have h0 := (hv 0 _ _ rfl rfl).str_inv.1
 have h1 := (hv 1 _ _ rfl rfl).int_inv
 subst h0 h1
 exact (plain_walk ⟨s.toArray⟩ m hm w _ rfl).mono fun e w' ⟨he, hb⟩ => endBelow hmem hb he (.bool _)
structure EidV where
 i : Bool
 n : Nat
 s : Nat
 h : List UInt8
 d : List UInt8
 deriving DecidableEq
abbrev eC (x : EidV) : List D := [.bool x.i, .int .u64 (x.n : Int), .int .u64 (x.s : Int), .str x.h, .str x.d]
def eidZ : EidV := ⟨false, 0, 0, [], []⟩
def isZ (x : EidV) : Bool := x.i == false && ((x.n : Int) == 0 && ((x.s : Int) == 0 && (x.h == [] && (x.d == [] && true))))
def eRight (x : EidV) : Bool :=
 if isZ x then true
 else if x.i then (x.i == true && ((x.n : Int) == (x.n : Int) && ((x.s : Int) == (x.s : Int) && (x.h == [] && (x.d == [] && true))))) && decide ((x.n : Int) ≥ 1) && decide ((x.n : Int) <= 4294967295) && decide ((x.s : Int) <= 4294967295)
 else (x.i == false && ((x.n : Int) == 0 && ((x.s : Int) == 0 && (x.h == x.h && (x.d == x.d && true))))) && decide ((x.h.length : Int) ≥ 1) && decide ((x.h.length : Int) <= 16) && decide ((x.d.length : Int) <= 24) && x.h.all (okB 45) && x.d.all (okB 47)
theorem eRight_Z {x : EidV} (h : isZ x = true) : eRight x = true := by unfold eRight; rw [if_pos h]
theorem eRight_I {x : EidV} (h : isZ x = false) (hi : x.i = true) : eRight x = ((x.i == true && ((x.n : Int) == (x.n : Int) && ((x.s : Int) == (x.s : Int) && (x.h == [] && (x.d == [] && true))))) && decide ((x.n : Int) ≥ 1) && decide ((x.n : Int) <= 4294967295) && decide ((x.s : Int) <= 4294967295)) := by
 unfold eRight; rw [if_neg (by rw [h]; decide), if_pos hi]
theorem eRight_T {x : EidV} (h : isZ x = false) (hi : x.i = false) : eRight x = ((x.i == false && ((x.n : Int) == 0 && ((x.s : Int) == 0 && (x.h == x.h && (x.d == x.d && true))))) && decide ((x.h.length : Int) ≥ 1) && decide ((x.h.length : Int) <= 16) && decide ((x.d.length : Int) <= 24) && x.h.all (okB 45) && x.d.all (okB 47)) := by
 unfold eRight; rw [if_neg (by rw [h]; decide), if_neg (by rw [hi]; decide)]
theorem av_eRight [Known] (x : EidV) : AP Tryz.prog 32 [.agg (eC x)] (.bool (eRight x)) [] := by
 refine AP.ofA ?_
 refine AC_of Tryz.func32 rfl Tryz.ntmps32 rfl rfl ?_
 cases hz : isZ x with
 | true =>
  rw [eRight_Z hz]
  unfold isZ at hz
  repeat' (first | (apply AL_go ttok; exact rfl) | (apply AW_go ttok; exact rfl) | (apply K_go ttok; exact rfl) | (apply AW_condA; exact rfl; (first | with_reducible assumption | (solve | simp only [bn]))) | (apply AL_eqS ttok; (iterate 4 exact rfl); (kernel_rfl); (kernel_rfl); (iterate 3 exact rfl)))
  (apply endQ []; (apply resG_ok ttok; exact rfl); (iterate 4 exact rfl))
  all_goals rfl
 | false =>
  cases hi : x.i with
  | true =>
   rw [eRight_I hz hi]
   unfold isZ at hz
   repeat' (first | (apply AL_go ttok; exact rfl) | (apply AW_go ttok; exact rfl) | (apply K_go ttok; exact rfl) | (apply AL_guardT; (iterate 3 exact rfl); (first | with_reducible assumption | (solve | simp only [bn]))) | (apply AL_guardFt; (iterate 3 exact rfl); (first | with_reducible assumption | (solve | simp only [bn]))) | (apply AL_guardS; exact rfl; exact rfl; all_goals intro hb) | (apply AL_pickT; exact rfl; (first | with_reducible assumption | (solve | simp only [bn])); exact rfl; exact rfl) | (apply AL_pickF; exact rfl; (first | with_reducible assumption | (solve | simp only [bn])); exact rfl; exact rfl) | (apply AW_condA; exact rfl; (first | with_reducible assumption | (solve | simp only [bn]))) | (apply AW_condB; exact rfl; (first | with_reducible assumption | (solve | simp only [bn]))) | (apply AL_eqS ttok; (iterate 4 exact rfl); (kernel_rfl); (kernel_rfl); (iterate 3 exact rfl)))
   all_goals (apply endQ []; (apply resG_ok ttok; exact rfl); (iterate 4 exact rfl))
   all_goals first | rfl | (clear hi hz; simp only [*]; done) | (clear hi hz; simp only [*]; simp only [Bool.and_true, Bool.true_and, Bool.and_false, Bool.false_and]; done)
  | false =>
   rw [eRight_T hz hi]
   unfold isZ at hz
   repeat' (first | (apply AL_callPw (av_plain x.h 45 (by decide)); kernel_rfl; (iterate 4 exact rfl)) | (apply AL_callPw (av_plain x.d 47 (by decide)); kernel_rfl; (iterate 4 exact rfl)) | (apply AL_go ttok; exact rfl) | (apply AW_go ttok; exact rfl) | (apply K_go ttok; exact rfl) | (apply AL_guardT; (iterate 3 exact rfl); (first | with_reducible assumption | (solve | simp only [bn]))) | (apply AL_guardFt; (iterate 3 exact rfl); (first | with_reducible assumption | (solve | simp only [bn]))) | (apply AL_guardS; exact rfl; exact rfl; all_goals intro hb) | (apply AL_pickT; exact rfl; (first | with_reducible assumption | (solve | simp only [bn])); exact rfl; exact rfl) | (apply AL_pickF; exact rfl; (first | with_reducible assumption | (solve | simp only [bn])); exact rfl; exact rfl) | (apply AW_condB; exact rfl; (first | with_reducible assumption | (solve | simp only [bn]))) | (apply AL_lens ttok; (iterate 4 exact rfl)) | (apply AL_eqS ttok; (iterate 4 exact rfl); (kernel_rfl); (kernel_rfl); (iterate 3 exact rfl)))
   all_goals (apply endQ []; (apply resG_ok ttok; exact rfl); (iterate 4 exact rfl))
   all_goals first | rfl | (clear hi hz; simp only [*]; done) | (clear hi hz; simp only [*]; simp only [Bool.and_true, Bool.true_and, Bool.and_false, Bool.false_and]; done)
end Go.Proofs.YtfkmicjlaedlkaaGreatDoor
end
section
open Go.RowKit Go.Pl Go.Av
namespace Go.Proofs.YtfkmicjlaedlkaaGreatDoor
set_option maxHeartbeats 4000000
abbrev half (s : Int) : Int := s.fdiv (2 ^ (min (Int.toNat 1) IntKind.u32.bits))
def halveI (s p : Int) : Int := match (bits .and .u32 s 1 == 1) with
 | true => bits .xor .u32 (half s) p
 | false => half s
theorem av_halve [Known] (s p : Int) : AP Tryz.prog 162 [.int .u32 s, .int .u32 p] (.int .u32 (halveI s p)) [] := by
 unfold halveI
 cases t : (bits .and .u32 s 1 == 1)
 all_goals
  refine AP.ofA ?_
  refine AC_of Tryz.func162 rfl Tryz.ntmps162 rfl rfl ?_
  repeat' (first | (apply AL_go ttok; exact rfl) | (apply AW_go ttok; exact rfl) | (apply AW_condA; exact rfl; (first | with_reducible assumption | decide +kernel)) | (apply AW_condB; exact rfl; (first | with_reducible assumption | decide +kernel)) | (apply AL_shr; exact rfl; exact rfl; (first | with_reducible assumption | decide +kernel | exact Int.natCast_nonneg _ | (exact (by decide)) | rotate_left); exact rfl))
  all_goals (apply endQ []; (apply resG_ok ttok; exact rfl); (iterate 4 exact rfl))
  all_goals rfl
def byteI (s : Int) (c : UInt8) (p : Int) : Int :=
 halveI (halveI (halveI (halveI (halveI (halveI (halveI (halveI (bits .xor .u32 s (IntKind.u32.wrap (c.toNat : Int))) p) p) p) p) p) p) p) p
theorem av_byteOn [Known] (s p : Int) (c : UInt8) : AP Tryz.prog 152 [.int .u32 s, .int .u8 (c.toNat : Int), .int .u32 p] (.int .u32 (byteI s c p)) [] := by
 refine AP.ofA ?_
 refine AC_of Tryz.func152 rfl Tryz.ntmps152 rfl rfl ?_
 repeat' (first | (apply AL_callPw (av_halve _ _); kernel_rfl; (iterate 4 exact rfl)) | refine AW_loopN 20 ?_ | refine AN_succ ?_ | (apply AL_go ttok; exact rfl) | (apply AW_go ttok; exact rfl) | (apply AW_condA; exact rfl; (first | with_reducible assumption | decide +kernel)) | (apply AW_condB; exact rfl; (first | with_reducible assumption | decide +kernel)))
 all_goals (apply endQ []; (apply resG_ok ttok; exact rfl); (iterate 4 exact rfl))
 all_goals rfl
def runI (s p : Int) (b : List UInt8) : Int := b.foldl (fun s c => byteI s c p) s
theorem av_run [Known] (s p : Int) (b : List UInt8) (hb : b.length <= 1000000000) : AP Tryz.prog 138 [.int .u32 s, byE b, .int .u32 p] (.int .u32 (runI s p b)) [] := by
 have hl : (b.map E.byte).length = b.length := List.length_map ..
 have hU := uniB1 b
 generalize hfin : runI s p b = fin
 refine AP.ofA ?_
 refine AC_of Tryz.func138 rfl Tryz.ntmps138 rfl rfl ?_
 repeat' (first | (apply AL_go ttok; exact rfl) | (apply AW_go ttok; exact rfl) | (apply AL_len ttok; (iterate 4 exact rfl)))
 refine AW_loopJ (fun k tm bx fr => ∃ (i : Nat) (q : Int) (o : D), k + i = b.length /\ runI q p (b.drop i) = fin /\ tm = [(0, .int .u32 q), (1, byE b), (2, .int .u32 p), (6, .int .u32 0), (9, byE b), (10, .int .i64 (b.length : Int)), (11, .int .i64 (i : Int))] /\ bx = [] /\ fr = []) (b.length + 1) (Lands.mk' (m := b.length) (Nat.lt_succ_self _) ⟨0, s, .tup [], by omega, hfin, rfl, rfl, rfl⟩ ?_ rfl rfl rfl rfl rfl rfl) ?_
 ·exact .cons rfl (.cons rfl (.cons rfl (.cons rfl (.cons rfl (.cons (by rw [<- hl]; rfl) (.cons rfl .nil))))))
 rintro k tm bx fr ⟨i, q, o, hk, hq, rfl, rfl, rfl⟩
 rcases Nat.lt_or_ge i b.length with hlt | hge
 ·have hd : decide ((i : Int) < (b.length : Int)) = true := decide_eq_true (by omega)
  obtain ⟨c, hc⟩ : ∃ c, b[i]? = some c := ⟨_, List.getElem?_eq_getElem hlt⟩
  have hv : (b.map E.byte)[((i : Nat) : Int).toNat]? = some (E.byte c) := by
   rw [Int.toNat_natCast, List.getElem?_map, hc]; rfl
  have hdr : b.drop i = c :: b.drop (i + 1) := by
   rw [List.drop_eq_getElem_cons hlt]; congr 1
   exact (List.getElem?_eq_some_iff.1 hc).2
  rw [hdr] at hq
  have hq2 : runI (byteI q c p) p (b.drop (i + 1)) = fin := hq
  have ei : IntKind.i64.wrap ((i : Int) + 1) = ((i + 1 : Nat) : Int) := by rw [IntWalk.i64_in _ (by omega)]; omega
  repeat' (first | (apply AL_callPw (av_byteOn _ _ _); kernel_rfl; (iterate 4 exact rfl)) | rw [ei] | (apply AL_go ttok; exact rfl) | (apply AW_go ttok; exact rfl) | (apply AW_condA; exact rfl; (first | with_reducible assumption | decide +kernel)) | (apply AL_idx ttok; (iterate 6 exact rfl); (first | with_reducible assumption | decide +kernel | exact Int.natCast_nonneg _ | (guard_target = (0:Int) <= (OfNat.ofNat _ : Int); decide) | rotate_left); (first | with_reducible assumption | decide +kernel | exact rfl); (first | exact uniB_ok rfl | with_reducible assumption | decide +kernel | rotate_left)))
  refine Lands.mk' (m := k - 1) (by omega) ⟨i + 1, _, .tup [], by omega, hq2, rfl, rfl, rfl⟩ ?_ rfl rfl rfl rfl rfl rfl
  exact .cons rfl (.cons rfl (.cons rfl (.cons rfl (.cons rfl (.cons rfl (.cons rfl .nil))))))
 ·have hd : decide ((i : Int) < (b.length : Int)) = false := decide_eq_false (by omega)
  rw [List.drop_eq_nil_of_le hge] at hq
  have hq : q = fin := hq
  subst hq
  repeat' (first | (apply AW_go ttok; exact rfl) | (apply AW_condB; exact rfl; (first | with_reducible assumption | decide +kernel)))
  all_goals (apply endQ []; (apply resG_ok ttok; exact rfl); (iterate 4 exact rfl))
  all_goals rfl
def shortV (b : List UInt8) : Int := bits .xor .u16 (if IntKind.u16.signed then -1 else IntKind.u16.max) (IntKind.u16.wrap (runI 65535 33800 b))
def longV (b : List UInt8) : Int := bits .xor .u32 (if IntKind.u32.signed then -1 else IntKind.u32.max) (runI 4294967295 2197175160 b)
theorem av_short [Known] (b : List UInt8) (hb : b.length <= 1000000000) : AP Tryz.prog 118 [byE b] (.int .u16 (shortV b)) [] := by
 have hR := av_run 65535 33800 b hb
 refine AP.ofA ?_
 refine AC_of Tryz.func118 rfl Tryz.ntmps118 rfl rfl ?_
 repeat' (first | (apply AL_callPw (hR); kernel_rfl; (iterate 4 exact rfl)) | (apply AL_unx; exact rfl; exact rfl) | (apply AL_go ttok; exact rfl) | (apply AW_go ttok; exact rfl))
 all_goals (apply endQ []; (apply resG_ok ttok; exact rfl); (iterate 4 exact rfl))
 all_goals rfl
theorem av_long [Known] (b : List UInt8) (hb : b.length <= 1000000000) : AP Tryz.prog 119 [byE b] (.int .u32 (longV b)) [] := by
 have hR := av_run 4294967295 2197175160 b hb
 refine AP.ofA ?_
 refine AC_of Tryz.func119 rfl Tryz.ntmps119 rfl rfl ?_
 repeat' (first | (apply AL_callPw (hR); kernel_rfl; (iterate 4 exact rfl)) | (apply AL_unx; exact rfl; exact rfl) | (apply AL_go ttok; exact rfl) | (apply AW_go ttok; exact rfl))
 all_goals (apply endQ []; (apply resG_ok ttok; exact rfl); (iterate 4 exact rfl))
 all_goals rfl
end Go.Proofs.YtfkmicjlaedlkaaGreatDoor
end

/- The document's answers for names, plain: what it reads a text and an item as; no program in sight. -/
import Derived.Test.YtdhkfbolnkikgaaGreatDoorG28
import Derived.Test.YtdhkfbolnkikgaaGreatDoorG14
import Derived.Test.YtdhkfbolnkikgaaGreatDoorG24
import Derived.Test.YtdhkfbolnkikgaaGreatDoorG18
import Derived.Test.YtdhkfbolnkikgaaGreatDoorG11
section
open Go.RowKit Go.Pl Go.Av
namespace Go.Proofs.YtdhkfbolnkikgaaGreatDoor
set_option linter.unusedVariables false
set_option linter.unusedSimpArgs false
theorem numR_app : ∀ (l r : List UInt8) (f a : Nat), l.all isD = true → l.length ≤ f → numR f a (l ++ r) = ((numR (f - l.length) (l.foldl (fun a c => 10 * a + (c.toNat - 48)) a) r).1, (numR (f - l.length) (l.foldl (fun a c => 10 * a + (c.toNat - 48)) a) r).2 + l.length)
  | [], r, f, a, _, _ => by simp
  | c :: l, r, 0, a, _, h => by simp at h
  | c :: l, r, f + 1, a, ha, h => by
    rw [List.all_cons, Bool.and_eq_true] at ha
    rw [List.cons_append, numR, if_pos ha.1, numR_app l r f _ ha.2 (by simpa using h), List.foldl_cons]
    simp [Nat.add_assoc]
theorem dec_all (u : Nat) : (Lib.decDigits u).all isD = true := List.all_eq_true.2 fun c hc => isD_iff.2 (dec_digit u c hc)
theorem dec_fold : ∀ u : Nat, (Lib.decDigits u).foldl (fun a c => 10 * a + (c.toNat - 48)) 0 = u := by
  intro u
  induction u using Nat.strongRecOn with
  | _ u ih =>
    rw [Lib.decDigits]
    by_cases h : u < 10
    · rw [dif_pos h, List.foldl_cons, List.foldl_nil, dig_nat h]; omega
    · rw [dif_neg h, List.foldl_append, ih (u / 10) (by omega), List.foldl_cons, List.foldl_nil, dig_nat (by omega)]; omega
/-- digits, and behind them nothing, or no digit -/
theorem numR_dec {u : Nat} (hu : u ≤ 4294967295) (r : List UInt8) (hr : ∀ c t, r = c :: t → isD c = false) : numR 11 0 (Lib.decDigits u ++ r) = (u, (Lib.decDigits u).length) := by
  have hl := dec_le 9 u (by omega)
  rw [numR_app _ _ _ _ (dec_all u) (by omega), dec_fold]
  have e : ∀ f, numR f u r = (u, 0) := fun f => by
    match f, r, hr with
    | 0, r, _ => rfl
    | f + 1, [], _ => rfl
    | f + 1, c :: t, hr => rw [numR, hr c t rfl]; rfl
  rw [e]
  simp
/-- the name that two numbers in a text would be -/
def candI (r : List UInt8) : EidV := ⟨true, (numR 11 0 r).1, if 4 + (numR 11 0 r).2 < 4 + r.length then (numR 11 0 (r.drop ((numR 11 0 r).2 + 1))).1 else 0, [], []⟩
theorem textE_Z : textE eidZ = noneT := by decide
theorem text_cases {y : EidV} (h : eRight y = true) (hz : isZ y = false) : (y.i = true ∧ textE y = ipnT ++ (Lib.decDigits y.n ++ 46 :: Lib.decDigits y.s) ∧ y.n ≤ 4294967295 ∧ y.s ≤ 4294967295 ∧ y.h = [] ∧ y.d = []) ∨ (y.i = false ∧ textE y = [100, 116, 110, 58, 47, 47] ++ (y.h ++ 47 :: y.d) ∧ y.n = 0 ∧ y.s = 0 ∧ y.h ≠ [] ∧ (47 : UInt8) ∉ y.h) := by
  cases hi : y.i with
  | true =>
    obtain ⟨b1, b2, b3, b4, b5⟩ := eRight_num h hz hi
    refine .inl ⟨rfl, ?_, b1, b2, b3, b4⟩
    unfold textE
    rw [hz, if_neg (by simp), hi, if_pos rfl]
    simp [ipnT]
  | false =>
    obtain ⟨b1, b2, b3, b4, b5, b6, b7⟩ := eRight_txt h hz hi
    refine .inr ⟨rfl, ?_, b1, b2, fun e => (by rw [e] at b3; simp at b3), not_mem_ok b6 (by decide)⟩
    unfold textE
    rw [hz, if_neg (by simp), hi, if_neg (by simp)]
    simp [pathE]
theorem candI_ok {r : List UInt8} (h : (parseE (ipnT ++ r)).2 = true) : candI r = (parseE (ipnT ++ r)).1 := by
  obtain ⟨h1, h2⟩ := parse_text h
  generalize (parseE (ipnT ++ r)).1 = y at *
  cases hz : isZ y with
  | true => rw [isZ_iff.1 hz, textE_Z] at h2; exact absurd h2 (by simp [noneT, ipnT])
  | false =>
    rcases text_cases h1 hz with ⟨hi, ht, b1, b2, b3, b4⟩ | ⟨hi, ht, b⟩
    · rw [ht] at h2
      have hr : r = Lib.decDigits y.n ++ 46 :: Lib.decDigits y.s := (List.append_cancel_left h2).symm
      have e1 := numR_dec b1 (46 :: Lib.decDigits y.s) (fun c t hc => by cases hc; decide)
      have e2 := numR_dec b2 [] (fun c t hc => by cases hc)
      rw [List.append_nil] at e2
      unfold candI
      rw [hr, e1]
      have e3 : (Lib.decDigits y.n ++ 46 :: Lib.decDigits y.s).drop ((Lib.decDigits y.n).length + 1) = Lib.decDigits y.s := by
        rw [List.drop_append, List.drop_of_length_le (by omega)]; simp
      dsimp only
      rw [e3, e2, if_pos (by simp)]
      obtain ⟨i, n, s, hh, dd⟩ := y
      simp only at hi b3 b4
      rw [hi, b3, b4]
    · rw [ht] at h2; exact absurd h2 (by simp [ipnT])
theorem candT_ok {h d : List UInt8} (hn : (47 : UInt8) ∉ h) (hp : (parseE ([100, 116, 110, 58, 47, 47] ++ (h ++ 47 :: d))).2 = true) : (⟨false, 0, 0, h, d⟩ : EidV) = (parseE ([100, 116, 110, 58, 47, 47] ++ (h ++ 47 :: d))).1 := by
  obtain ⟨h1, h2⟩ := parse_text hp
  generalize (parseE ([100, 116, 110, 58, 47, 47] ++ (h ++ 47 :: d))).1 = y at *
  cases hz : isZ y with
  | true => rw [isZ_iff.1 hz, textE_Z] at h2; exact absurd h2 (by simp [noneT])
  | false =>
    rcases text_cases h1 hz with ⟨hi, ht, b⟩ | ⟨hi, ht, b1, b2, b3, b4⟩
    · rw [ht] at h2; exact absurd h2 (by simp [ipnT])
    · rw [ht] at h2
      have e := List.append_cancel_left h2
      have e1 := cutV_yes (b := y.d) b4
      rw [e, cutV_yes hn] at e1
      obtain ⟨i, n, s, hh, dd⟩ := y
      simp only [Prod.mk.injEq, and_true] at e1
      simp only at hi b1 b2
      rw [e1.1, e1.2, hi, b1, b2]
/-- no name's text -/
theorem parse_no {s : List UInt8} (h0 : s ≠ noneT) (h1 : ∀ r, r ≠ [] → s ≠ ipnT ++ r) (h2 : ∀ h d, (47 : UInt8) ∉ h → s ≠ [100, 116, 110, 58, 47, 47] ++ (h ++ 47 :: d)) : (parseE s).2 = false := by
  cases hp : (parseE s).2 with
  | false => rfl
  | true =>
    obtain ⟨k1, k2⟩ := parse_text hp
    generalize (parseE s).1 = y at *
    cases hz : isZ y with
    | true => rw [isZ_iff.1 hz, textE_Z] at k2; exact absurd k2.symm h0
    | false =>
      rcases text_cases k1 hz with ⟨hi, ht, b⟩ | ⟨hi, ht, b1, b2, b3, b4⟩
      · exact absurd (k2.symm.trans ht) (h1 _ (by intro e; have := congrArg List.length e; simp at this))
      · exact absurd (k2.symm.trans ht) (h2 _ _ b4)
abbrev parseR (s : List UInt8) : D := .tup [.agg (eC (match (parseE s).2 with | true => (parseE s).1 | false => eidZ)), .bool (parseE s).2]
theorem parseR_no {s : List UInt8} (h : (parseE s).2 = false) : parseR s = .tup [.agg (eC eidZ), .bool false] := by unfold parseR; rw [h]
theorem parseR_yes {s : List UInt8} {y : EidV} (h : parseE s = (y, true)) : parseR s = .tup [.agg (eC y), .bool true] := by unfold parseR; rw [h]
/-- a candidate that has no kind -/
theorem cand_k {s : List UInt8} {c : EidV} (h0 : s ≠ noneT) (hc : (parseE s).2 = true → c = (parseE s).1) (hk : decide (kindN c < 1) = true) : (parseE s).2 = false := by
  cases hp : (parseE s).2 with
  | false => rfl
  | true =>
    obtain ⟨k1, k2⟩ := parse_text hp
    rw [← hc hp] at k1 k2
    rw [kind_lt, k1] at hk
    simp only [Bool.not_true, Bool.false_or] at hk
    rw [isZ_iff.1 hk, textE_Z] at k2
    exact absurd k2.symm h0
/-- a candidate whose text is another one -/
theorem cand_t {s : List UInt8} {c : EidV} (hc : (parseE s).2 = true → c = (parseE s).1) (ht : (textE c != s) = true) : (parseE s).2 = false := by
  cases hp : (parseE s).2 with
  | false => rfl
  | true =>
    obtain ⟨k1, k2⟩ := parse_text hp
    rw [← hc hp] at k2
    rw [bne_iff_ne] at ht
    exact absurd k2 ht
/-- a candidate that it is -/
theorem cand_y {s : List UInt8} {c : EidV} (hk : decide (kindN c < 1) = false) (ht : (textE c != s) = false) : parseE s = (c, true) := by
  rw [kind_lt] at hk
  simp only [Bool.or_eq_false_iff, Bool.not_eq_false'] at hk
  have e : textE c = s := by simpa using ht
  rw [← e, text_parse hk.1]
end Go.Proofs.YtdhkfbolnkikgaaGreatDoor
end
/- The document's answers for names: texts and items. -/
section
open Go.RowKit Go.Pl Go.Av
namespace Go.Proofs.YtdhkfbolnkikgaaGreatDoor
set_option linter.unusedVariables false
set_option linter.unusedSimpArgs false
set_option maxHeartbeats 4000000
theorem fit_right {x : EidV} (h : eRight x = true) : Fit x := by
  cases hz : isZ x with
  | true => rw [isZ_iff.1 hz]; exact ⟨by decide, by decide⟩
  | false =>
    cases hi : x.i with
    | true =>
      obtain ⟨_, _, h1, h2, _⟩ := eRight_num h hz hi
      unfold Fit; rw [h1, h2]; exact ⟨by decide, by decide⟩
    | false =>
      obtain ⟨_, _, _, h1, h2, _⟩ := eRight_txt h hz hi
      exact ⟨by omega, by omega⟩
theorem kind_Z {x : EidV} (h : isZ x = true) : kindN x = 0 := by rw [isZ_iff.1 h]; decide
theorem kind_I {x : EidV} (h : eRight x = true) (hi : x.i = true) : kindN x = 1 := by unfold kindN; rw [hi, h]; rfl
theorem kind_T {x : EidV} (h : eRight x = true) (hz : isZ x = false) (hi : x.i = false) : kindN x = 2 := by unfold kindN; rw [hi, hz, h]; rfl
theorem av_refText [Known] (x : EidV) (h : eRight x = true) : AP Tryz.prog 53 [.agg (eC x)] (.str (textE x)) [] := by
  have hK := av_kind x (fit_right h)
  unfold textE
  cases hz : isZ x with
  | true =>
    rw [kind_Z hz] at hK
    rw [if_pos rfl]
    refine AP.ofA ?_
    refine AC_of Tryz.func53 rfl Tryz.ntmps53 rfl rfl ?_
    repeat' (first | (apply AL_callPw (hK); kernel_rfl; (iterate 4 exact rfl)) | (apply AL_assign; exact rfl; exact rfl) | (apply AL_bin; (iterate 5 exact rfl)) | (apply AL_loadn ttok; (iterate 7 exact rfl)) | (apply AL_box; (iterate 5 exact rfl)) | refine AL_nil ?_ | refine AW_region ?_ | refine AW_seq' ?_ | (apply AW_condA; exact rfl; (first | with_reducible assumption | decide +kernel)) | refine then_norm ?_ | refine AW_block ?_ | refine AW_ret ?_ | refine then_ret ?_ | refine blk_ret ?_)
    all_goals (apply endQ []; (repeat (first | exact ResL.nil | (apply ResL.cons; first | exact .tmp _ _ rfl | (apply res_n ttok; (iterate 6 exact rfl)) | (apply res_1 ttok; (iterate 5 exact rfl))))); (iterate 4 exact rfl))
    all_goals rfl
  | false =>
    rw [if_neg (by simp)]
    cases hi : x.i with
    | true =>
      obtain ⟨b1, b2, _⟩ := eRight_num h hz hi
      rw [kind_I h hi] at hK
      rw [if_pos rfl]
      have d1 := dec_len x.n (by omega)
      have d2 := dec_len x.s (by omega)
      have hD1 := av_digits x.n (by omega)
      have hD2 := av_digits x.s (by omega)
      have l1 : [(105 : UInt8), 112, 110, 58].length + (Lib.decDigits x.n).length ≤ maxLen := by simp; unfold maxLen; omega
      have l2 : ([(105 : UInt8), 112, 110, 58] ++ Lib.decDigits x.n).length + [(46 : UInt8)].length ≤ maxLen := by simp; unfold maxLen; omega
      have l3 : ([(105 : UInt8), 112, 110, 58] ++ Lib.decDigits x.n ++ [46]).length + (Lib.decDigits x.s).length ≤ maxLen := by simp; unfold maxLen; omega
      refine AP.ofA ?_
      refine AC_of Tryz.func53 rfl Tryz.ntmps53 rfl rfl ?_
      repeat' (first | (apply AL_callPw (hK); kernel_rfl; (iterate 4 exact rfl)) | (apply AL_callPw (hD1); kernel_rfl; (iterate 4 exact rfl)) | (apply AL_callPw (hD2); kernel_rfl; (iterate 4 exact rfl)) | (apply AL_cat; exact rfl; exact rfl; (first | exact l1 | exact l2 | exact l3); exact rfl) | (apply AL_assign; exact rfl; exact rfl) | (apply AL_bin; (iterate 5 exact rfl)) | (apply AL_load1 ttok; (iterate 6 exact rfl)) | (apply AL_loadn ttok; (iterate 7 exact rfl)) | (apply AL_fieldAddr ttok; (iterate 7 exact rfl)) | (apply AL_box; (iterate 5 exact rfl)) | refine AL_nil ?_ | refine AW_region ?_ | refine AW_seq' ?_ | (apply AW_condA; exact rfl; (first | with_reducible assumption | decide +kernel)) | (apply AW_condB; exact rfl; (first | with_reducible assumption | decide +kernel)) | refine then_norm ?_ | refine AW_block ?_ | refine AW_ret ?_ | refine then_ret ?_ | refine blk_ret ?_ | (apply AW_drawM 8 hmix; (decide +kernel); (kernel_rfl); (kernel_rfl); exact rfl; exact rfl) | (apply AD_cons; (iterate 3 exact rfl)) | refine AD.nil _ | exact qp_ok rfl)
      all_goals (apply endQ []; (repeat (first | exact ResL.nil | (apply ResL.cons; first | exact .tmp _ _ rfl | (apply res_n ttok; (iterate 6 exact rfl)) | (apply res_1 ttok; (iterate 5 exact rfl))))); (iterate 4 exact rfl))
      all_goals rfl
    | false =>
      obtain ⟨_, _, _, b1, b2, _⟩ := eRight_txt h hz hi
      rw [kind_T h hz hi] at hK
      rw [if_neg (by simp)]
      have l1 : [(100 : UInt8), 116, 110, 58, 47, 47].length + x.h.length ≤ maxLen := by simp; unfold maxLen; omega
      have l2 : ([(100 : UInt8), 116, 110, 58, 47, 47] ++ x.h).length + [(47 : UInt8)].length ≤ maxLen := by simp; unfold maxLen; omega
      have l3 : ([(100 : UInt8), 116, 110, 58, 47, 47] ++ x.h ++ [47]).length + x.d.length ≤ maxLen := by simp; unfold maxLen; omega
      refine AP.ofA ?_
      refine AC_of Tryz.func53 rfl Tryz.ntmps53 rfl rfl ?_
      repeat' (first | (apply AL_callPw (hK); kernel_rfl; (iterate 4 exact rfl)) | (apply AL_cat; exact rfl; exact rfl; (first | exact l1 | exact l2 | exact l3); exact rfl) | (apply AL_assign; exact rfl; exact rfl) | (apply AL_bin; (iterate 5 exact rfl)) | (apply AL_load1 ttok; (iterate 6 exact rfl)) | (apply AL_loadn ttok; (iterate 7 exact rfl)) | (apply AL_fieldAddr ttok; (iterate 7 exact rfl)) | (apply AL_box; (iterate 5 exact rfl)) | refine AL_nil ?_ | refine AW_region ?_ | refine AW_seq' ?_ | (apply AW_condB; exact rfl; (first | with_reducible assumption | decide +kernel)) | refine then_norm ?_ | refine AW_block ?_ | refine AW_ret ?_ | refine AW_skip ?_)
      all_goals (apply endQ []; (repeat (first | exact ResL.nil | (apply ResL.cons; first | exact .tmp _ _ rfl | (apply res_n ttok; (iterate 6 exact rfl)) | (apply res_1 ttok; (iterate 5 exact rfl))))); (iterate 4 exact rfl))
      all_goals rfl
end Go.Proofs.YtdhkfbolnkikgaaGreatDoor
end
/- The document's answers for requests: a request's bytes, joined. -/
section
open Go.RowKit Go.Pl Go.Av
namespace Go.Proofs.YtdhkfbolnkikgaaGreatDoor
set_option linter.unusedVariables false
set_option linter.unusedSimpArgs false
set_option maxHeartbeats 4000000
theorem rf_facts {x : RqV} (h : rqRight x = true) : (1 ≤ x.id ∧ x.id ≤ 1099511627776) ∧ (0 ≤ x.pol ∧ x.pol ≤ 2) ∧ (0 ≤ x.num ∧ x.num ≤ 1099511627776) ∧ (0 ≤ x.tik ∧ x.tik ≤ 1000) ∧ x.life ≤ 1099511627776 ∧ x.tok ≤ 2147483648 ∧ x.pay.length ≤ 200 := by
  rw [← rf_right x (rq_kind h)] at h
  unfold rfF rfR at h
  simp only [Bool.and_eq_true, Bool.not_eq_true', Bool.or_eq_false_iff, decide_eq_true_eq, decide_eq_false_iff_not] at h
  omega
theorem rf_eids {x : RqV} (h : rqRight x = true) : eRight x.ep = true ∧ eRight x.ds = true := by
  have e0 : eRight eidZ = true := by decide
  have hz : ∀ y, isZ y = true → eRight y = true := fun y hy => by rw [isZ_iff.1 hy]; exact e0
  rw [← rf_right x (rq_kind h)] at h
  unfold rfF rfR at h
  rw [kind_lt, kind_lt] at h
  have h1 := hz x.ep
  have h2 := hz x.ds
  cases a1 : eRight x.ep <;> cases a2 : eRight x.ds <;> cases b1 : isZ x.ep <;> cases b2 : isZ x.ds <;> simp_all
/-- a part's bytes, by its letter -/
def prtL (x : RqV) (c : UInt8) : List UInt8 :=
  if c == 101 then vn (textE x.ep).length ++ textE x.ep else if c == 100 then vn (textE x.ds).length ++ textE x.ds else if c == 98 then vn x.pay.length ++ x.pay
  else if c == 112 then vn x.pol.toNat else if c == 110 then vn x.num.toNat else if c == 116 then vn x.tik.toNat else if c == 108 then vn x.life else if c == 107 then vn x.tok else vn x.on.toNat
theorem put_eq {x : RqV} (h : rqRight x = true) : rqPut x = vn x.id ++ vn x.kd.toNat ++ (ptsL x.kd).flatMap (prtL x) := by
  unfold rqPut rqBody ptsL
  rcases rq_kind h with e | e | e | e | e | e | e | e | e | e | e | e <;> rw [e]
  all_goals
    simp only [Int.reduceBEq, Bool.true_or, Bool.or_true, Bool.or_self, Bool.or_false, Bool.false_or, if_true, if_false, Bool.false_eq_true, List.flatMap_cons, List.flatMap_nil, List.append_nil, List.append_assoc]
    try rfl
    try simp [prtL]
theorem pts_let {k : Int} (hk : k = 1 ∨ k = 2 ∨ k = 3 ∨ k = 4 ∨ k = 5 ∨ k = 6 ∨ k = 7 ∨ k = 8 ∨ k = 9 ∨ k = 10 ∨ k = 11 ∨ k = 12) : (ptsL k).length ≤ 10 ∧ ∀ c ∈ ptsL k, c = 101 ∨ c = 100 ∨ c = 98 ∨ c = 112 ∨ c = 110 ∨ c = 116 ∨ c = 108 ∨ c = 107 ∨ c = 111 := by
  rcases hk with rfl | rfl | rfl | rfl | rfl | rfl | rfl | rfl | rfl | rfl | rfl | rfl <;> decide
theorem pt_all [Known] (x : RqV) (h : rqRight x = true) (c : UInt8) (hc : c = 101 ∨ c = 100 ∨ c = 98 ∨ c = 112 ∨ c = 110 ∨ c = 116 ∨ c = 108 ∨ c = 107 ∨ c = 111) : AP Tryz.prog 44 [.agg (rqC x), .int .u8 (c.toNat : Int)] (byE (prtL x c)) [] := by
  obtain ⟨⟨f1, f2⟩, ⟨f3, f4⟩, ⟨f5, f6⟩, ⟨f7, f8⟩, f9, f10, f11⟩ := rf_facts h
  obtain ⟨g1, g2⟩ := rf_eids h
  have t1 := av_refText x.ep g1
  have t2 := av_refText x.ds g2
  have l1 := text_len g1
  have l2 := text_len g2
  clear h g1 g2
  obtain ⟨id, kd, ⟨ei, en, es, eh, ed⟩, ⟨di, dn, dq, dh, dd⟩, pol, num, tik, pay, life, tok, on⟩ := x
  dsimp only at *
  rcases hc with rfl | rfl | rfl | rfl | rfl | rfl | rfl | rfl | rfl
  · exact pt_e id kd ei en es eh ed di dn dq dh dd pol num tik pay life tok on _ (by dsimp only; omega) t1
  · exact pt_d id kd ei en es eh ed di dn dq dh dd pol num tik pay life tok on _ (by dsimp only; omega) t2
  · exact pt_b id kd ei en es eh ed di dn dq dh dd pol num tik pay life tok on (by omega)
  · exact pt_p id kd ei en es eh ed di dn dq dh dd pol num tik pay life tok on pol.toNat (by omega) (by omega)
  · exact pt_n id kd ei en es eh ed di dn dq dh dd pol num tik pay life tok on num.toNat (by omega) (by omega)
  · exact pt_t id kd ei en es eh ed di dn dq dh dd pol num tik pay life tok on tik.toNat (by omega) (by omega)
  · exact pt_l id kd ei en es eh ed di dn dq dh dd pol num tik pay life tok on (by omega)
  · exact pt_k id kd ei en es eh ed di dn dq dh dd pol num tik pay life tok on (by omega)
  · exact pt_o id kd ei en es eh ed di dn dq dh dd pol num tik pay life tok on
theorem prt_len {x : RqV} (h : rqRight x = true) (c : UInt8) : prtL x c ≠ [] ∧ (prtL x c).length ≤ 1000 := by
  obtain ⟨g1, g2⟩ := rf_eids h
  have l1 := text_len g1
  have l2 := text_len g2
  have l3 : x.pay.length ≤ 200 := (rf_facts h).2.2.2.2.2.2
  have hv : ∀ (n : Nat) (r : List UInt8), r.length ≤ 200 → vn n ++ r ≠ [] ∧ (vn n ++ r).length ≤ 1000 := fun n r hr => by
    obtain ⟨a, b⟩ := vnF_len 9 n
    have a' : (vn n).length ≤ 10 := a
    have b' : 0 < (vn n).length := b
    refine ⟨?_, by rw [List.length_append]; omega⟩
    intro e
    have := congrArg List.length e
    rw [List.length_append, List.length_nil] at this
    omega
  have hv0 : ∀ n : Nat, vn n ≠ [] ∧ (vn n).length ≤ 1000 := fun n => by have := hv n [] (by simp); rwa [List.append_nil] at this
  unfold prtL
  repeat' split
  all_goals first | exact hv0 _ | exact hv _ _ (by omega)
theorem av_rfWrite [Known] (x : RqV) (h : rqRight x = true) : AP Tryz.prog 16 [.agg (rqC x)] (byE (rqPut x)) [] := by
  have hk := rq_kind h
  obtain ⟨hl, hc⟩ := pts_let hk
  have hp := av_ptsL x.kd
  have ha := fun c hcc => pt_all x h c (hc c hcc)
  have hn := fun c (_ : c ∈ ptsL x.kd) => prt_len h c
  have hi := (rf_facts h).1.2
  obtain ⟨kn, hkn, hkl⟩ : ∃ kn : Nat, x.kd = (kn : Int) ∧ kn < 1000 := ⟨x.kd.toNat, by omega, by omega⟩
  rw [put_eq h]
  rw [hkn] at hp
  rw [show x.kd.toNat = kn by omega]
  generalize prtL x = prt at *
  rw [hkn] at ha hn hl ⊢
  generalize ptsL (kn : Int) = p at *
  clear h hk hc
  obtain ⟨id, kd, ⟨ei, en, es, eh, ed⟩, ⟨di, dn, dq, dh, dd⟩, pol, num, tik, pay, life, tok, on⟩ := x
  dsimp only at *
  subst hkn
  exact av_rfWrite0 id kn ei en es eh ed di dn dq dh dd pol num tik pay life tok on p prt (by omega) hkl hl hp ha hn
end Go.Proofs.YtdhkfbolnkikgaaGreatDoor
end
/- The document's fields: a reader's texts. -/
section
open Go.RowKit Go.Pl Go.Av
namespace Go.Proofs.YtdhkfbolnkikgaaGreatDoor
set_option linter.unusedVariables false
set_option linter.unusedSimpArgs false
set_option maxHeartbeats 4000000
theorem av_rfTxt [Known] (B : List UInt8) (s : Nat × List UInt8) (hs : Suf B s) (hB : B.length ≤ 1000000) : AQ Tryz.prog 37 [.ptr 0 0] (rfS B s) (byE (txfS s).1) (rfS B (txfS s).2) := by
  have hN := av_rfN B s hs hB
  have hL := suf_num hs
  unfold txfS
  generalize numS s = p at *
  obtain ⟨n, e, q⟩ := p
  obtain ⟨e0, b⟩ := s
  obtain ⟨hq1, hq2⟩ := hL
  dsimp only at hN hq1 hq2 ⊢
  have hBl : (B.map E.byte).length = B.length := List.length_map ..
  have hU := uniB1 B
  obtain ⟨a, ha⟩ : ∃ a, B.length - q.length = a := ⟨_, rfl⟩
  have hqa : q = B.drop a := by rw [← ha]; exact hq2
  have hal : a + q.length = B.length := by omega
  unfold rfS at hN ⊢
  dsimp only at hN ⊢
  rw [ha] at hN
  cases t1 : (e : Int) == 0 with
  | false =>
    have t2 : ((e : Int) != 0) = true := by rw [bne, t1]; rfl
    dsimp only
    rw [ha]
    refine AQ.weak ?_
    refine AC_of Tryz.func37 rfl Tryz.ntmps37 rfl rfl ?_
    repeat' (first | (apply AL_callQw [0] (hN); kernel_rfl; (iterate 7 exact rfl)) | (apply AL_move; exact rfl; exact rfl) | (apply AL_assign; exact rfl; exact rfl) | (apply AL_bin; (iterate 5 exact rfl)) | (apply AL_load1 ttok; (iterate 6 exact rfl)) | (apply AL_fieldAddr ttok; (iterate 7 exact rfl)) | (apply AL_nilCheck; exact rfl; exact rfl) | refine AL_nil ?_ | refine AW_region ?_ | refine AW_seq' ?_ | (apply AW_condA; exact rfl; (first | with_reducible assumption | decide +kernel)) | refine then_norm ?_ | refine AW_ret ?_ | refine then_ret ?_)
    all_goals (apply endQ [0]; (repeat (first | exact ResL.nil | (apply ResL.cons; first | exact .tmp _ _ rfl | (apply res_n ttok; (iterate 6 exact rfl)) | (apply res_1 ttok; (iterate 5 exact rfl))))); (iterate 4 exact rfl))
    all_goals rfl
  | true =>
    have t2 : ((e : Int) != 0) = false := by rw [bne, t1]; rfl
    have e1 : IntKind.i64.wrap (((B.map E.byte).length : Int) - (a : Int)) = (q.length : Int) := by rw [IntWalk.i64_in _ (by omega)]; omega
    have e2 : IntKind.u64.wrap (q.length : Int) = (q.length : Int) := IntWalk.u64_in _ (by omega)
    cases t3 : decide ((n : Int) > (q.length : Int)) with
    | true =>
      have ef : failS 8 (e, q) = (8, q) := by unfold failS; rw [t1]
      dsimp only
      rw [ef]
      dsimp only
      rw [ha]
      refine AQ.weak ?_
      refine AC_of Tryz.func37 rfl Tryz.ntmps37 rfl rfl ?_
      repeat' (first | rw [e1] | rw [e2] | (apply AL_callQw [0] (hN); kernel_rfl; (iterate 7 exact rfl)) | (apply AL_move; exact rfl; exact rfl) | (apply AL_assign; exact rfl; exact rfl) | (apply AL_bin; (iterate 5 exact rfl)) | (apply AL_load1 ttok; (iterate 6 exact rfl)) | (apply AL_fieldAddr ttok; (iterate 7 exact rfl)) | (apply AL_nilCheck; exact rfl; exact rfl) | (apply AL_store ttok; (iterate 8 exact rfl)) | (apply AL_convT ttok; (iterate 5 exact rfl)) | refine AL_nil ?_ | refine AW_region ?_ | refine AW_seq' ?_ | (apply AW_condA; exact rfl; (first | with_reducible assumption | decide +kernel)) | (apply AW_condB; exact rfl; (first | with_reducible assumption | decide +kernel)) | refine then_norm ?_ | refine AW_ret ?_ | refine then_ret ?_ | (apply AL_len ttok; (iterate 4 exact rfl)) | (apply AW_drawE 12 hmix; (decide +kernel); (kernel_rfl); (kernel_rfl); (kernel_rfl); exact rfl; exact rfl) | (apply AE_consZ; (iterate 4 exact rfl)) | exact AE.nil _ _ _ _ | (apply AEk_puT; exact rfl) | (apply AOt_mk; exact rfl; exact rfl; (decide +kernel); exact rfl) | (apply AO_puT; exact rfl) | exact AO.nil _ _ _ | (apply AOs_skip; (decide +kernel)) | exact AOs.nil | exact qY_ok rfl rfl | refine AW_skip ?_)
      all_goals (apply endQ [0]; (repeat (first | exact ResL.nil | (apply ResL.cons; first | exact .tmp _ _ rfl | (apply res_n ttok; (iterate 6 exact rfl)) | (apply res_1 ttok; (iterate 5 exact rfl))))); (iterate 4 exact rfl))
      all_goals rfl
    | false =>
      have hnq : n ≤ q.length := by have := of_decide_eq_false t3; omega
      have e3 : IntKind.i64.wrap (n : Int) = (n : Int) := IntWalk.i64_in _ (by omega)
      have e4 : IntKind.i64.wrap ((a : Int) + (n : Int)) = ((a + n : Nat) : Int) := by rw [IntWalk.i64_in _ (by omega)]; omega
      have hsp : (B.take (((a + n : Nat) : Int)).toNat).drop ((a : Nat) : Int).toNat = q.take n := by
        rw [Int.toNat_natCast, Int.toNat_natCast, hqa, List.drop_take]; congr 1; omega
      have hij : ((a : Nat) : Int) ≤ ((a + n : Nat) : Int) := by omega
      have hj : (((a + n : Nat) : Int)).toNat ≤ B.length := by omega
      have hlen : B.length - (q.drop n).length = a + n := by rw [List.length_drop]; omega
      dsimp only
      rw [hlen]
      refine AQ.weak ?_
      refine AC_of Tryz.func37 rfl Tryz.ntmps37 rfl rfl ?_
      repeat' (first | rw [e1] | rw [e2] | rw [e3] | rw [e4] | (apply AL_callQw [0] (hN); kernel_rfl; (iterate 7 exact rfl)) | (apply AL_span ttok; (iterate 9 exact rfl); (first | with_reducible assumption | exact Int.natCast_nonneg _ | exact (by decide)); (first | with_reducible assumption | decide | (simp only [List.length_cons, List.length_drop, List.length_take, List.length_append, Int.toNat_natCast] at *; omega)); (first | with_reducible assumption | decide | (simp only [List.length_cons, List.length_drop, List.length_take, List.length_append, Int.toNat_natCast] at *; omega)); (first | with_reducible assumption | exact rfl)) | (apply AL_move; exact rfl; exact rfl) | (apply AL_assign; exact rfl; exact rfl) | (apply AL_bin; (iterate 5 exact rfl)) | (apply AL_load1 ttok; (iterate 6 exact rfl)) | (apply AL_fieldAddr ttok; (iterate 7 exact rfl)) | (apply AL_nilCheck; exact rfl; exact rfl) | (apply AL_store ttok; (iterate 8 exact rfl)) | (apply AL_convT ttok; (iterate 5 exact rfl)) | refine AL_nil ?_ | refine AW_region ?_ | refine AW_seq' ?_ | (apply AW_condB; exact rfl; (first | with_reducible assumption | decide +kernel)) | refine then_norm ?_ | refine AW_ret ?_ | (apply AL_len ttok; (iterate 4 exact rfl)) | (apply AW_drawE 12 hmix; (decide +kernel); (kernel_rfl); (kernel_rfl); (kernel_rfl); exact rfl; exact rfl) | (apply AW_drawE 15 hmix; (decide +kernel); (kernel_rfl); (kernel_rfl); (kernel_rfl); exact rfl; exact rfl) | (apply AE_consZ; (iterate 4 exact rfl)) | exact AE.nil _ _ _ _ | (apply AEk_puT; exact rfl) | (apply AOt_mk; exact rfl; exact rfl; (decide +kernel); exact rfl) | (apply AO_puT; exact rfl) | exact AO.nil _ _ _ | (apply AOs_skip; (decide +kernel)) | exact AOs.nil | exact qY_ok rfl rfl | refine AW_skip ?_)
      all_goals (apply endQ [0]; (repeat (first | exact ResL.nil | (apply ResL.cons; first | exact .tmp _ _ rfl | (apply res_n ttok; (iterate 6 exact rfl)) | (apply res_1 ttok; (iterate 5 exact rfl))))); (iterate 4 exact rfl))
      all_goals rfl
end Go.Proofs.YtdhkfbolnkikgaaGreatDoor
end
/- The document's answers for names: a number in a text. -/
section
open Go.RowKit Go.Pl Go.Av
namespace Go.Proofs.YtdhkfbolnkikgaaGreatDoor
set_option linter.unusedVariables false
set_option linter.unusedSimpArgs false
set_option maxHeartbeats 1000000
theorem numR_len : ∀ (f a : Nat) (r : List UInt8), (numR f a r).2 ≤ r.length ∧ (numR f a r).2 ≤ f
  | 0, a, r => by simp [numR]
  | f + 1, a, [] => by simp [numR]
  | f + 1, a, c :: r => by
    rw [numR]
    split
    · have := numR_len f (10 * a + (c.toNat - 48)) r
      simp; omega
    · simp
theorem av_number [Known] (s : List UInt8) (at0 : Nat) (hs : s.length ≤ 1099511627776) (h0 : at0 ≤ s.length) : AP Tryz.prog 52 [.str s, .int .i64 (at0 : Int)] (.tup [.int .u64 ((numR 11 0 (s.drop at0)).1 : Int), .int .i64 ((at0 + (numR 11 0 (s.drop at0)).2 : Nat) : Int)]) [] := by
  refine AP.ofA ?_
  refine AC_of Tryz.func52 rfl Tryz.ntmps52 rfl rfl ?_
  repeat' (first | (apply AL_assign; exact rfl; exact rfl) | refine AL_nil ?_ | refine AW_region ?_ | refine AW_seq' ?_ | refine then_norm ?_ | refine AW_block ?_)
  refine AW_loopJ (fun k tm bx fr => ∃ (i n a : Nat), k + i = 11 ∧ n < 10 ^ i ∧ a ≤ s.length ∧ (numR k n (s.drop a)).1 = (numR 11 0 (s.drop at0)).1 ∧ a + (numR k n (s.drop a)).2 = at0 + (numR 11 0 (s.drop at0)).2 ∧ tm = [(0, .str s), (1, .int .i64 (a : Int)), (4, .int .u64 0), (5, .int .i64 0), (6, .int .u64 (n : Int)), (7, .int .i64 (i : Int))] ∧ bx = [] ∧ fr = []) 12 (Lands.mk' (m := 11) (by omega) ⟨0, 0, at0, rfl, by decide, h0, rfl, rfl, rfl, rfl, rfl⟩ ?_ rfl rfl rfl rfl rfl rfl) ?_
  · exact .cons rfl (.cons rfl (.cons rfl (.cons rfl (.cons rfl (.cons rfl .nil)))))
  rintro k tm bx fr ⟨i, n, a, hk, hn, ha, hv, hc, rfl, rfl, rfl⟩
  have hnb : n < 100000000000 := Nat.lt_of_lt_of_le hn (Nat.pow_le_pow_right (by decide) (by omega : i ≤ 11))
  cases k with
  | zero =>
    have t1 : decide ((i : Int) < 11) = false := decide_eq_false (by omega)
    repeat' (first | (apply AL_move; exact rfl; exact rfl) | (apply AL_assign; exact rfl; exact rfl) | (apply AL_bin; (iterate 5 exact rfl)) | refine AL_nil ?_ | (apply AL_guardFt; (iterate 3 exact rfl); (first | with_reducible assumption | decide +kernel)) | (apply AL_pickF; exact rfl; (first | with_reducible assumption | decide +kernel); exact rfl; exact rfl) | refine AW_region ?_ | refine AW_seq' ?_ | (apply AW_condB; exact rfl; (first | with_reducible assumption | decide +kernel)) | refine then_norm ?_ | refine AW_exit ?_ | refine AW_ret ?_)
    all_goals (apply endQ []; (repeat (first | exact ResL.nil | (apply ResL.cons; first | exact .tmp _ _ rfl | (apply res_n ttok; (iterate 6 exact rfl)) | (apply res_1 ttok; (iterate 5 exact rfl))))); (iterate 4 exact rfl))
    · rw [← hv, ← hc]; rfl
    all_goals rfl
  | succ k =>
    have t1 : decide ((i : Int) < 11) = true := decide_eq_true (by omega)
    rcases Nat.lt_or_ge a s.length with hlt | hge
    · have t2 : decide ((a : Int) < (s.length : Int)) = true := decide_eq_true (by omega)
      obtain ⟨c, hsc⟩ : ∃ c, s[a]? = some c := ⟨_, List.getElem?_eq_getElem hlt⟩
      have hidx : s[((a : Nat) : Int).toNat]? = some c := by simpa using hsc
      have hdr : s.drop a = c :: s.drop (a + 1) := by
        rw [List.drop_eq_getElem_cons hlt]; congr 1
        exact (List.getElem?_eq_some_iff.1 hsc).2
      rw [hdr, numR] at hv hc
      by_cases h48 : 48 ≤ c.toNat
      · have t3 : decide ((c.toNat : Int) ≥ 48) = true := decide_eq_true (by omega)
        by_cases h57 : c.toNat ≤ 57
        · have t4 : decide ((c.toNat : Int) ≤ 57) = true := decide_eq_true (by omega)
          rw [if_pos (isD_iff.2 ⟨h48, h57⟩)] at hv hc
          have e1 : IntKind.u64.wrap (10 * (n : Int)) = ((10 * n : Nat) : Int) := by rw [IntWalk.u64_in _ (by omega)]; omega
          have e2 : IntKind.u64.wrap (c.toNat : Int) = (c.toNat : Int) := IntWalk.u64_in _ (by omega)
          have e3 : IntKind.u64.wrap (((10 * n : Nat) : Int) + (c.toNat : Int)) = ((10 * n + c.toNat : Nat) : Int) := by rw [IntWalk.u64_in _ (by omega)]; omega
          have e4 : IntKind.u64.wrap (((10 * n + c.toNat : Nat) : Int) - 48) = ((10 * n + (c.toNat - 48) : Nat) : Int) := by rw [IntWalk.u64_in _ (by omega)]; omega
          have e5 : IntKind.i64.wrap ((a : Int) + 1) = ((a + 1 : Nat) : Int) := by rw [IntWalk.i64_in _ (by omega)]; omega
          have e6 : IntKind.i64.wrap ((i : Int) + 1) = ((i + 1 : Nat) : Int) := by rw [IntWalk.i64_in _ (by omega)]; omega
          repeat' (first | rw [e1] | rw [e2] | rw [e3] | rw [e4] | rw [e5] | rw [e6] | (apply AL_idxs ttok; (iterate 5 exact rfl); exact Int.natCast_nonneg _; exact hidx) | (apply AL_move; exact rfl; exact rfl) | (apply AL_assign; exact rfl; exact rfl) | (apply AL_bin; (iterate 5 exact rfl)) | (apply AL_convT ttok; (iterate 5 exact rfl)) | refine AL_nil ?_ | (apply AL_guardT; (iterate 3 exact rfl); (first | with_reducible assumption | decide +kernel)) | (apply AL_pickT; exact rfl; (first | with_reducible assumption | decide +kernel); exact rfl; exact rfl) | refine AW_region ?_ | refine AW_seq' ?_ | (apply AW_condA; exact rfl; (first | with_reducible assumption | decide +kernel)) | refine then_norm ?_ | refine AW_block ?_ | (apply AL_lens ttok; (iterate 4 exact rfl)) | refine AW_skip ?_)
          refine Lands.mk' (m := k) (by omega) ⟨i + 1, 10 * n + (c.toNat - 48), a + 1, by omega, by rw [Nat.pow_succ]; omega, by omega, hv, by omega, rfl, rfl, rfl⟩ ?_ rfl rfl rfl rfl rfl rfl
          exact .cons rfl (.cons rfl (.cons rfl (.cons rfl (.cons rfl (.cons rfl .nil)))))
        · have t4 : decide ((c.toNat : Int) ≤ 57) = false := decide_eq_false (by omega)
          rw [if_neg (fun h => h57 (isD_iff.1 h).2)] at hv hc
          repeat' (first | (apply AL_idxs ttok; (iterate 5 exact rfl); exact Int.natCast_nonneg _; exact hidx) | (apply AL_move; exact rfl; exact rfl) | (apply AL_assign; exact rfl; exact rfl) | (apply AL_bin; (iterate 5 exact rfl)) | refine AL_nil ?_ | (apply AL_guardT; (iterate 3 exact rfl); (first | with_reducible assumption | decide +kernel)) | (apply AL_pickT; exact rfl; (first | with_reducible assumption | decide +kernel); exact rfl; exact rfl) | refine AW_region ?_ | refine AW_seq' ?_ | (apply AW_condB; exact rfl; (first | with_reducible assumption | decide +kernel)) | refine then_norm ?_ | refine AW_exit ?_ | refine AW_ret ?_ | (apply AL_lens ttok; (iterate 4 exact rfl)))
          all_goals (apply endQ []; (repeat (first | exact ResL.nil | (apply ResL.cons; first | exact .tmp _ _ rfl | (apply res_n ttok; (iterate 6 exact rfl)) | (apply res_1 ttok; (iterate 5 exact rfl))))); (iterate 4 exact rfl))
          · rw [← hv, ← hc]; rfl
          all_goals rfl
      · have t3 : decide ((c.toNat : Int) ≥ 48) = false := decide_eq_false (by omega)
        rw [if_neg (fun h => h48 (isD_iff.1 h).1)] at hv hc
        repeat' (first | (apply AL_idxs ttok; (iterate 5 exact rfl); exact Int.natCast_nonneg _; exact hidx) | (apply AL_move; exact rfl; exact rfl) | (apply AL_assign; exact rfl; exact rfl) | (apply AL_bin; (iterate 5 exact rfl)) | refine AL_nil ?_ | (apply AL_guardT; (iterate 3 exact rfl); (first | with_reducible assumption | decide +kernel)) | (apply AL_guardFt; (iterate 3 exact rfl); (first | with_reducible assumption | decide +kernel)) | (apply AL_pickT; exact rfl; (first | with_reducible assumption | decide +kernel); exact rfl; exact rfl) | (apply AL_pickF; exact rfl; (first | with_reducible assumption | decide +kernel); exact rfl; exact rfl) | refine AW_region ?_ | refine AW_seq' ?_ | (apply AW_condB; exact rfl; (first | with_reducible assumption | decide +kernel)) | refine then_norm ?_ | refine AW_exit ?_ | refine AW_ret ?_ | (apply AL_lens ttok; (iterate 4 exact rfl)))
        all_goals (apply endQ []; (repeat (first | exact ResL.nil | (apply ResL.cons; first | exact .tmp _ _ rfl | (apply res_n ttok; (iterate 6 exact rfl)) | (apply res_1 ttok; (iterate 5 exact rfl))))); (iterate 4 exact rfl))
        · rw [← hv, ← hc]; rfl
        all_goals rfl
    · have t2 : decide ((a : Int) < (s.length : Int)) = false := decide_eq_false (by omega)
      rw [List.drop_of_length_le hge, numR] at hv hc
      repeat' (first | (apply AL_move; exact rfl; exact rfl) | (apply AL_assign; exact rfl; exact rfl) | (apply AL_bin; (iterate 5 exact rfl)) | refine AL_nil ?_ | (apply AL_guardT; (iterate 3 exact rfl); (first | with_reducible assumption | decide +kernel)) | (apply AL_guardFt; (iterate 3 exact rfl); (first | with_reducible assumption | decide +kernel)) | (apply AL_pickT; exact rfl; (first | with_reducible assumption | decide +kernel); exact rfl; exact rfl) | (apply AL_pickF; exact rfl; (first | with_reducible assumption | decide +kernel); exact rfl; exact rfl) | refine AW_region ?_ | refine AW_seq' ?_ | (apply AW_condB; exact rfl; (first | with_reducible assumption | decide +kernel)) | refine then_norm ?_ | refine AW_exit ?_ | refine AW_ret ?_ | (apply AL_lens ttok; (iterate 4 exact rfl)))
      all_goals (apply endQ []; (repeat (first | exact ResL.nil | (apply ResL.cons; first | exact .tmp _ _ rfl | (apply res_n ttok; (iterate 6 exact rfl)) | (apply res_1 ttok; (iterate 5 exact rfl))))); (iterate 4 exact rfl))
      · rw [← hv, ← hc]; rfl
      all_goals rfl
end Go.Proofs.YtdhkfbolnkikgaaGreatDoor
end
/- Regions that draw their order, in which new variables come in any order. -/
section
open Go.RowKit Go.Pl
namespace Go.Av
set_option linter.unusedSimpArgs false
set_option linter.unusedVariables false
/-- an operation ahead of the chain leaves a datum, or is a new variable with these cells -/
inductive Zy where
  | pu (d : D)
  | al (cs : List D)
def z0 (p : Nat × Zy) : Nat × D := (p.1, match p.2 with | .pu d => d | .al _ => .junk)
/-- the new variables, in the order of the text -/
def zfin : Nat → List (Nat × Zy) → List (Nat × D) → List (Nat × D)
  | _, [], tm => tm
  | m, (_, .pu _) :: zs, tm => zfin m zs tm
  | m, (t, .al _) :: zs, tm => zfin (m + 1) zs ((t, .ptr m 0) :: tm)
def zcs : List (Nat × Zy) → List (List D)
  | [] => []
  | (_, .pu _) :: zs => zcs zs
  | (_, .al cs) :: zs => cs :: zcs zs
section
variable {P : Program} {T : Tab} {Q : X → St → Prop} {n : Nat} {ee : Nat × Nat} {tm tm' : List (Nat × D)} {bx : List (List D)} {fr : List Fr} {b0 : Bs} {g g' : G} {w w' : World} {a : Act}
inductive AZ [Known] [Dfr] (P : Program) (T : Tab) (l : List Oper) (n : Nat) (bx : List (List D)) (fr : List Fr) : List Oper → List (Nat × D) → List (Nat × Zy) → List (Nat × D) → Prop
  | nil (tm : List (Nat × D)) : AZ P T l n bx fr [] tm [] tm
  | pu (o : Oper) (rest : List Oper) (t : Nat) (d : D) (tm : List (Nat × D)) (zs : List (Nat × Zy)) (tm' : List (Nat × D)) (hd : o.dst = some t) (ht : Nat.blt t n = true) (h : AL P l.toArray [o] ⟨n, restr l o tm, bx, fr, (bx.length, fr.length)⟩ (qY o bx fr (.pu d))) (k : AZ P T l n bx fr rest ((t, d) :: tm) zs tm') : AZ P T l n bx fr (o :: rest) tm ((t, .pu d) :: zs) tm'
  | al (t : Nat) (e : TypeId) (ty : Nat) (pos : String) (after : Array Edge) (rest : List Oper) (ti : Ti) (tm : List (Nat × D)) (zs : List (Nat × Zy)) (tm' : List (Nat × D)) (ht : Nat.blt t n = true) (hti : tl T e = some ti) (k : AZ P T l n bx fr rest ((t, .junk) :: tm) zs tm') : AZ P T l n bx fr (⟨some t, .alloc e, ty, pos, after, none⟩ :: rest) tm ((t, .al (ti.zero.map ZK.d)) :: zs) tm'
theorem AZ.steps [Known] [Dfr] {l rest : List Oper} {zs : List (Nat × Zy)} (h : AZ P T l n bx fr rest tm zs tm') : zs.length = rest.length ∧ tm' = (zs.map z0).reverse ++ tm ∧
    ∀ (i : Nat) (o : Oper), rest[i]? = some o → ∃ t y, zs[i]? = some (t, y) ∧ o.dst = some t ∧ Nat.blt t n = true ∧ (match y with
      | .pu d => AL P l.toArray [o] ⟨n, restr l o (((zs.take i).map z0).reverse ++ tm), bx, fr, (bx.length, fr.length)⟩ (qY o bx fr (.pu d))
      | .al cs => ∃ (e : TypeId) (ty : Nat) (pos : String) (after : Array Edge) (ti : Ti), o = ⟨some t, .alloc e, ty, pos, after, none⟩ ∧ tl T e = some ti ∧ cs = ti.zero.map ZK.d) := by
  induction h with
  | nil tm => exact ⟨rfl, rfl, fun i o h => by simp at h⟩
  | pu o rest t d tm zs tm' hd ht h k ih =>
    obtain ⟨h1, h2, h3⟩ := ih
    refine ⟨by simp [h1], by rw [h2]; simp [z0], fun i o' ho => ?_⟩
    cases i with
    | zero =>
      simp at ho; subst ho
      exact ⟨t, .pu d, rfl, hd, ht, by simpa using h⟩
    | succ i =>
      simp at ho
      obtain ⟨t', y, q1, q2, q3, q4⟩ := h3 i o' ho
      refine ⟨t', y, by simpa using q1, q2, q3, ?_⟩
      cases y with
      | pu d' =>
        dsimp only at q4 ⊢
        have e : ((((t, Zy.pu d) :: zs).take (i + 1)).map z0).reverse ++ tm = ((zs.take i).map z0).reverse ++ ((t, d) :: tm) := by simp [z0]
        rw [e]; exact q4
      | al cs => exact q4
  | al t e ty pos after rest ti tm zs tm' ht hti k ih =>
    obtain ⟨h1, h2, h3⟩ := ih
    refine ⟨by simp [h1], by rw [h2]; simp [z0], fun i o' ho => ?_⟩
    cases i with
    | zero =>
      simp at ho; subst ho
      exact ⟨t, .al _, rfl, rfl, ht, e, ty, pos, after, ti, rfl, hti, rfl⟩
    | succ i =>
      simp at ho
      obtain ⟨t', y, q1, q2, q3, q4⟩ := h3 i o' ho
      refine ⟨t', y, by simpa using q1, q2, q3, ?_⟩
      cases y with
      | pu d' =>
        dsimp only at q4 ⊢
        have e : ((((t, Zy.al (ti.zero.map ZK.d)) :: zs).take (i + 1)).map z0).reverse ++ tm = ((zs.take i).map z0).reverse ++ ((t, .junk) :: tm) := by simp [z0]
        rw [e]; exact q4
      | al cs => exact q4
/-- a block that is nobody's yet -/
def Good (b0 : Bs) (g : G) (w : World) (k : Nat) (cs : List D) : Prop := b0.w.heap.size ≤ k ∧ ¬ M g k ∧ (∀ o, ¬ g.C k o) ∧ ∃ vs ty, w.heap[k]? = some (.cells vs ty (0, 0)) ∧ vs.size = cs.length ∧ ∀ (w : World) (g : G) (fr : List Fr) (j : Nat) (d : D) (v : Value), cs[j]? = some d → vs[j]? = some v → V w g fr d v
theorem Good.lt {k : Nat} {cs : List D} (h : Good b0 g w k cs) : k < w.heap.size := by
  obtain ⟨_, _, _, vs, ty, h1, _⟩ := h
  exact (Array.getElem?_eq_some_iff.1 h1).1
theorem Good.evo {k : Nat} {cs : List D} (h : Good b0 g w k cs) {fr fr' : List Fr} (e : Evo ⟨g, fr, w⟩ ⟨g', fr', w'⟩) : Good b0 g' w' k cs := by
  have hlt := h.lt
  obtain ⟨h1, h2, h3, vs, ty, h4, h5, h6⟩ := h
  refine ⟨h1, fun hm => ?_, fun o hc => ?_, vs, ty, (e.block k hlt h2).trans h4, h5, h6⟩
  · rcases e.own hm with hm | hm
    · exact h2 hm
    · exact absurd hlt (Nat.not_lt.2 hm)
  · rcases e.newC k o hc with hc | hc | hc
    · exact h3 o hc
    · exact absurd hlt (Nat.not_lt.2 hc)
    · exact h2 hc
theorem Evo.al [Known] (hm : Mem g bx fr w) (o : Obj) : Evo ⟨g, fr, w⟩ ⟨g, fr, w.alloc o⟩ :=
  ⟨rfl, rfl, rfl, by simp, fun k hk _ => Below.heap_alloc w _ k hk, fun _ _ h => h, fun k p h => cell_alloc w _ (hm.Clt k p h) p, fun _ _ h => .inl h, fun _ _ h => h, fun _ h => .inl h, fun k c h => .inl ⟨c, h⟩, TokOn.refl _ _⟩
theorem Mem.al [Known] (hm : Mem g bx fr w) (o : Obj) : Mem g bx fr (w.alloc o) where
  bl := hm.bl
  bat i k cs' h1 h2 := by
    obtain ⟨us, ty, k1, k2, k3⟩ := hm.bat i k cs' h1 h2
    exact ⟨us, ty, (Below.heap_alloc w _ k (Array.getElem?_eq_some_iff.1 k1).1).trans k1, k2, fun j d v hd hv => (k3 j d v hd hv).evo (Evo.al hm o)⟩
  bC := hm.bC
  bN := hm.bN
  tl := hm.tl
  tat i k c f h1 h2 := by
    have hT := hm.tat i k c f h1 h2
    obtain ⟨cur, r1, r2⟩ := hT.row
    exact ⟨⟨cur, (Below.heap_alloc w _ k (Array.getElem?_eq_some_iff.1 r1).1).trans r1, r2⟩, hT.le, hT.max, hT.pos, hT.far⟩
  tN := hm.tN
  tρ := hm.tρ
  Clt k p hC := by
    have := hm.Clt k p hC
    simp; omega
  gl := hm.gl.evo (Evo.al hm o)
/-- what stands behind the first pass -/
structure AZk [Known] [Dfr] (P : Program) (l acts : List Oper) (n : Nat) (zs : List (Nat × Zy)) (tm : List (Nat × D)) (bx : List (List D)) (fr : List Fr) (ee : Nat × Nat) (Q : X → St → Prop) : Prop where
  run : AL P l.toArray acts ⟨n, zfin bx.length zs tm, bx ++ zcs zs, fr, ee⟩ Q
end
end Go.Av
end

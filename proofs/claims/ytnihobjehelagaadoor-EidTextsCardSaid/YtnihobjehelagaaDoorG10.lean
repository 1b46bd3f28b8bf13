/- Package eid: is a text plain? -/
import Derived.Test.YtnihobjehelagaaDoorG03
import Derived.Test.YtnihobjehelagaaDoorG02
import Derived.Laws.RangeAny
import Derived.LoopTactic
import Derived.Lib.Strings
import Derived.Lib.Slices
import Derived.Lib.Walk
import Derived.Lib.Bytealg
import Derived.Sort.Walk0
import Derived.Test.YtnihobjehelagaaDoorG04
import Derived.Test.YtnihobjehelagaaDoorG01
import Derived.Test.YtnihobjehelagaaDoorProg
section
open Go.RowKit Go.Pl Go.Av
namespace Go.Proofs.YtnihobjehelagaaDoor
set_option linter.unusedVariables false
set_option linter.unusedSimpArgs false
set_option maxHeartbeats 1000000
/-- may a byte be, beside m? -/
def okB (m : Nat) (c : UInt8) : Bool := (97 ≤ c.toNat && c.toNat ≤ 122) || (48 ≤ c.toNat && c.toNat ≤ 57) || c.toNat == 45 || c.toNat == m
theorem okB_true {m : Nat} {c : UInt8} : okB m c = true ↔ (97 ≤ (c.toNat : Int) ∧ (c.toNat : Int) ≤ 122) ∨ (48 ≤ (c.toNat : Int) ∧ (c.toNat : Int) ≤ 57) ∨ (c.toNat : Int) = 45 ∨ (c.toNat : Int) = (m : Int) := by
  simp only [okB, Bool.or_eq_true, Bool.and_eq_true, decide_eq_true_eq, beq_iff_eq]
  omega
theorem plain_walk (s : ByteArray) (m : Nat) (hm : m < 128) (w : World) (B : Bool) (hB : s.data.toList.all (okB m) = B) :
    Calls Tryd.prog 68 #[.string s, .int .i32 (m : Int)] w fun e w' => e = .returned (.bool B) ∧ Below w.heap.size w w' := by
  have hT : (∀ j, j < s.size → ∀ c, s.data.toList[j]? = some c → okB m c = true) → B = true := fun h => by
    rw [← hB, List.all_eq_true]
    intro x hx
    obtain ⟨j, hj⟩ := List.getElem?_of_mem hx
    have hlt := (List.getElem?_eq_some_iff.1 hj).1
    exact h j (by simpa using hlt) x hj
  have hF : ∀ (j : Nat) (c : UInt8), s.data.toList[j]? = some c → ¬ okB m c = true → B = false := fun j c hj hc => by
    rw [← hB, List.all_eq_false]
    exact ⟨c, List.mem_of_getElem? hj, hc⟩
  clear hB
  go_enter Tryd.func68, Tryd.ntmps68
  go_wp2
  go_loopw [] (fun w' => ∃ pos, w' = w.iter s pos ∧ pos ≤ s.size ∧ Hid (∀ j, j < pos → ∀ c, s.data.toList[j]? = some c → okB m c = true)) (fun w' => s.size - w'.iterPos w.heap.size)
  case atStart => exact ⟨0, rfl, Nat.zero_le _, fun j hj => by omega⟩
  case round =>
    obtain ⟨pos, rfl, hps, hall⟩ := hrel
    have hb : ∀ p, Below w.heap.size w (w.iter s p) := fun p => (Below.refl _ _).alloc (Nat.le_refl _) _
    by_cases hp : pos < s.size
    · have hget : s.data.toList[pos]? = some (s[pos]'hp) := by
        have hlt : pos < s.data.toList.length := by simpa using hp
        rw [List.getElem?_eq_getElem hlt]; rfl
      by_cases ha : (s[pos]'hp).toNat < 128
      · obtain ⟨c, hc⟩ : ∃ c, c = s[pos]'hp := ⟨_, rfl⟩
        have hnx : ∀ ty, (Instr.next (.pointer (some ⟨w.heap.size, 0, none⟩)) true ty).run Tryd.prog (w.iter s pos) = .ok (.tuple #[.bool true, .int .i64 pos, .int .i32 (c.toNat : Int)]) (w.iter s (pos + 1)) := fun ty => by
          rw [hc]; exact run_next_ascii w s pos ty hp ha
        rw [← hc] at hget ha
        clear hc
        have hbad := hid (hF pos c hget)
        have hstep : Hid (okB m c = true → ∀ j, j < pos + 1 → ∀ c, s.data.toList[j]? = some c → okB m c = true) := fun hc j hj c' hj' => by
          rcases Nat.lt_or_ge j pos with h | h
          · exact hall j h c' hj'
          · have : j = pos := by omega
            subst this
            rw [hget] at hj'
            injection hj' with hj'
            subst hj'
            exact hc
        clear hT hF hget
        go_wp2
        all_goals first
          | (go_ret
             have hBf := hbad (fun h => by rw [okB_true] at h; clear hbad hstep hnx; (try simp only [bne_iff_ne, ne_eq, bne_eq_false_iff_eq] at *); omega)
             subst hBf
             exact ⟨rfl, hb _⟩)
          | (refine ⟨⟨pos + 1, rfl, by omega, hstep ?_⟩, ?_⟩
             · rw [okB_true]
               clear hbad hstep hnx
               try simp only [bne_iff_ne, ne_eq, bne_eq_false_iff_eq] at *
               omega
             · simp; omega)
      · obtain ⟨hd1, hd2⟩ := decode_high s pos hp (by omega)
        have hle := decode_le s pos
        have hnx : ∀ ty, (Instr.next (.pointer (some ⟨w.heap.size, 0, none⟩)) true ty).run Tryd.prog (w.iter s pos) = _ := fun ty => run_next_any w s pos ty hp
        have hBf := hF pos _ hget (fun h => by rw [okB_true] at h; omega)
        clear hT hF hget
        subst hBf
        generalize Utf8.decode s pos = dd at hd1 hd2 hle hnx
        have n1 : ¬ ((dd.1 : Int) < 97) := by omega
        have n2 : ((dd.1 : Int) > 122) := by omega
        have n3 : ¬ ((dd.1 : Int) < 48) := by omega
        have n4 : ((dd.1 : Int) > 57) := by omega
        have n5 : ¬ ((dd.1 : Int) = 45) := by omega
        have n6 : ¬ ((dd.1 : Int) = (m : Int)) := by omega
        go_wp2
        all_goals first
          | (go_ret; exact ⟨rfl, hb _⟩)
          | (exfalso; clear hnx hb hall; (try simp only [bne_iff_ne, ne_eq, bne_eq_false_iff_eq] at *); omega)
    · have hnx : ∀ ty, (Instr.next (.pointer (some ⟨w.heap.size, 0, none⟩)) true ty).run Tryd.prog (w.iter s pos) = _ := fun ty => run_next_end w s pos ty hp
      have hBt := hT (fun j hj => hall j (by omega))
      subst hBt
      go_wp2
      go_ret
      exact ⟨rfl, hb _⟩
end Go.Proofs.YtnihobjehelagaaDoor
end
/- Package eid, package ident: names and numbers, and which is ahead. -/
section
open Go.RowKit Go.Pl Go.Av
namespace Go.Proofs.YtnihobjehelagaaDoor
set_option linter.unusedVariables false
set_option linter.unusedSimpArgs false
set_option maxHeartbeats 1000000
theorem av_plain [Known] (s : List UInt8) (m : Nat) (hm : m < 128) : AP Tryd.prog 68 [.str s, .int .i32 (m : Int)] (.bool (s.all (okB m))) [] := by
  refine ⟨fun g w vs hmem hl hv => ?_⟩
  obtain ⟨v0, v1, rfl⟩ : ∃ v0 v1, vs = [v0, v1] := by
    match vs, hl with
    | [v0, v1], _ => exact ⟨v0, v1, rfl⟩
  have h0 := (hv 0 _ _ rfl rfl).str_inv.1
  have h1 := (hv 1 _ _ rfl rfl).int_inv
  subst h0 h1
  exact (plain_walk ⟨s.toArray⟩ m hm w _ rfl).mono fun e w' ⟨he, hb⟩ => endBelow hmem hb he (.bool _)
structure EidV where
  i : Bool
  n : Nat
  s : Nat
  h : List UInt8
  d : List UInt8
  deriving DecidableEq
abbrev eC (x : EidV) : List D := [.bool x.i, .int .u64 (x.n : Int), .int .u64 (x.s : Int), .str x.h, .str x.d]
def eidZ : EidV := ⟨false, 0, 0, [], []⟩
/-- no name -/
def isZ (x : EidV) : Bool := x.i == false && ((x.n : Int) == 0 && ((x.s : Int) == 0 && (x.h == [] && (x.d == [] && true))))
def classN (x : EidV) : Int := if isZ x then 0 else if x.i then 1 else 2
theorem av_class [Known] (x : EidV) : AP Tryd.prog 69 [.agg (eC x)] (.int .i64 (classN x)) [] := by
  refine AP.ofA ?_
  refine AC_of Tryd.func69 rfl Tryd.ntmps69 rfl rfl ?_
  repeat' (first | (apply AL_assign; exact rfl; exact rfl) | (apply AL_load1 ttok; (iterate 6 exact rfl)) | (apply AL_loadn ttok; (iterate 7 exact rfl)) | (apply AL_fieldAddr ttok; (iterate 7 exact rfl)) | (apply AL_box; (iterate 5 exact rfl)) | refine AL_nil ?_ | refine AW_region ?_ | refine AW_seq' ?_ | (apply AW_cond'; exact rfl; all_goals intro hb) | refine then_norm ?_ | refine AW_block ?_ | refine AW_ret ?_ | refine then_ret ?_ | refine blk_ret ?_ | (apply AL_build ttok; (iterate 6 exact rfl)) | (apply AL_eqS ttok; (iterate 4 exact rfl); (kernel_rfl); (kernel_rfl); (iterate 3 exact rfl)) | refine AW_skip ?_)
  all_goals (apply endQ []; (repeat (first | exact ResL.nil | (apply ResL.cons; first | exact .tmp _ _ rfl | (apply res_n ttok; (iterate 6 exact rfl)) | (apply res_1 ttok; (iterate 5 exact rfl))))); (iterate 4 exact rfl))
  all_goals first | rfl | (congr 1; unfold classN isZ; simp_all)
def lessE (a b : EidV) : Bool :=
  if classN a != classN b then decide (classN a < classN b)
  else if (a.n : Int) != b.n then decide ((a.n : Int) < b.n)
  else if (a.s : Int) != b.s then decide ((a.s : Int) < b.s)
  else if a.h != b.h then Op.bytesLess a.h b.h
  else Op.bytesLess a.d b.d
theorem av_less [Known] (a b : EidV) : AP Tryd.prog 35 [.agg (eC a), .agg (eC b)] (.bool (lessE a b)) [] := by
  refine AP.ofA ?_
  refine AC_of Tryd.func35 rfl Tryd.ntmps35 rfl rfl ?_
  repeat' (first | (apply AL_callPw (av_class a); kernel_rfl; (iterate 4 exact rfl)) | (apply AL_callPw (av_class b); kernel_rfl; (iterate 4 exact rfl)) | (apply AL_assign; exact rfl; exact rfl) | (apply AL_bin; (iterate 5 exact rfl)) | (apply AL_load1 ttok; (iterate 6 exact rfl)) | (apply AL_loadn ttok; (iterate 7 exact rfl)) | (apply AL_fieldAddr ttok; (iterate 7 exact rfl)) | (apply AL_box; (iterate 5 exact rfl)) | refine AL_nil ?_ | refine AW_region ?_ | refine AW_seq' ?_ | (apply AW_cond'; exact rfl; all_goals intro hb) | refine then_norm ?_ | refine AW_block ?_ | refine AW_ret ?_ | refine then_ret ?_ | refine blk_ret ?_ | (apply AL_str; (iterate 5 exact rfl)) | (apply AW_drawM 3 hmix; (decide +kernel); (kernel_rfl); (kernel_rfl); exact rfl; exact rfl) | (apply AD_cons; (iterate 3 exact rfl)) | refine AD.nil _ | exact qp_ok rfl | refine AW_skip ?_)
  all_goals (apply endQ []; (repeat (first | exact ResL.nil | (apply ResL.cons; first | exact .tmp _ _ rfl | (apply res_n ttok; (iterate 6 exact rfl)) | (apply res_1 ttok; (iterate 5 exact rfl))))); (iterate 4 exact rfl))
  all_goals first | rfl | (congr 1; unfold lessE; simp_all)
/-- may a name be? -/
def eRight (x : EidV) : Bool :=
  if isZ x then true
  else if x.i then (x.i == true && ((x.n : Int) == (x.n : Int) && ((x.s : Int) == (x.s : Int) && (x.h == [] && (x.d == [] && true))))) && decide ((x.n : Int) ≥ 1) && decide ((x.n : Int) ≤ 4294967295) && decide ((x.s : Int) ≤ 4294967295)
  else (x.i == false && ((x.n : Int) == 0 && ((x.s : Int) == 0 && (x.h == x.h && (x.d == x.d && true))))) && decide ((x.h.length : Int) ≥ 1) && decide ((x.h.length : Int) ≤ 16) && decide ((x.d.length : Int) ≤ 24) && x.h.all (okB 45) && x.d.all (okB 47)
theorem eRight_Z {x : EidV} (h : isZ x = true) : eRight x = true := by unfold eRight; rw [if_pos h]
theorem eRight_I {x : EidV} (h : isZ x = false) (hi : x.i = true) : eRight x = ((x.i == true && ((x.n : Int) == (x.n : Int) && ((x.s : Int) == (x.s : Int) && (x.h == [] && (x.d == [] && true))))) && decide ((x.n : Int) ≥ 1) && decide ((x.n : Int) ≤ 4294967295) && decide ((x.s : Int) ≤ 4294967295)) := by
  unfold eRight; rw [if_neg (by rw [h]; decide), if_pos hi]
theorem eRight_T {x : EidV} (h : isZ x = false) (hi : x.i = false) : eRight x = ((x.i == false && ((x.n : Int) == 0 && ((x.s : Int) == 0 && (x.h == x.h && (x.d == x.d && true))))) && decide ((x.h.length : Int) ≥ 1) && decide ((x.h.length : Int) ≤ 16) && decide ((x.d.length : Int) ≤ 24) && x.h.all (okB 45) && x.d.all (okB 47)) := by
  unfold eRight; rw [if_neg (by rw [h]; decide), if_neg (by rw [hi]; decide)]
theorem av_eRight [Known] (x : EidV) : AP Tryd.prog 33 [.agg (eC x)] (.bool (eRight x)) [] := by
  refine AP.ofA ?_
  refine AC_of Tryd.func33 rfl Tryd.ntmps33 rfl rfl ?_
  cases hz : isZ x with
  | true =>
    rw [eRight_Z hz]
    unfold isZ at hz
    repeat' (first | (apply AL_assign; exact rfl; exact rfl) | (apply AL_loadn ttok; (iterate 7 exact rfl)) | (apply AL_box; (iterate 5 exact rfl)) | refine AL_nil ?_ | refine AW_region ?_ | refine AW_seq' ?_ | (apply AW_condA; exact rfl; (first | with_reducible assumption | (guard_target =ₛ true = true; rfl) | (guard_target =ₛ false = false; rfl) | (guard_target =ₛ (!true) = false; rfl) | (guard_target =ₛ (!false) = true; rfl))) | refine then_norm ?_ | refine AW_block ?_ | refine AW_ret ?_ | refine then_ret ?_ | refine blk_ret ?_ | (apply AL_build ttok; (iterate 6 exact rfl)) | (apply AL_eqS ttok; (iterate 4 exact rfl); (kernel_rfl); (kernel_rfl); (iterate 3 exact rfl)))
    (apply endQ []; (repeat (first | exact ResL.nil | (apply ResL.cons; first | exact .tmp _ _ rfl | (apply res_n ttok; (iterate 6 exact rfl)) | (apply res_1 ttok; (iterate 5 exact rfl))))); (iterate 4 exact rfl))
    all_goals rfl
  | false =>
    cases hi : x.i with
    | true =>
      rw [eRight_I hz hi]
      unfold isZ at hz
      repeat' (first | (apply AL_move; exact rfl; exact rfl) | (apply AL_assign; exact rfl; exact rfl) | (apply AL_bin; (iterate 5 exact rfl)) | (apply AL_load1 ttok; (iterate 6 exact rfl)) | (apply AL_loadn ttok; (iterate 7 exact rfl)) | (apply AL_fieldAddr ttok; (iterate 7 exact rfl)) | (apply AL_box; (iterate 5 exact rfl)) | refine AL_nil ?_ | (apply AL_guardT; (iterate 3 exact rfl); (first | with_reducible assumption | (guard_target =ₛ true = true; rfl) | (guard_target =ₛ false = false; rfl) | (guard_target =ₛ (!true) = false; rfl) | (guard_target =ₛ (!false) = true; rfl))) | (apply AL_guardFt; (iterate 3 exact rfl); (first | with_reducible assumption | (guard_target =ₛ true = true; rfl) | (guard_target =ₛ false = false; rfl) | (guard_target =ₛ (!true) = false; rfl) | (guard_target =ₛ (!false) = true; rfl))) | (apply AL_guardS; exact rfl; exact rfl; all_goals intro hb) | (apply AL_pickT; exact rfl; (first | with_reducible assumption | (guard_target =ₛ true = true; rfl) | (guard_target =ₛ false = false; rfl) | (guard_target =ₛ (!true) = false; rfl) | (guard_target =ₛ (!false) = true; rfl)); exact rfl; exact rfl) | (apply AL_pickF; exact rfl; (first | with_reducible assumption | (guard_target =ₛ true = true; rfl) | (guard_target =ₛ false = false; rfl) | (guard_target =ₛ (!true) = false; rfl) | (guard_target =ₛ (!false) = true; rfl)); exact rfl; exact rfl) | refine AW_region ?_ | refine AW_seq' ?_ | (apply AW_condA; exact rfl; (first | with_reducible assumption | (guard_target =ₛ true = true; rfl) | (guard_target =ₛ false = false; rfl) | (guard_target =ₛ (!true) = false; rfl) | (guard_target =ₛ (!false) = true; rfl))) | (apply AW_condB; exact rfl; (first | with_reducible assumption | (guard_target =ₛ true = true; rfl) | (guard_target =ₛ false = false; rfl) | (guard_target =ₛ (!true) = false; rfl) | (guard_target =ₛ (!false) = true; rfl))) | refine then_norm ?_ | refine AW_block ?_ | refine AW_ret ?_ | refine then_ret ?_ | refine blk_ret ?_ | (apply AL_build ttok; (iterate 6 exact rfl)) | (apply AL_eqS ttok; (iterate 4 exact rfl); (kernel_rfl); (kernel_rfl); (iterate 3 exact rfl)))
      all_goals (apply endQ []; (repeat (first | exact ResL.nil | (apply ResL.cons; first | exact .tmp _ _ rfl | (apply res_n ttok; (iterate 6 exact rfl)) | (apply res_1 ttok; (iterate 5 exact rfl))))); (iterate 4 exact rfl))
      all_goals first | rfl | (clear hi hz; simp only [*]; done) | (clear hi hz; simp only [*]; simp only [Bool.and_true, Bool.true_and, Bool.and_false, Bool.false_and]; done)
    | false =>
      rw [eRight_T hz hi]
      unfold isZ at hz
      repeat' (first | (apply AL_callPw (av_plain x.h 45 (by decide)); kernel_rfl; (iterate 4 exact rfl)) | (apply AL_callPw (av_plain x.d 47 (by decide)); kernel_rfl; (iterate 4 exact rfl)) | (apply AL_move; exact rfl; exact rfl) | (apply AL_assign; exact rfl; exact rfl) | (apply AL_bin; (iterate 5 exact rfl)) | (apply AL_load1 ttok; (iterate 6 exact rfl)) | (apply AL_loadn ttok; (iterate 7 exact rfl)) | (apply AL_fieldAddr ttok; (iterate 7 exact rfl)) | (apply AL_box; (iterate 5 exact rfl)) | refine AL_nil ?_ | (apply AL_guardT; (iterate 3 exact rfl); (first | with_reducible assumption | (guard_target =ₛ true = true; rfl) | (guard_target =ₛ false = false; rfl) | (guard_target =ₛ (!true) = false; rfl) | (guard_target =ₛ (!false) = true; rfl))) | (apply AL_guardFt; (iterate 3 exact rfl); (first | with_reducible assumption | (guard_target =ₛ true = true; rfl) | (guard_target =ₛ false = false; rfl) | (guard_target =ₛ (!true) = false; rfl) | (guard_target =ₛ (!false) = true; rfl))) | (apply AL_guardS; exact rfl; exact rfl; all_goals intro hb) | (apply AL_pickT; exact rfl; (first | with_reducible assumption | (guard_target =ₛ true = true; rfl) | (guard_target =ₛ false = false; rfl) | (guard_target =ₛ (!true) = false; rfl) | (guard_target =ₛ (!false) = true; rfl)); exact rfl; exact rfl) | (apply AL_pickF; exact rfl; (first | with_reducible assumption | (guard_target =ₛ true = true; rfl) | (guard_target =ₛ false = false; rfl) | (guard_target =ₛ (!true) = false; rfl) | (guard_target =ₛ (!false) = true; rfl)); exact rfl; exact rfl) | refine AW_region ?_ | refine AW_seq' ?_ | (apply AW_condB; exact rfl; (first | with_reducible assumption | (guard_target =ₛ true = true; rfl) | (guard_target =ₛ false = false; rfl) | (guard_target =ₛ (!true) = false; rfl) | (guard_target =ₛ (!false) = true; rfl))) | refine then_norm ?_ | refine AW_block ?_ | refine AW_ret ?_ | (apply AL_lens ttok; (iterate 4 exact rfl)) | (apply AL_build ttok; (iterate 6 exact rfl)) | (apply AL_eqS ttok; (iterate 4 exact rfl); (kernel_rfl); (kernel_rfl); (iterate 3 exact rfl)) | refine AW_skip ?_)
      all_goals (apply endQ []; (repeat (first | exact ResL.nil | (apply ResL.cons; first | exact .tmp _ _ rfl | (apply res_n ttok; (iterate 6 exact rfl)) | (apply res_1 ttok; (iterate 5 exact rfl))))); (iterate 4 exact rfl))
      all_goals first | rfl | (clear hi hz; simp only [*]; done) | (clear hi hz; simp only [*]; simp only [Bool.and_true, Bool.true_and, Bool.and_false, Bool.false_and]; done)
end Go.Proofs.YtnihobjehelagaaDoor
end
/- Fixed calls of package eid: names parsed and written. -/
section
open Go.RowKit Go.Pl Go.Av
namespace Go.Proofs.YtnihobjehelagaaDoor
set_option linter.unusedVariables false
set_option linter.unusedSimpArgs false
set_option maxHeartbeats 4000000
set_option maxRecDepth 100000 in
theorem ixb_walk (s : ByteArray) (c : Int) (w : World) : Calls Tryd.prog 149 #[.string s, .int .u8 c] w fun e w' => e = .returned (.int .i64 (Lib.indexByte s.data.toList c.toNat.toUInt8)) ∧ w' = w := by
  go_enter Tryd.func149, Tryd.ntmps149
  go_wp2
  rw [run_callFunc_extern Tryd.func156 (by kernel_rfl) (by kernel_rfl) (by kernel_rfl) (e := Extern.BytealgIndexByte.indexByte) (by kernel_rfl), Lib.run_indexByteString]
  simp only [Result.andThen]
  rw [Oper.upon_value]
  go_wp2
  go_ret
  exact ⟨rfl, rfl⟩
theorem av_ixb [Known] (s : List UInt8) (c : Int) : AP Tryd.prog 149 [.str s, .int .u8 c] (.int .i64 (Lib.indexByte s c.toNat.toUInt8)) [] := by
  refine ⟨fun g w vs hmem hl hv => ?_⟩
  obtain ⟨v0, v1, rfl⟩ : ∃ v0 v1, vs = [v0, v1] := by
    match vs, hl with
    | [v0, v1], _ => exact ⟨v0, v1, rfl⟩
  have h0 := (hv 0 _ _ rfl rfl).str_inv.1
  have h1 := (hv 1 _ _ rfl rfl).int_inv
  subst h0 h1
  exact (ixb_walk ⟨s.toArray⟩ c w).mono fun e w' ⟨he, hb⟩ => endBelow hmem (hb ▸ Below.refl _ _) he (.int _ _)
def e71 : EidV := ⟨true, 7, 1, [], []⟩
theorem cl_pu7 [Known] : AP Tryd.prog 108 [.str [55], .int .i64 10, .int .i64 32] (.tup [.int .u64 7, .nili]) [] := by
  refine AP.ofA ?_
  refine AC_of Tryd.func108 rfl Tryd.ntmps108 rfl rfl ?_
  repeat' (first | (apply AL_inZ Tryd.func130 Tryd.ntmps130; exact rfl; exact rfl; kernel_rfl; (iterate 6 exact rfl)) | (apply in_ret; (repeat (first | exact ResL.nil | (apply ResL.cons; first | exact .tmp _ _ rfl | (apply res_n ttok; (iterate 6 exact rfl)) | (apply res_1 ttok; (iterate 5 exact rfl))))); exact rfl) | refine AW_loopN 80 ?_ | refine AN_succ ?_ | (apply AL_s2b ttok; (iterate 8 exact rfl)) | (apply AL_ifnil; exact rfl; kernel_rfl; exact rfl; exact rfl) | (apply AL_move; exact rfl; exact rfl) | (apply AL_assign; exact rfl; exact rfl) | (apply AL_bin; (iterate 5 exact rfl)) | (apply AL_convT ttok; (iterate 5 exact rfl)) | (apply AL_extract; (iterate 3 exact rfl)) | refine AL_nil ?_ | (apply AL_guardT; (iterate 3 exact rfl); (first | with_reducible assumption | decide +kernel)) | (apply AL_guardFt; (iterate 3 exact rfl); (first | with_reducible assumption | decide +kernel)) | (apply AL_pickT; exact rfl; (first | with_reducible assumption | decide +kernel); exact rfl; exact rfl) | (apply AL_pickF; exact rfl; (first | with_reducible assumption | decide +kernel); exact rfl; exact rfl) | refine AW_region ?_ | refine AW_seq' ?_ | (apply AW_condA; exact rfl; (first | with_reducible assumption | decide +kernel)) | (apply AW_condB; exact rfl; (first | with_reducible assumption | decide +kernel)) | refine then_norm ?_ | refine AW_block ?_ | refine AW_exit ?_ | refine AW_ret ?_ | (apply AL_len ttok; (iterate 4 exact rfl)) | (apply AL_eload1 ttok; (iterate 6 exact rfl)) | (apply AL_str; (iterate 5 exact rfl)) | refine AW_skip ?_ | (apply AL_idx ttok; (iterate 6 exact rfl); (first | with_reducible assumption | decide +kernel | exact Int.natCast_nonneg _ | (guard_target = (0:Int) ≤ (OfNat.ofNat _ : Int); decide) | rotate_left); (first | with_reducible assumption | decide +kernel | exact rfl); (first | exact uniB_ok rfl | with_reducible assumption | decide +kernel | rotate_left)) | (apply AL_shl; exact rfl; exact rfl; (first | with_reducible assumption | decide +kernel | exact Int.natCast_nonneg _ | (exact (by decide)) | rotate_left); exact rfl))
  all_goals (apply endQ []; (repeat (first | exact ResL.nil | (apply ResL.cons; first | exact .tmp _ _ rfl | (apply res_n ttok; (iterate 6 exact rfl)) | (apply res_1 ttok; (iterate 5 exact rfl))))); (iterate 4 exact rfl))
  all_goals rfl
theorem cl_pu1 [Known] : AP Tryd.prog 108 [.str [49], .int .i64 10, .int .i64 32] (.tup [.int .u64 1, .nili]) [] := by
  refine AP.ofA ?_
  refine AC_of Tryd.func108 rfl Tryd.ntmps108 rfl rfl ?_
  repeat' (first | (apply AL_inZ Tryd.func130 Tryd.ntmps130; exact rfl; exact rfl; kernel_rfl; (iterate 6 exact rfl)) | (apply in_ret; (repeat (first | exact ResL.nil | (apply ResL.cons; first | exact .tmp _ _ rfl | (apply res_n ttok; (iterate 6 exact rfl)) | (apply res_1 ttok; (iterate 5 exact rfl))))); exact rfl) | refine AW_loopN 80 ?_ | refine AN_succ ?_ | (apply AL_s2b ttok; (iterate 8 exact rfl)) | (apply AL_ifnil; exact rfl; kernel_rfl; exact rfl; exact rfl) | (apply AL_move; exact rfl; exact rfl) | (apply AL_assign; exact rfl; exact rfl) | (apply AL_bin; (iterate 5 exact rfl)) | (apply AL_convT ttok; (iterate 5 exact rfl)) | (apply AL_extract; (iterate 3 exact rfl)) | refine AL_nil ?_ | (apply AL_guardT; (iterate 3 exact rfl); (first | with_reducible assumption | decide +kernel)) | (apply AL_guardFt; (iterate 3 exact rfl); (first | with_reducible assumption | decide +kernel)) | (apply AL_pickT; exact rfl; (first | with_reducible assumption | decide +kernel); exact rfl; exact rfl) | (apply AL_pickF; exact rfl; (first | with_reducible assumption | decide +kernel); exact rfl; exact rfl) | refine AW_region ?_ | refine AW_seq' ?_ | (apply AW_condA; exact rfl; (first | with_reducible assumption | decide +kernel)) | (apply AW_condB; exact rfl; (first | with_reducible assumption | decide +kernel)) | refine then_norm ?_ | refine AW_block ?_ | refine AW_exit ?_ | refine AW_ret ?_ | (apply AL_len ttok; (iterate 4 exact rfl)) | (apply AL_eload1 ttok; (iterate 6 exact rfl)) | (apply AL_str; (iterate 5 exact rfl)) | refine AW_skip ?_ | (apply AL_idx ttok; (iterate 6 exact rfl); (first | with_reducible assumption | decide +kernel | exact Int.natCast_nonneg _ | (guard_target = (0:Int) ≤ (OfNat.ofNat _ : Int); decide) | rotate_left); (first | with_reducible assumption | decide +kernel | exact rfl); (first | exact uniB_ok rfl | with_reducible assumption | decide +kernel | rotate_left)) | (apply AL_shl; exact rfl; exact rfl; (first | with_reducible assumption | decide +kernel | exact Int.natCast_nonneg _ | (exact (by decide)) | rotate_left); exact rfl))
  all_goals (apply endQ []; (repeat (first | exact ResL.nil | (apply ResL.cons; first | exact .tmp _ _ rfl | (apply res_n ttok; (iterate 6 exact rfl)) | (apply res_1 ttok; (iterate 5 exact rfl))))); (iterate 4 exact rfl))
  all_goals rfl
theorem cl_pn71 [Known] : AP Tryd.prog 73 [.str [55, 46, 49]] (.tup [.agg (eC e71), .bool true]) [] := by
  refine AP.ofA ?_
  refine AC_of Tryd.func73 rfl Tryd.ntmps73 rfl rfl ?_
  repeat' (first | (apply AL_callPw (cl_pu7); kernel_rfl; (iterate 4 exact rfl)) | (apply AL_callPw (cl_pu1); kernel_rfl; (iterate 4 exact rfl)) | (apply AL_callPw (av_ixb _ _); kernel_rfl; (iterate 4 exact rfl)) | (apply AL_callPw (av_eRight e71); kernel_rfl; (iterate 4 exact rfl)) | (apply AL_inZ Tryd.func107 Tryd.ntmps107; exact rfl; exact rfl; kernel_rfl; (iterate 6 exact rfl)) | (apply AL_inZ Tryd.func129 Tryd.ntmps129; exact rfl; exact rfl; kernel_rfl; (iterate 6 exact rfl)) | (apply AL_inZ Tryd.func140 Tryd.ntmps140; exact rfl; exact rfl; kernel_rfl; (iterate 6 exact rfl)) | (apply AL_inZ Tryd.func70 Tryd.ntmps70; exact rfl; exact rfl; kernel_rfl; (iterate 6 exact rfl)) | (apply AL_inZ Tryd.func105 Tryd.ntmps105; exact rfl; exact rfl; kernel_rfl; (iterate 6 exact rfl)) | (apply AL_inZ Tryd.func124 Tryd.ntmps124; exact rfl; exact rfl; kernel_rfl; (iterate 6 exact rfl)) | (apply in_ret; (repeat (first | exact ResL.nil | (apply ResL.cons; first | exact .tmp _ _ rfl | (apply res_n ttok; (iterate 6 exact rfl)) | (apply res_1 ttok; (iterate 5 exact rfl))))); exact rfl) | (apply AL_ifnil; exact rfl; kernel_rfl; exact rfl; exact rfl) | (apply AL_idxs ttok; (iterate 5 exact rfl); (first | exact Int.natCast_nonneg _ | decide +kernel); exact rfl) | (apply AL_sliceS ttok; (iterate 4 exact rfl); (first | exact .dft _ | exact .lit _ _ _ _ rfl (by decide +kernel)); (first | exact .dft _ | exact .lit _ _ _ _ rfl (by decide +kernel)); decide +kernel; decide +kernel; exact rfl) | (apply AL_move; exact rfl; exact rfl) | (apply AL_assign; exact rfl; exact rfl) | (apply AL_bin; (iterate 5 exact rfl)) | (apply AL_loadn ttok; (iterate 7 exact rfl)) | (apply AL_store ttok; (iterate 8 exact rfl)) | (apply AL_convT ttok; (iterate 5 exact rfl)) | (apply AL_extract; (iterate 3 exact rfl)) | refine AL_nil ?_ | (apply AL_guardT; (iterate 3 exact rfl); (first | with_reducible assumption | decide +kernel)) | (apply AL_pickT; exact rfl; (first | with_reducible assumption | decide +kernel); exact rfl; exact rfl) | (apply AL_pickF; exact rfl; (first | with_reducible assumption | decide +kernel); exact rfl; exact rfl) | refine AW_region ?_ | refine AW_seq' ?_ | (apply AW_condA; exact rfl; (first | with_reducible assumption | decide +kernel)) | (apply AW_condB; exact rfl; (first | with_reducible assumption | decide +kernel)) | refine then_norm ?_ | refine AW_block ?_ | refine AW_ret ?_ | (apply AL_lens ttok; (iterate 4 exact rfl)) | (apply AL_build ttok; (iterate 6 exact rfl)) | (apply AL_allocZ ttok; (iterate 4 exact rfl)) | (apply AL_str; (iterate 5 exact rfl)) | (apply AW_drawE 10 hmix; (decide +kernel); (kernel_rfl); (kernel_rfl); (kernel_rfl); exact rfl; exact rfl) | (apply AW_drawE 27 hmix; (decide +kernel); (kernel_rfl); (kernel_rfl); (kernel_rfl); exact rfl; exact rfl) | (apply AE_consZ; (iterate 4 exact rfl)) | exact AE.nil _ _ _ _ | (apply AEk_puT; exact rfl) | (apply AEk_ef; exact rfl) | (apply AOt_mk; exact rfl; exact rfl; (decide +kernel); exact rfl) | (apply AO_puT; exact rfl) | (apply AO_ef; exact rfl) | exact AO.nil _ _ _ | (apply AOs_skip; (decide +kernel)) | (apply AOs_goZ; (iterate 3 exact rfl)) | exact AOs.nil | exact qY_ok rfl rfl | exact qY_efn rfl)
  all_goals (apply endQ []; (repeat (first | exact ResL.nil | (apply ResL.cons; first | exact .tmp _ _ rfl | (apply res_n ttok; (iterate 6 exact rfl)) | (apply res_1 ttok; (iterate 5 exact rfl))))); (iterate 4 exact rfl))
  all_goals rfl
theorem cl_parse71 [Known] : AP Tryd.prog 37 [.str [105, 112, 110, 58, 55, 46, 49]] (.tup [.agg (eC e71), .int .i64 0]) [] := by
  refine AP.ofA ?_
  refine AC_of Tryd.func37 rfl Tryd.ntmps37 rfl rfl ?_
  repeat' (first | (apply AL_callPw (cl_pn71); kernel_rfl; (iterate 4 exact rfl)) | (apply AL_inZ Tryd.func72 Tryd.ntmps72; exact rfl; exact rfl; kernel_rfl; (iterate 6 exact rfl)) | (apply AL_inZ Tryd.func106 Tryd.ntmps106; exact rfl; exact rfl; kernel_rfl; (iterate 6 exact rfl)) | (apply AL_inZ Tryd.func128 Tryd.ntmps128; exact rfl; exact rfl; kernel_rfl; (iterate 6 exact rfl)) | (apply in_ret; (repeat (first | exact ResL.nil | (apply ResL.cons; first | exact .tmp _ _ rfl | (apply res_n ttok; (iterate 6 exact rfl)) | (apply res_1 ttok; (iterate 5 exact rfl))))); exact rfl) | (apply AL_sliceS ttok; (iterate 4 exact rfl); (first | exact .dft _ | exact .lit _ _ _ _ rfl (by decide +kernel)); (first | exact .dft _ | exact .lit _ _ _ _ rfl (by decide +kernel)); decide +kernel; decide +kernel; exact rfl) | (apply AL_move; exact rfl; exact rfl) | (apply AL_assign; exact rfl; exact rfl) | (apply AL_bin; (iterate 5 exact rfl)) | (apply AL_loadn ttok; (iterate 7 exact rfl)) | (apply AL_store ttok; (iterate 8 exact rfl)) | (apply AL_not; exact rfl; exact rfl) | (apply AL_extract; (iterate 3 exact rfl)) | refine AL_nil ?_ | (apply AL_guardT; (iterate 3 exact rfl); (first | with_reducible assumption | decide +kernel)) | (apply AL_pickT; exact rfl; (first | with_reducible assumption | decide +kernel); exact rfl; exact rfl) | refine AW_region ?_ | refine AW_seq' ?_ | (apply AW_condA; exact rfl; (first | with_reducible assumption | decide +kernel)) | (apply AW_condB; exact rfl; (first | with_reducible assumption | decide +kernel)) | refine then_norm ?_ | refine AW_ret ?_ | (apply AL_lens ttok; (iterate 4 exact rfl)) | (apply AL_allocZ ttok; (iterate 4 exact rfl)) | (apply AL_str; (iterate 5 exact rfl)) | refine AW_skip ?_)
  all_goals (apply endQ []; (repeat (first | exact ResL.nil | (apply ResL.cons; first | exact .tmp _ _ rfl | (apply res_n ttok; (iterate 6 exact rfl)) | (apply res_1 ttok; (iterate 5 exact rfl))))); (iterate 4 exact rfl))
  all_goals rfl
theorem cl_text71 [Known] : AP Tryd.prog 36 [.agg (eC e71)] (.tup [.str [105, 112, 110, 58, 55, 46, 49], .int .i64 0]) [] := by
  refine AP.ofA ?_
  refine AC_of Tryd.func36 rfl Tryd.ntmps36 rfl rfl ?_
  repeat' (first | (apply AL_callPw (av_eRight e71); kernel_rfl; (iterate 4 exact rfl)) | (apply AL_cat; exact rfl; exact rfl; decide; exact rfl) | (apply AL_inZ Tryd.func70 Tryd.ntmps70; exact rfl; exact rfl; kernel_rfl; (iterate 6 exact rfl)) | (apply AL_inZ Tryd.func105 Tryd.ntmps105; exact rfl; exact rfl; kernel_rfl; (iterate 6 exact rfl)) | (apply AL_inZ Tryd.func124 Tryd.ntmps124; exact rfl; exact rfl; kernel_rfl; (iterate 6 exact rfl)) | (apply in_ret; (repeat (first | exact ResL.nil | (apply ResL.cons; first | exact .tmp _ _ rfl | (apply res_n ttok; (iterate 6 exact rfl)) | (apply res_1 ttok; (iterate 5 exact rfl))))); exact rfl) | (apply AL_sliceS ttok; (iterate 4 exact rfl); (first | exact .dft _ | exact .lit _ _ _ _ rfl (by decide +kernel)); (first | exact .dft _ | exact .lit _ _ _ _ rfl (by decide +kernel)); decide +kernel; decide +kernel; exact rfl) | (apply AL_move; exact rfl; exact rfl) | (apply AL_assign; exact rfl; exact rfl) | (apply AL_bin; (iterate 5 exact rfl)) | (apply AL_load1 ttok; (iterate 6 exact rfl)) | (apply AL_loadn ttok; (iterate 7 exact rfl)) | (apply AL_fieldAddr ttok; (iterate 7 exact rfl)) | (apply AL_boxZ; (iterate 5 exact rfl)) | (apply AL_not; exact rfl; exact rfl) | (apply AL_convT ttok; (iterate 5 exact rfl)) | refine AL_nil ?_ | refine AW_region ?_ | refine AW_seq' ?_ | (apply AW_condA; exact rfl; (first | with_reducible assumption | decide +kernel)) | (apply AW_condB; exact rfl; (first | with_reducible assumption | decide +kernel)) | refine then_norm ?_ | refine AW_block ?_ | refine AW_ret ?_ | refine then_ret ?_ | refine blk_ret ?_ | (apply AL_build ttok; (iterate 6 exact rfl)) | (apply AL_eqS ttok; (iterate 4 exact rfl); (kernel_rfl); (kernel_rfl); (iterate 3 exact rfl)) | (apply AW_drawE 8 hmix; (decide +kernel); (kernel_rfl); (kernel_rfl); (kernel_rfl); exact rfl; exact rfl) | (apply AE_consZ; (iterate 4 exact rfl)) | exact AE.nil _ _ _ _ | (apply AEk_puT; exact rfl) | (apply AOt_mk; exact rfl; exact rfl; (decide +kernel); exact rfl) | (apply AO_puT; exact rfl) | exact AO.nil _ _ _ | (apply AOs_skip; (decide +kernel)) | exact AOs.nil | exact qY_ok rfl rfl)
  all_goals (apply endQ []; (repeat (first | exact ResL.nil | (apply ResL.cons; first | exact .tmp _ _ rfl | (apply res_n ttok; (iterate 6 exact rfl)) | (apply res_1 ttok; (iterate 5 exact rfl))))); (iterate 4 exact rfl))
  all_goals rfl
end Go.Proofs.YtnihobjehelagaaDoor
end
/- Fixed calls of package eid, the rest; what must come of them. -/
section
open Go.RowKit Go.Pl Go.Av
namespace Go.Proofs.YtnihobjehelagaaDoor
set_option linter.unusedVariables false
set_option linter.unusedSimpArgs false
set_option maxHeartbeats 4000000
def eLoft : EidV := ⟨false, 0, 0, [108, 111, 102, 116], [105, 110]⟩
theorem cl_pu07 [Known] : AP Tryd.prog 108 [.str [48, 55], .int .i64 10, .int .i64 32] (.tup [.int .u64 7, .nili]) [] := by
  refine AP.ofA ?_
  refine AC_of Tryd.func108 rfl Tryd.ntmps108 rfl rfl ?_
  repeat' (first | (apply AL_inZ Tryd.func130 Tryd.ntmps130; exact rfl; exact rfl; kernel_rfl; (iterate 6 exact rfl)) | (apply in_ret; (repeat (first | exact ResL.nil | (apply ResL.cons; first | exact .tmp _ _ rfl | (apply res_n ttok; (iterate 6 exact rfl)) | (apply res_1 ttok; (iterate 5 exact rfl))))); exact rfl) | refine AW_loopN 80 ?_ | refine AN_succ ?_ | (apply AL_s2b ttok; (iterate 8 exact rfl)) | (apply AL_ifnil; exact rfl; kernel_rfl; exact rfl; exact rfl) | (apply AL_move; exact rfl; exact rfl) | (apply AL_assign; exact rfl; exact rfl) | (apply AL_bin; (iterate 5 exact rfl)) | (apply AL_convT ttok; (iterate 5 exact rfl)) | (apply AL_extract; (iterate 3 exact rfl)) | refine AL_nil ?_ | (apply AL_guardT; (iterate 3 exact rfl); (first | with_reducible assumption | decide +kernel)) | (apply AL_guardFt; (iterate 3 exact rfl); (first | with_reducible assumption | decide +kernel)) | (apply AL_pickT; exact rfl; (first | with_reducible assumption | decide +kernel); exact rfl; exact rfl) | (apply AL_pickF; exact rfl; (first | with_reducible assumption | decide +kernel); exact rfl; exact rfl) | refine AW_region ?_ | refine AW_seq' ?_ | (apply AW_condA; exact rfl; (first | with_reducible assumption | decide +kernel)) | (apply AW_condB; exact rfl; (first | with_reducible assumption | decide +kernel)) | refine then_norm ?_ | refine AW_block ?_ | refine AW_exit ?_ | refine AW_ret ?_ | (apply AL_len ttok; (iterate 4 exact rfl)) | (apply AL_eload1 ttok; (iterate 6 exact rfl)) | (apply AL_str; (iterate 5 exact rfl)) | refine AW_skip ?_ | (apply AL_idx ttok; (iterate 6 exact rfl); (first | with_reducible assumption | decide +kernel | exact Int.natCast_nonneg _ | (guard_target = (0:Int) ≤ (OfNat.ofNat _ : Int); decide) | rotate_left); (first | with_reducible assumption | decide +kernel | exact rfl); (first | exact uniB_ok rfl | with_reducible assumption | decide +kernel | rotate_left)) | (apply AL_shl; exact rfl; exact rfl; (first | with_reducible assumption | decide +kernel | exact Int.natCast_nonneg _ | (exact (by decide)) | rotate_left); exact rfl))
  all_goals (apply endQ []; (repeat (first | exact ResL.nil | (apply ResL.cons; first | exact .tmp _ _ rfl | (apply res_n ttok; (iterate 6 exact rfl)) | (apply res_1 ttok; (iterate 5 exact rfl))))); (iterate 4 exact rfl))
  all_goals rfl
theorem cl_pn07 [Known] : AP Tryd.prog 73 [.str [48, 55, 46, 49]] (.tup [.agg (eC e71), .bool false]) [] := by
  refine AP.ofA ?_
  refine AC_of Tryd.func73 rfl Tryd.ntmps73 rfl rfl ?_
  repeat' (first | (apply AL_callPw (cl_pu07); kernel_rfl; (iterate 4 exact rfl)) | (apply AL_callPw (cl_pu1); kernel_rfl; (iterate 4 exact rfl)) | (apply AL_callPw (av_ixb _ _); kernel_rfl; (iterate 4 exact rfl)) | (apply AL_callPw (av_eRight e71); kernel_rfl; (iterate 4 exact rfl)) | (apply AL_inZ Tryd.func107 Tryd.ntmps107; exact rfl; exact rfl; kernel_rfl; (iterate 6 exact rfl)) | (apply AL_inZ Tryd.func129 Tryd.ntmps129; exact rfl; exact rfl; kernel_rfl; (iterate 6 exact rfl)) | (apply AL_inZ Tryd.func140 Tryd.ntmps140; exact rfl; exact rfl; kernel_rfl; (iterate 6 exact rfl)) | (apply AL_inZ Tryd.func70 Tryd.ntmps70; exact rfl; exact rfl; kernel_rfl; (iterate 6 exact rfl)) | (apply AL_inZ Tryd.func105 Tryd.ntmps105; exact rfl; exact rfl; kernel_rfl; (iterate 6 exact rfl)) | (apply AL_inZ Tryd.func124 Tryd.ntmps124; exact rfl; exact rfl; kernel_rfl; (iterate 6 exact rfl)) | (apply in_ret; (repeat (first | exact ResL.nil | (apply ResL.cons; first | exact .tmp _ _ rfl | (apply res_n ttok; (iterate 6 exact rfl)) | (apply res_1 ttok; (iterate 5 exact rfl))))); exact rfl) | (apply AL_ifnil; exact rfl; kernel_rfl; exact rfl; exact rfl) | (apply AL_idxs ttok; (iterate 5 exact rfl); (first | exact Int.natCast_nonneg _ | decide +kernel); exact rfl) | (apply AL_sliceS ttok; (iterate 4 exact rfl); (first | exact .dft _ | exact .lit _ _ _ _ rfl (by decide +kernel)); (first | exact .dft _ | exact .lit _ _ _ _ rfl (by decide +kernel)); decide +kernel; decide +kernel; exact rfl) | (apply AL_move; exact rfl; exact rfl) | (apply AL_assign; exact rfl; exact rfl) | (apply AL_bin; (iterate 5 exact rfl)) | (apply AL_loadn ttok; (iterate 7 exact rfl)) | (apply AL_store ttok; (iterate 8 exact rfl)) | (apply AL_convT ttok; (iterate 5 exact rfl)) | (apply AL_extract; (iterate 3 exact rfl)) | refine AL_nil ?_ | (apply AL_guardT; (iterate 3 exact rfl); (first | with_reducible assumption | decide +kernel)) | (apply AL_guardFt; (iterate 3 exact rfl); (first | with_reducible assumption | decide +kernel)) | (apply AL_pickT; exact rfl; (first | with_reducible assumption | decide +kernel); exact rfl; exact rfl) | (apply AL_pickF; exact rfl; (first | with_reducible assumption | decide +kernel); exact rfl; exact rfl) | refine AW_region ?_ | refine AW_seq' ?_ | (apply AW_condA; exact rfl; (first | with_reducible assumption | decide +kernel)) | (apply AW_condB; exact rfl; (first | with_reducible assumption | decide +kernel)) | refine then_norm ?_ | refine AW_block ?_ | refine AW_ret ?_ | (apply AL_lens ttok; (iterate 4 exact rfl)) | (apply AL_build ttok; (iterate 6 exact rfl)) | (apply AL_allocZ ttok; (iterate 4 exact rfl)) | (apply AL_str; (iterate 5 exact rfl)) | (apply AW_drawE 10 hmix; (decide +kernel); (kernel_rfl); (kernel_rfl); (kernel_rfl); exact rfl; exact rfl) | (apply AW_drawE 27 hmix; (decide +kernel); (kernel_rfl); (kernel_rfl); (kernel_rfl); exact rfl; exact rfl) | (apply AE_consZ; (iterate 4 exact rfl)) | exact AE.nil _ _ _ _ | (apply AEk_puT; exact rfl) | (apply AEk_ef; exact rfl) | (apply AOt_mk; exact rfl; exact rfl; (decide +kernel); exact rfl) | (apply AO_puT; exact rfl) | (apply AO_ef; exact rfl) | exact AO.nil _ _ _ | (apply AOs_skip; (decide +kernel)) | (apply AOs_goZ; (iterate 3 exact rfl)) | exact AOs.nil | exact qY_ok rfl rfl | exact qY_efn rfl)
  all_goals (apply endQ []; (repeat (first | exact ResL.nil | (apply ResL.cons; first | exact .tmp _ _ rfl | (apply res_n ttok; (iterate 6 exact rfl)) | (apply res_1 ttok; (iterate 5 exact rfl))))); (iterate 4 exact rfl))
  all_goals rfl
theorem cl_parse07 [Known] : AP Tryd.prog 37 [.str [105, 112, 110, 58, 48, 55, 46, 49]] (.tup [.agg (eC eidZ), .int .i64 3]) [] := by
  refine AP.ofA ?_
  refine AC_of Tryd.func37 rfl Tryd.ntmps37 rfl rfl ?_
  repeat' (first | (apply AL_callPw (cl_pn07); kernel_rfl; (iterate 4 exact rfl)) | (apply AL_inZ Tryd.func72 Tryd.ntmps72; exact rfl; exact rfl; kernel_rfl; (iterate 6 exact rfl)) | (apply AL_inZ Tryd.func106 Tryd.ntmps106; exact rfl; exact rfl; kernel_rfl; (iterate 6 exact rfl)) | (apply AL_inZ Tryd.func128 Tryd.ntmps128; exact rfl; exact rfl; kernel_rfl; (iterate 6 exact rfl)) | (apply in_ret; (repeat (first | exact ResL.nil | (apply ResL.cons; first | exact .tmp _ _ rfl | (apply res_n ttok; (iterate 6 exact rfl)) | (apply res_1 ttok; (iterate 5 exact rfl))))); exact rfl) | (apply AL_sliceS ttok; (iterate 4 exact rfl); (first | exact .dft _ | exact .lit _ _ _ _ rfl (by decide +kernel)); (first | exact .dft _ | exact .lit _ _ _ _ rfl (by decide +kernel)); decide +kernel; decide +kernel; exact rfl) | (apply AL_move; exact rfl; exact rfl) | (apply AL_assign; exact rfl; exact rfl) | (apply AL_bin; (iterate 5 exact rfl)) | (apply AL_store ttok; (iterate 8 exact rfl)) | (apply AL_not; exact rfl; exact rfl) | (apply AL_extract; (iterate 3 exact rfl)) | refine AL_nil ?_ | (apply AL_guardT; (iterate 3 exact rfl); (first | with_reducible assumption | decide +kernel)) | (apply AL_pickT; exact rfl; (first | with_reducible assumption | decide +kernel); exact rfl; exact rfl) | refine AW_region ?_ | refine AW_seq' ?_ | (apply AW_condA; exact rfl; (first | with_reducible assumption | decide +kernel)) | (apply AW_condB; exact rfl; (first | with_reducible assumption | decide +kernel)) | refine then_norm ?_ | refine AW_ret ?_ | refine then_ret ?_ | (apply AL_lens ttok; (iterate 4 exact rfl)) | (apply AL_build ttok; (iterate 6 exact rfl)) | (apply AL_allocZ ttok; (iterate 4 exact rfl)) | (apply AL_str; (iterate 5 exact rfl)) | refine AW_skip ?_)
  all_goals (apply endQ []; (repeat (first | exact ResL.nil | (apply ResL.cons; first | exact .tmp _ _ rfl | (apply res_n ttok; (iterate 6 exact rfl)) | (apply res_1 ttok; (iterate 5 exact rfl))))); (iterate 4 exact rfl))
  all_goals rfl
theorem cl_parseNone [Known] : AP Tryd.prog 37 [.str [100, 116, 110, 58, 110, 111, 110, 101]] (.tup [.agg (eC eidZ), .int .i64 0]) [] := by
  refine AP.ofA ?_
  refine AC_of Tryd.func37 rfl Tryd.ntmps37 rfl rfl ?_
  repeat' (first | (apply AL_move; exact rfl; exact rfl) | (apply AL_assign; exact rfl; exact rfl) | (apply AL_store ttok; (iterate 8 exact rfl)) | refine AL_nil ?_ | refine AW_region ?_ | refine AW_seq' ?_ | (apply AW_condA; exact rfl; (first | with_reducible assumption | decide +kernel)) | refine then_norm ?_ | refine AW_ret ?_ | refine then_ret ?_ | (apply AL_build ttok; (iterate 6 exact rfl)) | (apply AL_allocZ ttok; (iterate 4 exact rfl)) | (apply AL_str; (iterate 5 exact rfl)))
  all_goals (apply endQ []; (repeat (first | exact ResL.nil | (apply ResL.cons; first | exact .tmp _ _ rfl | (apply res_n ttok; (iterate 6 exact rfl)) | (apply res_1 ttok; (iterate 5 exact rfl))))); (iterate 4 exact rfl))
  all_goals rfl
theorem cl_textLoft [Known] : AP Tryd.prog 36 [.agg (eC eLoft)] (.tup [.str [100, 116, 110, 58, 47, 47, 108, 111, 102, 116, 47, 105, 110], .int .i64 0]) [] := by
  refine AP.ofA ?_
  refine AC_of Tryd.func36 rfl Tryd.ntmps36 rfl rfl ?_
  repeat' (first | (apply AL_callPw (av_eRight eLoft); kernel_rfl; (iterate 4 exact rfl)) | (apply AL_cat; exact rfl; exact rfl; decide; exact rfl) | (apply AL_inZ Tryd.func71 Tryd.ntmps71; exact rfl; exact rfl; kernel_rfl; (iterate 6 exact rfl)) | (apply in_ret; (repeat (first | exact ResL.nil | (apply ResL.cons; first | exact .tmp _ _ rfl | (apply res_n ttok; (iterate 6 exact rfl)) | (apply res_1 ttok; (iterate 5 exact rfl))))); exact rfl) | (apply AL_assign; exact rfl; exact rfl) | (apply AL_load1 ttok; (iterate 6 exact rfl)) | (apply AL_loadn ttok; (iterate 7 exact rfl)) | (apply AL_fieldAddr ttok; (iterate 7 exact rfl)) | (apply AL_boxZ; (iterate 5 exact rfl)) | (apply AL_not; exact rfl; exact rfl) | refine AL_nil ?_ | refine AW_region ?_ | refine AW_seq' ?_ | (apply AW_condB; exact rfl; (first | with_reducible assumption | decide +kernel)) | refine then_norm ?_ | refine AW_block ?_ | refine AW_ret ?_ | (apply AL_build ttok; (iterate 6 exact rfl)) | (apply AL_eqS ttok; (iterate 4 exact rfl); (kernel_rfl); (kernel_rfl); (iterate 3 exact rfl)) | refine AW_skip ?_)
  all_goals (apply endQ []; (repeat (first | exact ResL.nil | (apply ResL.cons; first | exact .tmp _ _ rfl | (apply res_n ttok; (iterate 6 exact rfl)) | (apply res_1 ttok; (iterate 5 exact rfl))))); (iterate 4 exact rfl))
  all_goals rfl
end Go.Proofs.YtnihobjehelagaaDoor
end
/- Which name is less: an order. -/
section
open Go.RowKit Go.Pl Go.Av
namespace Go.Proofs.YtnihobjehelagaaDoor
set_option linter.unusedVariables false
set_option linter.unusedSimpArgs false
/-! texts -/
theorem bl_irr : ∀ x : List UInt8, Op.bytesLess x x = false
  | [] => rfl
  | a :: x => by simp [Op.bytesLess, bl_irr x]
theorem bl_tri : ∀ x y : List UInt8, x ≠ y → (Op.bytesLess x y = true ∧ Op.bytesLess y x = false) ∨ (Op.bytesLess x y = false ∧ Op.bytesLess y x = true)
  | [], [], h => (h rfl).elim
  | [], b :: y, _ => .inl ⟨rfl, rfl⟩
  | a :: x, [], _ => .inr ⟨rfl, rfl⟩
  | a :: x, b :: y, h => by
    simp only [Op.bytesLess]
    by_cases hab : a = b
    · subst hab
      have := bl_tri x y (fun e => h (by rw [e]))
      simpa using this
    · have h1 : (a == b) = false := by simpa using hab
      have h2 : (b == a) = false := by simpa using fun e : b = a => hab e.symm
      simp only [h1, h2, Bool.false_and, Bool.or_false]
      by_cases hlt : a < b
      · exact .inl ⟨by simpa using hlt, by simpa using UInt8.le_of_lt hlt⟩
      · exact .inr ⟨by simpa using hlt, by
          rw [UInt8.not_lt] at hlt
          simpa using UInt8.lt_of_le_of_ne hlt (fun e => hab e.symm)⟩
theorem bl_trans : ∀ x y z : List UInt8, Op.bytesLess x y = true → Op.bytesLess y z = true → Op.bytesLess x z = true
  | _, [], _, h, _ => by simp [Op.bytesLess] at h
  | _, _ :: _, [], _, h => by simp [Op.bytesLess] at h
  | [], _ :: _, _ :: _, _, _ => rfl
  | a :: x, b :: y, c :: z, h1, h2 => by
    simp only [Op.bytesLess, Bool.or_eq_true, Bool.and_eq_true, decide_eq_true_eq, beq_iff_eq] at h1 h2 ⊢
    rcases h1 with h1 | ⟨rfl, h1⟩
    · rcases h2 with h2 | ⟨rfl, h2⟩
      · exact .inl (UInt8.lt_trans h1 h2)
      · exact .inl h1
    · rcases h2 with h2 | ⟨rfl, h2⟩
      · exact .inl h2
      · exact .inr ⟨rfl, bl_trans x y z h1 h2⟩
/-- a strict order on keys -/
structure Key where
  t : Nat
  q : Nat
  c : Int
  n : Nat
  s : Nat
  h : List UInt8
  d : List UInt8
def keyOf (x : EidV) (t q : Nat) : Key := ⟨t, q, classN x, x.n, x.s, x.h, x.d⟩
/-- less, said plainly -/
def KLt (a b : Key) : Prop :=
  a.t < b.t ∨ (a.t = b.t ∧ (a.q < b.q ∨ (a.q = b.q ∧ (a.c < b.c ∨ (a.c = b.c ∧ (a.n < b.n ∨ (a.n = b.n ∧ (a.s < b.s ∨ (a.s = b.s ∧ ((a.h ≠ b.h ∧ Op.bytesLess a.h b.h = true) ∨ (a.h = b.h ∧ Op.bytesLess a.d b.d = true)))))))))))
theorem less_iff (a b : EidV) : lessE a b = true ↔ KLt (keyOf a 0 0) (keyOf b 0 0) := by
  unfold KLt keyOf lessE
  dsimp only
  by_cases h3 : classN a = classN b
  · by_cases h4 : a.n = b.n
    · by_cases h5 : a.s = b.s
      · by_cases h6 : a.h = b.h
        · simp [h3, h4, h5, h6]
        · simp [h3, h4, h5, h6]
      · have : ¬ (a.s : Int) = b.s := by omega
        simp [h3, h4, h5, this]
    · have : ¬ (a.n : Int) = b.n := by omega
      simp [h3, h4, this]
  · simp [h3]
theorem klt_irr (a : Key) : ¬ KLt a a := by
  unfold KLt
  simp [bl_irr]
theorem klt_asym {a b : Key} (h : KLt a b) : ¬ KLt b a := by
  unfold KLt at h ⊢
  intro k
  rcases h with h | ⟨h1, h | ⟨h2, h | ⟨h3, h | ⟨h4, h | ⟨h5, ⟨h6, h⟩ | ⟨h6, h⟩⟩⟩⟩⟩⟩
  · omega
  · omega
  · omega
  · omega
  · omega
  · rcases bl_tri _ _ h6 with ⟨_, e⟩ | ⟨e, _⟩
    · simp only [h1, h2, h3, h4, h5] at k
      simp only [Nat.lt_irrefl, Int.lt_irrefl, false_or, true_and] at k
      rcases k with ⟨_, k⟩ | ⟨k, _⟩
      · rw [e] at k; cases k
      · exact h6 k.symm
    · rw [e] at h; cases h
  · have hd : a.d ≠ b.d := fun e => by rw [e, bl_irr] at h; cases h
    simp only [h1, h2, h3, h4, h5, h6] at k
    simp only [Nat.lt_irrefl, Int.lt_irrefl, false_or, true_and, ne_eq, not_true_eq_false, false_and] at k
    rcases bl_tri _ _ hd with ⟨_, e⟩ | ⟨e, _⟩
    · rw [e] at k; cases k
    · rw [e] at h; cases h
theorem klt_tri (a b : Key) (h : a ≠ b) : KLt a b ∨ KLt b a := by
  unfold KLt
  by_cases h1 : a.t = b.t
  · by_cases h2 : a.q = b.q
    · by_cases h3 : a.c = b.c
      · by_cases h4 : a.n = b.n
        · by_cases h5 : a.s = b.s
          · by_cases h6 : a.h = b.h
            · have hd : a.d ≠ b.d := fun h7 => h (by cases a; cases b; simp_all)
              rcases bl_tri _ _ hd with ⟨e, _⟩ | ⟨_, e⟩ <;> simp [h1, h2, h3, h4, h5, h6, e]
            · have h6' : ¬ b.h = a.h := fun e => h6 e.symm
              rcases bl_tri _ _ h6 with ⟨e, _⟩ | ⟨_, e⟩ <;> simp [h1, h2, h3, h4, h5, h6, h6', e]
          · omega
        · omega
      · omega
    · omega
  · omega
theorem klt_trans {a b c : Key} (h : KLt a b) (k : KLt b c) : KLt a c := by
  unfold KLt at *
  rcases h with h | ⟨h1, h | ⟨h2, h | ⟨h3, h | ⟨h4, h | ⟨h5, ⟨h6, h⟩ | ⟨h6, h⟩⟩⟩⟩⟩⟩
  · omega
  · omega
  · omega
  · omega
  · omega
  · rcases k with k | ⟨k1, k | ⟨k2, k | ⟨k3, k | ⟨k4, k | ⟨k5, ⟨k6, k⟩ | ⟨k6, k⟩⟩⟩⟩⟩⟩
    · omega
    · omega
    · omega
    · omega
    · omega
    · have e := bl_trans _ _ _ h k
      have hne : a.h ≠ c.h := fun e2 => by rw [e2, bl_irr] at e; cases e
      exact .inr ⟨h1.trans k1, .inr ⟨h2.trans k2, .inr ⟨h3.trans k3, .inr ⟨h4.trans k4, .inr ⟨h5.trans k5, .inl ⟨hne, e⟩⟩⟩⟩⟩⟩
    · exact .inr ⟨h1.trans k1, .inr ⟨h2.trans k2, .inr ⟨h3.trans k3, .inr ⟨h4.trans k4, .inr ⟨h5.trans k5, .inl (by rw [← k6]; exact ⟨h6, h⟩)⟩⟩⟩⟩⟩
  · rcases k with k | ⟨k1, k | ⟨k2, k | ⟨k3, k | ⟨k4, k | ⟨k5, ⟨k6, k⟩ | ⟨k6, k⟩⟩⟩⟩⟩⟩
    · omega
    · omega
    · omega
    · omega
    · omega
    · exact .inr ⟨h1.trans k1, .inr ⟨h2.trans k2, .inr ⟨h3.trans k3, .inr ⟨h4.trans k4, .inr ⟨h5.trans k5, .inl (by rw [h6]; exact ⟨k6, k⟩)⟩⟩⟩⟩⟩
    · exact .inr ⟨h1.trans k1, .inr ⟨h2.trans k2, .inr ⟨h3.trans k3, .inr ⟨h4.trans k4, .inr ⟨h5.trans k5, .inr ⟨h6.trans k6, bl_trans _ _ _ h k⟩⟩⟩⟩⟩⟩
/-- the cells are the key's -/
theorem key_inj {a b : EidV} {t q t' q' : Nat} (h : keyOf a t q = keyOf b t' q') : a = b ∧ t = t' ∧ q = q' := by
  obtain ⟨i, n, s, hh, d⟩ := a
  obtain ⟨i', n', s', hh', d'⟩ := b
  simp only [keyOf, Key.mk.injEq] at h
  obtain ⟨h1, h2, h3, rfl, rfl, rfl, rfl⟩ := h
  refine ⟨?_, h1, h2⟩
  have : i = i' := by
    cases i <;> cases i' <;> simp [classN, isZ] at h3 ⊢
    · split at h3 <;> cases h3
    · split at h3 <;> cases h3
  rw [this]
end Go.Proofs.YtnihobjehelagaaDoor
end
/- Package eid: a name's item. -/
section
open Go.RowKit Go.Pl Go.Av
namespace Go.Proofs.YtnihobjehelagaaDoor
set_option linter.unusedVariables false
set_option linter.unusedSimpArgs false
set_option maxHeartbeats 4000000
/-- a name's path -/
def pathE (x : EidV) : List UInt8 := [47, 47] ++ x.h ++ [47] ++ x.d
/-- a name's item -/
def itemE (x : EidV) : It :=
  if isZ x then .mk 4 0 [] [.mk 0 1 [] [], .mk 0 0 [] []]
  else if x.i then .mk 4 0 [] [.mk 0 2 [] [], .mk 4 0 [] [.mk 0 x.n [] [], .mk 0 x.s [] []]]
  else .mk 4 0 [] [.mk 0 1 [] [], .mk 3 0 (pathE x) []]
theorem eRight_num {x : EidV} (h : eRight x = true) (hz : isZ x = false) (hi : x.i = true) : x.n ≤ 4294967295 ∧ x.s ≤ 4294967295 ∧ x.h = [] ∧ x.d = [] ∧ 1 ≤ x.n := by
  rw [eRight_I hz hi] at h
  simp only [Bool.and_eq_true, decide_eq_true_eq, beq_iff_eq] at h
  obtain ⟨⟨⟨⟨_, _, _, h1, h2, _⟩, h3⟩, h4⟩, h5⟩ := h
  exact ⟨by omega, by omega, h1, h2, by omega⟩
theorem eRight_txt {x : EidV} (h : eRight x = true) (hz : isZ x = false) (hi : x.i = false) : x.n = 0 ∧ x.s = 0 ∧ 1 ≤ x.h.length ∧ x.h.length ≤ 16 ∧ x.d.length ≤ 24 ∧ x.h.all (okB 45) = true ∧ x.d.all (okB 47) = true := by
  rw [eRight_T hz hi] at h
  simp only [Bool.and_eq_true, decide_eq_true_eq, beq_iff_eq] at h
  obtain ⟨⟨⟨⟨⟨⟨_, h1, h2, _⟩, h3⟩, h4⟩, h5⟩, h6⟩, h7⟩ := h
  exact ⟨by omega, by omega, by omega, by omega, by omega, h6, h7⟩
theorem av_path [Known] (x : EidV) (h1 : x.h.length ≤ 16) (h2 : x.d.length ≤ 24) : AP Tryd.prog 71 [.agg (eC x)] (.str (pathE x)) [] := by
  have l1 : [(47 : UInt8), 47].length + x.h.length ≤ maxLen := by simp; unfold maxLen; omega
  have l2 : ([(47 : UInt8), 47] ++ x.h).length + [(47 : UInt8)].length ≤ maxLen := by simp; unfold maxLen; omega
  have l3 : ([(47 : UInt8), 47] ++ x.h ++ [47]).length + x.d.length ≤ maxLen := by simp; unfold maxLen; omega
  refine AP.ofA ?_
  refine AC_of Tryd.func71 rfl Tryd.ntmps71 rfl rfl ?_
  repeat' (first | (apply AL_cat; exact rfl; exact rfl; (first | exact l1 | exact l2 | exact l3); exact rfl) | (apply AL_assign; exact rfl; exact rfl) | (apply AL_load1 ttok; (iterate 6 exact rfl)) | (apply AL_fieldAddr ttok; (iterate 7 exact rfl)) | (apply AL_boxZ; (iterate 5 exact rfl)) | refine AL_nil ?_ | refine AW_region ?_ | refine AW_seq' ?_ | refine then_norm ?_ | refine AW_ret ?_)
  all_goals (apply endQ []; (repeat (first | exact ResL.nil | (apply ResL.cons; first | exact .tmp _ _ rfl | (apply res_n ttok; (iterate 6 exact rfl)) | (apply res_1 ttok; (iterate 5 exact rfl))))); (iterate 4 exact rfl))
  all_goals rfl
theorem av_eWrite [Known] (x : EidV) : AP Tryd.prog 43 [.agg (eC x)] (.tup [itD (if eRight x then itemE x else .mk 0 0 [] []), .int .i64 (if eRight x then 0 else 3)]) [] := by
  have hR := av_eRight x
  cases hr : eRight x with
  | false =>
    rw [hr] at hR
    refine AP.ofA ?_
    refine AC_of Tryd.func43 rfl Tryd.ntmps43 rfl rfl ?_
    repeat' (first | (apply AL_callPw (hR); kernel_rfl; (iterate 4 exact rfl)) | (apply AL_assign; exact rfl; exact rfl) | (apply AL_loadn ttok; (iterate 7 exact rfl)) | (apply AL_boxZ; (iterate 5 exact rfl)) | (apply AL_store ttok; (iterate 8 exact rfl)) | (apply AL_not; exact rfl; exact rfl) | refine AL_nil ?_ | refine AW_region ?_ | refine AW_seq' ?_ | (apply AW_condA; exact rfl; (first | with_reducible assumption | decide +kernel)) | refine then_norm ?_ | refine AW_block ?_ | refine AW_ret ?_ | refine then_ret ?_ | refine blk_ret ?_ | (apply AL_build ttok; (iterate 6 exact rfl)) | (apply AL_allocZ ttok; (iterate 4 exact rfl)))
    all_goals (apply endQ []; (repeat (first | exact ResL.nil | (apply ResL.cons; first | exact .tmp _ _ rfl | (apply res_n ttok; (iterate 6 exact rfl)) | (apply res_1 ttok; (iterate 5 exact rfl))))); (iterate 4 exact rfl))
    all_goals rfl
  | true =>
    rw [hr] at hR
    rw [if_pos rfl, if_pos rfl]
    unfold itemE
    cases hz : isZ x with
    | true =>
      rw [if_pos rfl]
      have n1 := av_num 1
      have n0 := av_num 0
      have hL := av_list [.mk 0 1 [] [], .mk 0 0 [] []] (by decide) (by simp [wfI, wfs])
      replace n1 : AP Tryd.prog _ [.int .u64 1] (.agg [.int .i64 0, .int .u64 1, .sl .ext [], .sl .ext []]) [] := n1
      replace n0 : AP Tryd.prog _ [.int .u64 0] (.agg [.int .i64 0, .int .u64 0, .sl .ext [], .sl .ext []]) [] := n0
      unfold isZ at hz
      refine AP.ofA ?_
      refine AC_of Tryd.func43 rfl Tryd.ntmps43 rfl rfl ?_
      repeat' (first | (apply AL_callPw (hR); kernel_rfl; (iterate 4 exact rfl)) | (apply AL_callPw (n1); kernel_rfl; (iterate 4 exact rfl)) | (apply AL_callPw (n0); kernel_rfl; (iterate 4 exact rfl)) | (apply AL_callPw (hL); kernel_rfl; (iterate 4 exact rfl)) | (apply AL_assign; exact rfl; exact rfl) | (apply AL_loadn ttok; (iterate 7 exact rfl)) | (apply AL_boxZ; (iterate 5 exact rfl)) | (apply AL_store ttok; (iterate 8 exact rfl)) | (apply AL_not; exact rfl; exact rfl) | refine AL_nil ?_ | refine AW_region ?_ | refine AW_seq' ?_ | (apply AW_condA; exact rfl; (first | with_reducible assumption | decide +kernel)) | (apply AW_condB; exact rfl; (first | with_reducible assumption | decide +kernel)) | refine then_norm ?_ | refine AW_block ?_ | refine AW_ret ?_ | refine then_ret ?_ | refine blk_ret ?_ | (apply AL_build ttok; (iterate 6 exact rfl)) | (apply AL_allocZ ttok; (iterate 4 exact rfl)) | (apply AL_bsZ ttok; (iterate 12 exact rfl)) | (apply AL_eqS ttok; (iterate 4 exact rfl); (kernel_rfl); (kernel_rfl); (iterate 3 exact rfl)))
      all_goals (apply endQ []; (repeat (first | exact ResL.nil | (apply ResL.cons; first | exact .tmp _ _ rfl | (apply res_n ttok; (iterate 6 exact rfl)) | (apply res_1 ttok; (iterate 5 exact rfl))))); (iterate 4 exact rfl))
      all_goals rfl
    | false =>
      rw [if_neg (by simp)]
      cases hi : x.i with
      | true =>
        obtain ⟨b1, b2, _⟩ := eRight_num hr hz hi
        rw [if_pos rfl]
        have n2 := av_num 2
        have nn := av_num x.n
        have ns := av_num x.s
        have hL1 := av_list [.mk 0 x.n [] [], .mk 0 x.s [] []] (by simp) (by simp [wfI, wfs]; omega)
        have hL := av_list [.mk 0 2 [] [], .mk 4 0 [] [.mk 0 x.n [] [], .mk 0 x.s [] []]] (by simp) (by simp [wfI, wfs]; omega)
        replace n2 : AP Tryd.prog _ [.int .u64 2] (.agg [.int .i64 0, .int .u64 2, .sl .ext [], .sl .ext []]) [] := n2
        replace nn : AP Tryd.prog _ [.int .u64 (x.n : Int)] (.agg [.int .i64 0, .int .u64 (x.n : Int), .sl .ext [], .sl .ext []]) [] := nn
        replace ns : AP Tryd.prog _ [.int .u64 (x.s : Int)] (.agg [.int .i64 0, .int .u64 (x.s : Int), .sl .ext [], .sl .ext []]) [] := ns
        replace hL1 : AP Tryd.prog _ _ (.agg [.int .i64 4, .int .u64 0, .sl .ext [], .sl .ext [.agg [.int .i64 0, .int .u64 (x.n : Int), .sl [], .sl []], .agg [.int .i64 0, .int .u64 (x.s : Int), .sl [], .sl []]]]) [] := hL1
        unfold isZ at hz
        refine AP.ofA ?_
        refine AC_of Tryd.func43 rfl Tryd.ntmps43 rfl rfl ?_
        repeat' (first | (apply AL_callPw (hR); kernel_rfl; (iterate 4 exact rfl)) | (apply AL_callPw (n2); kernel_rfl; (iterate 4 exact rfl)) | (apply AL_callPw (nn); kernel_rfl; (iterate 4 exact rfl)) | (apply AL_callPw (ns); kernel_rfl; (iterate 4 exact rfl)) | (apply AL_callPw (hL1); kernel_rfl; (iterate 4 exact rfl)) | (apply AL_callPw (hL); kernel_rfl; (iterate 4 exact rfl)) | (apply AL_assign; exact rfl; exact rfl) | (apply AL_load1 ttok; (iterate 6 exact rfl)) | (apply AL_loadn ttok; (iterate 7 exact rfl)) | (apply AL_fieldAddr ttok; (iterate 7 exact rfl)) | (apply AL_boxZ; (iterate 5 exact rfl)) | (apply AL_store ttok; (iterate 8 exact rfl)) | (apply AL_not; exact rfl; exact rfl) | refine AL_nil ?_ | refine AW_region ?_ | refine AW_seq' ?_ | (apply AW_condA; exact rfl; (first | with_reducible assumption | decide +kernel)) | (apply AW_condB; exact rfl; (first | with_reducible assumption | decide +kernel)) | refine then_norm ?_ | refine AW_block ?_ | refine AW_ret ?_ | refine then_ret ?_ | refine blk_ret ?_ | (apply AL_build ttok; (iterate 6 exact rfl)) | (apply AL_allocZ ttok; (iterate 4 exact rfl)) | (apply AL_bsZ ttok; (iterate 12 exact rfl)) | (apply AL_eqS ttok; (iterate 4 exact rfl); (kernel_rfl); (kernel_rfl); (iterate 3 exact rfl)) | (apply AW_drawE 6 hmix; (decide +kernel); (kernel_rfl); (kernel_rfl); (kernel_rfl); exact rfl; exact rfl) | (apply AE_consZ; (iterate 4 exact rfl)) | exact AE.nil _ _ _ _ | (apply AEk_puT; exact rfl) | (apply AOt_mk; exact rfl; exact rfl; (decide +kernel); exact rfl) | (apply AO_puT; exact rfl) | exact AO.nil _ _ _ | (apply AOs_skip; (decide +kernel)) | exact AOs.nil | exact qY_ok rfl rfl)
        all_goals (apply endQ []; (repeat (first | exact ResL.nil | (apply ResL.cons; first | exact .tmp _ _ rfl | (apply res_n ttok; (iterate 6 exact rfl)) | (apply res_1 ttok; (iterate 5 exact rfl))))); (iterate 4 exact rfl))
        all_goals rfl
      | false =>
        obtain ⟨_, _, _, b1, b2, _⟩ := eRight_txt hr hz hi
        rw [if_neg (by simp)]
        have n1 := av_num 1
        have hP := av_path x b1 b2
        have hT := av_text (pathE x)
        have hpl : (pathE x).length ≤ 1099511627776 := by unfold pathE; simp; omega
        generalize pathE x = p at *
        have hL := av_list [.mk 0 1 [] [], .mk 3 0 p []] (by simp) (by simp [wfI, wfs]; omega)
        replace n1 : AP Tryd.prog _ [.int .u64 1] (.agg [.int .i64 0, .int .u64 1, .sl .ext [], .sl .ext []]) [] := n1
        replace hT : AP Tryd.prog _ [.str p] (.agg [.int .i64 3, .int .u64 0, byE p, .sl .ext []]) [] := hT
        unfold isZ at hz
        refine AP.ofA ?_
        refine AC_of Tryd.func43 rfl Tryd.ntmps43 rfl rfl ?_
        repeat' (first | (apply AL_callPw (hR); kernel_rfl; (iterate 4 exact rfl)) | (apply AL_callPw (n1); kernel_rfl; (iterate 4 exact rfl)) | (apply AL_callPw (hP); kernel_rfl; (iterate 4 exact rfl)) | (apply AL_callPw (hT); kernel_rfl; (iterate 4 exact rfl)) | (apply AL_callPw (hL); kernel_rfl; (iterate 4 exact rfl)) | (apply AL_assign; exact rfl; exact rfl) | (apply AL_load1 ttok; (iterate 6 exact rfl)) | (apply AL_loadn ttok; (iterate 7 exact rfl)) | (apply AL_fieldAddr ttok; (iterate 7 exact rfl)) | (apply AL_boxZ; (iterate 5 exact rfl)) | (apply AL_store ttok; (iterate 8 exact rfl)) | (apply AL_not; exact rfl; exact rfl) | refine AL_nil ?_ | refine AW_region ?_ | refine AW_seq' ?_ | (apply AW_condB; exact rfl; (first | with_reducible assumption | decide +kernel)) | refine then_norm ?_ | refine AW_block ?_ | refine AW_ret ?_ | (apply AL_build ttok; (iterate 6 exact rfl)) | (apply AL_allocZ ttok; (iterate 4 exact rfl)) | (apply AL_bsZ ttok; (iterate 12 exact rfl)) | (apply AL_eqS ttok; (iterate 4 exact rfl); (kernel_rfl); (kernel_rfl); (iterate 3 exact rfl)) | (apply AW_drawE 2 hmix; (decide +kernel); (kernel_rfl); (kernel_rfl); (kernel_rfl); exact rfl; exact rfl) | (apply AE_consZ; (iterate 4 exact rfl)) | exact AE.nil _ _ _ _ | (apply AEk_puT; exact rfl) | (apply AOt_mk; exact rfl; exact rfl; (decide +kernel); exact rfl) | (apply AO_puT; exact rfl) | exact AO.nil _ _ _ | (apply AOs_skip; (decide +kernel)) | exact AOs.nil | exact qY_ok rfl rfl | refine AW_skip ?_)
        all_goals (apply endQ []; (repeat (first | exact ResL.nil | (apply ResL.cons; first | exact .tmp _ _ rfl | (apply res_n ttok; (iterate 6 exact rfl)) | (apply res_1 ttok; (iterate 5 exact rfl))))); (iterate 4 exact rfl))
        all_goals rfl
end Go.Proofs.YtnihobjehelagaaDoor
end
/- Package eid: what must come of the law's fixed calls; the order of names. -/
section
open Go.RowKit Go.Pl Go.Av
namespace Go.Proofs.YtnihobjehelagaaDoor
set_option linter.unusedVariables false
set_option linter.unusedSimpArgs false
set_option maxHeartbeats 4000000
theorem av_aliveE [Known] : AP Tryd.prog 34 [] (.bool true) [] := by
  have h1 := cl_parse71
  have h2 := cl_textLoft
  have h3 := cl_parse07
  have h4 := cl_parseNone
  have h5 := av_eWrite e71
  have h6 := av_less eidZ e71
  rw [show lessE eidZ e71 = true by decide] at h6
  replace h1 : AP Tryd.prog _ [.str [105, 112, 110, 58, 55, 46, 49]] (.tup [.agg [.bool true, .int .u64 7, .int .u64 1, .str [], .str []], .int .i64 0]) [] := h1
  replace h3 : AP Tryd.prog _ [.str [105, 112, 110, 58, 48, 55, 46, 49]] (.tup [.agg [.bool false, .int .u64 0, .int .u64 0, .str [], .str []], .int .i64 3]) [] := h3
  replace h4 : AP Tryd.prog _ [.str [100, 116, 110, 58, 110, 111, 110, 101]] (.tup [.agg [.bool false, .int .u64 0, .int .u64 0, .str [], .str []], .int .i64 0]) [] := h4
  rw [show eRight e71 = true by decide, if_pos rfl, if_pos rfl] at h5
  replace h5 : AP Tryd.prog _ [.agg [.bool true, .int .u64 7, .int .u64 1, .str [], .str []]] (.tup [.agg [.int .i64 4, .int .u64 0, .sl .ext [], .sl .ext [.agg [.int .i64 0, .int .u64 2, .sl [], .sl []], .agg [.int .i64 4, .int .u64 0, .sl [], .sl [.agg [.int .i64 0, .int .u64 7, .sl [], .sl []], .agg [.int .i64 0, .int .u64 1, .sl [], .sl []]]]]], .int .i64 0]) [] := h5
  replace h6 : AP Tryd.prog _ [.agg [.bool false, .int .u64 0, .int .u64 0, .str [], .str []], .agg [.bool true, .int .u64 7, .int .u64 1, .str [], .str []]] (.bool true) [] := h6
  refine AP.ofA ?_
  refine AC_of Tryd.func34 rfl Tryd.ntmps34 rfl rfl ?_
  repeat' (first | (apply AL_callPw (h1); kernel_rfl; (iterate 4 exact rfl)) | (apply AL_callPw (h2); kernel_rfl; (iterate 4 exact rfl)) | (apply AL_callPw (h3); kernel_rfl; (iterate 4 exact rfl)) | (apply AL_callPw (h4); kernel_rfl; (iterate 4 exact rfl)) | (apply AL_callPw (h5); kernel_rfl; (iterate 4 exact rfl)) | (apply AL_callPw (h6); kernel_rfl; (iterate 4 exact rfl)) | (apply AL_move; exact rfl; exact rfl) | (apply AL_assign; exact rfl; exact rfl) | (apply AL_bin; (iterate 5 exact rfl)) | (apply AL_load1 ttok; (iterate 6 exact rfl)) | (apply AL_loadn ttok; (iterate 7 exact rfl)) | (apply AL_fieldAddr ttok; (iterate 7 exact rfl)) | (apply AL_store ttok; (iterate 8 exact rfl)) | (apply AL_extract; (iterate 3 exact rfl)) | refine AL_nil ?_ | (apply AL_guardT; (iterate 3 exact rfl); (first | with_reducible assumption | decide +kernel)) | (apply AL_pickT; exact rfl; (first | with_reducible assumption | decide +kernel); exact rfl; exact rfl) | refine AW_region ?_ | refine AW_seq' ?_ | refine then_norm ?_ | refine AW_ret ?_ | (apply AL_len ttok; (iterate 4 exact rfl)) | (apply AL_build ttok; (iterate 6 exact rfl)) | (apply AL_allocZ ttok; (iterate 4 exact rfl)) | (apply AL_str; (iterate 5 exact rfl)) | (apply AL_eqS ttok; (iterate 4 exact rfl); (kernel_rfl); (kernel_rfl); (iterate 3 exact rfl)))
  all_goals (apply endQ []; (repeat (first | exact ResL.nil | (apply ResL.cons; first | exact .tmp _ _ rfl | (apply res_n ttok; (iterate 6 exact rfl)) | (apply res_1 ttok; (iterate 5 exact rfl))))); (iterate 4 exact rfl))
  all_goals rfl
end Go.Proofs.YtnihobjehelagaaDoor
end
/- Arguments: structs of five fields; names and numbers of bundles. -/
section
open Go.RowKit Go.Pl
namespace Go.Pl
set_option linter.unusedSimpArgs false
set_option linter.unusedVariables false
variable {P : Program} {t : TypeId}
theorem opens_prod5 {α β γ δ ε : Type} {R0 : Rep α} {R1 : Rep β} {R2 : Rep γ} {R3 : Rep δ} {R4 : Rep ε} {fs : Array Field} {f0 f1 f2 f3 f4 : Field} (hs : P.underlying t = some (.struct fs)) (hfs : fs = #[f0, f1, f2, f3, f4])
    (h00 : f0.offset = 0) (h01 : f1.offset = R0.n) (h02 : f2.offset = R0.n + R1.n) (h03 : f3.offset = R0.n + R1.n + R2.n) (h04 : f4.offset = R0.n + R1.n + R2.n + R3.n)
    (hc0 : P.cellsOf f0.type = R0.n) (hc1 : P.cellsOf f1.type = R1.n) (hc2 : P.cellsOf f2.type = R2.n) (hc3 : P.cellsOf f3.type = R3.n) (hc4 : P.cellsOf f4.type = R4.n) (hc : P.cellsOf t = R0.n + (R1.n + (R2.n + (R3.n + R4.n))))
    (h0 : Opens P f0.type R0) (h1 : Opens P f1.type R1) (h2 : Opens P f2.type R2) (h3 : Opens P f3.type R3) (h4 : Opens P f4.type R4) : Opens P t (R0.prod (R1.prod (R2.prod (R3.prod R4)))) := by
  intro H enc W spare held fuel cs y h
  obtain ⟨xs, n, _, _, hl, hxl, hg⟩ := DataW.trod_struct hs h
  subst hfs
  have e0 := hg 0 f0 rfl
  have e1 := hg 1 f1 rfl
  have e2 := hg 2 f2 rfl
  have e3 := hg 3 f3 rfl
  have e4 := hg 4 f4 rfl
  rw [h00, hc0, List.drop_zero] at e0
  rw [h01, hc1] at e1
  rw [h02, hc2] at e2
  rw [h03, hc3] at e3
  rw [h04, hc4] at e4
  have hn : xs.length = 5 := hxl
  have hx0 : xs[0]? = some (xs[0]'(by omega)) := List.getElem?_eq_getElem (by omega)
  have hx1 : xs[1]? = some (xs[1]'(by omega)) := List.getElem?_eq_getElem (by omega)
  have hx2 : xs[2]? = some (xs[2]'(by omega)) := List.getElem?_eq_getElem (by omega)
  have hx3 : xs[3]? = some (xs[3]'(by omega)) := List.getElem?_eq_getElem (by omega)
  have hx4 : xs[4]? = some (xs[4]'(by omega)) := List.getElem?_eq_getElem (by omega)
  obtain ⟨x0, k0⟩ := h0 H enc W spare held n _ _ (e0.trans hx0)
  obtain ⟨x1, k1⟩ := h1 H enc W spare held n _ _ (e1.trans hx1)
  obtain ⟨x2, k2⟩ := h2 H enc W spare held n _ _ (e2.trans hx2)
  obtain ⟨x3, k3⟩ := h3 H enc W spare held n _ _ (e3.trans hx3)
  obtain ⟨x4, k4⟩ := h4 H enc W spare held n _ _ (e4.trans hx4)
  refine ⟨(x0, x1, x2, x3, x4), cs.take R0.n, cs.drop R0.n, (List.take_append_drop _ _).symm, k0, (cs.drop R0.n).take R1.n, (cs.drop R0.n).drop R1.n, (List.take_append_drop _ _).symm, k1,
    ((cs.drop R0.n).drop R1.n).take R2.n, ((cs.drop R0.n).drop R1.n).drop R2.n, (List.take_append_drop _ _).symm, ?_, (((cs.drop R0.n).drop R1.n).drop R2.n).take R3.n, (((cs.drop R0.n).drop R1.n).drop R2.n).drop R3.n, (List.take_append_drop _ _).symm, ?_, ?_⟩
  · rw [List.drop_drop]; exact k2
  · rw [List.drop_drop, List.drop_drop, show R0.n + (R1.n + R2.n) = R0.n + R1.n + R2.n from by omega]; exact k3
  · rw [List.drop_drop, List.drop_drop, List.drop_drop, show R0.n + (R1.n + (R2.n + R3.n)) = R0.n + R1.n + R2.n + R3.n from by omega]
    rw [List.take_of_length_le (i := R4.n) (by rw [List.length_drop]; omega)] at k4
    exact k4
/-- a name's cells -/
abbrev RE : Rep (Bool × Nat × Nat × List UInt8 × List UInt8) := Rep.bool.prod (Rep.u64.prod (Rep.u64.prod (Rep.str.prod Rep.str)))
/-- a number's cells -/
abbrev RI : Rep ((Bool × Nat × Nat × List UInt8 × List UInt8) × Nat × Nat) := RE.prod (Rep.u64.prod Rep.u64)
end Go.Pl
end
/- Arguments of this seat: names and numbers of bundles, opened. -/
section
open Go.RowKit Go.Pl
namespace Go.Proofs.YtnihobjehelagaaDoor
theorem openE : Opens Tryd.prog 51 RE :=
  opens_prod5 Tryd.underlying51 rfl rfl rfl rfl rfl rfl (by kernel_rfl) (by kernel_rfl) (by kernel_rfl) (by kernel_rfl) (by kernel_rfl) (by kernel_rfl) (opens_bool Tryd.underlying4) (opens_u64 Tryd.underlying22) (opens_u64 Tryd.underlying22) (opens_str Tryd.underlying9) (opens_str Tryd.underlying9)
theorem openI : Opens Tryd.prog 53 RI :=
  opens_prod3 Tryd.underlying53 rfl (by kernel_rfl) rfl rfl rfl (by kernel_rfl) (by kernel_rfl) (by kernel_rfl) openE (opens_u64 Tryd.underlying22) (opens_u64 Tryd.underlying22)
end Go.Proofs.YtnihobjehelagaaDoor
end
/- EidOrder: the law's walk. -/
section
open Go.RowKit Go.Pl Go.Av
namespace Go.Proofs.YtnihobjehelagaaDoor
set_option linter.unusedVariables false
set_option linter.unusedSimpArgs false
set_option maxHeartbeats 4000000
abbrev eqE (a b : EidV) : Bool := a.i == b.i && ((a.n : Int) == (b.n : Int) && ((a.s : Int) == (b.s : Int) && (a.h == b.h && (a.d == b.d && true))))
theorem eqE_iff {a b : EidV} : eqE a b = true ↔ a = b := by
  obtain ⟨i, n, s, h, d⟩ := a
  obtain ⟨i', n', s', h', d'⟩ := b
  simp only [eqE, Bool.and_eq_true, beq_iff_eq, EidV.mk.injEq]
  constructor
  · rintro ⟨h1, h2, h3, h4, h5, _⟩
    exact ⟨h1, by omega, by omega, h4, h5⟩
  · rintro ⟨h1, h2, h3, h4, h5⟩
    exact ⟨h1, by omega, by omega, h4, h5, trivial⟩
theorem less_irr (a : EidV) : lessE a a = false := by
  cases h : lessE a a with
  | false => rfl
  | true => exact (klt_irr _ ((less_iff a a).1 h)).elim
theorem less_asym {a b : EidV} (h : lessE a b = true) : lessE b a = false := by
  cases k : lessE b a with
  | false => rfl
  | true => exact (klt_asym ((less_iff _ _).1 h) ((less_iff _ _).1 k)).elim
theorem less_trans {a b c : EidV} (h : lessE a b = true) (k : lessE b c = true) : lessE a c = true :=
  (less_iff _ _).2 (klt_trans ((less_iff _ _).1 h) ((less_iff _ _).1 k))
theorem less_eq {a b : EidV} : (lessE a b != lessE b a) = !(eqE a b) := by
  cases he : eqE a b with
  | true =>
    obtain rfl := eqE_iff.1 he
    simp
  | false =>
    have hne : keyOf a 0 0 ≠ keyOf b 0 0 := fun e => by
      have := (key_inj e).1
      rw [eqE_iff.2 this] at he
      cases he
    rcases klt_tri _ _ hne with h | h
    · have h1 := (less_iff _ _).2 h
      rw [h1, less_asym h1]; rfl
    · have h1 := (less_iff _ _).2 h
      rw [h1, less_asym h1]; rfl
theorem av_eidOrder [Known] (x y z : EidV) : AP Tryd.prog 8 [.agg (eC x), .agg (eC y), .agg (eC z)] (.bool true) [] := by
  refine AP.ofA ?_
  refine AC_of Tryd.func8 rfl Tryd.ntmps8 rfl rfl ?_
  obtain ⟨A, hA⟩ : ∃ A, lessE x y = A := ⟨_, rfl⟩
  obtain ⟨B, hB⟩ : ∃ B, lessE y x = B := ⟨_, rfl⟩
  obtain ⟨C, hC⟩ : ∃ C, lessE y z = C := ⟨_, rfl⟩
  obtain ⟨E, hE⟩ : ∃ E, lessE x z = E := ⟨_, rfl⟩
  have hX := less_irr x
  have F1 : ((!(A == B)) == (!(eqE x y))) = true := by
    have := @less_eq x y
    rw [hA, hB] at this
    show ((A != B) == _) = true
    rw [this]; simp
  have F2 : A = true → B = false := fun h => by rw [← hB]; exact less_asym (hA.trans h)
  have F3 : A = true → C = true → E = true := fun h k => by rw [← hE]; exact less_trans (hA.trans h) (hC.trans k)
  have c1 := av_less x y
  have c2 := av_less y x
  have c3 := av_less y z
  have c4 := av_less x z
  have c5 := av_less x x
  rw [hA] at c1
  rw [hB] at c2
  rw [hC] at c3
  rw [hE] at c4
  rw [hX] at c5
  clear hA hB hC hE hX
  cases A with
  | false =>
    repeat' (first | (apply AL_callPw (av_aliveE); kernel_rfl; (iterate 4 exact rfl)) | (apply AL_callPw (av_eRight x); kernel_rfl; (iterate 4 exact rfl)) | (apply AL_callPw (av_eRight y); kernel_rfl; (iterate 4 exact rfl)) | (apply AL_callPw (av_eRight z); kernel_rfl; (iterate 4 exact rfl)) | (apply AL_callPw (c1); kernel_rfl; (iterate 4 exact rfl)) | (apply AL_callPw (c2); kernel_rfl; (iterate 4 exact rfl)) | (apply AL_callPw (c3); kernel_rfl; (iterate 4 exact rfl)) | (apply AL_callPw (c5); kernel_rfl; (iterate 4 exact rfl)) | (apply AL_move; exact rfl; exact rfl) | (apply AL_assign; exact rfl; exact rfl) | (apply AL_bin; (iterate 5 exact rfl)) | (apply AL_load1 ttok; (iterate 6 exact rfl)) | (apply AL_loadn ttok; (iterate 7 exact rfl)) | (apply AL_fieldAddr ttok; (iterate 7 exact rfl)) | (apply AL_box; (iterate 5 exact rfl)) | (apply AL_not; exact rfl; exact rfl) | refine AL_nil ?_ | (apply AL_guardT; (iterate 3 exact rfl); (first | with_reducible assumption | (guard_target =ₛ true = true; rfl) | (guard_target =ₛ false = false; rfl) | (guard_target =ₛ (!true) = false; rfl) | (guard_target =ₛ (!false) = true; rfl))) | (apply AL_guardFt; (iterate 3 exact rfl); (first | with_reducible assumption | (guard_target =ₛ true = true; rfl) | (guard_target =ₛ false = false; rfl) | (guard_target =ₛ (!true) = false; rfl) | (guard_target =ₛ (!false) = true; rfl))) | (apply AL_guardFf; (iterate 3 exact rfl); (first | with_reducible assumption | (guard_target =ₛ true = true; rfl) | (guard_target =ₛ false = false; rfl) | (guard_target =ₛ (!true) = false; rfl) | (guard_target =ₛ (!false) = true; rfl))) | (apply AL_guardS; exact rfl; exact rfl; all_goals intro hb) | (apply AL_pickT; exact rfl; (first | with_reducible assumption | (guard_target =ₛ true = true; rfl) | (guard_target =ₛ false = false; rfl) | (guard_target =ₛ (!true) = false; rfl) | (guard_target =ₛ (!false) = true; rfl)); exact rfl; exact rfl) | (apply AL_pickF; exact rfl; (first | with_reducible assumption | (guard_target =ₛ true = true; rfl) | (guard_target =ₛ false = false; rfl) | (guard_target =ₛ (!true) = false; rfl) | (guard_target =ₛ (!false) = true; rfl)); exact rfl; exact rfl) | refine AW_region ?_ | refine AW_seq' ?_ | (apply AW_condA; exact rfl; (first | with_reducible assumption | (guard_target =ₛ true = true; rfl) | (guard_target =ₛ false = false; rfl) | (guard_target =ₛ (!true) = false; rfl) | (guard_target =ₛ (!false) = true; rfl))) | (apply AW_cond'; exact rfl; all_goals intro hb) | refine then_norm ?_ | refine AW_ret ?_ | refine then_ret ?_ | (apply AL_lens ttok; (iterate 4 exact rfl)) | (apply AL_beq ttok; (iterate 6 exact rfl)) | (apply AL_eqS ttok; (iterate 4 exact rfl); (kernel_rfl); (kernel_rfl); (iterate 3 exact rfl)) | (apply AW_drawM 8 hmix; (decide +kernel); (kernel_rfl); (kernel_rfl); exact rfl; exact rfl) | (apply AD_cons; (iterate 3 exact rfl)) | refine AD.nil _ | exact qp_ok rfl | refine AW_skip ?_)
    all_goals (apply endQ []; (repeat (first | exact ResL.nil | (apply ResL.cons; first | exact .tmp _ _ rfl | (apply res_n ttok; (iterate 6 exact rfl)) | (apply res_1 ttok; (iterate 5 exact rfl))))); (iterate 4 exact rfl))
    all_goals rfl
  | true =>
    obtain rfl := F2 rfl
    cases C with
    | false =>
      repeat' (first | (apply AL_callPw (av_aliveE); kernel_rfl; (iterate 4 exact rfl)) | (apply AL_callPw (av_eRight x); kernel_rfl; (iterate 4 exact rfl)) | (apply AL_callPw (av_eRight y); kernel_rfl; (iterate 4 exact rfl)) | (apply AL_callPw (av_eRight z); kernel_rfl; (iterate 4 exact rfl)) | (apply AL_callPw (c1); kernel_rfl; (iterate 4 exact rfl)) | (apply AL_callPw (c2); kernel_rfl; (iterate 4 exact rfl)) | (apply AL_callPw (c3); kernel_rfl; (iterate 4 exact rfl)) | (apply AL_callPw (c5); kernel_rfl; (iterate 4 exact rfl)) | (apply AL_move; exact rfl; exact rfl) | (apply AL_assign; exact rfl; exact rfl) | (apply AL_bin; (iterate 5 exact rfl)) | (apply AL_load1 ttok; (iterate 6 exact rfl)) | (apply AL_loadn ttok; (iterate 7 exact rfl)) | (apply AL_fieldAddr ttok; (iterate 7 exact rfl)) | (apply AL_box; (iterate 5 exact rfl)) | (apply AL_not; exact rfl; exact rfl) | refine AL_nil ?_ | (apply AL_guardT; (iterate 3 exact rfl); (first | with_reducible assumption | (guard_target =ₛ true = true; rfl) | (guard_target =ₛ false = false; rfl) | (guard_target =ₛ (!true) = false; rfl) | (guard_target =ₛ (!false) = true; rfl))) | (apply AL_guardFf; (iterate 3 exact rfl); (first | with_reducible assumption | (guard_target =ₛ true = true; rfl) | (guard_target =ₛ false = false; rfl) | (guard_target =ₛ (!true) = false; rfl) | (guard_target =ₛ (!false) = true; rfl))) | (apply AL_guardS; exact rfl; exact rfl; all_goals intro hb) | (apply AL_pickT; exact rfl; (first | with_reducible assumption | (guard_target =ₛ true = true; rfl) | (guard_target =ₛ false = false; rfl) | (guard_target =ₛ (!true) = false; rfl) | (guard_target =ₛ (!false) = true; rfl)); exact rfl; exact rfl) | (apply AL_pickF; exact rfl; (first | with_reducible assumption | (guard_target =ₛ true = true; rfl) | (guard_target =ₛ false = false; rfl) | (guard_target =ₛ (!true) = false; rfl) | (guard_target =ₛ (!false) = true; rfl)); exact rfl; exact rfl) | refine AW_region ?_ | refine AW_seq' ?_ | (apply AW_condA; exact rfl; (first | with_reducible assumption | (guard_target =ₛ true = true; rfl) | (guard_target =ₛ false = false; rfl) | (guard_target =ₛ (!true) = false; rfl) | (guard_target =ₛ (!false) = true; rfl))) | (apply AW_cond'; exact rfl; all_goals intro hb) | refine then_norm ?_ | refine AW_ret ?_ | refine then_ret ?_ | (apply AL_lens ttok; (iterate 4 exact rfl)) | (apply AL_beq ttok; (iterate 6 exact rfl)) | (apply AL_eqS ttok; (iterate 4 exact rfl); (kernel_rfl); (kernel_rfl); (iterate 3 exact rfl)) | (apply AW_drawM 8 hmix; (decide +kernel); (kernel_rfl); (kernel_rfl); exact rfl; exact rfl) | (apply AD_cons; (iterate 3 exact rfl)) | refine AD.nil _ | exact qp_ok rfl | refine AW_skip ?_)
      all_goals (apply endQ []; (repeat (first | exact ResL.nil | (apply ResL.cons; first | exact .tmp _ _ rfl | (apply res_n ttok; (iterate 6 exact rfl)) | (apply res_1 ttok; (iterate 5 exact rfl))))); (iterate 4 exact rfl))
      all_goals rfl
    | true =>
      obtain rfl := F3 rfl rfl
      repeat' (first | (apply AL_callPw (av_aliveE); kernel_rfl; (iterate 4 exact rfl)) | (apply AL_callPw (av_eRight x); kernel_rfl; (iterate 4 exact rfl)) | (apply AL_callPw (av_eRight y); kernel_rfl; (iterate 4 exact rfl)) | (apply AL_callPw (av_eRight z); kernel_rfl; (iterate 4 exact rfl)) | (apply AL_callPw (c1); kernel_rfl; (iterate 4 exact rfl)) | (apply AL_callPw (c2); kernel_rfl; (iterate 4 exact rfl)) | (apply AL_callPw (c3); kernel_rfl; (iterate 4 exact rfl)) | (apply AL_callPw (c4); kernel_rfl; (iterate 4 exact rfl)) | (apply AL_callPw (c5); kernel_rfl; (iterate 4 exact rfl)) | (apply AL_move; exact rfl; exact rfl) | (apply AL_assign; exact rfl; exact rfl) | (apply AL_bin; (iterate 5 exact rfl)) | (apply AL_load1 ttok; (iterate 6 exact rfl)) | (apply AL_loadn ttok; (iterate 7 exact rfl)) | (apply AL_fieldAddr ttok; (iterate 7 exact rfl)) | (apply AL_box; (iterate 5 exact rfl)) | (apply AL_not; exact rfl; exact rfl) | refine AL_nil ?_ | (apply AL_guardT; (iterate 3 exact rfl); (first | with_reducible assumption | (guard_target =ₛ true = true; rfl) | (guard_target =ₛ false = false; rfl) | (guard_target =ₛ (!true) = false; rfl) | (guard_target =ₛ (!false) = true; rfl))) | (apply AL_guardFf; (iterate 3 exact rfl); (first | with_reducible assumption | (guard_target =ₛ true = true; rfl) | (guard_target =ₛ false = false; rfl) | (guard_target =ₛ (!true) = false; rfl) | (guard_target =ₛ (!false) = true; rfl))) | (apply AL_guardS; exact rfl; exact rfl; all_goals intro hb) | (apply AL_pickT; exact rfl; (first | with_reducible assumption | (guard_target =ₛ true = true; rfl) | (guard_target =ₛ false = false; rfl) | (guard_target =ₛ (!true) = false; rfl) | (guard_target =ₛ (!false) = true; rfl)); exact rfl; exact rfl) | (apply AL_pickF; exact rfl; (first | with_reducible assumption | (guard_target =ₛ true = true; rfl) | (guard_target =ₛ false = false; rfl) | (guard_target =ₛ (!true) = false; rfl) | (guard_target =ₛ (!false) = true; rfl)); exact rfl; exact rfl) | refine AW_region ?_ | refine AW_seq' ?_ | (apply AW_condA; exact rfl; (first | with_reducible assumption | (guard_target =ₛ true = true; rfl) | (guard_target =ₛ false = false; rfl) | (guard_target =ₛ (!true) = false; rfl) | (guard_target =ₛ (!false) = true; rfl))) | (apply AW_cond'; exact rfl; all_goals intro hb) | refine then_norm ?_ | refine AW_ret ?_ | refine then_ret ?_ | (apply AL_lens ttok; (iterate 4 exact rfl)) | (apply AL_beq ttok; (iterate 6 exact rfl)) | (apply AL_eqS ttok; (iterate 4 exact rfl); (kernel_rfl); (kernel_rfl); (iterate 3 exact rfl)) | (apply AW_drawM 8 hmix; (decide +kernel); (kernel_rfl); (kernel_rfl); exact rfl; exact rfl) | (apply AD_cons; (iterate 3 exact rfl)) | refine AD.nil _ | exact qp_ok rfl | refine AW_skip ?_)
      all_goals (apply endQ []; (repeat (first | exact ResL.nil | (apply ResL.cons; first | exact .tmp _ _ rfl | (apply res_n ttok; (iterate 6 exact rfl)) | (apply res_1 ttok; (iterate 5 exact rfl))))); (iterate 4 exact rfl))
      all_goals rfl
theorem toE_eid : ToE RE (fun x => .agg [.bool x.1, .int .u64 (x.2.1 : Int), .int .u64 (x.2.2.1 : Int), .str x.2.2.2.1, .str x.2.2.2.2]) :=
  ToE.bool.prod (ToE.u64.prod (ToE.u64.prod (ToE.str.prod ToE.str)))
abbrev XE := Bool × Nat × Nat × List UInt8 × List UInt8
def XE.v (x : XE) : EidV := ⟨x.1, x.2.1, x.2.2.1, x.2.2.2.1, x.2.2.2.2⟩
theorem eid_V [Known] {W : World} {cs : List Value} {x : XE} (h : RE.ok W (· < W.heap.size) cs x) : V W (g0 W) [] (.agg (eC x.v)) (.agg cs.toArray) :=
  toE_eid.agg (l := [.bool x.1, .int .u64 (x.2.1 : Int), .int .u64 (x.2.2.1 : Int), .str x.2.2.2.1, .str x.2.2.2.2]) rfl h
end Go.Proofs.YtnihobjehelagaaDoor
end
/- EidOrder: the walk, from the row's arguments. -/
section
open Go.RowKit Go.Pl Go.Av
namespace Go.Proofs.YtnihobjehelagaaDoor
set_option linter.unusedVariables false
/-- no package-level variable is known -/
abbrev known0 : Known := ⟨[]⟩
theorem gls0 (W : World) : @Gls known0 (g0 W).C W := ⟨fun k cs h => absurd h.1 (by intro hk; cases hk), fun k t h => absurd h.1 (by intro hk; cases hk)⟩
theorem eidOrder_walk (c0 c1 c2 : List Value) (x0 x1 x2 : XE) (W : World) (h0 : RE.ok W (· < W.heap.size) c0 x0) (h1 : RE.ok W (· < W.heap.size) c1 x1) (h2 : RE.ok W (· < W.heap.size) c2 x2) :
    Calls Tryd.prog 8 #[.agg c0.toArray, .agg c1.toArray, .agg c2.toArray] W fun e w' => e = .returned (.bool true) ∧ Below W.heap.size W w' := by
  have h := @av_eidOrder known0 x0.v x1.v x2.v
  refine @topG known0 Tryd.prog 8 _ (@AC.mono known0 _ _ _ _ _ _ _ h fun r b t h => h.1) W [.agg c0.toArray, .agg c1.toArray, .agg c2.toArray] (gls0 W) rfl ?_
  intro j d v hd hv
  match j, hd, hv with
  | 0, hd, hv => cases hd; cases hv; exact @eid_V known0 _ _ _ h0
  | 1, hd, hv => cases hd; cases hv; exact @eid_V known0 _ _ _ h1
  | 2, hd, hv => cases hd; cases hv; exact @eid_V known0 _ _ _ h2
  | j + 3, hd, hv => cases hd
end Go.Proofs.YtnihobjehelagaaDoor
end

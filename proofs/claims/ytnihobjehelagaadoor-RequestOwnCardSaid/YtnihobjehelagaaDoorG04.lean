/- Package eid, package ident: names and numbers, and which is ahead. -/
import Derived.Test.YtnihobjehelagaaDoorG03
import Derived.Test.YtnihobjehelagaaDoorG01
import Derived.Lib.ItoaMem
import Derived.Lib.Walk
import Derived.WalkKit
import Derived.BigCall
import Derived.BigGuard
import Derived.LoopN
import Derived.WideLaws
section
open Go.RowKit Go.Pl Go.Av
namespace Go.Proofs.YtnihobjehelagaaDoor
set_option linter.unusedVariables false
set_option linter.unusedSimpArgs false
set_option maxHeartbeats 1000000
theorem av_plain [Known] (s : List UInt8) (m : Nat) (hm : m < 128) : AP Tryd.prog 68 [.str s, .int .i32 (m : Int)] (.bool (s.all (okB m))) [] := by
  refine ⟨fun g w vs hmem hl hv => ?_⟩
  obtain ⟨v0, v1, rfl⟩ : ∃ v0 v1, vs = [v0, v1] := by
    match vs, hl with
    | [v0, v1], _ => exact ⟨v0, v1, rfl⟩
  have h0 := (hv 0 _ _ rfl rfl).str_inv.1
  have h1 := (hv 1 _ _ rfl rfl).int_inv
  subst h0 h1
  exact (plain_walk ⟨s.toArray⟩ m hm w _ rfl).mono fun e w' ⟨he, hb⟩ => endBelow hmem hb he (.bool _)
structure EidV where
  i : Bool
  n : Nat
  s : Nat
  h : List UInt8
  d : List UInt8
  deriving DecidableEq
abbrev eC (x : EidV) : List D := [.bool x.i, .int .u64 (x.n : Int), .int .u64 (x.s : Int), .str x.h, .str x.d]
def eidZ : EidV := ⟨false, 0, 0, [], []⟩
/-- no name -/
def isZ (x : EidV) : Bool := x.i == false && ((x.n : Int) == 0 && ((x.s : Int) == 0 && (x.h == [] && (x.d == [] && true))))
def classN (x : EidV) : Int := if isZ x then 0 else if x.i then 1 else 2
theorem av_class [Known] (x : EidV) : AP Tryd.prog 69 [.agg (eC x)] (.int .i64 (classN x)) [] := by
  refine AP.ofA ?_
  refine AC_of Tryd.func69 rfl Tryd.ntmps69 rfl rfl ?_
  repeat' (first | (apply AL_assign; exact rfl; exact rfl) | (apply AL_load1 ttok; (iterate 6 exact rfl)) | (apply AL_loadn ttok; (iterate 7 exact rfl)) | (apply AL_fieldAddr ttok; (iterate 7 exact rfl)) | (apply AL_box; (iterate 5 exact rfl)) | refine AL_nil ?_ | refine AW_region ?_ | refine AW_seq' ?_ | (apply AW_cond'; exact rfl; all_goals intro hb) | refine then_norm ?_ | refine AW_block ?_ | refine AW_ret ?_ | refine then_ret ?_ | refine blk_ret ?_ | (apply AL_build ttok; (iterate 6 exact rfl)) | (apply AL_eqS ttok; (iterate 4 exact rfl); (kernel_rfl); (kernel_rfl); (iterate 3 exact rfl)) | refine AW_skip ?_)
  all_goals (apply endQ []; (repeat (first | exact ResL.nil | (apply ResL.cons; first | exact .tmp _ _ rfl | (apply res_n ttok; (iterate 6 exact rfl)) | (apply res_1 ttok; (iterate 5 exact rfl))))); (iterate 4 exact rfl))
  all_goals first | rfl | (congr 1; unfold classN isZ; simp_all)
def lessE (a b : EidV) : Bool :=
  if classN a != classN b then decide (classN a < classN b)
  else if (a.n : Int) != b.n then decide ((a.n : Int) < b.n)
  else if (a.s : Int) != b.s then decide ((a.s : Int) < b.s)
  else if a.h != b.h then Op.bytesLess a.h b.h
  else Op.bytesLess a.d b.d
theorem av_less [Known] (a b : EidV) : AP Tryd.prog 35 [.agg (eC a), .agg (eC b)] (.bool (lessE a b)) [] := by
  refine AP.ofA ?_
  refine AC_of Tryd.func35 rfl Tryd.ntmps35 rfl rfl ?_
  repeat' (first | (apply AL_callPw (av_class a); kernel_rfl; (iterate 4 exact rfl)) | (apply AL_callPw (av_class b); kernel_rfl; (iterate 4 exact rfl)) | (apply AL_assign; exact rfl; exact rfl) | (apply AL_bin; (iterate 5 exact rfl)) | (apply AL_load1 ttok; (iterate 6 exact rfl)) | (apply AL_loadn ttok; (iterate 7 exact rfl)) | (apply AL_fieldAddr ttok; (iterate 7 exact rfl)) | (apply AL_box; (iterate 5 exact rfl)) | refine AL_nil ?_ | refine AW_region ?_ | refine AW_seq' ?_ | (apply AW_cond'; exact rfl; all_goals intro hb) | refine then_norm ?_ | refine AW_block ?_ | refine AW_ret ?_ | refine then_ret ?_ | refine blk_ret ?_ | (apply AL_str; (iterate 5 exact rfl)) | (apply AW_drawM 3 hmix; (decide +kernel); (kernel_rfl); (kernel_rfl); exact rfl; exact rfl) | (apply AD_cons; (iterate 3 exact rfl)) | refine AD.nil _ | exact qp_ok rfl | refine AW_skip ?_)
  all_goals (apply endQ []; (repeat (first | exact ResL.nil | (apply ResL.cons; first | exact .tmp _ _ rfl | (apply res_n ttok; (iterate 6 exact rfl)) | (apply res_1 ttok; (iterate 5 exact rfl))))); (iterate 4 exact rfl))
  all_goals first | rfl | (congr 1; unfold lessE; simp_all)
/-- may a name be? -/
def eRight (x : EidV) : Bool :=
  if isZ x then true
  else if x.i then (x.i == true && ((x.n : Int) == (x.n : Int) && ((x.s : Int) == (x.s : Int) && (x.h == [] && (x.d == [] && true))))) && decide ((x.n : Int) ≥ 1) && decide ((x.n : Int) ≤ 4294967295) && decide ((x.s : Int) ≤ 4294967295)
  else (x.i == false && ((x.n : Int) == 0 && ((x.s : Int) == 0 && (x.h == x.h && (x.d == x.d && true))))) && decide ((x.h.length : Int) ≥ 1) && decide ((x.h.length : Int) ≤ 16) && decide ((x.d.length : Int) ≤ 24) && x.h.all (okB 45) && x.d.all (okB 47)
theorem eRight_Z {x : EidV} (h : isZ x = true) : eRight x = true := by unfold eRight; rw [if_pos h]
theorem eRight_I {x : EidV} (h : isZ x = false) (hi : x.i = true) : eRight x = ((x.i == true && ((x.n : Int) == (x.n : Int) && ((x.s : Int) == (x.s : Int) && (x.h == [] && (x.d == [] && true))))) && decide ((x.n : Int) ≥ 1) && decide ((x.n : Int) ≤ 4294967295) && decide ((x.s : Int) ≤ 4294967295)) := by
  unfold eRight; rw [if_neg (by rw [h]; decide), if_pos hi]
theorem eRight_T {x : EidV} (h : isZ x = false) (hi : x.i = false) : eRight x = ((x.i == false && ((x.n : Int) == 0 && ((x.s : Int) == 0 && (x.h == x.h && (x.d == x.d && true))))) && decide ((x.h.length : Int) ≥ 1) && decide ((x.h.length : Int) ≤ 16) && decide ((x.d.length : Int) ≤ 24) && x.h.all (okB 45) && x.d.all (okB 47)) := by
  unfold eRight; rw [if_neg (by rw [h]; decide), if_neg (by rw [hi]; decide)]
theorem av_eRight [Known] (x : EidV) : AP Tryd.prog 33 [.agg (eC x)] (.bool (eRight x)) [] := by
  refine AP.ofA ?_
  refine AC_of Tryd.func33 rfl Tryd.ntmps33 rfl rfl ?_
  cases hz : isZ x with
  | true =>
    rw [eRight_Z hz]
    unfold isZ at hz
    repeat' (first | (apply AL_assign; exact rfl; exact rfl) | (apply AL_loadn ttok; (iterate 7 exact rfl)) | (apply AL_box; (iterate 5 exact rfl)) | refine AL_nil ?_ | refine AW_region ?_ | refine AW_seq' ?_ | (apply AW_condA; exact rfl; (first | with_reducible assumption | (guard_target =ₛ true = true; rfl) | (guard_target =ₛ false = false; rfl) | (guard_target =ₛ (!true) = false; rfl) | (guard_target =ₛ (!false) = true; rfl))) | refine then_norm ?_ | refine AW_block ?_ | refine AW_ret ?_ | refine then_ret ?_ | refine blk_ret ?_ | (apply AL_build ttok; (iterate 6 exact rfl)) | (apply AL_eqS ttok; (iterate 4 exact rfl); (kernel_rfl); (kernel_rfl); (iterate 3 exact rfl)))
    (apply endQ []; (repeat (first | exact ResL.nil | (apply ResL.cons; first | exact .tmp _ _ rfl | (apply res_n ttok; (iterate 6 exact rfl)) | (apply res_1 ttok; (iterate 5 exact rfl))))); (iterate 4 exact rfl))
    all_goals rfl
  | false =>
    cases hi : x.i with
    | true =>
      rw [eRight_I hz hi]
      unfold isZ at hz
      repeat' (first | (apply AL_move; exact rfl; exact rfl) | (apply AL_assign; exact rfl; exact rfl) | (apply AL_bin; (iterate 5 exact rfl)) | (apply AL_load1 ttok; (iterate 6 exact rfl)) | (apply AL_loadn ttok; (iterate 7 exact rfl)) | (apply AL_fieldAddr ttok; (iterate 7 exact rfl)) | (apply AL_box; (iterate 5 exact rfl)) | refine AL_nil ?_ | (apply AL_guardT; (iterate 3 exact rfl); (first | with_reducible assumption | (guard_target =ₛ true = true; rfl) | (guard_target =ₛ false = false; rfl) | (guard_target =ₛ (!true) = false; rfl) | (guard_target =ₛ (!false) = true; rfl))) | (apply AL_guardFt; (iterate 3 exact rfl); (first | with_reducible assumption | (guard_target =ₛ true = true; rfl) | (guard_target =ₛ false = false; rfl) | (guard_target =ₛ (!true) = false; rfl) | (guard_target =ₛ (!false) = true; rfl))) | (apply AL_guardS; exact rfl; exact rfl; all_goals intro hb) | (apply AL_pickT; exact rfl; (first | with_reducible assumption | (guard_target =ₛ true = true; rfl) | (guard_target =ₛ false = false; rfl) | (guard_target =ₛ (!true) = false; rfl) | (guard_target =ₛ (!false) = true; rfl)); exact rfl; exact rfl) | (apply AL_pickF; exact rfl; (first | with_reducible assumption | (guard_target =ₛ true = true; rfl) | (guard_target =ₛ false = false; rfl) | (guard_target =ₛ (!true) = false; rfl) | (guard_target =ₛ (!false) = true; rfl)); exact rfl; exact rfl) | refine AW_region ?_ | refine AW_seq' ?_ | (apply AW_condA; exact rfl; (first | with_reducible assumption | (guard_target =ₛ true = true; rfl) | (guard_target =ₛ false = false; rfl) | (guard_target =ₛ (!true) = false; rfl) | (guard_target =ₛ (!false) = true; rfl))) | (apply AW_condB; exact rfl; (first | with_reducible assumption | (guard_target =ₛ true = true; rfl) | (guard_target =ₛ false = false; rfl) | (guard_target =ₛ (!true) = false; rfl) | (guard_target =ₛ (!false) = true; rfl))) | refine then_norm ?_ | refine AW_block ?_ | refine AW_ret ?_ | refine then_ret ?_ | refine blk_ret ?_ | (apply AL_build ttok; (iterate 6 exact rfl)) | (apply AL_eqS ttok; (iterate 4 exact rfl); (kernel_rfl); (kernel_rfl); (iterate 3 exact rfl)))
      all_goals (apply endQ []; (repeat (first | exact ResL.nil | (apply ResL.cons; first | exact .tmp _ _ rfl | (apply res_n ttok; (iterate 6 exact rfl)) | (apply res_1 ttok; (iterate 5 exact rfl))))); (iterate 4 exact rfl))
      all_goals first | rfl | (clear hi hz; simp only [*]; done) | (clear hi hz; simp only [*]; simp only [Bool.and_true, Bool.true_and, Bool.and_false, Bool.false_and]; done)
    | false =>
      rw [eRight_T hz hi]
      unfold isZ at hz
      repeat' (first | (apply AL_callPw (av_plain x.h 45 (by decide)); kernel_rfl; (iterate 4 exact rfl)) | (apply AL_callPw (av_plain x.d 47 (by decide)); kernel_rfl; (iterate 4 exact rfl)) | (apply AL_move; exact rfl; exact rfl) | (apply AL_assign; exact rfl; exact rfl) | (apply AL_bin; (iterate 5 exact rfl)) | (apply AL_load1 ttok; (iterate 6 exact rfl)) | (apply AL_loadn ttok; (iterate 7 exact rfl)) | (apply AL_fieldAddr ttok; (iterate 7 exact rfl)) | (apply AL_box; (iterate 5 exact rfl)) | refine AL_nil ?_ | (apply AL_guardT; (iterate 3 exact rfl); (first | with_reducible assumption | (guard_target =ₛ true = true; rfl) | (guard_target =ₛ false = false; rfl) | (guard_target =ₛ (!true) = false; rfl) | (guard_target =ₛ (!false) = true; rfl))) | (apply AL_guardFt; (iterate 3 exact rfl); (first | with_reducible assumption | (guard_target =ₛ true = true; rfl) | (guard_target =ₛ false = false; rfl) | (guard_target =ₛ (!true) = false; rfl) | (guard_target =ₛ (!false) = true; rfl))) | (apply AL_guardS; exact rfl; exact rfl; all_goals intro hb) | (apply AL_pickT; exact rfl; (first | with_reducible assumption | (guard_target =ₛ true = true; rfl) | (guard_target =ₛ false = false; rfl) | (guard_target =ₛ (!true) = false; rfl) | (guard_target =ₛ (!false) = true; rfl)); exact rfl; exact rfl) | (apply AL_pickF; exact rfl; (first | with_reducible assumption | (guard_target =ₛ true = true; rfl) | (guard_target =ₛ false = false; rfl) | (guard_target =ₛ (!true) = false; rfl) | (guard_target =ₛ (!false) = true; rfl)); exact rfl; exact rfl) | refine AW_region ?_ | refine AW_seq' ?_ | (apply AW_condB; exact rfl; (first | with_reducible assumption | (guard_target =ₛ true = true; rfl) | (guard_target =ₛ false = false; rfl) | (guard_target =ₛ (!true) = false; rfl) | (guard_target =ₛ (!false) = true; rfl))) | refine then_norm ?_ | refine AW_block ?_ | refine AW_ret ?_ | (apply AL_lens ttok; (iterate 4 exact rfl)) | (apply AL_build ttok; (iterate 6 exact rfl)) | (apply AL_eqS ttok; (iterate 4 exact rfl); (kernel_rfl); (kernel_rfl); (iterate 3 exact rfl)) | refine AW_skip ?_)
      all_goals (apply endQ []; (repeat (first | exact ResL.nil | (apply ResL.cons; first | exact .tmp _ _ rfl | (apply res_n ttok; (iterate 6 exact rfl)) | (apply res_1 ttok; (iterate 5 exact rfl))))); (iterate 4 exact rfl))
      all_goals first | rfl | (clear hi hz; simp only [*]; done) | (clear hi hz; simp only [*]; simp only [Bool.and_true, Bool.true_and, Bool.and_false, Bool.false_and]; done)
end Go.Proofs.YtnihobjehelagaaDoor
end
/- strconv.FormatUint at base 10: every number. -/
section
open Go.RowKit Go.Pl Go.Av Go.Shelf Go.Sort Go.Lib
namespace Go.Proofs.YtnihobjehelagaaDoor
set_option linter.unusedVariables false
set_option linter.unusedSimpArgs false
set_option maxHeartbeats 6400000
set_option maxRecDepth 100000 in
theorem numDigits_c (u : Nat) (h1 : 1 ≤ u) (h2 : u < 18446744073709551616) (w : World) (hc : ∀ i, i < 20 → w.cell? ⟨2, i, none⟩ = some (.int .u64 ((10 ^ i : Nat) : Int))) :
    Calls Tryd.prog 125 #[.int .u64 u] w fun e w' => e = .returned (.int .i64 (Lib.nDigits u)) ∧ w' = w := by
  obtain ⟨hnd, h19⟩ := Lib.numDigits_eq u h1 h2
  have hL : Lib.bitLen u ≤ 64 := Lib.bitLen_le u 64 (Nat.le_refl _) h2
  have hcell := hc (Lib.l10 (Lib.bitLen u)) (by omega)
  have hto : ((u : Int)).toNat = u := by omega
  generalize hq : Lib.l10 (Lib.bitLen u) = q at hnd h19 hcell
  generalize hT : 10 ^ q = T at hnd hcell
  have h20 : q < 20 := by omega
  have Hnd := Lib.hid hnd
  clear hnd hc
  go_enter Tryd.func125, Tryd.ntmps125
  go_wp2_with (first
    | (go_at_call 136; refine (Any.bits_Len64 (P := Tryd.prog) (ρ := lays284_ren) { lays284 with } _ _ (by omega) (by omega)).mono ?_; rintro e w' ⟨rfl, rfl⟩)
    | (go_at_call 135; refine (Any.internal_strconv_log10Pow2 (P := Tryd.prog) (ρ := lays284_ren) { lays284 with } _ (by first | exact hL | (rw [hto]; exact hL)) _).mono ?_; rintro e w' ⟨rfl, rfl⟩)
    | (go_at_call 137; refine (Any.internal_strconv_bool2_int (P := Tryd.prog) (ρ := lays284_ren) { lays284 with } _ _).mono ?_; rintro e w' ⟨rfl, rfl⟩))
  all_goals go_ret
  all_goals (
    refine ⟨?_, rfl⟩
    have hnd := Hnd.out
    congr 2
    split at hnd <;> simp_all <;> omega)
theorem holds_zero0 (w : World) (T : TypeId) (nd : Nat) (hs : nd ≤ 24) : Holds (fun (b : UInt8) => Value.int .u8 (b.toNat : Int)) (w.alloc (.cells Lib.zeros24 T)) w.heap.size 0 (Array.replicate nd (0 : UInt8)) := fun j hj => by
  have hj' : j < nd := by simpa using hj
  refine ⟨?_, World.frozen?_alloc_new _ _ _ _⟩
  rw [World.cell?_alloc_new, Lib.zeros24_at _ (by omega), getElem!_pos _ j hj]
  simp
theorem fin0 (w : World) (o : Obj) (dk : Array UInt8) (k : Nat) : Below w.heap.size w ((putRow (fun (b : UInt8) => Value.int .u8 (b.toNat : Int)) (w.alloc o) w.heap.size 0 dk).drewN k) := by
  have h : ∃ os, (putRow (fun (b : UInt8) => Value.int .u8 (b.toNat : Int)) (w.alloc o) w.heap.size 0 dk).drewN k = grow (w.drewN k) os := by
    rw [alloc_eq_grow]
    obtain ⟨os', _, e⟩ := putRow_grow_new (fun (b : UInt8) => Value.int .u8 (b.toNat : Int)) w #[o] w.heap.size 0 dk (Nat.le_refl _)
    exact ⟨os', by rw [e]; rfl⟩
  obtain ⟨os, e⟩ := h
  rw [e]
  refine ⟨rfl, rfl, rfl, ?_, fun b hb => ?_⟩
  · show w.heap.size ≤ (w.heap ++ os).size
    rw [Array.size_append]; omega
  · show (w.heap ++ os)[b]? = w.heap[b]?
    rw [Array.getElem?_append_left hb]
theorem cell_al {w : World} {o : Obj} {g i : Nat} {v : Value} (h : w.cell? ⟨g, i, none⟩ = some v) : (w.alloc o).cell? ⟨g, i, none⟩ = some v :=
  (cell_alloc w o (World.block_lt_of_cell? w _ h) i).trans h
set_option maxRecDepth 100000 in
theorem fmtI_walk (u : Nat) (hu64 : u < 18446744073709551616) (w : World) (hc : ∀ i, i < 20 → w.cell? ⟨2, i, none⟩ = some (.int .u64 ((10 ^ i : Nat) : Int))) :
    Calls Tryd.prog 105 #[.int .u64 u, .int .i64 10] w fun e w' => e = .returned (.string ⟨(Lib.decDigits u).toArray⟩) ∧ Below w.heap.size w w' := by
  by_cases hs : u < 100
  · have Hs := Lib.hid hs
    go_enter Tryd.func105, Tryd.ntmps105
    go_wp2_with (go_at_call 124; refine (Any.internal_strconv_small (P := Tryd.prog) (ρ := lays283_ren) lays283 u Hs.out _).mono ?_; rintro e w' ⟨rfl, rfl⟩)
    go_ret
    exact ⟨rfl, Below.refl _ _⟩
  · have hu1 : 1 ≤ u := by omega
    have hnd20 : Lib.nDigits u ≤ 20 := by have := Lib.numDigits_eq u hu1 hu64; split at this <;> omega
    have hal : Tryd.prog.arrayLen 175 = 24 := by simp [Program.arrayLen, Tryd.underlying175]
    have hsl : ∀ W, (Instr.sliceAt 175 (.pointer (some ⟨w.heap.size, 0, none⟩)) none (some (.int .i64 (Lib.nDigits u : Int))) none).run Tryd.prog W = .ok (.slice (some ⟨w.heap.size, 0, none⟩) (Lib.nDigits u) 24) W := fun W => by
      rw [run_sliceAt_array_h W 175 ⟨w.heap.size, 0, none⟩ (by simp [Program.arrayLen, Program.elem, Tryd.underlying175]) .i64 (Lib.nDigits u : Int) (by omega) (by rw [hal]; omega)]
      go_simp
    have hH0 := holds_zero0 w 175 (Lib.nDigits u) (by omega)
    have hfmt : Calls Tryd.prog 126 _ _ _ := Any.internal_strconv_formatBase10 (P := Tryd.prog) (ρ := lays285_ren) lays285 w.heap.size 0 24 u (Array.replicate (Lib.nDigits u) 0) (w.alloc (.cells Lib.zeros24 175)) hH0 (by rw [Array.size_replicate]; exact Lib.lt_pow_nDigits u) hu64 (by rw [Array.size_replicate]; omega)
    rw [Array.size_replicate] at hfmt
    have HH0 := Lib.hid hH0
    have HC := Lib.hid hc
    clear hH0 hal hc
    go_enter Tryd.func105, Tryd.ntmps105
    go_wp2_with (first
      | (go_at_call 125; refine (numDigits_c u hu1 hu64 _ (fun i hi => cell_al (HC.out i hi))).mono ?_; rintro e w' ⟨rfl, rfl⟩))
    go_at_call 126
    refine hfmt.mono ?_
    rintro e w' ⟨rfl, k, v', dk, rfl, hF⟩
    have hcv : (convert 23 9 (.slice (some ⟨w.heap.size, 0, none⟩) (Lib.nDigits u) 24)).run Tryd.prog ((putRow (fun (b : UInt8) => Value.int .u8 (b.toNat : Int)) (w.alloc (.cells Lib.zeros24 175)) w.heap.size 0 dk).drewN k) = .ok (.string ⟨(Lib.decDigits u).toArray⟩) ((putRow (fun (b : UInt8) => Value.int .u8 (b.toNat : Int)) (w.alloc (.cells Lib.zeros24 175)) w.heap.size 0 dk).drewN k) := by
      have h := run_convert_bytes_back (P := Tryd.prog) ((putRow (fun (b : UInt8) => Value.int .u8 (b.toNat : Int)) (w.alloc (.cells Lib.zeros24 175)) w.heap.size 0 dk).drewN k) 23 9 5 ⟨w.heap.size, 0, none⟩ 24 (Lib.decDigits u) Tryd.underlying23 Tryd.underlying5 Tryd.underlying9 (fun j hj => by
        rw [Lib.row_is_numeral hF j hj, Lib.add_plain, World.cell?_drewN]
        exact cell?_putRow (fun (b : UInt8) => Value.int .u8 (b.toNat : Int)) _ w.heap.size 0 _ dk HH0.out (by rw [hF.size, Array.size_replicate]) j (by rw [hF.size]; rw [Lib.decDigits_length] at hj; exact hj))
      rw [Lib.decDigits_length] at h
      exact h
    go_wp2
    go_ret
    exact ⟨rfl, fin0 w _ dk k⟩
end Go.Proofs.YtnihobjehelagaaDoor
end
/- Loops of fixed calls, unrolled. -/
section
open Go.RowKit Go.Pl
namespace Go.Av
set_option linter.unusedSimpArgs false
set_option linter.unusedVariables false
/-- at most so many rounds -/
def AN [Known] [Dfr] (P : Program) (c : Code) (Q : X → St → Prop) : Nat → St → Prop
  | 0, _ => False
  | n + 1, S => AW P c S (X.then (AN P c Q n) Q)
structure ANs [Known] [Dfr] (P : Program) (c : Code) (Q : X → St → Prop) (n : Nat) (S : St) : Prop where
  run : AN P c Q n S
theorem AN_succ [Known] [Dfr] {P : Program} {c : Code} {Q : X → St → Prop} {n : Nat} {S : St} (h : AW P c S (X.then (ANs P c Q n) Q)) : ANs P c Q (n + 1) S :=
  ⟨AW_mono h fun x S hx => by
    cases x with
    | norm => exact hx.run
    | _ => exact hx⟩
theorem AN_rounds [Known] [Dfr] {P : Program} {c : Code} {Q : X → St → Prop} {b0 : Bs} : ∀ (n : Nat) (S : St) (g : G) (a : Act) (w : World), AN P c Q n S → Inv b0 S g a w → Code.rounds P c (conc b0 Q) n a w
  | 0, _, _, _, _, h, _ => h.elim
  | n + 1, S, g, a, w, h, hi => by
    rw [rounds_succ]
    refine wp_mono (AW.run (show AW P c S (X.then (AN P c Q n) Q) from h) b0 g a w hi) fun e a w hc => ?_
    cases e <;> simp only [conc, X.then, Exit.then] at hc ⊢
    · obtain ⟨S', g', hi', h'⟩ := hc
      exact AN_rounds n S' g' a w h' hi'
    all_goals exact hc
theorem AW_loopN [Known] [Dfr] {P : Program} {c : Code} {Q : X → St → Prop} {S : St} (n : Nat) (h : ANs P c Q n S) : AW P (.loop c) S Q :=
  ⟨fun b0 g a w hi => wp_loop_rounds n (AN_rounds n S g a w h.run hi)⟩
end Go.Av
end
/- Contracts of functions that are handed variables and tokens. -/
section
open Go.RowKit Go.Pl
namespace Go.Av
set_option linter.unusedSimpArgs false
set_option linter.unusedVariables false
/-- bx, fr: variables and tokens ahead; bx', fr': behind -/
def AT [Known] (P : Program) (f : FuncId) (args : List D) (bx : List (List D)) (fr : List Fr) (d : D) (bx' : List (List D)) (fr' : List Fr) : Prop := AC P f args bx fr fun r b t => r = .ret d ∧ b = bx' ∧ t = fr'
theorem AQ.toT [Known] {P : Program} {f : FuncId} {args : List D} {bx bx' : List (List D)} {d : D} (h : AQ P f args bx d bx') : AT P f args bx [] d bx' [] := h
theorem endT {P : Program} {rs : List ResultVar} {S : St} {d d' : D} {ds : List D} {bx' B : List (List D)} {fr' F : List Fr} {k m : Nat} (bs ts : List Nat) (h : ResL P S rs ds) (hb : selOk bs S.bx.length = true) (ht : selOk ts S.fr.length = true) (hk : preOk k bs = true) (hm : preOk m ts = true)
    (hn : nf ((ret1 ds).ren (idx bs) (idx ts)) = some d') (hB : nfb (selB bs ts S.bx) = some B) (hF : nfl (selF ts S.fr) = some F) (hd : d' = d) (hB' : B = bx') (hF' : F = fr') :
    fnPost P rs k m (fun r b t => r = .ret d ∧ b = bx' ∧ t = fr') .ret S :=
  ⟨ds, bs, ts, h, selOk_ok hb, selOk_ok ht, preOk_ok hk, preOk_ok hm, by rw [nf_eq hn, hd], by rw [nfb_eq hB, hB'], by rw [nfl_eq hF, hF']⟩
theorem endTn {P : Program} {rs : List ResultVar} {S : St} {d d' : D} {ds : List D} {bx' B : List (List D)} {fr' F : List Fr} {k m : Nat} (bs ts : List Nat) (h : ResL P S rs ds) (hb : selOk bs S.bx.length = true) (ht : selOk ts S.fr.length = true) (hk : preOk k bs = true) (hm : preOk m ts = true)
    (hn : nf ((ret1 ds).ren (idx bs) (idx ts)) = some d') (hB : nfb (selB bs ts S.bx) = some B) (hF : nfl (selF ts S.fr) = some F) (hd : d' = d) (hB' : B = bx') (hF' : F = fr') :
    fnPost P rs k m (fun r b t => r = .ret d ∧ b = bx' ∧ t = fr') .norm S :=
  ⟨ds, bs, ts, h, selOk_ok hb, selOk_ok ht, preOk_ok hk, preOk_ok hm, by rw [nf_eq hn, hd], by rw [nfb_eq hB, hB'], by rw [nfl_eq hF, hF']⟩
section
variable {P : Program} {Q : X → St → Prop} {n : Nat} {ee : Nat × Nat} {tm : List (Nat × D)} {bx : List (List D)} {fr : List Fr} {ops : Array Oper} {rest : List Oper} {ty : Nat} {pos : String} {after : Array Edge} {f : FuncId} {ars : Array Operand} {ats : Array TypeId}
theorem AL_callT [Known] [Dfr] {t : Nat} {cds : List D} {d d' : D} {bxs bxs' bx2 : List (List D)} {frs frs' fr2 : List Fr} (bs ts : List Nat) (hQ : AT P f cds bxs frs d bxs' frs') (hf : isFn P f = true)
    (hc : (ars.toList.map (ev tm)).map (D.ren (idx bs) (idx ts)) = cds) (hb : selOk bs bx.length = true) (ht : selOk ts fr.length = true) (hbx : selB bs ts bx = bxs) (hfr : selF ts fr = frs) (hle : Nat.ble bs.length bxs'.length = true) (htd : Nat.blt t n = true)
    (hd : nf (d.ren (upN bs bx.length) (upN ts fr.length)) = some d') (hB : nfb (aftB bs ts bx fr.length bxs') = some bx2) (hF : nfl (aftF ts fr frs') = some fr2)
    (k : AL P ops rest ⟨n, (t, d') :: tm, bx2, fr2, ee⟩ Q) : AL P ops (⟨some t, .call { callee := .value (.func f), args := ars, argTypes := ats }, ty, pos, after, none⟩ :: rest) ⟨n, tm, bx, fr, ee⟩ Q := by
  refine AL_call bs ts hf hQ hc (selOk_ok hb) (selOk_ok ht) hbx hfr htd (fun _ _ _ h => by cases h.1) fun d0 bx' fr' h => ?_
  obtain ⟨h1, rfl, rfl⟩ := h
  injection h1 with h1
  subst h1
  refine ⟨Nat.le_of_ble_eq_true hle, ?_⟩
  have e1 := nf_eq hd
  have e2 := nfb_eq hB
  have e3 := nfl_eq hF
  subst e1 e2 e3
  exact k
theorem AL_callTn [Known] [Dfr] {cds : List D} {d : D} {bxs bxs' bx2 : List (List D)} {frs frs' fr2 : List Fr} (bs ts : List Nat) (hQ : AT P f cds bxs frs d bxs' frs') (hf : isFn P f = true)
    (hc : (ars.toList.map (ev tm)).map (D.ren (idx bs) (idx ts)) = cds) (hb : selOk bs bx.length = true) (ht : selOk ts fr.length = true) (hbx : selB bs ts bx = bxs) (hfr : selF ts fr = frs) (hle : Nat.ble bs.length bxs'.length = true)
    (hB : nfb (aftB bs ts bx fr.length bxs') = some bx2) (hF : nfl (aftF ts fr frs') = some fr2)
    (k : AL P ops rest ⟨n, tm, bx2, fr2, ee⟩ Q) : AL P ops (⟨none, .call { callee := .value (.func f), args := ars, argTypes := ats }, ty, pos, after, none⟩ :: rest) ⟨n, tm, bx, fr, ee⟩ Q := by
  refine AL_call bs ts hf hQ hc (selOk_ok hb) (selOk_ok ht) hbx hfr rfl (fun _ _ _ h => by cases h.1) fun d0 bx' fr' h => ?_
  obtain ⟨h1, rfl, rfl⟩ := h
  refine ⟨Nat.le_of_ble_eq_true hle, ?_⟩
  have e2 := nfb_eq hB
  have e3 := nfl_eq hF
  subst e2 e3
  exact k
end
end Go.Av
end
/- A call walked in place: the callee's code goes on in the caller's memory. -/
section
open Go.RowKit Go.Pl
namespace Go.Av
set_option linter.unusedSimpArgs false
set_option linter.unusedVariables false
def inTm (t : Option Nat) (d : D) (tm : List (Nat × D)) : List (Nat × D) := match t with
  | some t => (t, d) :: tm
  | none => tm
def inOk (t : Option Nat) (n : Nat) : Bool := match t with
  | some t => Nat.blt t n
  | none => true
/-- what must be so where a callee that is walked in place is left -/
def inPost [Known] (P : Program) (rs : List ResultVar) (t : Option Nat) (n : Nat) (tm : List (Nat × D)) (ee : Nat × Nat) (ops : Array Oper) (rest : List Oper) (Q : X → St → Prop) : X → St → Prop
  | .norm, S => ∃ ds d, ResL P S rs ds ∧ ret1 ds = d ∧ AL P ops rest ⟨n, inTm t d tm, S.bx, S.fr, ee⟩ Q
  | .ret, S => ∃ ds d, ResL P S rs ds ∧ ret1 ds = d ∧ AL P ops rest ⟨n, inTm t d tm, S.bx, S.fr, ee⟩ Q
  | .pan d, S => Q (.pan d) ⟨n, tm, S.bx, S.fr, ee⟩
  | _, _ => False
section
variable {P : Program} {Q : X → St → Prop} {n : Nat} {ee : Nat × Nat} {tm : List (Nat × D)} {bx : List (List D)} {fr : List Fr} {ops : Array Oper} {rest : List Oper}
theorem in_ret [Known] {rs : List ResultVar} {t : Nat} {S : St} {ds : List D} {d : D} (h : ResL P S rs ds) (hn : nf (ret1 ds) = some d) (k : AL P ops rest ⟨n, (t, d) :: tm, S.bx, S.fr, ee⟩ Q) : inPost P rs (some t) n tm ee ops rest Q .ret S :=
  ⟨ds, d, h, nf_eq hn, k⟩
theorem in_norm [Known] {rs : List ResultVar} {t : Nat} {S : St} {ds : List D} {d : D} (h : ResL P S rs ds) (hn : nf (ret1 ds) = some d) (k : AL P ops rest ⟨n, (t, d) :: tm, S.bx, S.fr, ee⟩ Q) : inPost P rs (some t) n tm ee ops rest Q .norm S :=
  ⟨ds, d, h, nf_eq hn, k⟩
theorem in_retn [Known] {rs : List ResultVar} {S : St} {ds : List D} (h : ResL P S rs ds) (k : AL P ops rest ⟨n, tm, S.bx, S.fr, ee⟩ Q) : inPost P rs none n tm ee ops rest Q .ret S :=
  ⟨ds, _, h, rfl, k⟩
theorem in_normn [Known] {rs : List ResultVar} {S : St} {ds : List D} (h : ResL P S rs ds) (k : AL P ops rest ⟨n, tm, S.bx, S.fr, ee⟩ Q) : inPost P rs none n tm ee ops rest Q .norm S :=
  ⟨ds, _, h, rfl, k⟩
theorem AL_in [Known] {t : Option Nat} {ty : Nat} {pos : String} {after : Array Edge} {f : FuncId} {ars : Array Operand} {ats : Array TypeId} {fn : Func} {c : Code} {n' : Nat} {rs : List ResultVar} {cds : List D}
    (hf : P.funcs[f]? = some fn) (hn : fn.ntmps = n') (hb : fn.body = some c) (hr : fn.results = rs.toArray) (hif : isFn P f = true) (hc : nfs (ars.toList.map (ev tm)) = some cds) (hl : Nat.ble cds.length n' = true) (ht : inOk t n = true)
    (h : AW P c ⟨n', number 0 cds, bx, fr, (bx.length, fr.length)⟩ (inPost P rs t n tm ee ops rest Q)) : AL P ops (⟨t, .call { callee := .value (.func f), args := ars, argTypes := ats }, ty, pos, after, none⟩ :: rest) ⟨n, tm, bx, fr, ee⟩ Q := by
  refine ⟨fun b0 g a w hi => ?_⟩
  refine wpList_plain rfl fun K hK => ?_
  have hrun : (execOp a.eval ⟨t, .call { callee := .value (.func f), args := ars, argTypes := ats }, ty, pos, after, none⟩).run P w = .ok (.enter f (ars.toList.map a.eval).toArray) w := by
    have e : ars.map a.eval = (ars.toList.map a.eval).toArray := by rw [← Array.toList_map, Array.toArray_toList]
    have hz := run_callFunc' hif (ars.toList.map a.eval).toArray w
    rw [← e] at hz ⊢
    simpa [execOp, resolve, Act.eval, Deferred.ofValue, invoke, Sem.run_bind] using hz
  unfold Oper.wp
  rw [hrun]
  have hm := hi.mem
  have hcds := nfs_eq hc
  have hle := Nat.le_of_ble_eq_true hl
  have hlen : (ars.toList.map a.eval).length = cds.length := by rw [← hcds]; simp
  have hv := evs hi ars
  rw [hcds] at hv
  show Calls P f _ w _
  clear hrun
  generalize ars.toList.map a.eval = vs at hlen hv
  refine calls_of_wp hf hb ?_
  have hi2 : Inv ⟨g, fr, w⟩ ⟨n', number 0 cds, bx, fr, (bx.length, fr.length)⟩ g { tmps := vs.toArray ++ Array.replicate (fn.ntmps - vs.toArray.size) undef, defers := [] } w := by
    refine ⟨by simp [hn]; omega, rfl, hm, fun t => ?_, Evo.refl _, by rw [hm.bl]; exact Nat.le_refl _, Nat.le_refl _⟩
    rw [look_number]
    simp only [Nat.zero_le, if_true, Nat.sub_zero]
    cases htt : cds[t]? with
    | none => exact .junk _
    | some d =>
      have hlt : t < cds.length := (List.getElem?_eq_some_iff.1 htt).1
      refine hv t d _ htt ?_
      have hlt2 : t < vs.length := by omega
      simp [Array.getD_getElem?, Array.getElem?_append, hlt2]
  refine wp_mono (h.run ⟨g, fr, w⟩ g _ w hi2) fun e a' w' hcc => ?_
  have fin : ∀ S g', Inv ⟨g, fr, w⟩ S g' a' w' → (∃ ds d, ResL P S rs ds ∧ ret1 ds = d ∧ AL P ops rest ⟨n, inTm t d tm, S.bx, S.fr, ee⟩ Q) → ∃ v, (results fn a'.tmps).run P w' = .ok v w' ∧ K (a.put t v) w' := by
    intro S g' hi' hq
    obtain ⟨ds, d, hrs, hd, hk⟩ := hq
    obtain ⟨v, hrun, hv⟩ := results_run hi' hr hrs
    rw [hd] at hv
    refine ⟨v, hrun, hK _ _ (hk.run b0 g' _ w' ?_)⟩
    have hi3 : Inv b0 ⟨n, tm, S.bx, S.fr, ee⟩ g' a w' := ⟨hi.size, hi.defers, hi'.mem, fun t => (hi.tm t).evo hi'.evo, hi.evo.trans hi'.evo, hi.bd⟩
    cases t with
    | none => exact hi3
    | some t => exact hi3.put ht hv
  cases e with
  | normal =>
    obtain ⟨S, g', hi', hq⟩ := hcc
    obtain ⟨v, h1, h2⟩ := fin S g' hi' hq
    exact ⟨hi'.defers, v, h1, h2⟩
  | ret =>
    obtain ⟨S, g', hi', hq⟩ := hcc
    obtain ⟨v, h1, h2⟩ := fin S g' hi' hq
    exact ⟨hi'.defers, v, h1, h2⟩
  | panic chain =>
    obtain ⟨S, g', v, d, hi', rfl, hd, hq⟩ := hcc
    exact ⟨hi'.defers, ⟨n, tm, S.bx, S.fr, ee⟩, g', v, d, ⟨hi.size, hi.defers, hi'.mem, fun t => (hi.tm t).evo hi'.evo, hi.evo.trans hi'.evo, hi.bd⟩, rfl, hd, hq⟩
  | exit id => obtain ⟨S, g', hi', hq⟩ := hcc; exact hq.elim
  | goto l => obtain ⟨S, g', hi', hq⟩ := hcc; exact hq.elim
  | outgrown => exact hcc.elim
end
/-! ### texts as bytes; bytes that are spelled out -/
section
variable {P : Program} {Q : X → St → Prop} {n : Nat} {ee : Nat × Nat} {tm : List (Nat × D)} {bx bx' : List (List D)} {fr fr' : List Fr} {b0 : Bs} {g : G} {w : World} {a : Act} {T : Tab}
variable {ops : Array Oper} {rest : List Oper} {t ty : Nat} {pos : String} {after : Array Edge}
/-- a new row of which the first cells settle, and nothing else is used -/
theorem Mem.lit2 [Known] (hm : Mem g bx fr w) (cur : List Value) (l : List E) (sz cap : Nat) (e : TypeId) (mk : Nat × Nat) (hcur : l.length * sz ≤ cur.length) (hl : l.length ≤ cap) (hcap : cap ≤ maxLen) (hU : Uni sz l)
    (hv : ∀ (j : Nat) (x : E) (u : Value), (flat l)[j]? = some x → cur[j]? = some u → VE w g.C x u) :
    Evo ⟨g, fr, w⟩ ⟨g.lit w (l.length * sz), fr, w.alloc (.cells cur.toArray e mk)⟩ ∧ Mem (g.lit w (l.length * sz)) bx fr (w.alloc (.cells cur.toArray e mk)) ∧
      V (w.alloc (.cells cur.toArray e mk)) (g.lit w (l.length * sz)) fr (.sl .ext l) (.slice (some ⟨w.heap.size, 0, none⟩) l.length cap) := by
  have hevo : Evo ⟨g, fr, w⟩ ⟨g.lit w (l.length * sz), fr, w.alloc (.cells cur.toArray e mk)⟩ := by
    refine ⟨rfl, rfl, rfl, by simp, fun k hk _ => Below.heap_alloc w _ k hk, fun _ _ h => .inl h, fun k o h => cell_alloc w _ (hm.Clt k o h) o, fun k o h => ?_, fun _ _ h => h, fun _ h => .inl h, fun k c h => .inl ⟨c, h⟩, TokOn.refl _ _⟩
    rcases h with h | ⟨h, _⟩
    · exact .inl h
    · exact .inr (.inl (by simp [h]))
  have hflat := hU.flat
  refine ⟨hevo, ?_, ?_⟩
  · constructor
    · exact hm.bl
    · intro i k cs h1 h2
      obtain ⟨us, ut, k1, k2, k3⟩ := hm.bat i k cs h1 h2
      exact ⟨us, ut, (Below.heap_alloc w _ k (Array.getElem?_eq_some_iff.1 k1).1).trans k1, k2, fun j d v hd hv => (k3 j d v hd hv).evo hevo⟩
    · intro k o hk hC
      rcases hC with hC | ⟨hC, _⟩
      · exact hm.bC k o hk hC
      · have := hm.lt (.inl hk); omega
    · exact hm.bN
    · exact hm.tl
    · intro i k c f h1 h2
      have hTk := hm.tat i k c f h1 h2
      obtain ⟨cur', s1, s2⟩ := hTk.row
      have hklt := (Array.getElem?_eq_some_iff.1 s1).1
      refine ⟨⟨cur', (Below.heap_alloc w _ k hklt).trans s1, s2⟩, hTk.le, hTk.max, hTk.pos, fun o ho hC => ?_⟩
      rcases hC with hC | ⟨hC, _⟩
      · exact hTk.far o ho hC
      · omega
    · exact hm.tN
    · exact hm.tρ
    · intro k o hC
      rcases hC with hC | ⟨hC, _⟩
      · have := hm.Clt k o hC; simp; omega
      · simp [hC]
    · exact hm.gl.evo hevo
  · refine .sl _ _ _ (.slC l w.heap.size 0 cap (fun j => cur.getD j undef) hl hcap (fun j hj => .inr ⟨rfl, by rw [hflat] at hj; omega⟩) (fun j hj => ?_) (fun j x hx => ?_)) trivial
    · rw [Nat.zero_add, World.cell?_alloc_mark]
      have : j < cur.length := by omega
      simp [List.getD, this]
    · have hj := (List.getElem?_eq_some_iff.1 hx).1
      have hlt : j < cur.length := by omega
      refine (hv j x _ hx (by rw [List.getElem?_eq_getElem hlt]; simp [List.getD, hlt])).mono (fun _ _ h => .inl h) fun k o h => cell_alloc w _ (hm.Clt k o h) o
theorem AL_s2b [Known] [Dfr] (hT : chk P T = true) {x : Operand} {src dst e : Nat} {s : List UInt8} {ti td te : Ti} (hx : ev tm x = .str s) (ht : tl T src = some ti) (hk : ti.kd = .str) (htds : tl T dst = some td) (hkd : td.kd = .slice e) (hte : tl T e = some te) (hke : te.kd = .int .u8) (htd : Nat.blt t n = true)
    (k : AL P ops rest ⟨n, (t, .sl .ext (s.map E.byte)) :: tm, bx, fr, ee⟩ Q) : AL P ops (⟨some t, .convert src dst x, ty, pos, after, none⟩ :: rest) ⟨n, tm, bx, fr, ee⟩ Q :=
  AL_mem _ htd (fun g a w hi => by
    have h1 : V w g fr (ev tm x) (a.eval x) := hi.ev x
    rw [hx] at h1
    obtain ⟨h1, hl⟩ := h1.str_inv
    have hs := (tl_ok hT ht).str hk
    have hd := (tl_ok hT htds).slice hkd
    have he := (tl_ok hT hte).int hke
    have hsz : (⟨s.toArray⟩ : ByteArray).size = s.length := by show s.toArray.size = _; simp
    have hrun := run_bytes_of_string (P := P) w src dst e ⟨s.toArray⟩ hs hd he
    rw [hsz] at hrun
    have hge := grownCap_ge w s.length 0 e
    have hcm := grownCap_le_maxLen w s.length 0 e hl
    generalize grownCap w s.length 0 e = C at hrun hge hcm
    have hrow : bytesRow ⟨s.toArray⟩ C = (bytesRow ⟨s.toArray⟩ C).toList.toArray := by simp
    rw [hrow] at hrun
    have hcell : ∀ j, j < s.length → (bytesRow ⟨s.toArray⟩ C).toList[j]? = some (.int .u8 ((s[j]?.getD 0).toNat : Int)) := fun j hj => by
      simp only [bytesRow, Array.toList_append, Array.toList_map, List.toList_toArray, Array.toList_replicate]
      rw [List.getElem?_append_left (by simpa using hj)]
      simp [hj]
    have hlen : s.length ≤ (bytesRow ⟨s.toArray⟩ C).toList.length := by
      simp [bytesRow]
    have hfl : ∀ l : List UInt8, flat (l.map E.byte) = l.map E.byte := fun l => by induction l with | nil => rfl | cons x l ih => simp [E.cells, ih]
    obtain ⟨k1, k2, k3⟩ := (hi.mem.drew).lit2 (bytesRow ⟨s.toArray⟩ C).toList (s.map E.byte) 1 C e ((bytesRow ⟨s.toArray⟩ C).toList.toArray.size, (bytesRow ⟨s.toArray⟩ C).toList.toArray.size + 1) (by simpa using hlen) (by simpa using hge) hcm (Uni.map (f := E.byte) (fun _ => rfl) s) (fun j x u hx hu => by
      rw [hfl] at hx
      have hj : j < s.length := by have := (List.getElem?_eq_some_iff.1 hx).1; simpa using this
      rw [hcell j hj] at hu
      injection hu with hu
      subst hu
      rw [List.getElem?_map, List.getElem?_eq_getElem hj] at hx
      simp at hx
      subst hx
      simp [hj]
      exact .int _ _)
    refine ⟨.slice (some ⟨w.heap.size, 0, none⟩) (s.map E.byte).length C, _, _, ?_, Evo.drew.trans k1, k2, k3⟩
    rw [List.length_map]
    simp only [execOp, h1, Sem.run_bind, hrun, Result.andThen_ok]
    rfl) k
/-- the larger of two numbers -/
theorem AL_max [Known] [Dfr] {x y : Operand} {k0 k1 : IntKind} {m q : Int} {ats : Array TypeId} (hx : ev tm x = .int k0 m) (hy : ev tm y = .int k1 q) (htd : Nat.blt t n = true)
    (k : AL P ops rest ⟨n, (t, .int k0 (if q > m then q else m)) :: tm, bx, fr, ee⟩ Q) : AL P ops (⟨some t, .call { callee := .builtin .max, args := #[x, y], argTypes := ats }, ty, pos, after, none⟩ :: rest) ⟨n, tm, bx, fr, ee⟩ Q :=
  AL_val _ htd (fun g a w hi => by
    have h1 : V w g fr (ev tm x) (a.eval x) := hi.ev x
    have h2 : V w g fr (ev tm y) (a.eval y) := hi.ev y
    rw [hx] at h1
    rw [hy] at h2
    have h1 := h1.int_inv
    have h2 := h2.int_inv
    exact ⟨.int k0 (if q > m then q else m), by simp [execOp, resolve, invoke, builtin, Builtin.max_, Builtin.max2, Sem.run_bind, h1, h2], .int _ _⟩) k
/-- bytes out of cells that are spelled out -/
def toBy : List E → Option (List UInt8)
  | [] => some []
  | .int .u8 n :: l => match Int.decEq ((UInt8.ofNat n.toNat).toNat : Int) n, toBy l with
    | .isTrue _, some bs => some (UInt8.ofNat n.toNat :: bs)
    | _, _ => none
  | _ :: _ => none
theorem toBy_eq : ∀ {l : List E} {bs : List UInt8}, toBy l = some bs → l = bs.map E.byte
  | [], bs, h => by simp [toBy] at h; subst h; rfl
  | .int .u8 n :: l, bs, h => by
    simp only [toBy] at h
    cases hd : Int.decEq ((UInt8.ofNat n.toNat).toNat : Int) n with
    | isFalse hf => simp [hd] at h
    | isTrue hn =>
      cases hl : toBy l with
      | none => simp [hd, hl] at h
      | some bs' =>
        simp [hd, hl] at h
        subst h
        rw [toBy_eq hl, List.map_cons]
        congr 1
        show E.int .u8 n = E.int .u8 _
        rw [hn]
theorem AL_b2sC [Known] [Dfr] (hT : chk P T = true) {x : Operand} {src dst e : Nat} {tk : Tok} {l : List E} {bs : List UInt8} {ti td te : Ti} (hx : ev tm x = .sl tk l) (hl : toBy l = some bs) (ht : tl T src = some ti) (hk : ti.kd = .slice e) (hte : tl T e = some te) (hke : te.kd = .int .u8) (htds : tl T dst = some td) (hkd : td.kd = .str) (htd : Nat.blt t n = true)
    (k : AL P ops rest ⟨n, (t, .str bs) :: tm, bx, fr, ee⟩ Q) : AL P ops (⟨some t, .convert src dst x, ty, pos, after, none⟩ :: rest) ⟨n, tm, bx, fr, ee⟩ Q :=
  AL_b2s hT hx (toBy_eq hl) ht hk hte hke htds hkd htd k
end
end Go.Av
end
/- Interface values that are nil. -/
section
open Go.RowKit Go.Pl
namespace Go.Av
set_option linter.unusedSimpArgs false
set_option linter.unusedVariables false
section
variable {P : Program} {Q : X → St → Prop} {n : Nat} {ee : Nat × Nat} {tm : List (Nat × D)} {bx : List (List D)} {fr : List Fr}
variable {ops : Array Oper} {rest : List Oper} {t ty : Nat} {pos : String} {after : Array Edge}
theorem AL_ifnil [Known] [Dfr] {op : BinOp} {x : Operand} {xt yt : Nat} {d : D} (hx : ev tm x = .nili) (hu : P.underlying xt = some (.interface (P.methodsAt xt))) (hd : (match op with | .eql => some (D.bool true) | .neq => some (D.bool false) | _ => none) = some d) (htd : Nat.blt t n = true)
    (k : AL P ops rest ⟨n, (t, d) :: tm, bx, fr, ee⟩ Q) : AL P ops (⟨some t, .binOp op xt x (.const .nilIface) yt, ty, pos, after, none⟩ :: rest) ⟨n, tm, bx, fr, ee⟩ Q :=
  AL_val _ htd (fun g a w hi => by
    have h1 : V w g fr (ev tm x) (a.eval x) := hi.ev x
    rw [hx] at h1
    have h1 : a.eval x = .nilIface := by
      generalize a.eval x = v at h1
      cases h1 with | nili => rfl
    have h2 : a.eval (.const .nilIface) = .nilIface := rfl
    have hrun : (Op.equal xt .nilIface .nilIface).run P w = .ok true w := run_equal_nil_nil w xt hu
    cases op <;> simp at hd <;> subst hd <;> first | exact ⟨.bool true, by simp [execOp, h1, h2, eqGuard, binOp, Sem.run_bind, hrun], .bool _⟩ | exact ⟨.bool false, by simp [execOp, h1, h2, eqGuard, binOp, Sem.run_bind, hrun], .bool _⟩) k
end
end Go.Av
end
/- Regions that draw their order, in which a few operations, in an order of their own, change variables or tokens. -/
section
open Go.RowKit Go.Pl
namespace Go.Av
set_option linter.unusedSimpArgs false
set_option linter.unusedVariables false
/-- what an operation leaves: a datum; and variables and tokens, if it changes them -/
inductive Y where
  | pu (d : D)
  | ef (d : D) (bx : List (List D)) (fr : List Fr)
def Y.d : Y → D
  | .pu d => d
  | .ef d _ _ => d
def Y.aft : Y → List (List D) × List Fr → List (List D) × List Fr
  | .pu _, s => s
  | .ef _ b f, _ => (b, f)
/-- a slot for each operation; an operation without one takes a number that no slot has -/
def oslot (n i : Nat) (o : Oper) : Nat := match o.dst with
  | some t => t
  | none => n + i
def qY (o : Oper) (bx : List (List D)) (fr : List Fr) : Y → X → St → Prop
  | .pu d, .norm, S => match o.dst with
    | some t => qp t d bx fr .norm S
    | none => d = .junk ∧ S.bx = bx ∧ S.fr = fr
  | .ef d b f, .norm, S => S.bx = b ∧ S.fr = f ∧ match o.dst with
    | some t => look S.tm t = d
    | none => d = .junk
  | _, _, _ => False
theorem qY_not {o : Oper} {bx : List (List D)} {fr : List Fr} {y : Y} {x : X} {S : St} (h : qY o bx fr y x S) : x = .norm := by
  cases y <;> cases x <;> simp [qY] at h ⊢
def dstOk (n : Nat) (o : Oper) : Bool := match o.dst with
  | some t => Nat.blt t n
  | none => true
inductive AE [Known] [Dfr] (P : Program) (l : List Oper) (n : Nat) : Nat → List Oper → List (Nat × D) → List (List D) → List Fr → List Y → List (Nat × D) → List (List D) → List Fr → Prop
  | nil (i : Nat) (tm : List (Nat × D)) (bx : List (List D)) (fr : List Fr) : AE P l n i [] tm bx fr [] tm bx fr
  | cons (i : Nat) (o : Oper) (rest : List Oper) (tm : List (Nat × D)) (bx : List (List D)) (fr : List Fr) (y : Y) (ys : List Y) (tm' : List (Nat × D)) (bx' : List (List D)) (fr' : List Fr) (ht : dstOk n o = true)
      (h : AL P l.toArray [o] ⟨n, restr l o tm, bx, fr, (bx.length, fr.length)⟩ (qY o bx fr y)) (k : AE P l n (i + 1) rest ((oslot n i o, y.d) :: tm) (y.aft (bx, fr)).1 (y.aft (bx, fr)).2 ys tm' bx' fr') : AE P l n i (o :: rest) tm bx fr (y :: ys) tm' bx' fr'
def stg : List Y → List (List D) × List Fr → (Nat → Bool) → List (List D) × List Fr
  | [], s, _ => s
  | y :: ys, s, p => stg ys (match p 0 with | true => y.aft s | false => s) (fun j => p (j + 1))
def isEf (ys : List Y) (i : Nat) : Prop := ∃ d b f, ys[i]? = some (.ef d b f)
theorem stg_congr : ∀ (ys : List Y) (s : List (List D) × List Fr) (p q : Nat → Bool), (∀ i, isEf ys i → p i = q i) → stg ys s p = stg ys s q
  | [], s, p, q, _ => rfl
  | y :: ys, s, p, q, h => by
    simp only [stg]
    have h1 : (match p 0 with | true => y.aft s | false => s) = (match q 0 with | true => y.aft s | false => s) := by
      cases y with
      | pu d => cases p 0 <;> cases q 0 <;> rfl
      | ef d b f => rw [h 0 ⟨d, b, f, rfl⟩]
    rw [h1]
    exact stg_congr ys _ _ _ fun i ⟨d, b, f, hi⟩ => h (i + 1) ⟨d, b, f, by simpa using hi⟩
theorem stg_none : ∀ (ys : List Y) (s : List (List D) × List Fr) (p : Nat → Bool), (∀ i, isEf ys i → p i = false) → stg ys s p = s
  | [], s, p, _ => rfl
  | y :: ys, s, p, h => by
    simp only [stg]
    have h1 : (match p 0 with | true => y.aft s | false => s) = s := by
      cases y with
      | pu d => cases p 0 <;> rfl
      | ef d b f => rw [h 0 ⟨d, b, f, rfl⟩]
    rw [h1]
    exact stg_none ys _ _ fun i ⟨d, b, f, hi⟩ => h (i + 1) ⟨d, b, f, by simpa using hi⟩
/-- behind the operation that is done last of those that change something -/
theorem stg_at : ∀ (ys : List Y) (s : List (List D) × List Fr) (i : Nat) (y : Y), ys[i]? = some y → stg ys s (fun j => decide (j < i + 1)) = y.aft (stg ys s (fun j => decide (j < i)))
  | [], s, i, y, h => by simp at h
  | y0 :: ys, s, 0, y, h => by
    simp at h; subst h
    simp only [stg]
    have e1 : (match decide (0 < 0 + 1) with | true => y0.aft s | false => s) = y0.aft s := by simp
    have e2 : (match decide (0 < 0) with | true => y0.aft s | false => s) = s := by simp
    rw [e1, e2, stg_none ys _ _ (by intro i _; simp), stg_none ys _ _ (by intro i _; simp)]
  | y0 :: ys, s, i + 1, y, h => by
    simp only [stg]
    have e1 : (match decide (0 < i + 1 + 1) with | true => y0.aft s | false => s) = y0.aft s := by simp
    have e2 : (match decide (0 < i + 1) with | true => y0.aft s | false => s) = y0.aft s := by simp
    rw [e1, e2]
    have := stg_at ys (y0.aft s) i y (by simpa using h)
    simpa using this
section
variable {P : Program} {Q : X → St → Prop} {n : Nat} {ee : Nat × Nat} {tm tm' : List (Nat × D)} {bx bx' : List (List D)} {fr fr' : List Fr} {b0 : Bs} {g : G} {w : World} {a : Act} {ys : List Y}
theorem AE.steps [Known] [Dfr] {l : List Oper} {i0 : Nat} {rest : List Oper} (h : AE P l n i0 rest tm bx fr ys tm' bx' fr') : ∃ ds : List (Nat × D), ds.length = rest.length ∧ ys.length = rest.length ∧ tm' = ds.reverse ++ tm ∧ stg ys (bx, fr) (fun _ => true) = (bx', fr') ∧
    ∀ (i : Nat) (o : Oper), rest[i]? = some o → ∃ y, ys[i]? = some y ∧ ds[i]? = some (oslot n (i0 + i) o, y.d) ∧ dstOk n o = true ∧
      AL P l.toArray [o] ⟨n, restr l o ((ds.take i).reverse ++ tm), (stg ys (bx, fr) (fun j => decide (j < i))).1, (stg ys (bx, fr) (fun j => decide (j < i))).2, ((stg ys (bx, fr) (fun j => decide (j < i))).1.length, (stg ys (bx, fr) (fun j => decide (j < i))).2.length)⟩ (qY o (stg ys (bx, fr) (fun j => decide (j < i))).1 (stg ys (bx, fr) (fun j => decide (j < i))).2 y) := by
  induction h with
  | nil i tm bx fr => exact ⟨[], rfl, rfl, rfl, rfl, fun i o h => by simp at h⟩
  | cons i o rest tm bx fr y ys tm' bx' fr' ht h k ih =>
    obtain ⟨ds, h1, h2, h3, h4, h5⟩ := ih
    refine ⟨(oslot n i o, y.d) :: ds, by simp [h1], by simp [h2], by simp [h3], ?_, fun j o' ho => ?_⟩
    · simp only [stg]; exact h4
    cases j with
    | zero =>
      simp at ho; subst ho
      have e : stg (y :: ys) (bx, fr) (fun j => decide (j < 0)) = (bx, fr) := stg_none _ _ _ (by intro i _; simp)
      refine ⟨y, rfl, by simp, ht, ?_⟩
      rw [e]
      simpa using h
    | succ j =>
      simp at ho
      obtain ⟨y', q1, q2, q3, q4⟩ := h5 j o' ho
      have e : stg (y :: ys) (bx, fr) (fun x => decide (x < j + 1)) = stg ys (y.aft (bx, fr)) (fun x => decide (x < j)) := by
        simp only [stg]
        have e2 : (match decide (0 < j + 1) with | true => y.aft (bx, fr) | false => (bx, fr)) = y.aft (bx, fr) := by simp
        rw [e2]
        exact stg_congr _ _ _ _ fun i _ => by simp
      refine ⟨y', by simpa using q1, by rw [show i + (j + 1) = i + 1 + j from by omega]; simpa using q2, q3, ?_⟩
      rw [e]
      simpa using q4
/-- which operations change something; the states that they leave -/
def esOf : Nat → List Y → List Nat
  | _, [] => []
  | i, .pu _ :: ys => esOf (i + 1) ys
  | i, .ef _ _ _ :: ys => i :: esOf (i + 1) ys
def stsOf : Nat → List Y → List (Nat × List (List D) × List Fr)
  | _, [] => []
  | i, .pu _ :: ys => stsOf (i + 1) ys
  | i, .ef _ b f :: ys => (i + 1, b, f) :: stsOf (i + 1) ys
theorem mem_esOf : ∀ {ys : List Y} {i0 e : Nat}, e ∈ esOf i0 ys ↔ ∃ i, e = i0 + i ∧ isEf ys i
  | [], i0, e => by simp [esOf, isEf]
  | .pu d :: ys, i0, e => by
    simp only [esOf]
    rw [mem_esOf]
    constructor
    · rintro ⟨i, rfl, d, b, f, h⟩; exact ⟨i + 1, by omega, d, b, f, by simpa using h⟩
    · rintro ⟨i, rfl, d, b, f, h⟩
      cases i with
      | zero => simp at h
      | succ i => exact ⟨i, by omega, d, b, f, by simpa using h⟩
  | .ef d b f :: ys, i0, e => by
    simp only [esOf, List.mem_cons]
    rw [mem_esOf]
    constructor
    · rintro (rfl | ⟨i, rfl, d, b, f, h⟩)
      · exact ⟨0, by omega, d, b, f, rfl⟩
      · exact ⟨i + 1, by omega, d, b, f, by simpa using h⟩
    · rintro ⟨i, rfl, d, b, f, h⟩
      cases i with
      | zero => exact .inl (by omega)
      | succ i => exact .inr ⟨i, by omega, d, b, f, by simpa using h⟩
theorem mem_stsOf : ∀ {ys : List Y} {i0 i : Nat} {d : D} {b : List (List D)} {f : List Fr}, ys[i]? = some (.ef d b f) → (i0 + i + 1, b, f) ∈ stsOf i0 ys
  | .pu d :: ys, i0, 0, _, _, _, h => by simp at h
  | .pu d :: ys, i0, i + 1, _, _, _, h => by
    simp only [stsOf]
    have := mem_stsOf (i0 := i0 + 1) (by simpa using h)
    rw [show i0 + (i + 1) + 1 = i0 + 1 + i + 1 from by omega]; exact this
  | .ef d b f :: ys, i0, 0, _, _, _, h => by
    simp at h
    obtain ⟨_, rfl, rfl⟩ := h
    simp [stsOf]
  | .ef d b f :: ys, i0, i + 1, _, _, _, h => by
    simp only [stsOf]
    have := mem_stsOf (i0 := i0 + 1) (by simpa using h)
    rw [show i0 + (i + 1) + 1 = i0 + 1 + i + 1 from by omega]; exact List.mem_cons_of_mem _ this
  | [], i0, i, _, _, _, h => by simp at h
/-- may the i-th operation be done where just the operations of es ahead of c are done? (not asked where it is so in the order of the text) -/
def feas (l : List Oper) (es : List Nat) (i c : Nat) : Bool := !(es.all fun e => decide (e < c) == decide (e < i)) && es.all fun e => (!up (masks [] l) i e || decide (e < c)) && (!up (masks [] l) e i || decide (c ≤ e))
def chkEs (l : List Oper) (es : List Nat) : Bool := es.all fun e => es.all fun e' => !decide (e < e') || up (masks [] l) e' e
def chkLk (n : Nat) (l : List Oper) : Bool := l.all fun o => (looks l o).all fun t => Nat.blt t n
inductive AOs [Known] [Dfr] (P : Program) (l : List Oper) (n : Nat) (es : List Nat) (i : Nat) (o : Oper) (tm : List (Nat × D)) (d : D) : List (Nat × List (List D) × List Fr) → Prop
  | nil : AOs P l n es i o tm d []
  | skip (c : Nat) (bx : List (List D)) (fr : List Fr) (sts : List (Nat × List (List D) × List Fr)) (h : feas l es i c = false) (k : AOs P l n es i o tm d sts) : AOs P l n es i o tm d ((c, bx, fr) :: sts)
  | go (c : Nat) (bx : List (List D)) (fr : List Fr) (sts : List (Nat × List (List D) × List Fr)) (h : AL P l.toArray [o] ⟨n, restr l o tm, bx, fr, (bx.length, fr.length)⟩ (qY o bx fr (.pu d))) (k : AOs P l n es i o tm d sts) : AOs P l n es i o tm d ((c, bx, fr) :: sts)
inductive AO [Known] [Dfr] (P : Program) (l : List Oper) (n : Nat) (es : List Nat) (sts : List (Nat × List (List D) × List Fr)) : Nat → List Oper → List Y → List (Nat × D) → Prop
  | nil (i : Nat) (ys : List Y) (tm : List (Nat × D)) : AO P l n es sts i [] ys tm
  | ef (i : Nat) (o : Oper) (rest : List Oper) (d : D) (bx : List (List D)) (fr : List Fr) (ys : List Y) (tm : List (Nat × D)) (k : AO P l n es sts (i + 1) rest ys ((oslot n i o, d) :: tm)) : AO P l n es sts i (o :: rest) (.ef d bx fr :: ys) tm
  | pu (i : Nat) (o : Oper) (rest : List Oper) (d : D) (ys : List Y) (tm : List (Nat × D)) (h : AOs P l n es i o tm d sts) (k : AO P l n es sts (i + 1) rest ys ((oslot n i o, d) :: tm)) : AO P l n es sts i (o :: rest) (.pu d :: ys) tm
theorem AOs.get [Known] [Dfr] {l : List Oper} {es : List Nat} {i : Nat} {o : Oper} {d : D} {sts : List (Nat × List (List D) × List Fr)} (h : AOs P l n es i o tm d sts) : ∀ {c : Nat} {b : List (List D)} {f : List Fr}, (c, b, f) ∈ sts → feas l es i c = false ∨ AL P l.toArray [o] ⟨n, restr l o tm, b, f, (b.length, f.length)⟩ (qY o b f (.pu d)) := by
  induction h with
  | nil => intro c b f h; cases h
  | skip c bx fr sts h k ih =>
    intro c' b f hm
    rcases List.mem_cons.1 hm with hm | hm
    · cases hm; exact .inl h
    · exact ih hm
  | go c bx fr sts h k ih =>
    intro c' b f hm
    rcases List.mem_cons.1 hm with hm | hm
    · cases hm; exact .inr h
    · exact ih hm
theorem AO.get [Known] [Dfr] {l : List Oper} {es : List Nat} {sts : List (Nat × List (List D) × List Fr)} {i0 : Nat} {rest : List Oper} (h : AO P l n es sts i0 rest ys tm) : ∀ {i : Nat} {o : Oper} {d : D}, rest[i]? = some o → ys[i]? = some (.pu d) → ∀ (ds : List (Nat × D)), (∀ (j : Nat) (oj : Oper) (y : Y), j < i → rest[j]? = some oj → ys[j]? = some y → ds[j]? = some (oslot n (i0 + j) oj, y.d)) → i ≤ ds.length → AOs P l n es (i0 + i) o ((ds.take i).reverse ++ tm) d sts := by
  induction h with
  | nil i ys tm => intro i o d h; simp at h
  | ef i0 o0 rest d0 bx fr ys tm k ih =>
    intro i o d ho hy ds hds hl
    cases i with
    | zero => simp at hy
    | succ i =>
      cases ds with
      | nil => simp at hl
      | cons p ds =>
        have h0 := hds 0 o0 _ (by omega) rfl rfl
        simp at h0
        subst h0
        have := ih (i := i) (by simpa using ho) (by simpa using hy) ds (fun j oj y hj h1 h2 => by
          have := hds (j + 1) oj y (by omega) (by simpa using h1) (by simpa using h2)
          rw [show i0 + 1 + j = i0 + (j + 1) from by omega]; simpa using this) (by simpa using hl)
        rw [show i0 + (i + 1) = i0 + 1 + i from by omega]
        simpa [Y.d] using this
  | pu i0 o0 rest d0 ys tm h k ih =>
    intro i o d ho hy ds hds hl
    cases i with
    | zero =>
      simp at ho hy
      subst ho hy
      simpa using h
    | succ i =>
      cases ds with
      | nil => simp at hl
      | cons p ds =>
        have h0 := hds 0 o0 _ (by omega) rfl rfl
        simp at h0
        subst h0
        have := ih (i := i) (by simpa using ho) (by simpa using hy) ds (fun j oj y hj h1 h2 => by
          have := hds (j + 1) oj y (by omega) (by simpa using h1) (by simpa using h2)
          rw [show i0 + 1 + j = i0 + (j + 1) from by omega]; simpa using this) (by simpa using hl)
        rw [show i0 + (i + 1) = i0 + 1 + i from by omega]
        simpa [Y.d] using this
/-- a set of done operations that is closed is, among those of es, a beginning -/
theorem cut_of {p : Nat → Bool} : ∀ (es : List Nat), (∀ e ∈ es, ∀ e' ∈ es, e < e' → p e' = true → p e = true) → ∃ c, (c = 0 ∨ ∃ e ∈ es, c = e + 1 ∧ p e = true) ∧ ∀ e ∈ es, p e = decide (e < c)
  | [], _ => ⟨0, .inl rfl, by simp⟩
  | e :: es, h => by
    obtain ⟨c, h1, h2⟩ := cut_of es fun x hx y hy => h x (by simp [hx]) y (by simp [hy])
    cases hp : p e with
    | true =>
      rcases Nat.lt_or_ge e c with hc | hc
      · refine ⟨c, h1.imp id fun ⟨x, hx, k⟩ => ⟨x, by simp [hx], k⟩, fun x hx => ?_⟩
        rcases List.mem_cons.1 hx with rfl | hx
        · simp [hp, hc]
        · exact h2 x hx
      · refine ⟨e + 1, .inr ⟨e, by simp, rfl, hp⟩, fun x hx => ?_⟩
        rcases List.mem_cons.1 hx with rfl | hx'
        · simp [hp]
        · rcases Nat.lt_trichotomy x e with hlt | rfl | hgt
          · rw [h x hx e (by simp) hlt hp]; simp; omega
          · rw [hp]; simp
          · rw [h2 x hx']; simp; omega
    | false =>
      refine ⟨c, h1.imp id fun ⟨x, hx, k⟩ => ⟨x, by simp [hx], k⟩, fun x hx => ?_⟩
      rcases List.mem_cons.1 hx with rfl | hx'
      · rw [hp]
        rcases h1 with rfl | ⟨y, hy, rfl, hpy⟩
        · simp
        · have : ¬ x < y + 1 := fun hlt => by
            rcases Nat.lt_or_ge x y with h3 | h3
            · have := h x (by simp) y (by simp [hy]) h3 hpy
              rw [hp] at this; cases this
            · have : x = y := by omega
              subst this
              rw [hp] at hpy; cases hpy
          simp [this]
      · exact h2 x hx'
end
end Go.Av
end
/- Regions that draw their order, with effects: the rule. -/
section
open Go.RowKit Go.Pl
namespace Go.Av
set_option linter.unusedSimpArgs false
set_option linter.unusedVariables false
/-- each operation has its slot -/
def HD (n : Nat) (l : List Oper) (ds : List (Nat × D)) : Prop := ∀ (i : Nat) (o : Oper), l[i]? = some o → i < ds.length → ∃ d, ds[i]? = some (oslot n i o, d) ∧ (o.dst = none → d = .junk) ∧ dstOk n o = true
theorem HD.one {n : Nat} {l : List Oper} {ds : List (Nat × D)} (hchk : chkDraw l = true) (hl : ds.length ≤ l.length) (hdst : HD n l ds) : ∀ (i j : Nat) (p q : Nat × D), ds[i]? = some p → ds[j]? = some q → p.1 = q.1 → i = j := fun x y p q hx hy e => by
  by_cases hxy : x = y
  · exact hxy
  · exfalso
    have hxd := (List.getElem?_eq_some_iff.1 hx).1
    have hxl : x < l.length := Nat.lt_of_lt_of_le hxd hl
    have hyd := (List.getElem?_eq_some_iff.1 hy).1
    have hyl : y < l.length := Nat.lt_of_lt_of_le hyd hl
    have hc := chk_get hchk hxl hyl hxy
    obtain ⟨d1, a1, _, a3⟩ := hdst x _ (List.getElem?_eq_getElem hxl) hxd
    obtain ⟨d2, c1, _, c3⟩ := hdst y _ (List.getElem?_eq_getElem hyl) hyd
    rw [hx] at a1; injection a1 with a1
    rw [hy] at c1; injection c1 with c1
    rw [a1, c1] at e
    simp only [chkPair, List.getElem?_eq_getElem hxl, List.getElem?_eq_getElem hyl] at hc
    simp only [oslot] at e
    simp only [dstOk] at a3 c3
    cases h1 : l[x].dst with
    | none =>
      cases h2 : l[y].dst with
      | none => simp [h1, h2] at e; omega
      | some t2 =>
        simp [h1, h2] at e
        rw [h2] at c3
        have h9 : @LT.lt Nat instLTNat t2 n := by have := c3; simp only [Nat.blt_eq] at this; exact this
        (have e2 : @Eq Nat _ _ := e); omega
    | some t1 =>
      rw [h1] at a3
      have h9 : @LT.lt Nat instLTNat t1 n := by have := a3; simp only [Nat.blt_eq] at this; exact this
      cases h2 : l[y].dst with
      | none => simp [h1, h2] at e; (have e2 : @Eq Nat _ _ := e); omega
      | some t2 =>
        simp [h1, h2] at e
        simp [h1, h2, e] at hc
theorem look_junk {tm : List (Nat × D)} {t : Nat} (h : ∀ p ∈ tm, p.1 = t → p.2 = .junk) : look tm t = .junk := by
  induction tm with
  | nil => rfl
  | cons p tm ih =>
    obtain ⟨k, d⟩ := p
    simp only [look]
    cases hb : Nat.beq k t with
    | true => exact h (k, d) (by simp) (Nat.eq_of_beq_eq_true hb)
    | false => exact ih fun p hp => h p (by simp [hp])
/-- what an operation looks at stands as in the order of the text -/
theorem cur_readyE {n : Nat} {l : List Oper} {ds : List (Nat × D)} {tm : List (Nat × D)} {listed : Array Bool} (hchk : chkDraw l = true) (hlk : chkLk n l = true) (hl : ds.length ≤ l.length) (hdst : HD n l ds)
    (hcl : ∀ (m : Nat) (o : Oper), l[m]? = some o → listed.getD m false = true → ∀ e ∈ o.after, Region.binds .any e = true → listed.getD e.on false = true)
    {i : Nat} {o : Oper} (hi : l[i]? = some o) (hni : listed.getD i false = false) (hr : ∀ e ∈ o.after, Region.binds .any e = true → listed.getD e.on false = true) (hid : i ≤ ds.length) {t : Nat} (ht : t ∈ looks l o) :
    cur l ds tm listed t = look ((ds.take i).reverse ++ tm) t := by
  have hil : i < l.length := (List.getElem?_eq_some_iff.1 hi).1
  have hN := hdst.one hchk hl
  have htn : t < n := by
    have h1 := List.all_eq_true.1 hlk o (List.mem_of_getElem? hi)
    exact (by simpa [Nat.blt_eq] using List.all_eq_true.1 h1 t ht)
  by_cases hex : ∃ (j : Nat) (d : D), ds[j]? = some (t, d)
  · obtain ⟨j, d, hj⟩ := hex
    have hjd := (List.getElem?_eq_some_iff.1 hj).1
    have hjl : j < l.length := Nat.lt_of_lt_of_le hjd hl
    rw [cur_at hN hl hj]
    have hoj := List.getElem?_eq_getElem hjl
    obtain ⟨d', a1, _, a3⟩ := hdst j _ hoj hjd
    rw [hj] at a1; injection a1 with a1; injection a1 with a1 _
    have a2 : l[j].dst = some t := by
      cases hd : l[j].dst with
      | none => simp only [oslot, hd] at a1; omega
      | some t' => simp only [oslot, hd] at a1; rw [a1]
    have hord : j ≠ i → (if j < i then up (masks [] l) i j else up (masks [] l) j i) = true := fun hne => by
      have hc := chk_get hchk hjl hil hne
      simp only [chkPair, hoj, hi, a2, Bool.and_eq_true] at hc
      have h2 := hc.2
      rw [Bool.or_eq_true] at h2
      rcases h2 with h2 | h2
      · simp [ht] at h2
      · exact h2
    have htake : ∀ (x : Nat) (p : Nat × D), (ds.take i)[x]? = some p → x < i ∧ ds[x]? = some p := fun x p h => by simpa [List.getElem?_take] using h
    rw [look_append]
    by_cases hlist : listed.getD j false = true
    · rw [if_pos hlist]
      have hne : j ≠ i := fun e => by subst e; rw [hni] at hlist; cases hlist
      have hlt : j < i := by
        rcases Nat.lt_or_ge j i with h | h
        · exact h
        · exfalso
          have := hord hne
          rw [if_neg (by omega)] at this
          have := mem_up hcl j _ hoj (hcl j _ hoj hlist) i this
          rw [hni] at this; cases this
      have hin : (ds.take i)[j]? = some (t, d) := by simp [List.getElem?_take, hlt, hj]
      rw [if_pos (by simp only [List.map_reverse, List.mem_reverse]; exact List.mem_map.2 ⟨(t, d), List.mem_of_getElem? hin, rfl⟩)]
      have hN' : ∀ (x y : Nat) (p q : Nat × D), (ds.take i).reverse[x]? = some p → (ds.take i).reverse[y]? = some q → p.1 = q.1 → x = y := fun x y p q hx hy e => by
        have lx := (List.getElem?_eq_some_iff.1 hx).1
        have ly := (List.getElem?_eq_some_iff.1 hy).1
        rw [List.getElem?_reverse (by simpa using lx)] at hx
        rw [List.getElem?_reverse (by simpa using ly)] at hy
        have := hN _ _ p q (htake _ _ hx).2 (htake _ _ hy).2 e
        simp at lx ly this
        omega
      have hlen : (ds.take i).length = i := by rw [List.length_take]; omega
      refine (look_at hN' (i := i - 1 - j) (t := t) (d := d) ?_).symm
      rw [List.getElem?_reverse (by rw [hlen]; omega), hlen, show i - 1 - (i - 1 - j) = j from by omega]
      exact hin
    · rw [if_neg hlist]
      have hge : ¬ j < i := fun hlt => by
        have := hord (by omega)
        rw [if_pos hlt] at this
        exact hlist (mem_up hcl i o hi hr j this)
      rw [if_neg (fun hm => by
        simp only [List.map_reverse, List.mem_reverse] at hm
        obtain ⟨p, hp, he⟩ := List.mem_map.1 hm
        obtain ⟨x, hx⟩ := List.getElem?_of_mem hp
        obtain ⟨h1, h2⟩ := htake x p hx
        have := hN x j p (t, d) h2 hj he
        omega)]
  · have hno : ∀ (j : Nat) (p : Nat × D), ds[j]? = some p → p.1 ≠ t := fun j p hj e => hex ⟨j, p.2, by rw [hj, ← e]⟩
    rw [cur_far hno, look_append, if_neg (fun hm => by
      simp only [List.map_reverse, List.mem_reverse] at hm
      obtain ⟨p, hp, he⟩ := List.mem_map.1 hm
      obtain ⟨x, hx⟩ := List.getElem?_of_mem (List.mem_of_mem_take hp)
      exact hno x p hx he)]
section
variable {P : Program} {Q : X → St → Prop} {n : Nat} {ee : Nat × Nat} {tm tm' : List (Nat × D)} {bx bx' : List (List D)} {fr fr' : List Fr} {b0 : Bs} {g : G} {w : World} {a : Act} {ys : List Y}
/-- the state in the midst: variables and tokens s -/
structure MidE [Known] [Dfr] (b0 : Bs) (ee : Nat × Nat) (n : Nat) (tm : List (Nat × D)) (s : List (List D) × List Fr) (l : List Oper) (ds : List (Nat × D)) (listed : Array Bool) (g : G) (a : Act) (w : World) : Prop where
  bd : b0.g.ρ.length ≤ ee.1 ∧ b0.fr.length ≤ ee.2
  size : a.tmps.size = n
  defers : a.defers = Dfr.l
  mem : Mem g s.1 s.2 w
  evo : Evo b0 ⟨g, s.2, w⟩
  tm : ∀ t, V w g s.2 (cur l ds tm listed t) (a.tmps.getD t undef)
  closed : ∀ (m : Nat) (o : Oper), l[m]? = some o → listed.getD m false = true → ∀ e ∈ o.after, Region.binds .any e = true → listed.getD e.on false = true
  len : listed.size = l.length
/-- one operation, said of the state that it meets and the one that it leaves -/
theorem midE_step [Known] [Dfr] {l : List Oper} {ds : List (Nat × D)} {listed : Array Bool} {s : List (List D) × List Fr} {y : Y} (hchk : chkDraw l = true) (hlk : chkLk n l = true) (hl : ds.length ≤ l.length) (hdst : HD n l ds)
    (hM : MidE b0 ee n tm s l ds listed g a w) {i : Nat} {o : Oper} (ho' : l[i]? = some o) (hi : i ∈ Region.ready .any l.toArray listed) (hids : i < ds.length) (hd : ds[i]? = some (oslot n i o, y.d))
    (hAL : AL P l.toArray [o] ⟨n, restr l o ((ds.take i).reverse ++ tm), s.1, s.2, (s.1.length, s.2.length)⟩ (qY o s.1 s.2 y)) {K : Act → World → Prop} {Q2 : Exit → Act → World → Prop} (hK : ∀ g' a' w', MidE b0 ee n tm (y.aft s) l ds (listed.setIfInBounds i true) g' a' w' → K a' w') :
    wpOp P l.toArray Q2 i K a w := by
  obtain ⟨hn0, o2, ho, hr⟩ := mem_ready.1 hi
  have : o2 = o := by
    have h : l[i]? = some o2 := by simpa using ho
    rw [ho'] at h; injection h with h; exact h.symm
  subst this
  have hil : i < l.length := (List.getElem?_eq_some_iff.1 ho').1
  have hn : listed.getD i false = false := by
    have : i < listed.size := by rw [hM.len]; exact hil
    simp [this] at hn0 ⊢; exact hn0
  have hN := hdst.one hchk hl
  obtain ⟨_, _, _, hok⟩ := hdst i o2 ho' hids
  have hinv : Inv ⟨g, s.2, w⟩ ⟨n, restr l o2 ((ds.take i).reverse ++ tm), s.1, s.2, (s.1.length, s.2.length)⟩ g a w := by
    refine ⟨hM.size, hM.defers, hM.mem, fun x => ?_, Evo.refl _, by rw [hM.mem.bl]; exact Nat.le_refl _, Nat.le_refl _⟩
    by_cases hx : x ∈ looks l o2
    · dsimp only
      rw [look_restr _ hx, ← cur_readyE hchk hlk hl hdst hM.closed ho' hn hr (Nat.le_of_lt hids) hx]
      exact hM.tm x
    · dsimp only
      rw [look_restr_far _ hx]
      exact .junk _
  have hrun := hAL.run ⟨g, s.2, w⟩ g a w hinv
  have fin : ∀ a' w', (∃ v, a' = a.put o2.dst v) → wpList P l.toArray (conc ⟨g, s.2, w⟩ (qY o2 s.1 s.2 y)) [] a' w' → K a' w' := by
    rintro a' w' ⟨v, rfl⟩ h
    obtain ⟨S', g', hi', hq⟩ := h
    obtain ⟨n', tm2, bx2, fr2, ee'⟩ := S'
    have hn' : n' = n := by
      have h1 := hi'.size
      dsimp only at h1
      rw [← h1, ← hM.size]
      cases hd' : o2.dst <;> simp [Act.put, hd']
    subst hn'
    obtain ⟨g', hmem, hevo, hdef, hval⟩ : ∃ g', Mem g' (y.aft s).1 (y.aft s).2 w' ∧ Evo ⟨g, s.2, w⟩ ⟨g', (y.aft s).2, w'⟩ ∧ (a.put o2.dst v).defers = Dfr.l ∧ V w' g' (y.aft s).2 y.d ((a.put o2.dst v).tmps.getD (oslot n' i o2) undef) := by
      cases y with
      | ef d b f =>
        obtain ⟨q1, q2, q3⟩ := hq
        dsimp only at q1 q2
        subst q1 q2
        refine ⟨g', hi'.mem, hi'.evo, hi'.defers, ?_⟩
        cases hds : o2.dst with
        | none => rw [hds] at q3; simp only at q3; subst q3; exact .junk _
        | some t =>
          rw [hds] at q3
          dsimp only at q3
          have := hi'.tm t
          rw [hds] at this
          dsimp only at this
          simp only [oslot, hds, Y.d]
          rw [← q3]; exact this
      | pu d =>
        cases hds : o2.dst with
        | none =>
          simp only [qY, hds] at hq
          obtain ⟨rfl, q2, q3⟩ := hq
          subst q2 q3
          have h1 := hi'.defers
          rw [hds] at h1
          exact ⟨g', hi'.mem, hi'.evo, h1, .junk _⟩
        | some t =>
          simp only [qY, hds] at hq
          have hdef := hi'.defers
          rw [hds] at hdef
          rcases hq with ⟨q1, q2, q3⟩ | ⟨q1, q2, q3, q4⟩
          · dsimp only at q1 q2 q3
            subst q1 q2
            refine ⟨g', hi'.mem, hi'.evo, hdef, ?_⟩
            have := hi'.tm t
            rw [hds] at this
            dsimp only at this
            simp only [oslot, hds, Y.d]
            rw [← q3]; exact this
          · dsimp only at q1 q2 q3
            have h1 : Inv ⟨g, s.2, w⟩ ⟨n', [(t, d)], bx2, fr2, (g.ρ.length, s.2.length)⟩ g' (a.put o2.dst v) w' := by
              refine ⟨hi'.size, hi'.defers, hi'.mem, fun x => ?_, hi'.evo, Nat.le_refl _, Nat.le_refl _⟩
              by_cases hx : x = t
              · subst hx
                have := hi'.tm x
                dsimp only at this ⊢
                simp only [look, Nat.beq_refl]
                rcases q3 with q3 | q3
                · rw [← q3]; exact this
                · rw [← q3]; exact this.wk
              · have hb : Nat.beq t x = false := by
                  cases hb : Nat.beq t x with
                  | false => rfl
                  | true => exact (hx (Nat.eq_of_beq_eq_true hb).symm).elim
                simp only [look, hb]
                exact .junk _
            have h2 := h1.cut (k := s.1.length) (m := s.2.length) (by show g.ρ.length ≤ _; rw [hM.mem.bl]; exact Nat.le_refl _) (Nat.le_refl _) (by simp only [tmLt, q4]) (by rw [q1]; exact hM.mem.allLt)
            rw [q1, q2] at h2
            refine ⟨_, h2.mem, h2.evo, hdef, ?_⟩
            have := h2.tm t
            rw [hds] at this
            dsimp only at this
            simp only [look, Nat.beq_refl] at this
            simp only [oslot, hds, Y.d]
            exact this
    refine hK g' _ _ ⟨hM.bd, hi'.size, hdef, hmem, hM.evo.trans hevo, fun x => ?_, fun m om hm hlm e he hb => ?_, by simp [hM.len]⟩
    · by_cases hx : x = oslot n' i o2
      · subst hx
        rw [cur_at hN hl hd, if_pos (by simp [hM.len, hil])]
        exact hval
      · have hcur : cur l ds tm (listed.setIfInBounds i true) x = cur l ds tm listed x := by
          by_cases hex : ∃ (j : Nat) (d : D), ds[j]? = some (x, d)
          · obtain ⟨j, dj, hj⟩ := hex
            have hne : i ≠ j := fun e => by
              subst e
              rw [hd] at hj; injection hj with hj; injection hj with hj
              exact hx hj.symm
            rw [cur_at hN hl hj, cur_at hN hl hj, getD_set_ne false hne]
          · have hno : ∀ (j : Nat) (p : Nat × D), ds[j]? = some p → p.1 ≠ x := fun j p hj e => hex ⟨j, p.2, by rw [hj, ← e]⟩
            rw [cur_far hno, cur_far hno]
        rw [hcur]
        have htm : (a.put o2.dst v).tmps.getD x undef = a.tmps.getD x undef := by
          cases hds : o2.dst with
          | none => rfl
          | some t =>
            simp only [oslot, hds] at hx
            simp [Act.put, Array.getD_getElem?, Array.getElem?_setIfInBounds_ne (Ne.symm hx)]
        rw [htm]
        exact (hM.tm x).evo hevo
    · by_cases hmi : m = i
      · subst hmi
        rw [ho'] at hm; injection hm with hm; subst hm
        exact getD_set_true (hr e he hb)
      · rw [getD_set_ne false (Ne.symm hmi)] at hlm
        exact getD_set_true (hM.closed m om hm hlm e he hb)
  unfold wpOp
  simp only [ho]
  unfold wpList at hrun
  by_cases hw : Region.wanted o2 (yielded l.toArray a.tmps) = true
  · rw [if_pos hw] at hrun
    rw [if_pos hw]
    have hL : LetsOut (conc ⟨g, s.2, w⟩ (qY o2 s.1 s.2 y)) → False := fun ⟨_, _, h⟩ => h
    rcases hrun with hrun | ⟨_, hlo⟩
    · refine .inl ?_
      have := upon_put (Q2 := Q2) hrun hM.defers (fun a w h => by obtain ⟨S', g', hi', _⟩ := h; exact hi'.defers) (fun c a w h => by obtain ⟨_, _, _, _, _, _, _, hq⟩ := h; exact (by cases qY_not hq)) hL
      exact Oper.wp_mono (P := P) (fun a' w' h => fin a' w' h.1 h.2) this
    · exact (hL hlo).elim
  · rw [if_neg hw] at hrun
    rw [if_neg hw]
    exact fin _ _ ⟨undef, rfl⟩ hrun
/-- the slots when all that the list says is done -/
theorem midE_all [Known] [Dfr] {l : List Oper} {ds : List (Nat × D)} {listed : Array Bool} {s : List (List D) × List Fr} (hchk : chkDraw l = true) (hl : ds.length ≤ l.length) (hdst : HD n l ds)
    (hM : MidE b0 ee n tm s l ds listed g a w) (hall : ∀ i, i < ds.length → listed.getD i false = true) : Inv b0 ⟨n, ds.reverse ++ tm, s.1, s.2, ee⟩ g a w := by
  have hN := hdst.one hchk hl
  refine ⟨hM.size, hM.defers, hM.mem, fun x => ?_, hM.evo, hM.bd⟩
  have hx := hM.tm x
  have hc : cur l ds tm listed x = look (ds.reverse ++ tm) x := by
    rw [look_append]
    by_cases hex : ∃ (j : Nat) (d : D), ds[j]? = some (x, d)
    · obtain ⟨j, dj, hj⟩ := hex
      have hjl := (List.getElem?_eq_some_iff.1 hj).1
      rw [cur_at hN hl hj, if_pos (hall j hjl), if_pos (by simp only [List.map_reverse, List.mem_reverse]; exact List.mem_map.2 ⟨(x, dj), List.mem_of_getElem? hj, rfl⟩)]
      have hN' : ∀ (x y : Nat) (p q : Nat × D), ds.reverse[x]? = some p → ds.reverse[y]? = some q → p.1 = q.1 → x = y := fun x y p q hx hy e => by
        have lx := (List.getElem?_eq_some_iff.1 hx).1
        have ly := (List.getElem?_eq_some_iff.1 hy).1
        rw [List.getElem?_reverse (by simpa using lx)] at hx
        rw [List.getElem?_reverse (by simpa using ly)] at hy
        have := hN _ _ p q hx hy e
        simp at lx ly
        omega
      refine (look_at hN' (i := ds.length - 1 - j) ?_).symm
      rw [List.getElem?_reverse (by omega), show ds.length - 1 - (ds.length - 1 - j) = j from by omega]
      exact hj
    · have hno : ∀ (j : Nat) (p : Nat × D), ds[j]? = some p → p.1 ≠ x := fun j p hj e => hex ⟨j, p.2, by rw [hj, ← e]⟩
      rw [cur_far hno, if_neg (fun hm => by
        simp only [List.map_reverse, List.mem_reverse] at hm
        obtain ⟨p, hp, he⟩ := List.mem_map.1 hm
        obtain ⟨y, hy⟩ := List.getElem?_of_mem hp
        exact hno y p hy he)]
  rw [← hc]; exact hx
/-- what stands behind the first pass -/
structure AOt [Known] [Dfr] (P : Program) (l : List Oper) (n : Nat) (rest : List Oper) (ys : List Y) (tm : List (Nat × D)) (bx : List (List D)) (fr : List Fr) : Prop where
  out : ∃ es sts, nfl (esOf 0 ys) = some es ∧ nfl (stsOf 0 ys) = some sts ∧ chkEs l es = true ∧ AO P l n es ((0, bx, fr) :: sts) 0 rest ys tm ∧ ∀ (i : Nat) (o : Oper) (y : Y), rest[i]? = some o → ys[i]? = some y → o.dst = none → y.d = .junk
def chkJ : List Oper → List Y → Bool
  | o :: l, y :: ys => (match o.dst, y.d with | none, .junk => true | some _, _ => true | _, _ => false) && chkJ l ys
  | _, _ => true
theorem chkJ_get : ∀ {l : List Oper} {ys : List Y}, chkJ l ys = true → ∀ (i : Nat) (o : Oper) (y : Y), l[i]? = some o → ys[i]? = some y → o.dst = none → y.d = .junk
  | o0 :: l, y0 :: ys, h, 0, o, y, h1, h2, h3 => by
    simp at h1 h2
    subst h1 h2
    simp only [chkJ, Bool.and_eq_true] at h
    have h := h.1
    rw [h3] at h
    cases hy : y0.d <;> simp [hy] at h ⊢
  | o0 :: l, y0 :: ys, h, i + 1, o, y, h1, h2, h3 => by
    simp only [chkJ, Bool.and_eq_true] at h
    exact chkJ_get h.2 i o y (by simpa using h1) (by simpa using h2) h3
  | [], ys, h, i, o, y, h1, h2, h3 => by simp at h1
  | o0 :: l, [], h, i, o, y, h1, h2, h3 => by simp at h2
theorem AOt_mk [Known] [Dfr] {l rest : List Oper} {es : List Nat} {sts : List (Nat × List (List D) × List Fr)} (h1 : nfl (esOf 0 ys) = some es) (h2 : nfl (stsOf 0 ys) = some sts) (h3 : chkEs l es = true) (h4 : chkJ rest ys = true) (h : AO P l n es ((0, bx, fr) :: sts) 0 rest ys tm) : AOt P l n rest ys tm bx fr :=
  ⟨es, sts, h1, h2, h3, h, chkJ_get h4⟩
theorem AW_drawE' [Known] [Dfr] {id m : Nat} {l acts : List Oper} (hm : P.follows .mixedOrders = true) (hchk : chkDraw l = true) (hlk : chkLk n l = true) (hE : chkE l = true) (hch : chkChain l m = true) (hlen : (l.take m).length = m) (hacts : l.drop m = acts) (h : AE P l n 0 (l.take m) tm bx fr ys tm' bx' fr') (hO : AOt P l n (l.take m) ys tm bx fr) (k : AL P l.toArray acts ⟨n, tm', bx', fr', ee⟩ Q) :
    AW P (.region id l.toArray true) ⟨n, tm, bx, fr, ee⟩ Q := by
  obtain ⟨ds, h1, h1y, h2, hfin, h3⟩ := h.steps
  obtain ⟨es, sts, e1, e2, hes, hAO, hJ⟩ := hO.out
  have e1 := nfl_eq e1
  have e2 := nfl_eq e2
  subst e1 e2
  have hml : m ≤ l.length := by rw [List.length_take] at hlen; omega
  rw [hlen] at h1 h1y
  have hl : ds.length ≤ l.length := by omega
  have htk : ∀ (i : Nat) (o : Oper), l[i]? = some o → i < m → (l.take m)[i]? = some o := fun i o ho hi => by rw [List.getElem?_take, if_pos hi]; exact ho
  have hdst : HD n l ds := fun i o ho hd => by
    obtain ⟨y, q1, q2, q3, _⟩ := h3 i o (htk i o ho (by omega))
    rw [Nat.zero_add] at q2
    exact ⟨y.d, q2, hJ i o y (htk i o ho (by omega)) q1, q3⟩
  have hefl : ∀ e, isEf ys e → e < m := fun e ⟨d, b, f, he⟩ => by have := (List.getElem?_eq_some_iff.1 he).1; omega
  refine ⟨fun b0 g a w hi => wp_region_any hm ?_⟩
  have main : ∀ (fuel : Nat) (listed : Array Bool) (g : G) (a : Act) (w : World), MidE b0 ee n tm (stg ys (bx, fr) (fun i => listed.getD i false)) l ds listed g a w → (∀ i, m ≤ i → i < l.length → listed.getD i false = false) → left l listed = fuel → wpAny P .any l.toArray (conc b0 Q) fuel listed a w := by
    intro fuel
    have hend : ∀ (listed : Array Bool) (g : G) (a : Act) (w : World), MidE b0 ee n tm (stg ys (bx, fr) (fun i => listed.getD i false)) l ds listed g a w → (∀ i, i < m → listed.getD i false = true) → AL P l.toArray acts ⟨n, tm', bx', fr', ee⟩ Q → wpList P l.toArray (conc b0 Q) acts a w := fun listed g a w hM hall k => by
      have hinv := midE_all hchk hl hdst hM fun i hi => hall i (by omega)
      rw [← h2] at hinv
      have : stg ys (bx, fr) (fun i => listed.getD i false) = (bx', fr') := by
        rw [← hfin]
        exact stg_congr _ _ _ _ fun i hi => hall i (hefl i hi)
      rw [this] at hinv
      exact k.run b0 g a w hinv
    induction fuel with
    | zero =>
      intro listed g a w hM hu h0
      have hml' : l.length = m := by
        rcases Nat.lt_or_ge m l.length with h | h
        · have h5 := hu m (Nat.le_refl _) h
          have h6 := left_zero h0 h
          rw [h5] at h6; cases h6
        · omega
      exact chain_run hE hch 0 m listed a w (by omega) (Nat.le_refl _) hM.len (fun i hi => by rw [left_zero h0 hi]; simp; omega) (by rw [hacts]; exact hend listed g a w hM (fun i hi => left_zero h0 (by omega)) k)
    | succ fuel ih =>
      intro listed g a w hM hu hf
      by_cases hall : ∀ i, i < m → listed.getD i false = true
      · have hls : ∀ i, i < l.length → (listed.getD i false = true ↔ i < m) := fun i hi => by
          rcases Nat.lt_or_ge i m with h | h
          · simp [hall i h, h]
          · rw [hu i h hi]; simp; omega
        refine chain_run hE hch (fuel + 1) m listed a w (by rw [← hf, left_eq hls]; omega) (Nat.le_refl _) hM.len hls (by rw [hacts]; exact hend listed g a w hM hall k)
      refine ⟨fun he => (ready_ne hE hM.len (by omega) he).elim, fun i hi => ?_⟩
      obtain ⟨hn0, o, ho, hr⟩ := mem_ready.1 hi
      have ho' : l[i]? = some o := by simpa using ho
      have hil : i < l.length := (List.getElem?_eq_some_iff.1 ho').1
      have hlt : i < listed.size := by rw [hM.len]; exact hil
      have hn : listed.getD i false = false := by simp [hlt] at hn0 ⊢; exact hn0
      have hleft := left_set hil hM.len hn
      by_cases him : i < m
      · obtain ⟨y, q1, q2, q3, q4⟩ := h3 i o (htk i o ho' him)
        rw [Nat.zero_add] at q2
        -- how far the changes have come
        have hdown : ∀ e ∈ esOf 0 ys, ∀ e' ∈ esOf 0 ys, e < e' → listed.getD e' false = true → listed.getD e false = true := fun e he e' he' hlt hp => by
          have h1 := List.all_eq_true.1 (List.all_eq_true.1 hes e he) e' he'
          simp [hlt] at h1
          obtain ⟨j, hj, hj'⟩ := mem_esOf.1 he'
          have hlt' : e' < l.length := by have := hefl _ hj'; omega
          have ho2 := List.getElem?_eq_getElem hlt'
          exact mem_up hM.closed e' _ ho2 (hM.closed e' _ ho2 hp) e h1
        obtain ⟨c, hc1, hc2⟩ := cut_of (p := fun i => listed.getD i false) (esOf 0 ys) hdown
        have hcs : stg ys (bx, fr) (fun i => listed.getD i false) = stg ys (bx, fr) (fun j => decide (j < c)) := stg_congr _ _ _ _ fun e he => hc2 e (mem_esOf.2 ⟨e, by omega, he⟩)
        have hupi : ∀ e, up (masks [] l) i e = true → listed.getD e false = true := fun e he => mem_up hM.closed i o ho' hr e he
        have hupe : ∀ e ∈ esOf 0 ys, up (masks [] l) e i = true → listed.getD e false = false := fun e he hu' => by
          cases hle : listed.getD e false with
          | false => rfl
          | true =>
            obtain ⟨j, hj, hj'⟩ := mem_esOf.1 he
            have hlt' : e < l.length := by have := hefl _ hj'; omega
            have ho2 := List.getElem?_eq_getElem hlt'
            have := mem_up hM.closed e _ ho2 (hM.closed e _ ho2 hle) i hu'
            rw [hn] at this; cases this
        have hsame : (∀ e ∈ esOf 0 ys, decide (e < c) = decide (e < i)) → stg ys (bx, fr) (fun j => decide (j < c)) = stg ys (bx, fr) (fun j => decide (j < i)) := fun h => stg_congr _ _ _ _ fun e he => h e (mem_esOf.2 ⟨e, by omega, he⟩)
        have hAL : AL P l.toArray [o] ⟨n, restr l o ((ds.take i).reverse ++ tm), (stg ys (bx, fr) (fun i => listed.getD i false)).1, (stg ys (bx, fr) (fun i => listed.getD i false)).2, ((stg ys (bx, fr) (fun i => listed.getD i false)).1.length, (stg ys (bx, fr) (fun i => listed.getD i false)).2.length)⟩ (qY o (stg ys (bx, fr) (fun i => listed.getD i false)).1 (stg ys (bx, fr) (fun i => listed.getD i false)).2 y) := by
          by_cases hown : ∀ e ∈ esOf 0 ys, decide (e < c) = decide (e < i)
          · rw [hcs, hsame hown]; exact q4
          · cases y with
            | ef d b f =>
              exfalso
              apply hown
              intro e he
              have hie : i ∈ esOf 0 ys := mem_esOf.2 ⟨i, by omega, d, b, f, q1⟩
              rw [← hc2 e he]
              rcases Nat.lt_trichotomy e i with hlt' | rfl | hgt
              · have h1 := List.all_eq_true.1 (List.all_eq_true.1 hes e he) i hie
                simp [hlt'] at h1
                rw [hupi e h1]; simp [hlt']
              · rw [hn]; simp
              · have h1 := List.all_eq_true.1 (List.all_eq_true.1 hes i hie) e he
                simp [hgt] at h1
                rw [hupe e he h1]; simp; omega
            | pu d =>
              have hAs := hAO.get (i := i) (htk i o ho' him) q1 ds (fun j oj yj hj k1 k2 => by
                obtain ⟨y', p1, p2, _⟩ := h3 j oj k1
                rw [k2] at p1; injection p1 with p1; subst p1
                exact p2) (by omega)
              rw [Nat.zero_add] at hAs
              have hmem : (c, (stg ys (bx, fr) (fun j => decide (j < c))).1, (stg ys (bx, fr) (fun j => decide (j < c))).2) ∈ ((0, bx, fr) :: stsOf 0 ys) := by
                rcases hc1 with rfl | ⟨e, he, rfl, hpe⟩
                · have : stg ys (bx, fr) (fun j => decide (j < 0)) = (bx, fr) := stg_none _ _ _ (by intro i _; simp)
                  rw [this]; simp
                · obtain ⟨j, hj, d', b, f, hy⟩ := mem_esOf.1 he
                  rw [Nat.zero_add] at hj; subst hj
                  rw [stg_at _ _ _ _ hy]
                  have := mem_stsOf (i0 := 0) hy
                  rw [Nat.zero_add] at this
                  exact List.mem_cons_of_mem _ this
              rcases hAs.get hmem with hf | hA
              · exfalso
                unfold feas at hf
                have h1 : (!(List.all (esOf 0 ys) fun e => decide (e < c) == decide (e < i))) = true := by
                  simp only [Bool.not_eq_true', Bool.eq_false_iff]
                  intro hall'
                  exact hown fun e he => by simpa using List.all_eq_true.1 hall' e he
                rw [h1, Bool.true_and] at hf
                have h2 : (List.all (esOf 0 ys) fun e => (!up (masks [] l) i e || decide (e < c)) && (!up (masks [] l) e i || decide (c ≤ e))) = true := List.all_eq_true.2 fun e he => by
                  rw [Bool.and_eq_true]
                  constructor
                  · cases hu1 : up (masks [] l) i e with
                    | false => rfl
                    | true =>
                      have := hupi e hu1
                      have h9 := hc2 e he
                      rw [this] at h9
                      simpa using h9
                  · cases hu1 : up (masks [] l) e i with
                    | false => rfl
                    | true =>
                      have := hupe e he hu1
                      have h9 := hc2 e he
                      rw [this] at h9
                      simp at h9
                      simpa using h9
                rw [h2] at hf; cases hf
              · rw [hcs]; exact hA
        refine midE_step hchk hlk hl hdst hM ho' hi (by omega) q2 hAL fun g' a' w' hM' => ih _ g' a' w' ?_ (fun x hx hxl => ?_) (by omega)
        · have : y.aft (stg ys (bx, fr) (fun i => listed.getD i false)) = stg ys (bx, fr) (fun j => (listed.setIfInBounds i true).getD j false) := by
            cases y with
            | pu d =>
              show stg ys (bx, fr) (fun i => listed.getD i false) = _
              refine stg_congr _ _ _ _ fun e ⟨d', b, f, he⟩ => ?_
              have hne : i ≠ e := fun e' => by subst e'; rw [q1] at he; cases he
              rw [getD_set_ne false hne]
            | ef d b f =>
              show (b, f) = _
              have hie : i ∈ esOf 0 ys := mem_esOf.2 ⟨i, by omega, d, b, f, q1⟩
              have e3 : stg ys (bx, fr) (fun j => (listed.setIfInBounds i true).getD j false) = stg ys (bx, fr) (fun j => decide (j < i + 1)) := stg_congr _ _ _ _ fun e he => by
                have hee := mem_esOf.2 ⟨e, (Nat.zero_add e).symm, he⟩
                rcases Nat.lt_trichotomy e i with hlt' | rfl | hgt
                · rw [getD_set_ne false (by omega)]
                  have h1 := List.all_eq_true.1 (List.all_eq_true.1 hes e hee) i hie
                  simp [hlt'] at h1
                  rw [hupi e h1]; simp; omega
                · simp [hlt]
                · rw [getD_set_ne false (by omega)]
                  have h1 := List.all_eq_true.1 (List.all_eq_true.1 hes i hie) e hee
                  simp [hgt] at h1
                  rw [hupe e hee h1]; simp; omega
              rw [e3, stg_at _ _ _ _ q1]
              rfl
          rw [← this]; exact hM'
        · rw [getD_set_ne false (by omega)]
          exact hu x hx hxl
      · exact (hall fun x hx => mem_up hM.closed i o ho' hr x (chkChain_get hch (by omega) hil (by omega))).elim
  have hsz : l.toArray.size = l.length := by simp
  rw [hsz]
  have hfresh : ∀ i, (Array.replicate l.length false).getD i false = false := fun i => by
    rcases Nat.lt_or_ge i l.length with h | h <;> simp [h]
  have hs0 : stg ys (bx, fr) (fun i => (Array.replicate l.length false).getD i false) = (bx, fr) := stg_none _ _ _ fun i _ => hfresh i
  refine main l.length _ g a _ ?_ (fun i _ _ => hfresh i) ?_
  · rw [hs0]
    refine ⟨hi.bd, hi.size, hi.defers, hi.mem.drew, hi.evo.trans Evo.drew, fun t => ?_, fun m o hm hl => ?_, by simp⟩
    · have : cur l ds tm (Array.replicate l.length false) t = look tm t := by
        unfold cur
        have hf : (List.range l.length).find? (fun i => (Array.replicate l.length false).getD i false && ((ds[i]?).map (·.1) == some t)) = none := by
          apply List.find?_eq_none.2
          intro i _
          rw [hfresh]; simp
        rw [hf]
      rw [this]
      exact (hi.tm t).drew
    · rw [hfresh] at hl; cases hl
  · unfold left
    rw [List.countP_eq_length.2 (fun i _ => by rw [hfresh]; rfl), List.length_range]
/-- a drawn region of which some operations change variables or tokens: the first m in any order that they may come in, the others behind them in turn -/
theorem AW_drawE [Known] [Dfr] {id : Nat} (m : Nat) {l acts : List Oper} (hm : P.follows .mixedOrders = true) (hch : chkChain l m = true) (hchk : chkDraw l = true) (hlk : chkLk n l = true) (hE : chkE l = true) (hlen : Nat.beq (l.take m).length m = true) (hacts : nfl (l.drop m) = some acts) (h : AE P l n 0 (l.take m) tm bx fr ys tm' bx' fr') (hO : AOt P l n (l.take m) ys tm bx fr) (k : AL P l.toArray acts ⟨n, tm', bx', fr', ee⟩ Q) :
    AW P (.region id l.toArray true) ⟨n, tm, bx, fr, ee⟩ Q := AW_drawE' hm hchk hlk hE hch (Nat.eq_of_beq_eq_true hlen) (nfl_eq hacts) h hO k
/-! ### steps -/
structure AEk [Known] [Dfr] (P : Program) (l : List Oper) (n : Nat) (i : Nat) (o : Oper) (rest : List Oper) (y : Y) (tm : List (Nat × D)) (bx : List (List D)) (fr : List Fr) (ys : List Y) (tm' : List (Nat × D)) (bx' : List (List D)) (fr' : List Fr) : Prop where
  out : AE P l n (i + 1) rest ((oslot n i o, y.d) :: tm) (y.aft (bx, fr)).1 (y.aft (bx, fr)).2 ys tm' bx' fr'
theorem AE_cons [Known] [Dfr] {l : List Oper} {i : Nat} {o : Oper} {rest : List Oper} {y : Y} {tm2 : List (Nat × D)} (ht : dstOk n o = true) (h2 : nfl (restr l o tm) = some tm2)
    (h : AL P l.toArray [o] ⟨n, tm2, bx, fr, (bx.length, fr.length)⟩ (qY o bx fr y)) (k : AEk P l n i o rest y tm bx fr ys tm' bx' fr') : AE P l n i (o :: rest) tm bx fr (y :: ys) tm' bx' fr' :=
  .cons i o rest tm bx fr y ys tm' bx' fr' ht (by rw [nfl_eq h2]; exact h) k.out
theorem AEk_pu [Known] [Dfr] {l : List Oper} {i t : Nat} {o : Oper} {rest : List Oper} {d : D} (ht : oslot n i o = t) (k : AE P l n (i + 1) rest ((t, d) :: tm) bx fr ys tm' bx' fr') : AEk P l n i o rest (.pu d) tm bx fr ys tm' bx' fr' := ⟨by rw [ht]; exact k⟩
theorem AEk_ef [Known] [Dfr] {l : List Oper} {i t : Nat} {o : Oper} {rest : List Oper} {d : D} {b : List (List D)} {f : List Fr} (ht : oslot n i o = t) (k : AE P l n (i + 1) rest ((t, d) :: tm) b f ys tm' bx' fr') : AEk P l n i o rest (.ef d b f) tm bx fr ys tm' bx' fr' := ⟨by rw [ht]; exact k⟩
theorem AO_ef [Known] [Dfr] {l : List Oper} {es : List Nat} {sts : List (Nat × List (List D) × List Fr)} {i t : Nat} {o : Oper} {rest : List Oper} {d : D} {b : List (List D)} {f : List Fr} (ht : oslot n i o = t) (k : AO P l n es sts (i + 1) rest ys ((t, d) :: tm)) : AO P l n es sts i (o :: rest) (.ef d b f :: ys) tm := .ef i o rest d b f ys tm (by rw [ht]; exact k)
theorem AO_pu [Known] [Dfr] {l : List Oper} {es : List Nat} {sts : List (Nat × List (List D) × List Fr)} {i t : Nat} {o : Oper} {rest : List Oper} {d : D} (ht : oslot n i o = t) (h : AOs P l n es i o tm d sts) (k : AO P l n es sts (i + 1) rest ys ((t, d) :: tm)) : AO P l n es sts i (o :: rest) (.pu d :: ys) tm := .pu i o rest d ys tm h (by rw [ht]; exact k)
theorem AOs_skip [Known] [Dfr] {l : List Oper} {es : List Nat} {i c : Nat} {o : Oper} {d : D} {sts : List (Nat × List (List D) × List Fr)} (h : feas l es i c = false) (k : AOs P l n es i o tm d sts) : AOs P l n es i o tm d ((c, bx, fr) :: sts) := .skip c bx fr sts h k
theorem AOs_go [Known] [Dfr] {l : List Oper} {es : List Nat} {i c : Nat} {o : Oper} {d : D} {sts : List (Nat × List (List D) × List Fr)} {tm2 : List (Nat × D)} (h2 : nfl (restr l o tm) = some tm2) (h : AL P l.toArray [o] ⟨n, tm2, bx, fr, (bx.length, fr.length)⟩ (qY o bx fr (.pu d))) (k : AOs P l n es i o tm d sts) : AOs P l n es i o tm d ((c, bx, fr) :: sts) := .go c bx fr sts (by rw [nfl_eq h2]; exact h) k
theorem qY_ok {o : Oper} {t n : Nat} {ee : Nat × Nat} {d : D} (ho : o.dst = some t) (h : nf (look tm t) = some d) : qY o bx fr (.pu d) .norm ⟨n, tm, bx, fr, ee⟩ := by
  simp only [qY, ho]; exact qp_ok h
theorem qY_cut {o : Oper} {t n : Nat} {ee : Nat × Nat} {d : D} (ho : o.dst = some t) (hb : nfb (bx'.take bx.length) = some bx) (hf : nfl (fr'.take fr.length) = some fr) (h : nf (look tm t) = some d) (hd : D.lt bx.length fr.length d = true) : qY o bx fr (.pu d) .norm ⟨n, tm, bx', fr', ee⟩ := by
  simp only [qY, ho]; exact qp_cut hb hf h hd
theorem qY_wk {o : Oper} {t n : Nat} {ee : Nat × Nat} {d : D} (ho : o.dst = some t) (hb : nfb (bx'.take bx.length) = some bx) (hf : nfl (fr'.take fr.length) = some fr) (h : nf (look tm t).wk = some d) (hd : D.lt bx.length fr.length d = true) : qY o bx fr (.pu d) .norm ⟨n, tm, bx', fr', ee⟩ := by
  simp only [qY, ho]; exact qp_wk hb hf h hd
theorem qY_none {o : Oper} {n : Nat} {ee : Nat × Nat} (ho : o.dst = none) : qY o bx fr (.pu .junk) .norm ⟨n, tm, bx, fr, ee⟩ := by
  unfold qY; rw [ho]; exact ⟨rfl, rfl, rfl⟩
theorem qY_ef {o : Oper} {t n : Nat} {ee : Nat × Nat} {d : D} (ho : o.dst = some t) (h : nf (look tm t) = some d) : qY o bx fr (.ef d bx' fr') .norm ⟨n, tm, bx', fr', ee⟩ := by
  unfold qY; rw [ho]; exact ⟨rfl, rfl, nf_eq h⟩
theorem qY_efn {o : Oper} {n : Nat} {ee : Nat × Nat} (ho : o.dst = none) : qY o bx fr (.ef .junk bx' fr') .norm ⟨n, tm, bx', fr', ee⟩ := by
  unfold qY; rw [ho]; exact ⟨rfl, rfl, rfl⟩
end
end Go.Av
end
/- The rules once more, with lengths written as numerals: for fixed calls with large states. -/
section
open Go.RowKit Go.Pl
namespace Go.Av
set_option linter.unusedSimpArgs false
set_option linter.unusedVariables false
def lits : List Nat := [0, 1, 2, 3, 4, 5, 6, 7, 8, 9, 10, 11, 12, 13, 14, 15, 16, 17, 18, 19, 20, 21, 22, 23, 24, 25, 26, 27, 28, 29, 30, 31, 32, 33, 34, 35, 36, 37, 38, 39, 40, 41, 42, 43, 44, 45, 46, 47, 48, 49, 50, 51, 52, 53, 54, 55, 56, 57, 58, 59, 60, 61, 62, 63]
def lenX {α : Type} : List α → List Nat → Option Nat
  | [], k :: _ => some k
  | _ :: l, _ :: ks => lenX l ks
  | _, [] => none
abbrev lenZ {α : Type} (l : List α) : Option Nat := lenX l lits
theorem lenX_eq {α : Type} : ∀ {l : List α} {ks : List Nat} {b k : Nat}, (∀ (i x : Nat), ks[i]? = some x → x = b + i) → lenX l ks = some k → b + l.length = k
  | [], [], b, k, h, e => by simp [lenX] at e
  | [], x :: ks, b, k, h, e => by
    simp [lenX] at e
    have := h 0 x rfl
    simp; omega
  | _ :: l, [], b, k, h, e => by simp [lenX] at e
  | _ :: l, x :: ks, b, k, h, e => by
    simp only [lenX] at e
    have := lenX_eq (b := b + 1) (fun i y hy => by have := h (i + 1) y (by simpa using hy); omega) e
    simp; omega
theorem lits_ok : ∀ (i x : Nat), lits[i]? = some x → x = 0 + i := fun i x h => by
  have hl : lits = List.range 64 := by decide
  rw [hl] at h
  obtain ⟨h1, h2⟩ := List.getElem?_eq_some_iff.1 h
  simp at h2
  omega
theorem lenZ_eq {α : Type} {l : List α} {k : Nat} (h : lenZ l = some k) : l.length = k := by have := lenX_eq lits_ok h; omega
section
variable {P : Program} {Q : X → St → Prop} {n : Nat} {ee : Nat × Nat} {tm tm' : List (Nat × D)} {bx bx' : List (List D)} {fr fr' : List Fr} {b0 : Bs} {g : G} {w : World} {a : Act} {T : Tab}
variable {ops : Array Oper} {rest : List Oper} {t ty : Nat} {pos : String} {after : Array Edge} {ys : List Y}
theorem AL_boxZ [Known] [Dfr] {x : Operand} {e : TypeId} {d : D} {m : Nat} (hx : nf (ev tm x) = some d) (ho : D.ones d.cellsOf = true) (hb : nfb (bx ++ [d.cellsOf]) = some bx') (hm : lenZ bx = some m) (htd : Nat.blt t n = true)
    (k : AL P ops rest ⟨n, (t, .ptr m 0) :: tm, bx', fr, ee⟩ Q) : AL P ops (⟨some t, .box e x, ty, pos, after, none⟩ :: rest) ⟨n, tm, bx, fr, ee⟩ Q := AL_box hx ho hb (lenZ_eq hm) htd k
theorem AL_allocZ [Known] [Dfr] (hT : chk P T = true) {e : TypeId} {ti : Ti} {m : Nat} (ht : tl T e = some ti) (hb : nfb (bx ++ [ti.zero.map ZK.d]) = some bx') (hm : lenZ bx = some m) (htd : Nat.blt t n = true)
    (k : AL P ops rest ⟨n, (t, .ptr m 0) :: tm, bx', fr, ee⟩ Q) : AL P ops (⟨some t, .alloc e, ty, pos, after, none⟩ :: rest) ⟨n, tm, bx, fr, ee⟩ Q := AL_alloc hT ht hb (lenZ_eq hm) htd k
theorem AL_bsZ [Known] [Dfr] (hT : chk P T = true) {st len e : Nat} {ds : List D} {es : List E} {ti te : Ti} {m : Nat} {parts : Array (Nat × Operand)} (ht : tl T st = some ti) (hk : ti.kd = .slice e) (hte : tl T e = some te) (hp : parts.toList.map (·.1) = List.range len)
    (hds : nfs (parts.toList.map fun p => ev tm p.2) = some ds) (hes : D.toEl ds = some es) (hU : uniB te.size es = true) (hpos : Nat.blt 0 te.size = true) (hsm : Nat.ble (len * te.size) 16777216 = true) (hm : lenZ fr = some m) (hf : nfl (fr ++ [⟨len, te.size, e⟩]) = some fr') (htd : Nat.blt t n = true)
    (k : AL P ops rest ⟨n, (t, .sl (.own m) es) :: tm, bx, fr', ee⟩ Q) : AL P ops (⟨some t, .buildSlice st len parts, ty, pos, after, none⟩ :: rest) ⟨n, tm, bx, fr, ee⟩ Q :=
  AL_bs hT ht hk hte hp hds hes hU hpos hsm (lenZ_eq hm) hf htd k
theorem AL_appendZ [Known] [Dfr] (hT : chk P T = true) {x y : Operand} {st e i k2 : Nat} {l l' l2 : List E} {tk : Tok} {ti te : Ti} {f : Fr} (ht : tl T st = some ti) (hk : ti.kd = .slice e) (hte : tl T e = some te) (hx : ev tm x = .sl (.own i) l) (hy : ev tm y = .sl tk l')
    (hl2 : nfl (l ++ l') = some l2) (hk2 : lenZ l2 = some k2) (hf : fr[i]? = some f) (hfn : f.n = l.length) (hfs : f.sz = te.size) (hfe : f.e = e) (hU : Uni te.size l) (hU' : Uni te.size l') (hne : l' ≠ []) (hlen : Nat.ble k2 maxLen = true) (hby : Nat.ble (k2 * te.bytes) 140737488355328 = true)
    (hfr : nfl (fr.set i ⟨k2, te.size, e⟩) = some fr') (htd : Nat.blt t n = true)
    (k : AL P ops rest ⟨n, (t, .sl (.own i) l2) :: tm, bx, fr', ee⟩ Q) : AL P ops (⟨some t, .call { callee := .builtin .append, args := #[x, y], argTypes := #[st, st] }, ty, pos, after, none⟩ :: rest) ⟨n, tm, bx, fr, ee⟩ Q := by
  have e2 := nfl_eq hl2
  have e3 := lenZ_eq hk2
  have e4 : l.length + l'.length = k2 := by rw [← e3, ← e2, List.length_append]
  have e5 := Nat.le_of_ble_eq_true hlen
  have e6 := Nat.le_of_ble_eq_true hby
  refine AL_append hT ht hk hte hx hy hf hfn hfs hfe hU hU' hne (by rw [e4]; exact e5) (by rw [e4]; exact e6) (by rw [e4]; exact hfr) htd (by rw [e2]; exact k)
theorem AL_append_nilZ [Known] [Dfr] (hT : chk P T = true) {x y : Operand} {st e m k2 : Nat} {l' : List E} {tk : Tok} {ti te : Ti} (ht : tl T st = some ti) (hk : ti.kd = .slice e) (hte : tl T e = some te) (hx : ev tm x = .sl .nil []) (hy : ev tm y = .sl tk l')
    (hpos : Nat.blt 0 te.size = true) (hU' : Uni te.size l') (hne : l' ≠ []) (hk2 : lenZ l' = some k2) (hlen : Nat.ble k2 maxLen = true) (hby : Nat.ble (k2 * te.bytes) 140737488355328 = true)
    (hm : lenZ fr = some m) (hfr : nfl (fr ++ [⟨k2, te.size, e⟩]) = some fr') (htd : Nat.blt t n = true)
    (k : AL P ops rest ⟨n, (t, .sl (.own m) l') :: tm, bx, fr', ee⟩ Q) : AL P ops (⟨some t, .call { callee := .builtin .append, args := #[x, y], argTypes := #[st, st] }, ty, pos, after, none⟩ :: rest) ⟨n, tm, bx, fr, ee⟩ Q := by
  have e3 := lenZ_eq hk2
  subst e3
  exact AL_append_nil hT ht hk hte hx hy hpos hU' hne (Nat.le_of_ble_eq_true hlen) (Nat.le_of_ble_eq_true hby) (lenZ_eq hm) hfr htd k
theorem AL_inZ [Known] {t : Option Nat} {ty : Nat} {pos : String} {after : Array Edge} {f : FuncId} {ars : Array Operand} {ats : Array TypeId} {fn : Func} {c : Code} {n' i j : Nat} {rs : List ResultVar} {cds : List D} {tm2 : List (Nat × D)}
    (hf : P.funcs[f]? = some fn) (hn : fn.ntmps = n') (hb : fn.body = some c) (hr : fn.results = rs.toArray) (hif : isFn P f = true) (hc : nfs (ars.toList.map (ev tm)) = some cds) (hl : Nat.ble cds.length n' = true) (ht : inOk t n = true) (hi : lenZ bx = some i) (hj : lenZ fr = some j) (htm : nfl (number 0 cds) = some tm2)
    (h : AW P c ⟨n', tm2, bx, fr, (i, j)⟩ (inPost P rs t n tm ee ops rest Q)) : AL P ops (⟨t, .call { callee := .value (.func f), args := ars, argTypes := ats }, ty, pos, after, none⟩ :: rest) ⟨n, tm, bx, fr, ee⟩ Q :=
  AL_in hf hn hb hr hif hc hl ht (by rw [lenZ_eq hi, lenZ_eq hj, nfl_eq htm]; exact h)
theorem AE_consZ [Known] [Dfr] {l : List Oper} {i p q : Nat} {o : Oper} {rest : List Oper} {y : Y} {tm2 : List (Nat × D)} (ht : dstOk n o = true) (h2 : nfl (restr l o tm) = some tm2) (hp : lenZ bx = some p) (hq : lenZ fr = some q)
    (h : AL P l.toArray [o] ⟨n, tm2, bx, fr, (p, q)⟩ (qY o bx fr y)) (k : AEk P l n i o rest y tm bx fr ys tm' bx' fr') : AE P l n i (o :: rest) tm bx fr (y :: ys) tm' bx' fr' :=
  AE_cons ht h2 (by rw [lenZ_eq hp, lenZ_eq hq]; exact h) k
theorem AOs_goZ [Known] [Dfr] {l : List Oper} {es : List Nat} {i c p q : Nat} {o : Oper} {d : D} {sts : List (Nat × List (List D) × List Fr)} {tm2 : List (Nat × D)} (h2 : nfl (restr l o tm) = some tm2) (hp : lenZ bx = some p) (hq : lenZ fr = some q) (h : AL P l.toArray [o] ⟨n, tm2, bx, fr, (p, q)⟩ (qY o bx fr (.pu d))) (k : AOs P l n es i o tm d sts) : AOs P l n es i o tm d ((c, bx, fr) :: sts) :=
  AOs_go h2 (by rw [lenZ_eq hp, lenZ_eq hq]; exact h) k
theorem AEk_puT [Known] [Dfr] {l : List Oper} {i t : Nat} {o : Oper} {rest : List Oper} {d : D} (ho : o.dst = some t) (k : AE P l n (i + 1) rest ((t, d) :: tm) bx fr ys tm' bx' fr') : AEk P l n i o rest (.pu d) tm bx fr ys tm' bx' fr' := AEk_pu (by simp [oslot, ho]) k
theorem AEk_efT [Known] [Dfr] {l : List Oper} {i t : Nat} {o : Oper} {rest : List Oper} {d : D} {b : List (List D)} {f : List Fr} (ho : o.dst = some t) (k : AE P l n (i + 1) rest ((t, d) :: tm) b f ys tm' bx' fr') : AEk P l n i o rest (.ef d b f) tm bx fr ys tm' bx' fr' := AEk_ef (by simp [oslot, ho]) k
theorem AO_efT [Known] [Dfr] {l : List Oper} {es : List Nat} {sts : List (Nat × List (List D) × List Fr)} {i t : Nat} {o : Oper} {rest : List Oper} {d : D} {b : List (List D)} {f : List Fr} (ho : o.dst = some t) (k : AO P l n es sts (i + 1) rest ys ((t, d) :: tm)) : AO P l n es sts i (o :: rest) (.ef d b f :: ys) tm := AO_ef (by simp [oslot, ho]) k
theorem AO_puT [Known] [Dfr] {l : List Oper} {es : List Nat} {sts : List (Nat × List (List D) × List Fr)} {i t : Nat} {o : Oper} {rest : List Oper} {d : D} (ho : o.dst = some t) (h : AOs P l n es i o tm d sts) (k : AO P l n es sts (i + 1) rest ys ((t, d) :: tm)) : AO P l n es sts i (o :: rest) (.pu d :: ys) tm := AO_pu (by simp [oslot, ho]) h k
end
end Go.Av
end
/- Package-level tables read; calls of function values; contracts with a panic; panics in regions that draw their order. -/
section
open Go.RowKit Go.Pl
namespace Go.Av
set_option linter.unusedSimpArgs false
set_option linter.unusedVariables false
section
variable {P : Program} {Q : X → St → Prop} {n : Nat} {ee : Nat × Nat} {tm tm' : List (Nat × D)} {bx bx' : List (List D)} {fr fr' : List Fr} {b0 : Bs} {g : G} {w : World} {a : Act} {T : Tab}
variable {ops : Array Oper} {rest : List Oper} {t ty : Nat} {pos : String} {after : Array Edge}
/-! ### tables -/
theorem gptr_inv {k o : Nat} {v : Value} (h : V w g fr (.gptr k o) v) : v = .pointer (some ⟨k, o, none⟩) := by cases h; rfl
theorem AL_gidx [Known] [Dfr] (hT : chk P T = true) {x y : Operand} {st e k o len : Nat} {kk0 : IntKind} {i : Int} {ti te : Ti} (hx : ev tm x = .gptr k o) (hy : ev tm y = .int kk0 i) (ht : tl T st = some ti) (hk : ti.kd = .array len e) (hte : tl T e = some te) (htd : Nat.blt t n = true)
    (h0 : 0 ≤ i) (hlt : i.toNat < len)
    (kk : AL P ops rest ⟨n, (t, .gptr k (o + i.toNat * te.size)) :: tm, bx, fr, ee⟩ Q) : AL P ops (⟨some t, .indexAddr st x y, ty, pos, after, none⟩ :: rest) ⟨n, tm, bx, fr, ee⟩ Q :=
  AL_val _ htd (fun g a w hi => by
    have h1 : V w g fr (ev tm x) (a.eval x) := hi.ev x
    rw [hx] at h1
    have h1 := gptr_inv h1
    have h2 : V w g fr (ev tm y) (a.eval y) := hi.ev y
    rw [hy] at h2
    have h2 := h2.int_inv
    obtain ⟨u, hu, hkd⟩ := (tl_ok hT ht).under
    rw [hk] at hkd
    have hu : P.underlying st = some (.array len e) := by
      unfold kdOf at hkd
      split at hkd
      all_goals first | (cases hkd; exact hu) | (split at hkd <;> cases hkd) | cases hkd
    have hsz := run_sizeOf (P := P) (t := e) (tl_ok hT hte).tSize w
    refine ⟨_, ?_, .gptr k (o + i.toNat * te.size)⟩
    have hb : 0 ≤ i ∧ i < (len : Int) := ⟨h0, by omega⟩
    have hadd : (⟨k, o, none⟩ : Addr).add (i.toNat * te.size) = ⟨k, o + i.toNat * te.size, none⟩ := by unfold Addr.add; split <;> simp_all
    simp [execOp, h1, h2, Instr.indexAt, asIntOf, Instr.sureAddr, Sem.run_bind, run_underlying hu, hb, hsz, hadd]) kk
theorem AL_gload1 [Known] [Dfr] (hT : chk P T = true) {x : Operand} {lt k o : Nat} {cs : List Value} {v : Value} {d : D} {ti : Ti} (hx : ev tm x = .gptr k o) (ht : tl T lt = some ti) (ha : ti.kd.agg = false) (hk : k ∈ Known.ks) (hc : (k, cs) ∈ tabs) (hv : cs[o]? = some v) (hd : const1 v = d) (htd : Nat.blt t n = true)
    (kk : AL P ops rest ⟨n, (t, d) :: tm, bx, fr, ee⟩ Q) : AL P ops (⟨some t, .load lt x, ty, pos, after, none⟩ :: rest) ⟨n, tm, bx, fr, ee⟩ Q :=
  AL_val d htd (fun g a w hi => by
    have h1 : V w g fr (ev tm x) (a.eval x) := hi.ev x
    rw [hx] at h1
    have h1 := gptr_inv h1
    have hcell := (hi.mem.gl.1 k cs ⟨hk, hc⟩ o v hv).2
    refine ⟨v, ?_, hd ▸ const1_ok _ _ _ v⟩
    simp [execOp, h1, Instr.loadAt, Instr.sureAddr, Sem.run_bind, run_load1 (P := P) (by rw [(tl_ok hT ht).tAgg, ha]) hcell]) kk
theorem AL_gloadn [Known] [Dfr] (hT : chk P T = true) {x : Operand} {lt k o : Nat} {cs vs : List Value} {ds : List D} {ti : Ti} (hx : ev tm x = .gptr k o) (ht : tl T lt = some ti) (ha : ti.kd.agg = true) (hk : k ∈ Known.ks) (hc : (k, cs) ∈ tabs) (hv : (cs.drop o).take ti.size = vs) (hl : Nat.beq vs.length ti.size = true) (hd : vs.map const1 = ds) (htd : Nat.blt t n = true)
    (kk : AL P ops rest ⟨n, (t, .agg ds) :: tm, bx, fr, ee⟩ Q) : AL P ops (⟨some t, .load lt x, ty, pos, after, none⟩ :: rest) ⟨n, tm, bx, fr, ee⟩ Q :=
  AL_val _ htd (fun g a w hi => by
    have h1 : V w g fr (ev tm x) (a.eval x) := hi.ev x
    rw [hx] at h1
    have h1 := gptr_inv h1
    have hl' := Nat.eq_of_beq_eq_true hl
    have hcell : ∀ j v, vs[j]? = some v → w.cell? ⟨k, o + j, none⟩ = some v := fun j v hj => by
      subst hv
      have hj' : j < ti.size ∧ cs[o + j]? = some v := by simpa [List.getElem?_take] using hj
      exact (hi.mem.gl.1 k cs ⟨hk, hc⟩ (o + j) v hj'.2).2
    refine ⟨.agg vs.toArray, ?_, ?_⟩
    · simp [execOp, h1, Instr.loadAt, Instr.sureAddr, Sem.run_bind, run_loadn (P := P) (by rw [(tl_ok hT ht).tAgg, ha]) vs (by rw [(tl_ok hT ht).tSize, hl']) hcell]
    · subst hd
      refine .agg _ vs (by simp) fun j d v hj hv => ?_
      rw [List.getElem?_map, hv] at hj
      simp at hj
      exact hj ▸ const1_ok _ _ _ v) kk
theorem AL_gloadI [Known] [Dfr] (hT : chk P T = true) {x : Operand} {lt k : Nat} {et : TypeId} {ti : Ti} (hx : ev tm x = .gptr k 0) (ht : tl T lt = some ti) (ha : ti.kd.agg = false) (hk : k ∈ Known.ks) (hc : (k, et) ∈ tabI) (htd : Nat.blt t n = true)
    (kk : AL P ops rest ⟨n, (t, .iface et .junk) :: tm, bx, fr, ee⟩ Q) : AL P ops (⟨some t, .load lt x, ty, pos, after, none⟩ :: rest) ⟨n, tm, bx, fr, ee⟩ Q :=
  AL_val _ htd (fun g a w hi => by
    have h1 : V w g fr (ev tm x) (a.eval x) := hi.ev x
    rw [hx] at h1
    have h1 := gptr_inv h1
    obtain ⟨v, hv⟩ := (hi.mem.gl.2 k et ⟨hk, hc⟩).2
    refine ⟨_, ?_, .iface et .junk v (.junk v)⟩
    simp [execOp, h1, Instr.loadAt, Instr.sureAddr, Sem.run_bind, run_load1 (P := P) (by rw [(tl_ok hT ht).tAgg, ha]) hv]) kk
/-! ### slices of bytes cut, said of bytes -/
theorem AL_from [Known] [Dfr] (hT : chk P T = true) {x lo : Operand} {st e : Nat} {tk : Tok} {bs bs2 : List UInt8} {l : List E} {k0 : IntKind} {i : Int} {ti te : Ti} (hx : ev tm x = .sl tk l) (hl : l = bs.map E.byte) (ht : tl T st = some ti) (hk : ti.kd = .slice e) (hte : tl T e = some te) (hsz : Nat.beq te.size 1 = true) (htd : Nat.blt t n = true)
    (hlo : ev tm lo = .int k0 i) (h0 : 0 ≤ i) (hle : i.toNat ≤ bs.length) (hd : bs.drop i.toNat = bs2)
    (kk : AL P ops rest ⟨n, (t, .sl .ext (bs2.map E.byte)) :: tm, bx, fr, ee⟩ Q) : AL P ops (⟨some t, .slice st x (some lo) none none, ty, pos, after, none⟩ :: rest) ⟨n, tm, bx, fr, ee⟩ Q := by
  subst hd
  refine AL_slice hT hx ht hk hte htd (.lit lo _ k0 i hlo h0) (.dft _) (by rw [hl, List.length_map]; exact hle) (Nat.le_refl _) ?_ ?_ kk
  · rw [Nat.eq_of_beq_eq_true hsz, hl]; exact Uni.map (f := E.byte) (fun _ => rfl) bs
  · rw [hl, List.take_of_length_le (Nat.le_refl _), List.map_drop]
theorem AL_span [Known] [Dfr] (hT : chk P T = true) {x lo hh : Operand} {st e : Nat} {tk : Tok} {bs bs2 : List UInt8} {l : List E} {k0 k1 : IntKind} {i j : Int} {ti te : Ti} (hx : ev tm x = .sl tk l) (hl : l = bs.map E.byte) (ht : tl T st = some ti) (hk : ti.kd = .slice e) (hte : tl T e = some te) (hsz : Nat.beq te.size 1 = true) (htd : Nat.blt t n = true)
    (hlo : ev tm lo = .int k0 i) (hhi : ev tm hh = .int k1 j) (h0 : 0 ≤ i) (hij : i ≤ j) (hle : j.toNat ≤ bs.length) (hd : (bs.take j.toNat).drop i.toNat = bs2)
    (kk : AL P ops rest ⟨n, (t, .sl .ext (bs2.map E.byte)) :: tm, bx, fr, ee⟩ Q) : AL P ops (⟨some t, .slice st x (some lo) (some hh) none, ty, pos, after, none⟩ :: rest) ⟨n, tm, bx, fr, ee⟩ Q := by
  subst hd
  refine AL_slice hT hx ht hk hte htd (.lit lo _ k0 i hlo h0) (.lit hh _ k1 j hhi (by omega)) (by omega) (by rw [hl, List.length_map]; exact hle) ?_ ?_ kk
  · rw [Nat.eq_of_beq_eq_true hsz, hl]; exact Uni.map (f := E.byte) (fun _ => rfl) bs
  · rw [hl, List.map_drop, List.map_take]
theorem AL_upto [Known] [Dfr] (hT : chk P T = true) {x hh : Operand} {st e : Nat} {tk : Tok} {bs bs2 : List UInt8} {l : List E} {k1 : IntKind} {j : Int} {ti te : Ti} (hx : ev tm x = .sl tk l) (hl : l = bs.map E.byte) (ht : tl T st = some ti) (hk : ti.kd = .slice e) (hte : tl T e = some te) (hsz : Nat.beq te.size 1 = true) (htd : Nat.blt t n = true)
    (hhi : ev tm hh = .int k1 j) (h0 : 0 ≤ j) (hle : j.toNat ≤ bs.length) (hd : bs.take j.toNat = bs2)
    (kk : AL P ops rest ⟨n, (t, .sl .ext (bs2.map E.byte)) :: tm, bx, fr, ee⟩ Q) : AL P ops (⟨some t, .slice st x none (some hh) none, ty, pos, after, none⟩ :: rest) ⟨n, tm, bx, fr, ee⟩ Q := by
  subst hd
  refine AL_slice hT hx ht hk hte htd (.dft _) (.lit hh _ k1 j hhi h0) (Nat.zero_le _) (by rw [hl, List.length_map]; exact hle) ?_ ?_ kk
  · rw [Nat.eq_of_beq_eq_true hsz, hl]; exact Uni.map (f := E.byte) (fun _ => rfl) bs
  · rw [hl, List.drop_zero, List.map_take]
/-- p[:len(p):len(p)] -/
theorem AL_same3 [Known] [Dfr] (hT : chk P T = true) {x hh mx : Operand} {st e : Nat} {tk : Tok} {bs : List UInt8} {l : List E} {k2 k3 : IntKind} {j m : Int} {ti te : Ti} (hx : ev tm x = .sl tk l) (hl : l = bs.map E.byte) (ht : tl T st = some ti) (hk : ti.kd = .slice e) (hte : tl T e = some te) (hsz : Nat.beq te.size 1 = true) (htd : Nat.blt t n = true)
    (hhi : ev tm hh = .int k2 j) (hmx : ev tm mx = .int k3 m) (hj0 : j = (bs.length : Int)) (hm0 : m = (bs.length : Int))
    (kk : AL P ops rest ⟨n, (t, .sl .ext (bs.map E.byte)) :: tm, bx, fr, ee⟩ Q) : AL P ops (⟨some t, .slice st x none (some hh) (some mx), ty, pos, after, none⟩ :: rest) ⟨n, tm, bx, fr, ee⟩ Q :=
  AL_val _ htd (fun g a w hi => by
    subst hl
    have h1 : V w g fr (ev tm x) (a.eval x) := hi.ev x
    rw [hx] at h1
    obtain ⟨a1, _⟩ := sl_inv h1
    have hu := (tl_ok hT ht).slice hk
    have hsz2 := run_sizeOf (P := P) (t := e) (tl_ok hT hte).tSize w
    have e2 : a.eval hh = .int k2 j := Bnd.val (S := ⟨n, tm, bx, fr, _⟩) hi hhi
    have e3 : a.eval mx = .int k3 m := Bnd.val (S := ⟨n, tm, bx, fr, _⟩) hi hmx
    subst hj0 hm0
    obtain ⟨A, cap, hv, hcap, hmax⟩ : ∃ A cap, a.eval x = .slice A bs.length cap ∧ bs.length ≤ cap ∧ cap ≤ maxLen := by
      generalize hq : E.sl (bs.map E.byte) = q at a1
      generalize a.eval x = v at a1
      cases a1 with
      | slC l' b off cap us h1 h2 _ _ _ => injection hq with hq; subst hq; exact ⟨some ⟨b, off, none⟩, cap, by rw [List.length_map], by rw [List.length_map] at h1; exact h1, h2⟩
      | slE A cap h => injection hq with hq; have : bs = [] := by simpa using hq
                       subst this; exact ⟨A, cap, rfl, Nat.zero_le _, h⟩
      | _ => cases hq
    have b1 : (0 : Int) ≤ (bs.length : Int) ∧ (bs.length : Int) ≤ (cap : Int) := by omega
    have b2 : (0 : Int) ≤ (bs.length : Int) ∧ (bs.length : Int) ≤ (bs.length : Int) := by omega
    have hb : (Instr.sliceBounds true bs.length cap none (some (.int k2 (bs.length : Int))) (some (.int k3 (bs.length : Int)))).run P w = .ok (0, bs.length, bs.length) w := by
      simp only [Instr.sliceBounds, Instr.sliceBound, asIntOf, Sem.run_bind, Sem.run_pure, Result.andThen_ok, if_pos b1, Int.toNat_natCast, if_pos b2]
    refine ⟨.slice (if bs.length = 0 then A else A.map (·.add (0 * te.size))) (bs.length - 0) (bs.length - 0), ?_, ?_⟩
    · have hrun : (Instr.sliceAt st (.slice A bs.length cap) none (some (.int k2 (bs.length : Int))) (some (.int k3 (bs.length : Int)))).run P w = .ok (.slice (if bs.length = 0 then A else A.map (·.add (0 * te.size))) (bs.length - 0) (bs.length - 0)) w := by
        simp [Instr.sliceAt, Instr.slice, Sem.run_bind, run_underlying hu, hb, hsz2]
      simp only [execOp, hv, e2, e3, Sem.run_bind, Option.map_some, Option.map_none, hrun, Result.andThen_ok]
      rfl
    · rw [Nat.sub_zero]
      refine .sl _ _ _ ?_ trivial
      by_cases he : bs.length = 0
      · have hnil : bs = [] := List.eq_nil_of_length_eq_zero he
        subst hnil
        exact .slE _ _ (by omega)
      · rw [if_neg he]
        rw [hv] at a1
        generalize hq' : E.sl (bs.map E.byte) = qq at a1
        generalize hs : Value.slice A bs.length cap = s at a1
        cases a1 with
        | slC l' b off cap' us h1 h2 hc hw hvv =>
          injection hq' with hq'; subst hq'
          injection hs with q1 q2 q3
          subst q1 q3
          have hadd : (⟨b, off, none⟩ : Addr).add (0 * te.size) = ⟨b, off, none⟩ := by rw [Nat.zero_mul]; rfl
          have := VE.slC (w := w) (C := g.C) (bs.map E.byte) b off bs.length us (by rw [List.length_map]; exact Nat.le_refl _) (by omega) hc hw hvv
          rw [List.length_map] at this
          rw [Option.map_some, hadd]
          exact this
        | slE A cap h => injection hq' with hq'; have : bs = [] := by simpa using hq'
                         simp [this] at he
        | _ => cases hq') kk
theorem AW_condCT [Known] [Dfr] {S : St} {x y : Code} (h : AW P x S Q) : AW P (.cond (.const (.bool true)) x y) S Q := ⟨fun b0 g a w hi => wp_cond_true rfl (h.run b0 g a w hi)⟩
theorem AW_condCF [Known] [Dfr] {S : St} {x y : Code} (h : AW P y S Q) : AW P (.cond (.const (.bool false)) x y) S Q := ⟨fun b0 g a w hi => wp_cond_false rfl (h.run b0 g a w hi)⟩
def D.isIf : D → Bool
  | .iface _ _ => true
  | _ => false
theorem AL_panicI [Known] [Dfr] {x : Operand} {d : D} {td : Option Nat} (hx : nf (ev tm x) = some d) (hn : d.isIf = true) (k : Q (.pan d) ⟨n, tm, bx, fr, ee⟩) : AL P ops (⟨td, .panic x, ty, pos, after, none⟩ :: rest) ⟨n, tm, bx, fr, ee⟩ Q := by
  cases d with
  | iface t d => exact AL_panic hx rfl k
  | _ => cases hn
/-! ### calls of function values -/
theorem fn_inv {f : FuncId} {l : List D} {v : Value} (h : V w g fr (.fn f l) v) : ∃ vs : List Value, v = .func (.func f) #[] vs.toArray ∧ vs.length = l.length ∧ ∀ (j : Nat) (d : D) (v : Value), l[j]? = some d → vs[j]? = some v → V w g fr d v := by
  cases h with
  | fn _ _ vs hl h => exact ⟨vs, rfl, hl, h⟩
end
theorem AL_callV [Known] [Dfr] {P : Program} {Q : X → St → Prop} {S : St} {ops : Array Oper} {rest : List Oper} {t : Option Nat} {ty : Nat} {pos : String} {after : Array Edge} {f : FuncId} {x : Operand} {ars : Array Operand} {ats : Array TypeId} (bs ts : List Nat)
    {cds caps : List D} {bxs : List (List D)} {frs : List Fr} {post : R → List (List D) → List Fr → Prop} (hx : ev S.tm x = .fn f caps) (hf : isFn P f = true) (hAC : AC P f cds bxs frs post)
    (hc : (ars.toList.map (ev S.tm) ++ caps).map (D.ren (idx bs) (idx ts)) = cds) (hb : okSel bs S.bx.length) (ht : okSel ts S.fr.length) (hbx : selB bs ts S.bx = bxs) (hfr : selF ts S.fr = frs) (htd : (match t with | some t => Nat.blt t S.n | none => true) = true)
    (hp : ∀ d bx' fr', post (.pan d) bx' fr' → bs.length ≤ bx'.length ∧ Q (.pan (d.ren (upN bs S.bx.length) (upN ts S.fr.length))) ⟨S.n, S.tm, aftB bs ts S.bx S.fr.length bx', aftF ts S.fr fr', S.e⟩)
    (k : ∀ d bx' fr', post (.ret d) bx' fr' → bs.length ≤ bx'.length ∧ AL P ops rest (S.aft bs ts bx' fr' t d) Q) : AL P ops (⟨t, .call { callee := .value x, args := ars, argTypes := ats }, ty, pos, after, none⟩ :: rest) S Q := by
  refine ⟨fun b0 g a w hi => ?_⟩
  refine wpList_plain rfl fun K hK => ?_
  have hvx := hi.ev x
  rw [hx] at hvx
  obtain ⟨cvs, hcv, hcl, hcV⟩ := fn_inv hvx
  have hrun : (execOp a.eval ⟨t, .call { callee := .value x, args := ars, argTypes := ats }, ty, pos, after, none⟩).run P w = .ok (.enter f (ars.toList.map a.eval ++ cvs).toArray) w := by
    have e : ars.map a.eval ++ cvs.toArray = (ars.toList.map a.eval ++ cvs).toArray := by
      rw [← List.append_toArray, ← Array.toList_map, Array.toArray_toList]
    have hz := run_callFunc' hf (ars.toList.map a.eval ++ cvs).toArray w
    rw [← e] at hz ⊢
    simpa [execOp, resolve, hcv, Deferred.ofValue, invoke, Sem.run_bind] using hz
  unfold Oper.wp
  rw [hrun]
  have hm := hi.mem
  have hcall := hAC.run (g.sel bs ts) w (ars.toList.map a.eval ++ cvs) (by rw [← hbx, ← hfr]; exact hm.sel hb ht) (by rw [← hc]; simp [hcl]) (fun j d v hd hv => by
    rw [← hc, List.getElem?_map] at hd
    cases hj : (ars.toList.map (ev S.tm) ++ caps)[j]? with
    | none => simp only [hj, Option.map_none] at hd; cases hd
    | some d0 =>
      simp only [hj, Option.map_some, Option.some.injEq] at hd
      subst hd
      rw [← hfr]
      refine V.sel hm hb ht ?_
      rcases Nat.lt_or_ge j ars.toList.length with hlt | hge
      · rw [List.getElem?_append_left (by simpa using hlt)] at hj hv
        exact evs hi ars j d0 v hj hv
      · rw [List.getElem?_append_right (by simpa using hge)] at hj hv
        simp only [List.length_map] at hj hv
        exact hcV _ d0 v hj hv)
  refine hcall.mono fun e w' ⟨g', bx', fr', r, he, hm', hr, hpost⟩ => ?_
  rw [← hfr] at he
  have common : bs.length ≤ bx'.length → Inv b0 ⟨S.n, S.tm, aftB bs ts S.bx S.fr.length bx', aftF ts S.fr fr', S.e⟩ (aftG bs ts g g') a w' ∧ ∀ d v, V w' g' fr' d v → V w' (aftG bs ts g g') (aftF ts S.fr fr') (d.ren (upN bs S.bx.length) (upN ts S.fr.length)) v := fun hle => by
    obtain ⟨q1, q2, q3⟩ := Go.Av.aft hm hb ht he hm' hle
    exact ⟨⟨hi.size, hi.defers, q1, fun t => (hi.tm t).evo q2, hi.evo.trans q2, hi.bd⟩, q3⟩
  cases r with
  | ret d =>
    obtain ⟨v, rfl, hv⟩ := hr
    obtain ⟨hle, hk⟩ := k d bx' fr' hpost
    obtain ⟨hi2, hup⟩ := common hle
    refine hK _ _ (hk.run b0 (aftG bs ts g g') _ w' ?_)
    cases t with
    | none => exact hi2
    | some t => exact hi2.put htd (hup d v hv)
  | pan d =>
    obtain ⟨v, rfl, hv⟩ := hr
    obtain ⟨hle, hq⟩ := hp d bx' fr' hpost
    obtain ⟨hi2, hup⟩ := common hle
    exact ⟨_, _, v, _, hi2, rfl, hup d v hv, hq⟩
section
variable {P : Program} {Q : X → St → Prop} {n : Nat} {ee : Nat × Nat} {tm : List (Nat × D)} {bx : List (List D)} {fr : List Fr} {ops : Array Oper} {rest : List Oper} {ty : Nat} {pos : String} {after : Array Edge} {f : FuncId} {ars : Array Operand} {ats : Array TypeId}
/-- of a function value that captures nothing that changes -/
theorem AL_callPv [Known] [Dfr] {t : Nat} {x : Operand} {cds caps : List D} {d d' : D} (hAC : AP P f cds d []) (hx : ev tm x = .fn f caps) (hf : isFn P f = true)
    (hc : D.wks ((ars.toList.map (ev tm) ++ caps).map (D.ren (idx []) (idx []))) = cds) (htd : Nat.blt t n = true) (hd : nf (d.ren (upN [] bx.length) (upN [] fr.length)) = some d')
    (k : AL P ops rest ⟨n, (t, d') :: tm, bx, fr, ee⟩ Q) : AL P ops (⟨some t, .call { callee := .value x, args := ars, argTypes := ats }, ty, pos, after, none⟩ :: rest) ⟨n, tm, bx, fr, ee⟩ Q := by
  refine AL_callV [] [] hx hf (AC.unwk (hc ▸ hAC)) rfl (okSel_nil _) (okSel_nil _) rfl rfl htd (fun _ _ _ h => by cases h.1) fun d0 bx' fr' h => ?_
  obtain ⟨h1, rfl, rfl⟩ := h
  injection h1 with h1
  subst h1
  refine ⟨Nat.le_refl _, ?_⟩
  have e1 := nf_eq hd
  subst e1
  simpa [St.aft, aftB, aftF, putAt] using k
/-- a function value that is handed variables bs -/
theorem AL_callQv [Known] [Dfr] {t : Nat} {x : Operand} {cds caps : List D} {d d' : D} {bxs bxs' bx2 : List (List D)} (bs : List Nat) (hQ : AQ P f cds bxs d bxs') (hx : ev tm x = .fn f caps) (hf : isFn P f = true)
    (hc : D.wks ((ars.toList.map (ev tm) ++ caps).map (D.ren (idx bs) (idx []))) = cds) (hb : selOk bs bx.length = true) (hbx : selB bs [] bx = bxs) (hle : Nat.ble bs.length bxs'.length = true) (htd : Nat.blt t n = true) (hd : nf (d.ren (upN bs bx.length) (upN [] fr.length)) = some d') (hB : nfb (aftB bs [] bx fr.length bxs') = some bx2)
    (k : AL P ops rest ⟨n, (t, d') :: tm, bx2, fr, ee⟩ Q) : AL P ops (⟨some t, .call { callee := .value x, args := ars, argTypes := ats }, ty, pos, after, none⟩ :: rest) ⟨n, tm, bx, fr, ee⟩ Q := by
  refine AL_callV bs [] hx hf (AC.unwk (hc ▸ hQ)) rfl (selOk_ok hb) (okSel_nil _) hbx rfl htd (fun _ _ _ h => by cases h.1) fun d0 bx' fr' h => ?_
  obtain ⟨h1, rfl, rfl⟩ := h
  injection h1 with h1
  subst h1
  refine ⟨Nat.le_of_ble_eq_true hle, ?_⟩
  have e1 := nf_eq hd
  have e2 := nfb_eq hB
  subst e1 e2
  simpa [St.aft, aftF, putAt] using k
end
/-! ### contracts with a panic -/
/-- a function that is handed variables and panics, by a constant -/
def AX [Known] (P : Program) (f : FuncId) (args : List D) (bx : List (List D)) (p : D) : Prop := AC P f args bx [] fun r b fr => r = .pan p ∧ bx.length ≤ b.length
/-- a value that names no variable and no token -/
def D.pure : D → Bool
  | .bool _ | .int _ _ | .str _ | .nilp | .nilf | .nili => true
  | .iface _ (.agg l) => l.all fun | .bool _ | .int _ _ | .str _ => true | _ => false
  | .iface _ d => match d with | .bool _ | .int _ _ | .str _ => true | _ => false
  | _ => false
/-- what comes of a function that may panic -/
def rPost (k : Nat) (o : Except D (D × List (List D))) : R → List (List D) → List Fr → Prop := fun r b fr => match o with
  | .ok (d, bx') => ∃ d0, r = .ret d0 ∧ d0.wk = d ∧ b.map D.wks = bx' ∧ fr = []
  | .error p => r = .pan p ∧ k ≤ b.length
def AR [Known] (P : Program) (f : FuncId) (args : List D) (bx : List (List D)) (o : Except D (D × List (List D))) : Prop := AC P f args bx [] (rPost bx.length o)
theorem AR.q [Known] {P : Program} {f : FuncId} {args : List D} {bx bx' : List (List D)} {d : D} {o : Except D (D × List (List D))} (h : AR P f args bx o) (e : o = .ok (d, bx')) : AQ P f args bx d bx' := by
  subst e
  exact AQ.weak h
theorem AR.x [Known] {P : Program} {f : FuncId} {args : List D} {bx : List (List D)} {p : D} {o : Except D (D × List (List D))} (h : AR P f args bx o) (e : o = .error p) : AX P f args bx p := by
  subst e
  exact h
theorem AR.p [Known] {P : Program} {f : FuncId} {args : List D} {d : D} {o : Except D (D × List (List D))} (h : AR P f args [] o) (e : o = .ok (d, [])) : AP P f args d [] := h.q e
theorem endR {P : Program} {rs : List ResultVar} {S : St} {d d' : D} {ds : List D} {bx' B : List (List D)} {k : Nat} {o : Except D (D × List (List D))} (ho : o = .ok (d, bx')) (bs : List Nat) (h : ResL P S rs ds) (hb : selOk bs S.bx.length = true) (hk : preOk k bs = true) (hn : nf (((ret1 ds).ren (idx bs) (idx [])).wk) = some d') (hB : nfb ((selB bs [] S.bx).map D.wks) = some B) (hd : d' = d) (hB' : B = bx') :
    fnPost P rs k 0 (rPost k o) .ret S := by
  subst ho
  exact endQ bs h hb hk hn hB hd hB'
theorem endRn {P : Program} {rs : List ResultVar} {S : St} {d d' : D} {ds : List D} {bx' B : List (List D)} {k : Nat} {o : Except D (D × List (List D))} (ho : o = .ok (d, bx')) (bs : List Nat) (h : ResL P S rs ds) (hb : selOk bs S.bx.length = true) (hk : preOk k bs = true) (hn : nf (((ret1 ds).ren (idx bs) (idx [])).wk) = some d') (hB : nfb ((selB bs [] S.bx).map D.wks) = some B) (hd : d' = d) (hB' : B = bx') :
    fnPost P rs k 0 (rPost k o) .norm S := by
  subst ho
  exact endQn bs h hb hk hn hB hd hB'
theorem endX {P : Program} {rs : List ResultVar} {S : St} {d p : D} {k : Nat} {o : Except D (D × List (List D))} (ho : o = .error p) (hk : k ≤ S.bx.length) (hd : nf (d.ren (idx (List.range k)) (idx [])) = some p) : fnPost P rs k 0 (rPost k o) (.pan d) S := by
  subst ho
  refine ⟨List.range k, [], okSel_range hk, okSel_nil _, fun i hi => by simp [hi], fun i hi => by omega, ?_, ?_⟩
  · rw [nf_eq hd]
  · simp [selB]
section
variable {P : Program} {Q : X → St → Prop} {n : Nat} {ee : Nat × Nat} {tm : List (Nat × D)} {bx : List (List D)} {fr : List Fr} {ops : Array Oper} {rest : List Oper} {ty : Nat} {pos : String} {after : Array Edge} {f : FuncId} {ars : Array Operand} {ats : Array TypeId}
/-- a call that panics -/
theorem AL_callX [Known] [Dfr] {t : Option Nat} {cds : List D} {p p' : D} {bxs : List (List D)} (bs : List Nat) (hX : AX P f cds bxs p) (hf : isFn P f = true)
    (hc : D.wks ((ars.toList.map (ev tm)).map (D.ren (idx bs) (idx []))) = cds) (hb : selOk bs bx.length = true) (hbx : selB bs [] bx = bxs) (hle : Nat.ble bs.length bxs.length = true) (htd : (match t with | some t => Nat.blt t n | none => true) = true) (hp : nf (p.ren (upN bs bx.length) (upN [] fr.length)) = some p')
    (k : ∀ bx2 fr2, bx.length ≤ bx2.length → Q (.pan p') ⟨n, tm, bx2, fr2, ee⟩) : AL P ops (⟨t, .call { callee := .value (.func f), args := ars, argTypes := ats }, ty, pos, after, none⟩ :: rest) ⟨n, tm, bx, fr, ee⟩ Q := by
  refine AL_call bs [] hf (AC.unwk (hc ▸ hX)) rfl (selOk_ok hb) (okSel_nil _) hbx rfl htd (fun d bx' fr' h => ?_) fun d0 bx' fr' h => by cases h.1
  obtain ⟨h1, h2⟩ := h
  injection h1 with h1
  subst h1
  have hle := Nat.le_of_ble_eq_true hle
  refine ⟨by omega, ?_⟩
  have e := nf_eq hp
  subst e
  exact k _ _ (by simp [aftB, putAt_length])
end
end Go.Av
end
/- Regions that draw their order, in which one operation panics. -/
section
open Go.RowKit Go.Pl
namespace Go.Av
set_option linter.unusedSimpArgs false
set_option linter.unusedVariables false
section
variable {P : Program} {Q : X → St → Prop} {n : Nat} {ee : Nat × Nat} {tm tm' : List (Nat × D)} {bx bx' : List (List D)} {fr fr' : List Fr} {b0 : Bs} {g : G} {w : World} {a : Act}
theorem mid_step1 [Known] [Dfr] {l : List Oper} {ds : List (Nat × D)} {listed : Array Bool} (hchk : chkDraw l = true) (hE : chkE l = true) (hl : ds.length ≤ l.length)
    (hdst : ∀ (i : Nat) (o : Oper), l[i]? = some o → i < ds.length → ∃ t d, ds[i]? = some (t, d) ∧ o.dst = some t)
    (hM : Mid b0 ee n tm bx fr l ds listed g a w) {i : Nat} (hi : i ∈ Region.ready .any l.toArray listed) (hids : i < ds.length) (hst : ∀ o, l[i]? = some o → ∃ t d, ds[i]? = some (t, d) ∧ o.dst = some t ∧ Nat.blt t n = true ∧ AL P l.toArray [o] ⟨n, restr l o ((ds.take i).reverse ++ tm), bx, fr, (bx.length, fr.length)⟩ (qp t d bx fr)) {K : Act → World → Prop} {Q2 : Exit → Act → World → Prop} (hK : ∀ g' a' w', Mid b0 ee n tm bx fr l ds (listed.setIfInBounds i true) g' a' w' → K a' w') :
    wpOp P l.toArray Q2 i K a w := by
  obtain ⟨hn0, o, ho, hr⟩ := mem_ready.1 hi
  have ho' : l[i]? = some o := by simpa using ho
  have hil : i < l.length := (List.getElem?_eq_some_iff.1 ho').1
  have hn : listed.getD i false = false := by
    have : i < listed.size := by rw [hM.len]; exact hil
    simp [this] at hn0 ⊢; exact hn0
  obtain ⟨t, d, e1, e2, e3, hAL⟩ := hst o ho'
  have hN : ∀ (i j : Nat) (p q : Nat × D), ds[i]? = some p → ds[j]? = some q → p.1 = q.1 → i = j := fun x y p q hx hy e => by
    by_cases hxy : x = y
    · exact hxy
    · exfalso
      have hxd := (List.getElem?_eq_some_iff.1 hx).1
      have hxl : x < l.length := Nat.lt_of_lt_of_le hxd hl
      have hyd := (List.getElem?_eq_some_iff.1 hy).1
      have hyl : y < l.length := Nat.lt_of_lt_of_le hyd hl
      have hc := chk_get hchk hxl hyl hxy
      obtain ⟨t1, d1, a1, a2⟩ := hdst x _ (List.getElem?_eq_getElem hxl) hxd
      obtain ⟨t2, d2, c1, c2⟩ := hdst y _ (List.getElem?_eq_getElem hyl) hyd
      rw [hx] at a1; injection a1 with a1
      rw [hy] at c1; injection c1 with c1
      simp only [chkPair, List.getElem?_eq_getElem hxl, List.getElem?_eq_getElem hyl, a2, c2, Bool.and_eq_true, bne_iff_ne, ne_eq, Option.some.injEq] at hc
      rw [a1, c1] at e
      exact hc.1 e.symm
  have hinv : Inv ⟨g, fr, w⟩ ⟨n, restr l o ((ds.take i).reverse ++ tm), bx, fr, (bx.length, fr.length)⟩ g a w := by
    refine ⟨hM.size, hM.defers, hM.mem, fun x => ?_, Evo.refl _, by rw [hM.mem.bl]; exact Nat.le_refl _, Nat.le_refl _⟩
    by_cases hx : x ∈ looks l o
    · dsimp only
      rw [look_restr _ hx, ← cur_ready hchk hl hdst hM.closed ho' hn hr (Nat.le_of_lt hids) hx]
      exact hM.tm x
    · dsimp only
      rw [look_restr_far _ hx]
      exact .junk _
  have hrun := hAL.run ⟨g, fr, w⟩ g a w hinv
  -- what such an end gives
  have fin : ∀ a' w', (∃ v, a' = a.put o.dst v) → wpList P l.toArray (conc ⟨g, fr, w⟩ (qp t d bx fr)) [] a' w' → K a' w' := by
    rintro a' w' ⟨v, rfl⟩ h
    obtain ⟨S', g', hi', hq⟩ := h
    obtain ⟨n', tm2, bx2, fr2, ee'⟩ := S'
    have hn' : n' = n := by
      have h1 := hi'.size
      dsimp only at h1
      rw [← h1, ← hM.size]
      cases hd' : o.dst <;> simp [Act.put, hd']
    subst hn'
    obtain ⟨tm3, g', hi', q3⟩ : ∃ tm3 g', Inv ⟨g, fr, w⟩ ⟨n', tm3, bx, fr, (g.ρ.length, fr.length)⟩ g' (a.put o.dst v) w' ∧ look tm3 t = d := by
      rcases hq with ⟨q1, q2, q3⟩ | ⟨q1, q2, q3, q4⟩
      · dsimp only at q1 q2 q3
        subst q1 q2
        exact ⟨tm2, g', ⟨hi'.size, hi'.defers, hi'.mem, hi'.tm, hi'.evo, Nat.le_refl _, Nat.le_refl _⟩, q3⟩
      · dsimp only at q1 q2 q3
        have h1 : Inv ⟨g, fr, w⟩ ⟨n', [(t, d)], bx2, fr2, (g.ρ.length, fr.length)⟩ g' (a.put o.dst v) w' := by
          refine ⟨hi'.size, hi'.defers, hi'.mem, fun x => ?_, hi'.evo, Nat.le_refl _, Nat.le_refl _⟩
          by_cases hx : x = t
          · subst hx
            have := hi'.tm x
            dsimp only at this ⊢
            simp only [look, Nat.beq_refl]
            rcases q3 with q3 | q3
            · rw [← q3]; exact this
            · rw [← q3]; exact this.wk
          · have hb : Nat.beq t x = false := by
              cases hb : Nat.beq t x with
              | false => rfl
              | true => exact (hx (Nat.eq_of_beq_eq_true hb).symm).elim
            simp only [look, hb]
            exact .junk _
        have h2 := h1.cut (k := bx.length) (m := fr.length) (by show g.ρ.length ≤ _; rw [hM.mem.bl]; exact Nat.le_refl _) (Nat.le_refl _) (by simp only [tmLt, q4]) (by rw [q1]; exact hM.mem.allLt)
        rw [q1, q2] at h2
        exact ⟨_, _, h2, by simp [look]⟩
    refine hK g' _ _ ⟨hM.bd, hi'.size, hi'.defers, hi'.mem, hM.evo.trans hi'.evo, fun x => ?_, fun m om hm hlm e he hb => ?_, by simp [hM.len]⟩
    · by_cases hx : x = t
      · subst hx
        rw [cur_at hN hl e1, if_pos (by simp [hM.len, hil])]
        have := hi'.tm x
        dsimp only at this
        rw [q3] at this
        exact this
      · have hcur : cur l ds tm (listed.setIfInBounds i true) x = cur l ds tm listed x := by
          by_cases hex : ∃ (j : Nat) (d : D), ds[j]? = some (x, d)
          · obtain ⟨j, dj, hj⟩ := hex
            have hne : i ≠ j := fun e => by
              subst e
              rw [e1] at hj; injection hj with hj; injection hj with hj
              exact hx hj.symm
            rw [cur_at hN hl hj, cur_at hN hl hj, getD_set_ne false hne]
          · have hno : ∀ (j : Nat) (p : Nat × D), ds[j]? = some p → p.1 ≠ x := fun j p hj e => hex ⟨j, p.2, by rw [hj, ← e]⟩
            rw [cur_far hno, cur_far hno]
        rw [hcur]
        have htm : (a.put o.dst v).tmps.getD x undef = a.tmps.getD x undef := by
          rw [e2]
          simp [Act.put, Array.getD_getElem?, Array.getElem?_setIfInBounds_ne (Ne.symm hx)]
        rw [htm]
        exact (hM.tm x).evo hi'.evo
    · by_cases hmi : m = i
      · subst hmi
        rw [ho'] at hm; injection hm with hm; subst hm
        exact getD_set_true (hr e he hb)
      · rw [getD_set_ne false (Ne.symm hmi)] at hlm
        exact getD_set_true (hM.closed m om hm hlm e he hb)
  unfold wpOp
  simp only [ho]
  unfold wpList at hrun
  by_cases hw : Region.wanted o (yielded l.toArray a.tmps) = true
  · rw [if_pos hw] at hrun
    rw [if_pos hw]
    have hL : LetsOut (conc ⟨g, fr, w⟩ (qp t d bx fr)) → False := fun ⟨_, _, h⟩ => h
    rcases hrun with hrun | ⟨_, hlo⟩
    · refine .inl ?_
      have := upon_put (Q2 := Q2) hrun hM.defers (fun a w h => by obtain ⟨S', g', hi', _⟩ := h; exact hi'.defers) (fun c a w h => by obtain ⟨_, _, _, _, _, _, _, hq⟩ := h; exact hq) hL
      exact Oper.wp_mono (P := P) (fun a' w' h => fin a' w' h.1 h.2) this
    · exact (hL hlo).elim
  · rw [if_neg hw] at hrun
    rw [if_neg hw]
    exact fin _ _ ⟨undef, rfl⟩ hrun
/-- what an operation that panics leaves -/
def qx (p : D) (bx : List (List D)) : X → St → Prop
  | .pan d, S => d = p ∧ bx.length ≤ S.bx.length
  | _, _ => False
theorem qx_pan {p d : D} {tm2 : List (Nat × D)} {bx2 : List (List D)} {fr2 : List Fr} (hd : d = p) (h : bx.length ≤ bx2.length) : qx p bx (.pan d) ⟨n, tm2, bx2, fr2, ee⟩ := ⟨hd, h⟩
theorem upon_pan {o : Oper} {K K' : Act → World → Prop} {Q' Q2 : Exit → Act → World → Prop} {r : Result Next} (h : o.upon P a K Q' r) (hK : ∀ a w, K a w → False) (hQ : ∀ c w, Q' (.panic c) a w → Q2 (.panic c) a w) (hL : LetsOut Q' → False) :
    o.upon P a K' Q2 r := by
  cases r with
  | ok nx w' =>
    cases nx <;> simp only [Oper.upon] at h ⊢
    case value v => exact (hK _ _ h).elim
    case skip => exact (hK _ _ h).elim
    case defer d => exact (hK _ _ h).elim
    case enter f args =>
      refine Calls.mono h (fun e w'' he => ?_)
      cases e with
      | returned u => exact (hK _ _ he).elim
      | panicked c => exact hQ _ _ he
      | outgrown => exact (hL he).elim
    case row row args => exact Rows.mono h fun u w'' he => (hK _ _ he).elim
  | halt x w' =>
    cases x <;> simp only [Oper.upon] at h ⊢
    case panic u => exact hQ _ _ h
theorem mid_pan [Known] [Dfr] {l : List Oper} {ds : List (Nat × D)} {listed : Array Bool} {p : D} (hchk : chkDraw l = true) (hl : ds.length ≤ l.length)
    (hdst : ∀ (i : Nat) (o : Oper), l[i]? = some o → i < ds.length → ∃ t d, ds[i]? = some (t, d) ∧ o.dst = some t)
    (hM : Mid b0 ee n tm bx fr l ds listed g a w) {i : Nat} (hi : i ∈ Region.ready .any l.toArray listed) (hids : i < ds.length)
    (hst : ∀ o, l[i]? = some o → AL P l.toArray [o] ⟨n, restr l o ((ds.take i).reverse ++ tm), bx, fr, (bx.length, fr.length)⟩ (qx p bx))
    (hQ : ∀ tm2 bx2 fr2, bx.length ≤ bx2.length → Q (.pan p) ⟨n, tm2, bx2, fr2, ee⟩) {K : Act → World → Prop} : wpOp P l.toArray (conc b0 Q) i K a w := by
  obtain ⟨hn0, o, ho, hr⟩ := mem_ready.1 hi
  have ho' : l[i]? = some o := by simpa using ho
  have hil : i < l.length := (List.getElem?_eq_some_iff.1 ho').1
  have hn : listed.getD i false = false := by
    have : i < listed.size := by rw [hM.len]; exact hil
    simp [this] at hn0 ⊢; exact hn0
  have hAL := hst o ho'
  have hinv : Inv ⟨g, fr, w⟩ ⟨n, restr l o ((ds.take i).reverse ++ tm), bx, fr, (bx.length, fr.length)⟩ g a w := by
    refine ⟨hM.size, hM.defers, hM.mem, fun x => ?_, Evo.refl _, by rw [hM.mem.bl]; exact Nat.le_refl _, Nat.le_refl _⟩
    by_cases hx : x ∈ looks l o
    · dsimp only
      rw [look_restr _ hx, ← cur_ready hchk hl hdst hM.closed ho' hn hr (Nat.le_of_lt hids) hx]
      exact hM.tm x
    · dsimp only
      rw [look_restr_far _ hx]
      exact .junk _
  have hrun := hAL.run ⟨g, fr, w⟩ g a w hinv
  have hK : ∀ a w, wpList P l.toArray (conc ⟨g, fr, ‹World›⟩ (qx p bx)) [] a w → False := fun a w h => by
    obtain ⟨_, _, _, h⟩ := h; exact h
  have hL : LetsOut (conc ⟨g, fr, ‹World›⟩ (qx p bx)) → False := fun ⟨_, _, h⟩ => h
  unfold wpOp
  simp only [ho]
  unfold wpList at hrun
  by_cases hw : Region.wanted o (yielded l.toArray a.tmps) = true
  · rw [if_pos hw] at hrun
    rw [if_pos hw]
    rcases hrun with hrun | ⟨_, hlo⟩
    · refine .inl ?_
      refine upon_pan hrun (fun a w h => by obtain ⟨_, _, _, h⟩ := h; exact h) (fun c w' h => ?_) (fun ⟨_, _, h⟩ => h)
      obtain ⟨S', g', v, d, hi', hc, hv, hd, hle⟩ := h
      obtain ⟨n', tm2, bx2, fr2, ee'⟩ := S'
      have hn' : n' = n := by rw [← hM.size]; exact hi'.size.symm
      subst hn' hd
      exact ⟨⟨n', tm2, bx2, fr2, ee⟩, g', v, d, ⟨hi'.size, hi'.defers, hi'.mem, hi'.tm, hM.evo.trans hi'.evo, hM.bd⟩, hc, hv, hQ tm2 bx2 fr2 hle⟩
    · obtain ⟨_, _, h⟩ := hlo; exact h.elim
  · rw [if_neg hw] at hrun
    obtain ⟨_, _, _, h⟩ := hrun; exact h.elim
/-- the operations of a region in which the j-th one panics: those that only compute; those that hang on it -/
inductive ADX [Known] [Dfr] (P : Program) (l : List Oper) (n : Nat) (bx : List (List D)) (fr : List Fr) (j : Nat) (p : D) : Nat → List Oper → List (Nat × D) → Prop
  | nil (i : Nat) (tm : List (Nat × D)) : ADX P l n bx fr j p i [] tm
  | pu (i : Nat) (o : Oper) (rest : List Oper) (t : Nat) (d : D) (tm : List (Nat × D)) (hd : o.dst = some t) (ht : Nat.blt t n = true) (hne : Nat.beq i j = false) (h : AL P l.toArray [o] ⟨n, restr l o tm, bx, fr, (bx.length, fr.length)⟩ (qp t d bx fr)) (k : ADX P l n bx fr j p (i + 1) rest ((t, d) :: tm)) : ADX P l n bx fr j p i (o :: rest) tm
  | dead (i : Nat) (o : Oper) (rest : List Oper) (t : Nat) (tm : List (Nat × D)) (hd : o.dst = some t) (hu : up (masks [] l) i j = true) (k : ADX P l n bx fr j p (i + 1) rest ((t, .junk) :: tm)) : ADX P l n bx fr j p i (o :: rest) tm
  | pan (o : Oper) (rest : List Oper) (t : Nat) (tm : List (Nat × D)) (hd : o.dst = some t) (h : AL P l.toArray [o] ⟨n, restr l o tm, bx, fr, (bx.length, fr.length)⟩ (qx p bx)) (k : ADX P l n bx fr j p (j + 1) rest ((t, .junk) :: tm)) : ADX P l n bx fr j p j (o :: rest) tm
theorem ADX.steps [Known] [Dfr] {l : List Oper} {j : Nat} {p : D} {i0 : Nat} {rest : List Oper} (h : ADX P l n bx fr j p i0 rest tm) : ∃ ds : List (Nat × D), ds.length = rest.length ∧ ∀ (i : Nat) (o : Oper), rest[i]? = some o → ∃ t d, ds[i]? = some (t, d) ∧ o.dst = some t ∧
    ((i0 + i ≠ j ∧ Nat.blt t n = true ∧ AL P l.toArray [o] ⟨n, restr l o ((ds.take i).reverse ++ tm), bx, fr, (bx.length, fr.length)⟩ (qp t d bx fr)) ∨ up (masks [] l) (i0 + i) j = true ∨ (i0 + i = j ∧ AL P l.toArray [o] ⟨n, restr l o ((ds.take i).reverse ++ tm), bx, fr, (bx.length, fr.length)⟩ (qx p bx))) := by
  induction h with
  | nil i tm => exact ⟨[], rfl, fun i o h => by simp at h⟩
  | pu i o rest t d tm hd ht hne h k ih =>
    obtain ⟨ds, h1, h2⟩ := ih
    refine ⟨(t, d) :: ds, by simp [h1], fun x o' hx => ?_⟩
    cases x with
    | zero =>
      simp at hx; subst hx
      exact ⟨t, d, rfl, hd, .inl ⟨fun e => by rw [Nat.add_zero] at e; subst e; simp at hne, ht, h⟩⟩
    | succ x =>
      obtain ⟨t', d', q1, q2, q3⟩ := h2 x o' (by simpa using hx)
      refine ⟨t', d', by simpa using q1, q2, ?_⟩
      rw [show i + (x + 1) = i + 1 + x by omega]
      simpa using q3
  | dead i o rest t tm hd hu k ih =>
    obtain ⟨ds, h1, h2⟩ := ih
    refine ⟨(t, .junk) :: ds, by simp [h1], fun x o' hx => ?_⟩
    cases x with
    | zero => simp at hx; subst hx; exact ⟨t, _, rfl, hd, .inr (.inl hu)⟩
    | succ x =>
      obtain ⟨t', d', q1, q2, q3⟩ := h2 x o' (by simpa using hx)
      refine ⟨t', d', by simpa using q1, q2, ?_⟩
      rw [show i + (x + 1) = i + 1 + x by omega]
      simpa using q3
  | pan o rest t tm hd h k ih =>
    obtain ⟨ds, h1, h2⟩ := ih
    refine ⟨(t, .junk) :: ds, by simp [h1], fun x o' hx => ?_⟩
    cases x with
    | zero => simp at hx; subst hx; exact ⟨t, _, rfl, hd, .inr (.inr ⟨rfl, h⟩)⟩
    | succ x =>
      obtain ⟨t', d', q1, q2, q3⟩ := h2 x o' (by simpa using hx)
      refine ⟨t', d', by simpa using q1, q2, ?_⟩
      rw [show j + (x + 1) = j + 1 + x by omega]
      simpa using q3
def chkDead (l : List Oper) (j m : Nat) : Bool := (List.range l.length).all fun i => Nat.blt i m || up (masks [] l) i j
/-- a drawn region in which the j-th operation panics -/
theorem AW_drawX [Known] [Dfr] {id : Nat} (m j : Nat) {p : D} {l : List Oper} (hm : P.follows .mixedOrders = true) (hchk : chkDraw l = true) (hE : chkE l = true) (hdead : chkDead l j m = true) (hjm : Nat.blt j m = true) (hlen : Nat.beq (l.take m).length m = true) (h : ADX P l n bx fr j p 0 (l.take m) tm)
    (hQ : ∀ tm2 bx2 fr2, bx.length ≤ bx2.length → Q (.pan p) ⟨n, tm2, bx2, fr2, ee⟩) : AW P (.region id l.toArray true) ⟨n, tm, bx, fr, ee⟩ Q := by
  obtain ⟨ds, h1, h3⟩ := h.steps
  have hlen := Nat.eq_of_beq_eq_true hlen
  have hjm : j < m := by simpa using hjm
  have hml : m ≤ l.length := by rw [List.length_take] at hlen; omega
  rw [hlen] at h1
  have hl : ds.length ≤ l.length := by omega
  have hst : ∀ (i : Nat) (o : Oper), l[i]? = some o → i < ds.length → _ := fun i o ho hi => h3 i o (by rw [List.getElem?_take, if_pos (by omega)]; exact ho)
  have hdst : ∀ (i : Nat) (o : Oper), l[i]? = some o → i < ds.length → ∃ t d, ds[i]? = some (t, d) ∧ o.dst = some t := fun i o h hd => by
    obtain ⟨t, d, h1, h2, _⟩ := hst i o h hd; exact ⟨t, d, h1, h2⟩
  have hjl : j < l.length := by omega
  refine ⟨fun b0 g a w hi => wp_region_any hm ?_⟩
  have main : ∀ (fuel : Nat) (listed : Array Bool) (g : G) (a : Act) (w : World), Mid b0 ee n tm bx fr l ds listed g a w → listed.getD j false = false → left l listed = fuel → wpAny P .any l.toArray (conc b0 Q) fuel listed a w := by
    intro fuel
    induction fuel with
    | zero =>
      intro listed g a w hM hj h0
      have := left_zero h0 hjl
      rw [hj] at this; cases this
    | succ fuel ih =>
      intro listed g a w hM hj hf
      refine ⟨fun he => (ready_ne hE hM.len (by omega) he).elim, fun i hi => ?_⟩
      obtain ⟨hn0, o, ho, hr⟩ := mem_ready.1 hi
      have ho' : l[i]? = some o := by simpa using ho
      have hil : i < l.length := (List.getElem?_eq_some_iff.1 ho').1
      have hlt : i < listed.size := by rw [hM.len]; exact hil
      have hn : listed.getD i false = false := by simp [hlt] at hn0 ⊢; exact hn0
      have hleft := left_set hil hM.len hn
      have nodead : up (masks [] l) i j = true → False := fun hu => by
        have := mem_up hM.closed i o ho' hr j hu
        rw [hj] at this; cases this
      by_cases him : i < m
      · obtain ⟨t, d, e1, e2, hc⟩ := hst i o ho' (by omega)
        rcases hc with ⟨hne, hbt, hAL⟩ | hu | ⟨hij, hAL⟩
        · refine mid_step1 hchk hE hl hdst hM hi (by omega) (fun o1 ho1 => ?_) fun g' a' w' hM' => ih _ g' a' w' hM' ?_ (by omega)
          · rw [ho'] at ho1; injection ho1 with ho1; subst ho1
            exact ⟨t, d, e1, e2, hbt, hAL⟩
          · rw [getD_set_ne false (by omega)]; exact hj
        · exact (nodead (by simpa using hu)).elim
        · refine mid_pan hchk hl hdst hM hi (by omega) (fun o1 ho1 => ?_) hQ
          rw [ho'] at ho1; injection ho1 with ho1; subst ho1
          exact hAL
      · have := List.all_eq_true.1 hdead i (List.mem_range.2 hil)
        simp only [Bool.or_eq_true, Nat.blt_eq] at this
        exact (nodead (this.resolve_left him)).elim
  have hsz : l.toArray.size = l.length := by simp
  rw [hsz]
  have hfresh : ∀ i, (Array.replicate l.length false).getD i false = false := fun i => by
    rcases Nat.lt_or_ge i l.length with h | h <;> simp [h]
  refine main l.length _ g a _ ⟨hi.bd, hi.size, hi.defers, hi.mem.drew, hi.evo.trans Evo.drew, fun t => ?_, fun m o hm hl => ?_, by simp⟩ (hfresh j) ?_
  · have : cur l ds tm (Array.replicate l.length false) t = look tm t := by
      unfold cur
      have hf : (List.range l.length).find? (fun i => (Array.replicate l.length false).getD i false && ((ds[i]?).map (·.1) == some t)) = none := by
        apply List.find?_eq_none.2
        intro i _
        rw [hfresh]; simp
      rw [hf]
    rw [this]
    exact (hi.tm t).drew
  · rw [hfresh] at hl; cases hl
  · unfold left
    rw [List.countP_eq_length.2 (fun i _ => by rw [hfresh]; rfl), List.length_range]
theorem ADX_pu [Known] [Dfr] {l : List Oper} {j i t : Nat} {p d : D} {o : Oper} {rest : List Oper} {tm2 : List (Nat × D)} (hd : o.dst = some t) (ht : Nat.blt t n = true) (hne : Nat.beq i j = false) (h2 : nfl (restr l o tm) = some tm2)
    (h : AL P l.toArray [o] ⟨n, tm2, bx, fr, (bx.length, fr.length)⟩ (qp t d bx fr)) (k : ADX P l n bx fr j p (i + 1) rest ((t, d) :: tm)) : ADX P l n bx fr j p i (o :: rest) tm :=
  .pu i o rest t d tm hd ht hne (by rw [nfl_eq h2]; exact h) k
theorem ADX_dead [Known] [Dfr] {l : List Oper} {j i t : Nat} {p : D} {o : Oper} {rest : List Oper} (hu : up (masks [] l) i j = true) (hd : o.dst = some t) (k : ADX P l n bx fr j p (i + 1) rest ((t, .junk) :: tm)) : ADX P l n bx fr j p i (o :: rest) tm := .dead i o rest t tm hd hu k
theorem ADX_pan [Known] [Dfr] {l : List Oper} {j i t : Nat} {p : D} {o : Oper} {rest : List Oper} {tm2 : List (Nat × D)} (hij : Nat.beq i j = true) (hd : o.dst = some t) (h2 : nfl (restr l o tm) = some tm2)
    (h : AL P l.toArray [o] ⟨n, tm2, bx, fr, (bx.length, fr.length)⟩ (qx p bx)) (k : ADX P l n bx fr j p (i + 1) rest ((t, .junk) :: tm)) : ADX P l n bx fr j p i (o :: rest) tm := by
  obtain rfl := Nat.eq_of_beq_eq_true hij
  exact .pan o rest t tm hd (by rw [nfl_eq h2]; exact h) k
end
end Go.Av
end

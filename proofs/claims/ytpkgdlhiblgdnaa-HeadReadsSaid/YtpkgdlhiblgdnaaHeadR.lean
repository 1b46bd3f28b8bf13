/- The contract of head.Read: for all bytes and places, the head there and where it ends, or why there is none. -/
import Derived.Test.YtpkgdlhiblgdnaaHeadW
open Go.RowKit Go.Pl
namespace Go.Proofs.Ytpkgdlhiblgdnaa
set_option maxHeartbeats 1000000
set_option linter.unusedVariables false
set_option linter.unusedSimpArgs false
def beVal (l : List UInt8) : Nat := l.foldl (fun a c => 256 * a + c.toNat) 0
/-- the head at place p of bytes (p in range), or the error -/
def readN (b : List UInt8) (p : Nat) : Hd × Nat × Nat :=
  match b.drop p with
  | [] => ((0, 0, false), 0, 8)
  | c :: r =>
    if c.toNat % 32 < 24 then (((c.toNat / 32 : Nat), c.toNat % 32, false), p + 1, 0)
    else if c.toNat % 32 = 31 ∧ mayB (c.toNat / 32 : Nat) = true then (((c.toNat / 32 : Nat), 0, true), p + 1, 0)
    else if 27 < c.toNat % 32 then ((0, 0, false), 0, 3)
    else if r.length < 2 ^ (c.toNat % 32 - 24) then ((0, 0, false), 0, 8)
    else (((c.toNat / 32 : Nat), beVal (r.take (2 ^ (c.toNat % 32 - 24))), false), p + 1 + 2 ^ (c.toNat % 32 - 24), 0)
theorem beVal_snoc (l : List UInt8) (c : UInt8) : beVal (l ++ [c]) = 256 * beVal l + c.toNat := by simp [beVal]
theorem beVal_from (l : List UInt8) : ∀ a, l.foldl (fun a c => 256 * a + c.toNat) a < (a + 1) * 256 ^ l.length := by
  induction l with
  | nil => intro a; simp
  | cons c l ih =>
    intro a
    have h1 := ih (256 * a + c.toNat)
    have h2 := c.toNat_lt
    have h3 : (256 * a + c.toNat + 1) * 256 ^ l.length ≤ ((a + 1) * 256) * 256 ^ l.length := Nat.mul_le_mul_right _ (by omega)
    simp only [List.foldl_cons, List.length_cons]
    rw [Nat.pow_succ, Nat.mul_comm (256 ^ l.length) 256, ← Nat.mul_assoc]
    omega
theorem beVal_lt (l : List UInt8) : beVal l < 256 ^ l.length := by
  have := beVal_from l 0
  unfold beVal
  omega
/-- a number one byte longer -/
theorem beVal_step (v : Nat) (c : UInt8) (hv : v < 72057594037927936) : IntKind.u64.wrap ((v : Int) * 256) = (v : Int) * 256 ∧ bits .or .u64 ((v : Int) * 256) (c.toNat : Int) = ((256 * v + c.toNat : Nat) : Int) := by
  have hc := c.toNat_lt
  refine ⟨by rw [IntKind.wrap_u64]; omega, ?_⟩
  have h := u64_or_nat (256 * v) c.toNat (by omega) (by omega)
  rw [nat_join 8 (256 * v) c.toNat (by omega) (by omega)] at h
  rw [← h]
  congr 1
  omega
theorem take_snoc (r : List UInt8) (i : Nat) (h : i < r.length) : beVal (r.take (i + 1)) = 256 * beVal (r.take i) + r[i].toNat := by
  rw [List.take_succ_eq_append_getElem h, beVal_snoc]
theorem beVal_take_lt (r : List UInt8) (i : Nat) (h : i < 8) : beVal (r.take i) < 72057594037927936 := by
  have h1 := beVal_lt (r.take i)
  have h2 : 256 ^ (r.take i).length ≤ 256 ^ 7 := Nat.pow_le_pow_right (by decide) (by rw [List.length_take]; omega)
  omega
def readH (b : List UInt8) (p : Int) : Hd × Nat × Nat := if p < 0 ∨ (b.length : Int) < p then ((0, 0, false), 0, 1) else readN b p.toNat
def rdv (r : Hd × Nat × Nat) : Value := .tuple #[hv r.1, .int .i64 (r.2.1 : Int), .int .i64 (r.2.2 : Int)]
abbrev RdPost (w : World) (r : Hd × Nat × Nat) (e : Ending) (w' : World) : Prop := e = .returned (rdv r) ∧ Below w.heap.size w w'

theorem read_out (A : Option Addr) (n c : Nat) (p : Int) (w : World) (hp : p < 0 ∨ (n : Int) < p) :
    Calls Try.prog 40 #[.slice A n c, .int .i64 p] w (RdPost w ((0, 0, false), 0, 1)) := by
  by_cases h0 : p < 0
  · clear hp
    go_enter Try.func40, Try.ntmps40
    go_wp2
    exact bodyPost_ret (v := rdv ((0, 0, false), 0, 1)) (by simp [results, Try.results40, go_sem, rdv, hv]) rfl ⟨rfl, by repeat (first | exact Below.refl _ _ | refine Below.alloc ?_ (by simp) _ | refine Below.setCell ?_ (by simp) _)⟩
  · have h1 : (n : Int) < p := by omega
    clear hp
    go_enter Try.func40, Try.ntmps40
    go_wp2
    exact bodyPost_ret (v := rdv ((0, 0, false), 0, 1)) (by simp [results, Try.results40, go_sem, rdv, hv]) rfl ⟨rfl, by repeat (first | exact Below.refl _ _ | refine Below.alloc ?_ (by simp) _ | refine Below.setCell ?_ (by simp) _)⟩
theorem read_end (A : Option Addr) (n c : Nat) (w : World) :
    Calls Try.prog 40 #[.slice A n c, .int .i64 (n : Int)] w (RdPost w ((0, 0, false), 0, 8)) := by
  go_enter Try.func40, Try.ntmps40
  go_wp2
  exact bodyPost_ret (v := rdv ((0, 0, false), 0, 8)) (by simp [results, Try.results40, go_sem, rdv, hv]) rfl ⟨rfl, by repeat (first | exact Below.refl _ _ | refine Below.alloc ?_ (by simp) _ | refine Below.setCell ?_ (by simp) _)⟩
theorem and31 (c : UInt8) : bits .and .u8 (c.toNat : Int) 31 = ((c.toNat % 32 : Nat) : Int) := by
  have h := u8_and_nat c.toNat 31 c.toNat_lt (by decide)
  rw [show ((31 : Nat) : Int) = 31 from rfl] at h
  rw [h]
  congr 1
  exact Nat.and_two_pow_sub_one_eq_mod c.toNat 5
section
variable (g off n c p : Nat) (b : UInt8) (w : World)
theorem read_small (hn : n ≤ 9223372036854775807) (hp : p < n) (hg : g < w.heap.size) (hc : w.cell? ⟨g, off + p, none⟩ = some (.int .u8 (b.toNat : Int))) (h5 : b.toNat % 32 < 24) :
    Calls Try.prog 40 #[.slice (some ⟨g, off, none⟩) n c, .int .i64 (p : Int)] w (RdPost w (((b.toNat / 32 : Nat), b.toNat % 32, false), p + 1, 0)) := by
  have ha := and31 b
  have hb := b.toNat_lt
  go_enter Try.func40, Try.ntmps40
  go_wp2
  exact bodyPost_ret (v := rdv (((b.toNat / 32 : Nat), b.toNat % 32, false), p + 1, 0)) (by simp [results, Try.results40, go_sem, rdv, hv]) rfl ⟨rfl, by repeat (first | exact Below.refl _ _ | refine Below.alloc ?_ (by simp) _ | refine Below.setCell ?_ (by simp) _)⟩
theorem read_open (hn : n ≤ 9223372036854775807) (hp : p < n) (hg : g < w.heap.size) (hc : w.cell? ⟨g, off + p, none⟩ = some (.int .u8 (b.toNat : Int))) (h5 : b.toNat % 32 = 31) (hm : mayB (b.toNat / 32 : Nat) = true) :
    Calls Try.prog 40 #[.slice (some ⟨g, off, none⟩) n c, .int .i64 (p : Int)] w (RdPost w (((b.toNat / 32 : Nat), 0, true), p + 1, 0)) := by
  have ha := and31 b
  rw [h5] at ha
  have hb := b.toNat_lt
  have HM := hid hm
  clear hm h5
  go_enter Try.func40, Try.ntmps40
  go_wp2_with fail
  refine (may_any _ _).mono ?_
  rintro e w1 ⟨rfl, rfl⟩
  rw [show mayB ((b.toNat : Int) / 32) = true from by have := HM.out; simpa using this]
  go_wp2
  exact bodyPost_ret (v := rdv (((b.toNat / 32 : Nat), 0, true), p + 1, 0)) (by simp [results, Try.results40, go_sem, rdv, hv]) rfl ⟨rfl, by repeat (first | exact Below.refl _ _ | refine Below.alloc ?_ (by simp) _ | refine Below.setCell ?_ (by simp) _)⟩
theorem read_form (hn : n ≤ 9223372036854775807) (hp : p < n) (hg : g < w.heap.size) (hc : w.cell? ⟨g, off + p, none⟩ = some (.int .u8 (b.toNat : Int))) (h5 : 27 < b.toNat % 32) (hm : b.toNat % 32 = 31 → mayB (b.toNat / 32 : Nat) = false) :
    Calls Try.prog 40 #[.slice (some ⟨g, off, none⟩) n c, .int .i64 (p : Int)] w (RdPost w ((0, 0, false), 0, 3)) := by
  have ha := and31 b
  have hb := b.toNat_lt
  by_cases h31 : b.toNat % 32 = 31
  · have HM := hid (hm h31)
    rw [h31] at ha
    clear hm h5 h31
    go_enter Try.func40, Try.ntmps40
    go_wp2_with fail
    refine (may_any _ _).mono ?_
    rintro e w1 ⟨rfl, rfl⟩
    rw [show mayB ((b.toNat : Int) / 32) = false from by have := HM.out; simpa using this]
    go_wp2
    exact bodyPost_ret (v := rdv ((0, 0, false), 0, 3)) (by simp [results, Try.results40, go_sem, rdv, hv]) rfl ⟨rfl, by repeat (first | exact Below.refl _ _ | refine Below.alloc ?_ (by simp) _ | refine Below.setCell ?_ (by simp) _)⟩
  · obtain ⟨k, hk⟩ : ∃ k, k = b.toNat % 32 := ⟨_, rfl⟩
    rw [← hk] at ha h5 h31
    have h31' : ((k : Int) == 31) = false := by simp; omega
    have h27 : (27 : Int) < (k : Int) := by omega
    have hk2 : k < 32 := by omega
    clear hm hk h31 h5
    go_enter Try.func40, Try.ntmps40
    go_wp2
    exact bodyPost_ret (v := rdv ((0, 0, false), 0, 3)) (by simp [results, Try.results40, go_sem, rdv, hv]) rfl ⟨rfl, by repeat (first | exact Below.refl _ _ | refine Below.alloc ?_ (by simp) _ | refine Below.setCell ?_ (by simp) _)⟩
theorem read_short (hn : n ≤ 9223372036854775807) (hp : p < n) (hg : g < w.heap.size) (hc : w.cell? ⟨g, off + p, none⟩ = some (.int .u8 (b.toNat : Int))) (h5 : 24 ≤ b.toNat % 32) (h6 : b.toNat % 32 ≤ 27) (hs : n - (p + 1) < 2 ^ (b.toNat % 32 - 24)) :
    Calls Try.prog 40 #[.slice (some ⟨g, off, none⟩) n c, .int .i64 (p : Int)] w (RdPost w ((0, 0, false), 0, 8)) := by
  have ha := and31 b
  have hb := b.toNat_lt
  have hk : b.toNat % 32 = 24 ∨ b.toNat % 32 = 25 ∨ b.toNat % 32 = 26 ∨ b.toNat % 32 = 27 := by omega
  rcases hk with hk | hk | hk | hk
  all_goals
    rw [hk] at ha hs
    simp at hs
    clear hk h5 h6
    go_enter Try.func40, Try.ntmps40
    go_wp2
    exact bodyPost_ret (v := rdv ((0, 0, false), 0, 8)) (by simp [results, Try.results40, go_sem, rdv, hv]) rfl ⟨rfl, by repeat (first | exact Below.refl _ _ | refine Below.alloc ?_ (by simp) _ | refine Below.setCell ?_ (by simp) _)⟩
set_option maxRecDepth 100000 in
theorem read_num (l : List UInt8) (hln : l.length = n) (hn : n ≤ 9223372036854775807) (hp : p < n) (hg : g < w.heap.size) (hl : ∀ j (hj : j < l.length), w.cell? ⟨g, off + j, none⟩ = some (.int .u8 (l[j].toNat : Int)))
    (hbl : l.drop p = b :: l.drop (p + 1)) (hc : w.cell? ⟨g, off + p, none⟩ = some (.int .u8 (b.toNat : Int))) (h5 : 24 ≤ b.toNat % 32) (h6 : b.toNat % 32 ≤ 27) (hs : 2 ^ (b.toNat % 32 - 24) ≤ n - (p + 1)) :
    Calls Try.prog 40 #[.slice (some ⟨g, off, none⟩) n c, .int .i64 (p : Int)] w (RdPost w (((b.toNat / 32 : Nat), beVal ((l.drop (p + 1)).take (2 ^ (b.toNat % 32 - 24))), false), p + 1 + 2 ^ (b.toNat % 32 - 24), 0)) := by
  have ha := and31 b
  have hb := b.toNat_lt
  have HL := hid hl
  clear hl
  have hk : b.toNat % 32 = 24 ∨ b.toNat % 32 = 25 ∨ b.toNat % 32 = 26 ∨ b.toNat % 32 = 27 := by omega
  obtain ⟨K, hK, hK8, ha2⟩ : ∃ K : Nat, 2 ^ (b.toNat % 32 - 24) = K ∧ K ≤ 8 ∧ 1 ≤ K := by
    rcases hk with hk | hk | hk | hk <;> rw [hk] <;> exact ⟨_, rfl, by decide, by decide⟩
  have HK := hid hK
  rw [hK] at hs
  rw [hK]
  clear hK
  have HLN := hid hln
  have HBL := hid hbl
  clear hln hbl
  go_enter Try.func40, Try.ntmps40
  go_upto_region 16 with (fail)
  go_cut [9] (fun nn wx => nn = .int .i64 (K : Int) ∧ (w.alloc (.cells #[.int .i64 0, .int .u64 0, .bool false] 69)).alloc (.cells #[.int .i64 ((b.toNat : Int) / 32), .int .u64 0, .bool false] 69) = wx)
  case first =>
    rcases hk with hk | hk | hk | hk
    · have e := HK.out
      rw [hk] at e
      simp at e
      subst e
      have hk' : (b.toNat : Int) % 32 = 24 := by omega
      clear hk
      go_wp2_with fail
      go_meet
      exact ⟨rfl, rfl⟩
    · have e := HK.out
      rw [hk] at e
      simp at e
      subst e
      have hk' : (b.toNat : Int) % 32 = 25 := by omega
      clear hk
      go_wp2_with fail
      go_meet
      exact ⟨rfl, rfl⟩
    · have e := HK.out
      rw [hk] at e
      simp at e
      subst e
      have hk' : (b.toNat : Int) % 32 = 26 := by omega
      clear hk
      go_wp2_with fail
      go_meet
      exact ⟨rfl, rfl⟩
    · have e := HK.out
      rw [hk] at e
      simp at e
      subst e
      have hk' : (b.toNat : Int) % 32 = 27 := by omega
      clear hk
      go_wp2_with fail
      go_meet
      exact ⟨rfl, rfl⟩
  case rest =>
    obtain ⟨rfl, rfl⟩ := hcut
    clear ha hk h5 h6 hb
    go_wp2_with fail
    obtain ⟨ws, hws⟩ : ∃ ws, ws = (w.alloc (.cells #[.int .i64 0, .int .u64 0, .bool false] 69)).alloc (.cells #[.int .i64 ((b.toNat : Int) / 32), .int .u64 0, .bool false] 69) := ⟨_, rfl⟩
    have hB0 : Blk ws (w.heap.size + 1) 69 #[.int .i64 ((b.toNat : Int) / 32), .int .u64 0, .bool false] := by
      rw [hws]
      have := Blk.new (w.alloc (.cells #[.int .i64 0, .int .u64 0, .bool false] 69)) 69 #[.int .i64 ((b.toNat : Int) / 32), .int .u64 0, .bool false]
      simpa using this
    have hB1 : Blk ws w.heap.size 69 #[.int .i64 0, .int .u64 0, .bool false] := by
      rw [hws]; exact (Blk.new w _ _).alloc _
    have hB2 : Below w.heap.size w ws := by rw [hws]; exact ((Below.refl _ w).alloc (Nat.le_refl _) _).alloc (by simp) _
    have hzs : w.heap.size + 2 ≤ ws.heap.size := by rw [hws]; simp
    rw [← hws]
    clear hws
    have HB0 := hid hB0
    have HB1 := hid hB1
    have HB2 := hid hB2
    clear hB0 hB1 hB2
    go_loopg [75] K (fun gh kk wr => ∃ i, gh + i = K ∧ kk = .int .i64 i ∧ Blk wr (w.heap.size + 1) 69 #[.int .i64 ((b.toNat : Int) / 32), .int .u64 (beVal ((l.drop (p + 1)).take i) : Int), .bool false] ∧ Blk wr w.heap.size 69 #[.int .i64 0, .int .u64 0, .bool false] ∧ Below w.heap.size w wr ∧ w.heap.size + 2 ≤ wr.heap.size)
    case atStart => exact ⟨0, rfl, rfl, HB0.out, HB1.out, HB2.out, hzs⟩
    case round =>
      obtain ⟨i, hi, rfl, hb0, hb1, hb2, hzr⟩ := hrel
      have HI := hid hi
      have hi' : i ≤ K := by omega
      have R0 := hid hb0
      have R1 := hid hb1
      have R2 := hid hb2
      clear hi hb0 hb1 hb2 HB0 HB1 HB2 hzs hc
      by_cases hit : i < K
      · have hlr : i < (l.drop (p + 1)).length := by rw [List.length_drop, HLN.out]; omega
        have m1 := R0.out.cell 1
        have m2 := R0.out.frozen 1
        simp at m1
        have hcell := (R2.out.cell (p := ⟨g, off + (p + 1 + i), none⟩) hg).trans (HL.out (p + 1 + i) (by rw [HLN.out]; omega))
        have hget : l[p + 1 + i]'(by rw [HLN.out]; omega) = (l.drop (p + 1))[i] := by simp
        rw [hget] at hcell
        obtain ⟨hs1, hs2⟩ := beVal_step (beVal ((l.drop (p + 1)).take i)) (l.drop (p + 1))[i] (beVal_take_lt _ _ (by omega))
        have HT := hid (take_snoc (l.drop (p + 1)) i hlr)
        obtain ⟨vv, hvv⟩ : ∃ vv, vv = beVal ((l.drop (p + 1)).take i) := ⟨_, rfl⟩
        obtain ⟨cc, hcc⟩ : ∃ cc, cc = (l.drop (p + 1))[i] := ⟨_, rfl⟩
        rw [← hvv] at m1 hs1 hs2
        rw [← hcc] at hcell hs2
        have HV := hid hvv
        have HC := hid hcc
        clear hget hvv hcc
        have hwc : IntKind.u64.wrap (cc.toNat : Int) = (cc.toNat : Int) := by rw [IntKind.wrap_u64]; have := cc.toNat_lt; omega
        have hsum : IntKind.i64.wrap ((p : Int) + 1 + (i : Int)) = (p : Int) + 1 + (i : Int) := IntWalk.i64_in _ (by omega)
        go_wp2_with fail
        go_region
        clear hsum hs1 hs2 hcell hwc
        go_wp2_with fail
        go_roundg (gk - 1)
        case measure => have := HI.out; omega
        case rel =>
          refine ⟨i + 1, by have := HI.out; omega, by go_num, ?_, ?_, ?_, ?_⟩
          · rw [HT.out, ← HV.out, ← HC.out]
            have := R0.out.set_ 1 (.int .u64 ((256 * vv + cc.toNat : Nat) : Int))
            refine Blk.drew ?_
            simpa using this
          · exact R1.out.far (p := ⟨w.heap.size + 1, 1, none⟩) (by simp) _
          · exact (R2.out.setCell (p := ⟨w.heap.size + 1, 1, none⟩) (by simp) _).drew
          · show _ ≤ (wr.setCell _ _).heap.size
            simp [World.setCell]; omega
      · obtain rfl : i = K := by omega
        have n0 := R0.out.cell 0
        have n1 := R0.out.cell 1
        have n2 := R0.out.cell 2
        have f0 := R1.out.frozen 0
        have f1 := R1.out.frozen 1
        have f2 := R1.out.frozen 2
        have o0 := R1.out.cell 0
        have o1 := R1.out.cell 1
        have o2 := R1.out.cell 2
        simp at n0 n1 n2 o0 o1 o2
        have HT := hid (show (w.heap.size + 2 ≤ wr.heap.size) from hzr)
        go_wp2
        exact bodyPost_ret (v := rdv (((b.toNat / 32 : Nat), beVal ((l.drop (p + 1)).take i), false), p + 1 + i, 0)) (by simp [results, Try.results40, go_sem, rdv, hv, o0, o1, o2]) rfl ⟨rfl, by repeat (first | exact R2.out | refine Below.setCell ?_ (by simp) _)⟩
end
/-- the head at any place -/
theorem read_any {w : World} {B : Nat} {v : Value} {l : List UInt8} (hB : B ≤ w.heap.size) (h : SlB w (· < B) v l) (p : Int) :
    Calls Try.prog 40 #[v, .int .i64 p] w (RdPost w (readH l p)) := by
  obtain ⟨A, cap, rfl, h1, h2, hh⟩ := h.form
  unfold maxLen at h2
  unfold readH
  by_cases ho : p < 0 ∨ (l.length : Int) < p
  · rw [if_pos ho]
    exact read_out A _ _ p w ho
  rw [if_neg ho]
  obtain ⟨q, rfl⟩ : ∃ q : Nat, p = (q : Int) := ⟨p.toNat, by omega⟩
  rw [Int.toNat_natCast]
  have hq : q ≤ l.length := by omega
  clear ho
  by_cases he : q = l.length
  · subst he
    unfold readN
    rw [List.drop_length]
    exact read_end A _ _ w
  have hlt : q < l.length := by omega
  obtain ⟨g, off, rfl, hg, hc⟩ := hh (by rintro rfl; simp at hlt)
  have hd : l.drop q = l[q] :: l.drop (q + 1) := List.drop_eq_getElem_cons hlt
  unfold readN
  rw [hd]
  dsimp only
  have hcq := hc q hlt
  have hr : (l.drop (q + 1)).length = l.length - (q + 1) := by rw [List.length_drop]
  by_cases c1 : l[q].toNat % 32 < 24
  · rw [if_pos c1]
    exact read_small g off _ cap q l[q] w (by omega) hlt (by omega) hcq c1
  rw [if_neg c1]
  by_cases c2 : l[q].toNat % 32 = 31 ∧ mayB (l[q].toNat / 32 : Nat) = true
  · rw [if_pos c2]
    exact read_open g off _ cap q l[q] w (by omega) hlt (by omega) hcq c2.1 c2.2
  rw [if_neg c2]
  by_cases c3 : 27 < l[q].toNat % 32
  · rw [if_pos c3]
    refine read_form g off _ cap q l[q] w (by omega) hlt (by omega) hcq c3 fun e => ?_
    cases hm : mayB (l[q].toNat / 32 : Nat) with
    | false => rfl
    | true => exact absurd ⟨e, hm⟩ c2
  rw [if_neg c3, hr]
  by_cases c4 : l.length - (q + 1) < 2 ^ (l[q].toNat % 32 - 24)
  · rw [if_pos c4]
    exact read_short g off _ cap q l[q] w (by omega) hlt (by omega) hcq (by omega) (by omega) c4
  · rw [if_neg c4]
    exact read_num g off _ cap q l[q] w l rfl (by omega) hlt (by omega) hc hd hcq (by omega) (by omega) (by omega)
end Go.Proofs.Ytpkgdlhiblgdnaa

/- The contract of head.Write: the shortest bytes of every head that may be, and the error of one that may not. -/
import Derived.Test.YtpkgdlhiblgdnaaHead
open Go.RowKit Go.Pl
namespace Go.Proofs.Ytpkgdlhiblgdnaa
set_option maxHeartbeats 1000000
set_option linter.unusedVariables false
set_option linter.unusedSimpArgs false

/-- n in k bytes, the greatest first -/
def beN (n k : Nat) : List UInt8 := (List.range k).map (fun i => UInt8.ofNat (n / 256 ^ (k - 1 - i)))
def firstB (m i : Nat) : UInt8 := UInt8.ofNat (32 * m + i)
def writeL (h : Hd) : List UInt8 := if h.2.2 then [firstB h.1.toNat 31] else firstB h.1.toNat (infoN h.2.1) :: beN h.2.1 (followN h.2.1)
theorem followN_le (n : Nat) : followN n ≤ 8 := by
  unfold followN
  repeat' split
  all_goals omega
theorem infoN_le (n : Nat) : infoN n ≤ 27 := by
  unfold infoN
  repeat' split
  all_goals omega
theorem or32 (M i : Nat) (hM : M ≤ 7) (hi : i < 32) : bits .or .u8 ((M : Int) * 32) (i : Int) = ((32 * M + i : Nat) : Int) := by
  have h := u8_or ((M : Int) * 32) (i : Int) (by omega) (by omega) (by omega) (by omega)
  rw [h, show ((M : Int) * 32).toNat = 32 * M from by omega, Int.toNat_natCast]
  rw [nat_join 5 (32 * M) i (by omega) (by omega)]
theorem beN_length (n k : Nat) : (beN n k).length = k := by simp [beN]
theorem beN_take_succ (n k i : Nat) (h : i < k) : (beN n k).take (i + 1) = (beN n k).take i ++ [UInt8.ofNat (n / 256 ^ (k - 1 - i))] := by
  rw [List.take_succ_eq_append_getElem (by rw [beN_length]; exact h)]
  simp [beN]
theorem shr_byte (n c : Nat) : Value.int .u8 ((n : Int) / 2 ^ (8 * c) % 256) = bv (UInt8.ofNat (n / 256 ^ c)) := by
  unfold bv
  congr 1
  have e : (2 : Int) ^ (8 * c) = ((256 ^ c : Nat) : Int) := by
    rw [show (256 : Nat) = 2 ^ 8 from rfl, ← Nat.pow_mul]
    simp
  rw [UInt8.toNat_ofNat', e, ← Int.natCast_ediv]
  omega
theorem write_bad (h : Hd) (w : World) (hr : rightB h = false) : Calls Try.prog 34 #[hv h] w fun e w' => e = .returned (.tuple #[.slice none 0 0, .int .i64 3]) ∧ Below w.heap.size w w' := by
  have HR := hid hr
  clear hr
  unfold hv
  go_enter Try.func34, Try.ntmps34
  go_wp2_with fail
  refine (right_any h _).mono ?_
  rintro e w1 ⟨rfl, hb1⟩
  simp only [World.size_alloc] at hb1
  have HB := hid (((Below.refl _ w).alloc (Nat.le_refl _) _).trans (hb1.mono (by omega)))
  clear hb1
  rw [HR.out]
  go_wp2
  go_ret2
  exact ⟨rfl, HB.out⟩
set_option maxRecDepth 100000 in
theorem write_ok (h : Hd) (w : World) (hr : rightB h = true) (hn : h.2.1 < 18446744073709551616) : Calls Try.prog 34 #[hv h] w fun e w' =>
    ∃ v', e = .returned (.tuple #[v', .int .i64 0]) ∧ Own Rep.byte w' w.heap.size 5 (fun _ => False) v' (writeL h) ∧ Below w.heap.size w w' := by
  obtain ⟨m, n, o⟩ := h
  have hm : 0 ≤ m ∧ m ≤ 7 := by
    cases o <;> simp [rightB, mayB] at hr <;> omega
  have HR := hid hr
  clear hr
  dsimp only at hn
  have HN := hid hn
  clear hn
  obtain ⟨hm0, hm7⟩ := hm
  obtain ⟨M, rfl⟩ : ∃ M : Nat, m = (M : Int) := ⟨m.toNat, by omega⟩
  have hM : M ≤ 7 := by omega
  cases o with
  | true =>
    unfold hv
    go_enter Try.func34, Try.ntmps34
    go_wp2_with fail
    refine (right_any ((M : Int), n, true) _).mono ?_
    rintro e w1 ⟨rfl, hb1⟩
    simp only [World.size_alloc] at hb1
    have hz := hb1.size
    simp only [World.size_alloc] at hz
    have hbx := (Blk.new w 69 #[.int .i64 (M : Int), .int .u64 (n : Int), .bool true]).below hb1 (by omega)
    have b0 := hbx.cell 0
    have b1 := hbx.cell 1
    have b2 := hbx.cell 2
    simp at b0 b1 b2
    have HB := hid (((Below.refl _ w).alloc (Nat.le_refl _) _).trans (hb1.mono (by omega)))
    clear hb1 hbx
    rw [HR.out]
    have hor := or32 M 31 hM (by decide)
    have h31 : ((31 : Nat) : Int) = 31 := rfl
    rw [h31] at hor
    clear h31
    go_wp2
    go_ret2
    refine ⟨_, rfl, ?_, HB.out.alloc (by omega) _⟩
    have hcs : #[Value.int IntKind.u8 (32 * (M : Int) + 31)] = (([firstB M 31] : List UInt8).map bv).toArray := by
      simp [bv, firstB, u8_ofNat (show 32 * M + 31 < 256 by omega)]; omega
    rw [hcs]
    exact Own.lit (R := Rep.byte) w1 _ _ _ _ [firstB M 31] (by omega) (by simp [maxLen]) (run_byte.2 rfl) (fun h => h)
  | false =>
    unfold hv
    go_enter Try.func34, Try.ntmps34
    go_wp2_with fail
    refine (right_any ((M : Int), n, false) _).mono ?_
    rintro e w1 ⟨rfl, hb1⟩
    simp only [World.size_alloc] at hb1
    have hz := hb1.size
    simp only [World.size_alloc] at hz
    have hbx := (Blk.new w 69 #[.int .i64 (M : Int), .int .u64 (n : Int), .bool false]).below hb1 (by omega)
    have b0 := hbx.cell 0
    have b1 := hbx.cell 1
    have b2 := hbx.cell 2
    simp at b0 b1 b2
    have HB := hid (((Below.refl _ w).alloc (Nat.le_refl _) _).trans (hb1.mono (by omega)))
    clear hb1 hbx
    rw [HR.out]
    go_wp2_with fail
    have hi27 := infoN_le n
    have hor := or32 M (infoN n) hM (by omega)
    go_cut [4] (fun out wx => Own Rep.byte wx (w.heap.size + 1) 5 (fun _ => False) out [firstB M (infoN n)] ∧ wx.cell? ⟨w.heap.size, 1, none⟩ = some (.int .u64 (n : Int)) ∧ Below w.heap.size w wx ∧ w.heap.size + 1 ≤ wx.heap.size)
    case first =>
      have hw1 : IntKind.u8.wrap (M : Int) = (M : Int) := by rw [IntKind.wrap_u8']; omega
      have hw2 : IntKind.u8.wrap ((M : Int) * 32) = (M : Int) * 32 := by rw [IntKind.wrap_u8']; omega
      have hcs : #[Value.int IntKind.u8 ((32 * M + infoN n : Nat) : Int)] = (([firstB M (infoN n)] : List UInt8).map bv).toArray := by
        simp [bv, firstB, u8_ofNat (show 32 * M + infoN n < 256 by omega)]; omega
      have HW1 := hid hw1
      have HW2 := hid hw2
      have HOR := hid hor
      have HCS := hid hcs
      clear hw1 hw2 hor hcs
      go_region_with (go_at_call 49; refine (info_any n HN.out _).mono ?_; rintro e w2 ⟨rfl, rfl⟩)
      all_goals
        go_wp2_with fail
        go_meet
        rw [HW1.out, HW2.out, HOR.out, HCS.out]
        exact ⟨(Own.lit (R := Rep.byte) w1 _ _ _ _ [firstB M (infoN n)] (by omega) (by simp [maxLen]) (run_byte.2 rfl) (fun h => h)).keep (fun _ _ => rfl), (World.cell?_alloc_lt w1 _ ⟨w.heap.size, 1, none⟩ (by dsimp only; omega)).trans b1, (HB.out.alloc (by omega) _).drew, by show _ ≤ (w1.alloc _).heap.size; simp; omega⟩
    case rest =>
      obtain ⟨hown, c1, hbx, hzx⟩ := hcut
      clear b0 b1 b2 hor
      have HO := hid hown
      have HBX := hid hbx
      clear hown hbx
      go_wp2_with fail
      refine (follow_any n _).mono ?_
      rintro e w2 ⟨rfl, rfl⟩
      have hf8 := followN_le n
      go_wp2_with fail
      go_loopg [4, 33] (followN n) (fun gh out kk wr => ∃ i, gh + i = followN n ∧ kk = .int .i64 i ∧ Own Rep.byte wr (w.heap.size + 1) 5 (fun _ => False) out (firstB M (infoN n) :: (beN n (followN n)).take i) ∧ wr.cell? ⟨w.heap.size, 1, none⟩ = some (.int .u64 (n : Int)) ∧ Below w.heap.size w wr ∧ w.heap.size + 1 ≤ wr.heap.size)
      case atStart => exact ⟨0, rfl, rfl, HO.out, c1, HBX.out, hzx⟩
      case round =>
        obtain ⟨i, hi, rfl, hown, c2, hbx, hzr⟩ := hrel
        have HI := hid hi
        have hi' : i ≤ followN n := by omega
        have HO2 := hid hown
        have HB2 := hid hbx
        clear hi hown hbx c1
        by_cases hit : i < followN n
        · have HC := hid (shr_byte n (followN n - 1 - i))
          have HT := hid (beN_take_succ n (followN n) i hit)
          go_wp2_with (at_builtin; refine wpList_app1 (w := wr) (v := u4) (x0 := UInt8.ofNat (n / 256 ^ (followN n - 1 - i))) (cs := #[.int .u8 ((n : Int) / 2 ^ (8 * (followN n - 1 - i)) % 256)]) rfl _ _ _ rfl elB rfl HO2.out (fun _ h => h.elim) rfl (congrArg (fun x => [x]) HC.out) rfl ⟨rfl, rfl, rfl⟩ (by simp; omega) (by decide) (by omega) ?_; intro v3 w3 hap)
          go_roundg (gk - 1)
          case measure => have := HI.out; omega
          case rel =>
            have hz3 := hap.grown.size
            refine ⟨i + 1, by have := HI.out; omega, by go_num, ?_, ?_, (hap.below HB2.out (by omega) fun g hg => by have := (HO2.out.block g hg).1; omega), by omega⟩
            · rw [HT.out]; simpa using hap.own
            · rw [← c2]
              refine hap.grown.cell_far _ (by dsimp only; omega) (fun e => ?_)
              have := (HO2.out.block _ e.symm).1
              dsimp only at this; omega
        · obtain rfl : i = followN n := by omega
          go_wp2
          go_ret2
          refine ⟨_, rfl, ?_, HB2.out⟩
          have h1 := HO2.out
          rw [List.take_of_length_le (by rw [beN_length]; exact Nat.le_refl _)] at h1
          exact h1.lower (by omega)
end Go.Proofs.Ytpkgdlhiblgdnaa

/- Words and contracts on the way to the laws of this seat: each theorem says what a function of the program computes and which memory it leaves as it was; its conditions are its hypotheses. -/
import Derived.Test.YtpkgdlhiblgdnaaPendY
open Go.RowKit Go.Pl
namespace Go.Proofs.Ytpkgdlhiblgdnaa
set_option maxHeartbeats 1000000
theorem alive_pend (w : World) : Calls Try.prog 17 #[] w fun e w' => e = .returned (.bool true) ∧ Below w.heap.size w w' := by
  have kc := kcB
  go_enter Try.func17, Try.ntmps17
  go_wp2_with fail
  refine (new_any w.heap.size w (Nat.le_refl _)).mono ?_
  rintro e w1 ⟨rfl, hq1, hb1, hz1⟩
  have hz1' : w.heap.size + 1 ≤ w1.heap.size := by omega
  have HQ1 := hid hq1
  have HB1 := hid hb1
  clear hq1 hb1 hz1
  go_wp2_with fail
  have hqa := HQ1.out.chg (w' := w1.alloc (.cells #[.int .u8 120] 5 (1, 2))) (fun k hk => Below.heap_alloc _ _ _ hk) (by simp)
  refine (add_ok hqa (by simp; omega) (1, [120], 2) (some ⟨w1.heap.size, 0, none⟩) 1 (fun _ => True) (SlB.new [120] rfl (heap_alloc_new _ _) trivial (by simp [maxLen])) (by decide) (by decide)).mono ?_
  rintro e w2 ⟨rfl, v2, D2, hq2, hc2, ho2, _⟩
  simp only [World.size_alloc] at ho2
  have hz2 : w.heap.size + 2 ≤ w2.heap.size := by have := hc2.size; simp at this; omega
  have HQ2 := hid hq2
  have HB2 := hid (HB1.out.trans ((((Below.refl w.heap.size w1).alloc (by omega) _)).trans (hc2.below (by simp; omega) hqa.mq)))
  clear hqa hq2 hc2 ho2
  go_wp2_with fail
  have hqa := HQ2.out.chg (w' := w2.alloc (.cells #[.int .u8 121] 5 (1, 2))) (fun k hk => Below.heap_alloc _ _ _ hk) (by simp)
  refine (add_ok hqa (by simp; omega) (2, [121], 1) (some ⟨w2.heap.size, 0, none⟩) 1 (fun _ => True) (SlB.new [121] rfl (heap_alloc_new _ _) trivial (by simp [maxLen])) (by decide) (by decide)).mono ?_
  rintro e w3 ⟨rfl, v3, D3, hq3, hc3, ho3, _⟩
  simp only [World.size_alloc] at ho3
  have hz3 : w.heap.size + 2 ≤ w3.heap.size := by have := hc3.size; simp at this; omega
  have HQ3 := hid hq3
  have HB3 := hid (HB2.out.trans ((((Below.refl w.heap.size w2).alloc (by omega) _)).trans (hc3.below (by simp; omega) hqa.mq)))
  clear hqa hq3 hc3 ho3
  go_wp2_with fail
  refine (ready_any HQ3.out (by omega) (by decide) 1).mono ?_
  rintro e w4 ⟨v4, r4, rfl, hq4, hr4, hc4, ho4⟩
  have hSq4 := hq4.Dq
  have hD3 := hq4.Dlt
  rw [show List.filter (fun x => !readyP 1 x) ([] ++ [(1, [120], 2)] ++ [(2, [121], 1)]) = [((1 : Int), ([120] : List UInt8), (2 : Int))] from by decide] at hq4
  rw [show List.filter (readyP 1) ([] ++ [(1, [120], 2)] ++ [(2, [121], 1)]) = [((2 : Int), ([121] : List UInt8), (1 : Int))] from by decide] at hr4
  have HQ4 := hid hq4
  have HB4 := hid (HB3.out.trans (hc4.below (by omega) (fun k hk e => by omega)))
  have hz4 : w.heap.size + 2 ≤ w4.heap.size := by have := hc4.size; omega
  -- what was told first, read later
  obtain ⟨g4, c4, A4, d4, rfl, hg4, i0, i1, i2, hok4⟩ := RE.at_ hr4 0 (by decide)
  have hd4 : SlB w4 D3 (.slice A4 1 d4) [121] := by
    obtain ⟨c1, c2, e1, ⟨rfl, _⟩, c3, c4, rfl, ⟨v, rfl, hv⟩, ⟨rfl, _⟩⟩ := hok4
    simp at e1
    rw [e1]; exact hv
  have hlow4 : w3.heap.size ≤ g4 := (hr4.block g4 rfl).1
  have hv4 : ∀ g, v4.ownBlock = some g → g ≠ g4 := fun g hg e => (ho4 g hg).2 (by rw [e]; rfl)
  have HD4 := hid hd4
  have HV4 := hid hv4
  have HD3 := hid hD3
  clear hq4 hr4 hc4 ho4 hok4 hd4 hv4 hD3
  go_wp2_with fail
  refine (ready_any HQ4.out (by omega) (by decide) 2).mono ?_
  rintro e w5 ⟨v5, r5, rfl, hq5, hr5, hc5, ho5⟩
  rw [show List.filter (fun x => !readyP 2 x) [((1 : Int), ([120] : List UInt8), (2 : Int))] = [] from by decide] at hq5
  rw [show List.filter (readyP 2) [((1 : Int), ([120] : List UInt8), (2 : Int))] = [((1 : Int), ([120] : List UInt8), (2 : Int))] from by decide] at hr5
  have HQ5 := hid hq5
  have HB5 := hid (HB4.out.trans (hc5.below (by omega) (fun k hk e => by omega)))
  have hz5 : w4.heap.size ≤ w5.heap.size := hc5.size
  obtain ⟨g5, c5, A5, d5, rfl, hg5, j0, j1, j2, hok5⟩ := RE.at_ hr5 0 (by decide)
  have hlow5 : w4.heap.size ≤ g5 := (hr5.block g5 rfl).1
  have hv5 : ∀ g, v5.ownBlock = some g → w4.heap.size ≤ g ∧ g ≠ g5 := fun g hg => ⟨(ho5 g hg).1, fun e => (ho5 g hg).2 (by rw [e]; rfl)⟩
  have hold5 : ∀ k, k < w4.heap.size → k ≠ w.heap.size → w5.heap[k]? = w4.heap[k]? := fun k hk hn => hc5.block k hk hn
  have HV5 := hid hv5
  have HO5 := hid hold5
  clear hq5 hr5 hc5 ho5 hok5 hv5 hold5 i0 i2 j1 j2
  go_wp2_with fail
  refine (add_ok HQ5.out (by omega) (3, [], 0) none 0 (fun _ => True) (Sl.nil _ _ _) (by decide) (by decide)).mono ?_
  rintro e w6 ⟨rfl, v6, D6, hq6, hc6, ho6, _⟩
  have hz6 : w5.heap.size ≤ w6.heap.size := hc6.size
  have HQ6 := hid hq6
  have HB6 := hid (HB5.out.trans (hc6.below (by omega) HQ5.out.mq))
  have hold6 : ∀ k, k < w5.heap.size → k ≠ w.heap.size → v5.ownBlock ≠ some k → w6.heap[k]? = w5.heap[k]? := fun k hk hn hv => hc6.block k hk (fun e => e.elim hn hv)
  have m0 : w6.cell? ⟨g5, 0, none⟩ = some (.int .i64 1) := (World.cell?_of_block (hold6 g5 hg5 (by omega) (fun e => (HV5.out _ e).2 rfl))).trans j0
  have hlow : w.heap.size < g4 := by omega
  have m1 : w6.cell? ⟨g4, 1, none⟩ = some (.slice A4 1 d4) := (World.cell?_of_block (hold6 g4 (by omega) (by omega) (fun e => by have := (HV5.out _ e).1; omega))).trans ((World.cell?_of_block (HO5.out g4 (by omega) (by omega))).trans i1)
  have m2 : SlB w6 D3 (.slice A4 1 d4) [121] := HD4.out.frame fun k hk => (hold6 k (by have := HD3.out k hk; omega) (fun e => hSq4 (e ▸ hk)) (fun e => by have := (HV5.out _ e).1; have := HD3.out k hk; omega)).trans (HO5.out k (HD3.out k hk) (fun e => hSq4 (e ▸ hk)))
  have m3 := strB m2
  clear hq6 hc6 ho6 hold6 m2 i1 j0
  go_wp2_with fail
  refine (drop_any HQ6.out (by omega) (by decide) 3).mono ?_
  rintro e w7 ⟨v7, rfl, hq7, hc7, ho7⟩
  rw [show List.filter (fun x => !dropP 3 x) ([] ++ [((3 : Int), ([] : List UInt8), (0 : Int))]) = [] from by decide] at hq7
  rw [show (List.filter (dropP 3) ([] ++ [((3 : Int), ([] : List UInt8), (0 : Int))])).length = 1 from by decide]
  have HQ7 := hid hq7
  have HB7 := hid (HB6.out.trans (hc7.below (by omega) (fun k hk e => by omega)))
  have hz7 : w6.heap.size ≤ w7.heap.size := hc7.size
  clear hq7 hc7 ho7 m3
  go_wp2_with fail
  refine (len_any HQ7.out).mono ?_
  rintro e w8 ⟨rfl, rfl⟩
  rw [show (([] : List Ent).length) = 0 from rfl]
  go_wp2_with fail
  refine (add_bad HQ7.out (0, [], 0) none 0 (by decide)).mono ?_
  rintro e w8 ⟨rfl, hb8⟩
  go_wp2
  go_ret
  exact ⟨rfl, HB7.out.trans (hb8.mono (by omega))⟩
end Go.Proofs.Ytpkgdlhiblgdnaa

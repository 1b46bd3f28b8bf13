/- Words and contracts on the way to the laws of this seat: each theorem says what a function of the program computes and which memory it leaves as it was; its conditions are its hypotheses. -/
import Derived.Test.YtpkgdlhiblgdnaaPendA
open Go.RowKit Go.Pl
namespace Go.Proofs.Ytpkgdlhiblgdnaa
set_option maxHeartbeats 1000000
def nd (s : List UInt8) : Int := (s.map fun b => ((b.toNat &&& 3 : Nat) : Int)).sum
def entO (s : List UInt8) (j : Nat) : Ent := (1 + (j : Int) % 3, [UInt8.ofNat j], nd (s.take (j + 1)))
def EO (s : List UInt8) (k : Nat) : List Ent := (List.range k).map (entO s)
theorem nd_succ (s : List UInt8) (k : Nat) (h : k < s.length) : nd (s.take (k + 1)) = nd (s.take k) + ((s[k].toNat &&& 3 : Nat) : Int) := by
  unfold nd
  rw [List.take_succ_eq_append_getElem h, List.map_append, List.sum_append]
  simp
theorem and3 (b : UInt8) : ((b.toNat &&& 3 : Nat) : Int) ≤ 3 := by
  have : b.toNat &&& 3 ≤ 3 := Nat.and_le_right
  omega
theorem and7 (b : UInt8) : ((b.toNat &&& 7 : Nat) : Int) ≤ 7 := by
  have : b.toNat &&& 7 ≤ 7 := Nat.and_le_right
  omega
theorem nd_bd (s : List UInt8) : 0 ≤ nd s ∧ nd s ≤ 3 * s.length := by
  induction s with
  | nil => simp [nd]
  | cons b s ih =>
    have : nd (b :: s) = ((b.toNat &&& 3 : Nat) : Int) + nd s := by simp [nd]
    have := and3 b
    simp only [List.length_cons]
    omega
theorem nd_bd' (s : List UInt8) (k : Nat) : 0 ≤ nd (s.take k) ∧ nd (s.take k) ≤ 3 * k := by
  have h := nd_bd (s.take k)
  have := List.length_take_le k s
  omega
theorem EO_succ (s : List UInt8) (k : Nat) : EO s (k + 1) = EO s k ++ [entO s k] := by simp [EO, List.range_succ]
theorem EO_length (s : List UInt8) (k : Nat) : (EO s k).length = k := by simp [EO]
/-- a list whose Needs rise is parted by what is sure -/
theorem sorted_part (x : Int) : ∀ l : List Ent, l.Pairwise (fun a b => a.2.2 ≤ b.2.2) → ∃ t, t ≤ l.length ∧ l.filter (readyP x) = l.take t ∧ l.filter (fun y => !readyP x y) = l.drop t ∧ (∀ h : t < l.length, x < l[t].2.2) ∧ (∀ j (h : j < l.length), j < t → l[j].2.2 ≤ x)
  | [], _ => ⟨0, Nat.le_refl _, rfl, rfl, fun h => by simp at h, fun j h => by simp at h⟩
  | y :: l, h => by
    rw [List.pairwise_cons] at h
    by_cases hy : y.2.2 ≤ x
    · obtain ⟨t, h1, h2, h3, h4, h5⟩ := sorted_part x l h.2
      refine ⟨t + 1, by simpa using h1, ?_, ?_, fun h => ?_, fun j hj hjt => ?_⟩
      · simp [readyP, hy]; simpa [readyP] using h2
      · simp [readyP, hy]; simpa [readyP] using h3
      · simpa using h4 (by simpa using h)
      · cases j with
        | zero => simpa using hy
        | succ j => simpa using h5 j (by simpa using hj) (by omega)
    · refine ⟨0, Nat.zero_le _, ?_, ?_, fun _ => by simpa using hy, fun j _ hj => by omega⟩
      · rw [List.take_zero, List.filter_eq_nil_iff]
        intro a ha
        have : y.2.2 ≤ a.2.2 := by
          rcases List.mem_cons.1 ha with rfl | ha
          · exact Int.le_refl _
          · exact h.1 a ha
        simp [readyP]; omega
      · rw [List.drop_zero, List.filter_eq_self]
        intro a ha
        have : y.2.2 ≤ a.2.2 := by
          rcases List.mem_cons.1 ha with rfl | ha
          · exact Int.le_refl _
          · exact h.1 a ha
        simp [readyP]; omega
theorem nd_mono (s : List UInt8) (a b : Nat) (h : a ≤ b) : nd (s.take a) ≤ nd (s.take b) := by
  have : s.take b = s.take a ++ (s.take b).drop a := by
    have h1 := (List.take_append_drop a (s.take b)).symm
    rw [List.take_take, Nat.min_eq_left h] at h1
    exact h1
  rw [this]
  have h2 := (nd_bd ((s.take b).drop a)).1
  unfold nd at h2 ⊢
  rw [List.map_append, List.sum_append]
  omega
theorem EO_get (s : List UInt8) (m j : Nat) (h : j < (EO s m).length) : (EO s m)[j] = entO s j := by simp [EO]
theorem EO_sorted (s : List UInt8) (m : Nat) : (EO s m).Pairwise (fun a b => a.2.2 ≤ b.2.2) := by
  unfold EO
  rw [List.pairwise_map]
  refine List.Pairwise.imp (R := fun a b => a < b) (fun {a b} hab => ?_) List.pairwise_lt_range
  exact nd_mono s _ _ (by omega)
/-- what Ready leaves of the entries from n on -/
theorem EO_part (s : List UInt8) (m n : Nat) (hn : n ≤ m) (x : Int) : ∃ t, n + t ≤ m ∧ ((EO s m).drop n).filter (readyP x) = (List.range t).map (fun j => entO s (n + j)) ∧ ((EO s m).drop n).filter (fun y => !readyP x y) = (EO s m).drop (n + t) ∧
    (n + t < m → x < nd (s.take (n + t + 1))) ∧ (∀ j, j < t → nd (s.take (n + j + 1)) ≤ x) := by
  obtain ⟨t, h1, h2, h3, h4, h5⟩ := sorted_part x ((EO s m).drop n) ((EO_sorted s m).drop)
  have hl : ((EO s m).drop n).length = m - n := by rw [List.length_drop, EO_length]
  rw [hl] at h1
  refine ⟨t, by omega, h2.trans ?_, by rw [h3, List.drop_drop], fun h => ?_, fun j hj => ?_⟩
  · apply List.ext_getElem
    · simp [hl]; omega
    · intro j h6 h7
      simp [EO]
  · have := h4 (by omega)
    rw [List.getElem_drop, EO_get] at this
    exact this
  · have := h5 j (by omega) hj
    rw [List.getElem_drop, EO_get] at this
    exact this
theorem elI : Elem Try.prog 25 3 Rep.i64.n 8 := Elem.mk (z := .int .i64 0) Try.underlying25 (by kernel_rfl) rfl (by decide)
set_option maxRecDepth 100000 in
theorem order_walk (v0 v1 : Value) (s d : List UInt8) (w : World) (h0 : SlB w (· < w.heap.size) v0 s) (h1 : SlB w (· < w.heap.size) v1 d) :
    Calls Try.prog 3 #[v0, v1] w fun e w' => e = .returned (.bool true) ∧ Below w.heap.size w w' := by
  obtain ⟨A0, c0, rfl, hs1, hs2, hsc⟩ := h0.form
  obtain ⟨A1, c1, rfl, hd1, hd2, hdc⟩ := h1.form
  unfold maxLen at hs2 hd2
  have HSC := hid hsc
  have HDC := hid hdc
  clear hsc hdc h0 h1
  go_enter Try.func3, Try.ntmps3
  go_wp2_with fail
  refine (new_any w.heap.size w (Nat.le_refl _)).mono ?_
  rintro e w1 ⟨rfl, hq1, hb1, hz1⟩
  have hz1' : w.heap.size + 1 ≤ w1.heap.size := by omega
  have HQ1 := hid hq1
  have HB1 := hid hb1
  clear hq1 hb1 hz1
  go_upto_block 0 with (fail)
  go_cut [6, 7] (fun need needs wr => ∃ k : Nat, k ≤ s.length ∧ k ≤ 60 ∧ need = .int .i64 (nd (s.take k)) ∧ w.heap.size + 1 ≤ wr.heap.size ∧ Below w.heap.size w wr ∧
      ∃ v D, QAt wr w.heap.size w.heap.size v D (EO s k) ∧ Own Rep.i64 wr w.heap.size 3 (fun _ => False) needs ((List.range k).map fun j => nd (s.take (j + 1))) ∧ (∀ g, needs.ownBlock = some g → g ≠ w.heap.size ∧ v.ownBlock ≠ some g ∧ ¬ D g))
  case rest =>
    obtain ⟨k, hk, hk6, rfl, hz, hb, v, D, hq, hn, hne⟩ := hcut
    have HQ := hid hq
    have HN := hid hn
    have HE := hid hne
    have HB := hid hb
    clear hq hn hne hb
    have hnb := nd_bd' s k
    go_wp2_with fail
    go_loopg [9, 10, 11] (d.length + 1) (fun gh done next i wr => ∃ (j n : Nat) (x : Int) (v : Value), gh + j = d.length + 1 ∧ j ≤ 100 ∧ n ≤ k ∧ i = .int .i64 j ∧ next = .int .i64 n ∧ done = .int .i64 x ∧ 0 ≤ x ∧ x ≤ 7 * j + 180 ∧ (j = d.length + 1 → n = k) ∧ wc.heap.size ≤ wr.heap.size ∧ Below w.heap.size w wr ∧
          QAt wr w.heap.size w.heap.size v D ((EO s k).drop n) ∧ Own Rep.i64 wr w.heap.size 3 (fun _ => False) u7 ((List.range k).map fun j => nd (s.take (j + 1))) ∧ (∀ g, u7.ownBlock = some g → v.ownBlock ≠ some g))
    case atStart => exact ⟨0, 0, 0, v, rfl, by omega, by omega, rfl, rfl, rfl, by omega, by omega, by omega, Nat.le_refl _, HB.out, HQ.out, HN.out, fun g hg => (HE.out g hg).2.1⟩
    case round =>
      obtain ⟨j, n, x, v2, hj, hj100, hnk, rfl, rfl, rfl, hx0, hx1, hjn, hzo, hb2, hq2, hn2, hne2⟩ := hrel
      obtain ⟨wi, rfl⟩ : ∃ wi : World, wi = wr := ⟨_, rfl⟩
      obtain ⟨gg, rfl⟩ : ∃ gg : Nat, gg = gk := ⟨_, rfl⟩
      have HB2 := hid hb2
      have HQ2 := hid hq2
      have HN2 := hid hn2
      have HE2 := hid hne2
      have HJ := hid hj
      have HJN := hid hjn
      have hj' : j ≤ d.length + 1 := by omega
      clear hb2 hq2 hn2 hne2 hj hjn
      by_cases hcond2 : j ≤ d.length ∧ j < 100
      · obtain ⟨hjd, hj1⟩ := hcond2
        go_upto_if 61 with (fail)
        go_cut [9] (fun done wx => wi = wx ∧ ∃ x' : Int, 0 ≤ x' ∧ x' ≤ 7 * (j + 1) + 180 ∧ done = .int .i64 x' ∧ (j = d.length → x' = nd (s.take k)))
        case first =>
          by_cases hjl : j = d.length
          · subst hjl
            go_wp2_with fail
            go_meet
            exact ⟨rfl, _, hnb.1, by omega, rfl, fun _ => rfl⟩
          · have hjlt : j < d.length := by omega
            obtain ⟨g, off, rfl, hg, hc⟩ := HDC.out (by rintro rfl; simp at hjlt)
            have hcell := (HB2.out.cell (p := ⟨g, off + j, none⟩) hg).trans (hc j hjlt)
            have hbits : bits BinOp.and IntKind.u8 (d[j].toNat : Int) 7 = ((d[j].toNat &&& 7 : Nat) : Int) := u8_and_nat d[j].toNat 7 d[j].toNat_lt (by decide)
            have hb3 := and7 d[j]
            clear hc
            go_wp2_with fail
            go_meet
            exact ⟨rfl, _, by omega, by omega, rfl, fun h => absurd h hjl⟩
        case rest =>
          obtain ⟨rfl, x', hx'0, hx'1, rfl, hx'2⟩ := hcut
          have HX := hid hx'2
          clear hx'2
          go_wp2_with fail
          refine (ready_any HQ2.out (by omega) (by rw [List.length_drop, EO_length]; omega) x').mono ?_
          rintro e w3 ⟨v3, r3, rfl, hq3, hr3, hc3, ho3⟩
          obtain ⟨t, ht, e1, e2, e3, e4⟩ := EO_part s k n hnk x'
          rw [e1] at hr3
          rw [e2] at hq3
          obtain ⟨A3, c3, hv3⟩ := hr3.form
          rw [List.length_map, List.length_range] at hv3
          subst hv3
          have hz3 := hc3.size
          have hN3 : Own Rep.i64 w3 w.heap.size 3 (fun _ => False) u7 _ := HN2.out.keep fun j hj => hc3.block j (HN2.out.block j (hj.resolve_left id)).2 (fun e => (HE.out j (hj.resolve_left id)).1 e)
          have HB3 := hid (HB2.out.trans (hc3.below (by omega) (fun k hk e => by omega)))
          have HE3 := hid (fun g (hg : u7.ownBlock = some g) => show v3.ownBlock ≠ some g from fun e => by have := (ho3 g e).1; have := (HN2.out.block g hg).2; omega)
          have HQ3 := hid hq3
          have HN3 := hid hN3
          have HR3 := hid hr3
          have He3 := hid e3
          have He4 := hid e4
          clear e1 e2 e3 e4 hr3 hq3 hN3 hc3 ho3
          go_upto_block 4 with (fail)
          go_cut [10] (fun next wx => next = .int .i64 ((n : Int) + t) ∧ ∃ a, w3.drewN a = wx)
          case first =>
            go_wp2_with fail
            go_loopg [10, 13] t (fun g3 next kk wr => ∃ i, g3 + i = t ∧ next = .int .i64 ((n : Int) + i) ∧ kk = .int .i64 i ∧ ∃ a, w3.drewN a = wr)
            case atStart => exact ⟨0, rfl, by simp, rfl, 0, rfl⟩
            case round =>
              obtain ⟨i, hi, rfl, rfl, a, rfl⟩ := hrel
              by_cases hit : i < t
              · obtain ⟨g4, c4, A4, d4, hv4, hg4, i0, i1, i2, hok4⟩ := RE.at_ HR3.out i (by simpa using hit)
                injection hv4 with hv4 hx1 hx2
                subst hv4
                clear hx1 hx2
                have HI := hid hi
                clear hi
                simp only [List.getElem_map, List.getElem_range] at i0 i1 i2 hok4
                change w3.cell? _ = some (.slice A4 1 d4) at i1
                change w3.cell? _ = some (.int .i64 (nd (s.take (n + i + 1)))) at i2
                obtain ⟨g5, off5, hA5, _, hb5⟩ : ∃ g5 off5, A4 = some ⟨g5, off5, none⟩ ∧ g5 < w3.heap.size ∧ w3.cell? ⟨g5, off5, none⟩ = some (.int .u8 ((n : Int) + i)) := by
                  have hv := RE.data hok4
                  obtain ⟨A, cap, hv, _, _, hh⟩ := SlB.form hv
                  injection hv with hA _ _
                  obtain ⟨g, off, hA', hS, hc⟩ := hh (by simp [entO])
                  refine ⟨g, off, by rw [hA, hA'], HQ3.out.Dlt g hS, ?_⟩
                  have := hc 0 (by simp [entO])
                  rw [Nat.add_zero] at this
                  rw [this]
                  simp only [entO, List.getElem_cons_zero]
                  rw [u8_ofNat (by omega)]
                  simp
                subst hA5
                obtain ⟨g6, c6, ec, hv6, _, hg6, ⟨rfl, _⟩, _, hc6'⟩ := HN3.out.at_ (n + i) (by simp; omega)
                have hc6 := hc6' 0 (by decide)
                simp only [List.length_map, List.length_range] at hv6
                subst hv6
                simp [Rep.i64] at hc6
                clear hok4 hc6'
                have f1 : decide ((k : Int) ≤ (n : Int) + (i : Int)) = false := by simp; omega
                have hw : IntKind.i64.wrap ((n : Int) + (i : Int)) = (n : Int) + (i : Int) := IntWalk.i64_in _ (by omega)
                have f2 : ((n : Int) + (i : Int) != (n : Int) + (i : Int)) = false := by simp
                have f3 : decide (x' < nd (s.take (n + i + 1))) = false := by have := He4.out i hit; simp; omega
                have f4 : (nd (s.take (n + i + 1)) != nd (s.take (n + i + 1))) = false := by simp
                go_wp2_with fail
                go_quiet (fail)
                clear hw
                go_wp2_with fail
                go_roundg (gk - 1)
                case measure => have := HI.out; omega
                case rel => exact ⟨i + 1, by have := HI.out; omega, by go_num, by go_num, _, rfl⟩
              · obtain rfl : i = t := by omega
                go_wp2_with fail
                go_meet
                exact ⟨rfl, _, rfl⟩
          case rest =>
            obtain ⟨rfl, a, rfl⟩ := hcut
            have HNK := hid (fun (h : j + 1 = d.length + 1) => show n + t = k from by
              rcases Nat.lt_or_ge (n + t) k with h1 | h1
              · have h2 := He3.out h1
                have h3 := nd_mono s (n + t + 1) k (by omega)
                have h4 := HX.out (by omega)
                omega
              · omega)
            have HR := hid (show Below w.heap.size w (w3.drewN a) ∧ QAt (w3.drewN a) w.heap.size w.heap.size v3 D ((EO s k).drop (n + t)) ∧ Own Rep.i64 (w3.drewN a) w.heap.size 3 (fun _ => False) u7 ((List.range k).map fun j => nd (s.take (j + 1))) from
              ⟨below_drewN HB3.out a, HQ3.out.keep (fun _ _ _ => rfl) (Nat.le_refl _), HN3.out.keep (fun _ _ => rfl)⟩)
            have hz4 : wc.heap.size ≤ (w3.drewN a).heap.size := by show wc.heap.size ≤ w3.heap.size; omega
            obtain ⟨A6, c6, hv6⟩ := HN3.out.form
            simp only [List.length_map, List.length_range] at hv6
            by_cases htk : n + t < k
            · obtain ⟨g6, c6', ec, hv6', _, hg6, ⟨rfl, _⟩, _, hc6'⟩ := HN3.out.at_ (n + t) (by simp; omega)
              have hc6 := hc6' 0 (by decide)
              simp only [List.length_map, List.length_range] at hv6'
              rw [hv6'] at hv6
              injection hv6 with h1 _ h3
              subst h1 h3
              subst hv6'
              simp [Rep.i64] at hc6
              clear hc6'
              have f1 : decide (nd (s.take (n + t + 1)) ≤ x') = false := by have := He3.out htk; simp; omega
              go_wp2_with fail
              go_roundg (gg - 1)
              case measure => have := HJ.out; omega
              case rel => exact ⟨j + 1, n + t, x', v3, by have := HJ.out; omega, by omega, ht, by go_num, by go_num, rfl, hx'0, by omega, HNK.out, hz4, HR.out.1, HR.out.2.1, HR.out.2.2, HE3.out⟩
            · subst hv6
              go_wp2_with fail
              go_roundg (gg - 1)
              case measure => have := HJ.out; omega
              case rel => exact ⟨j + 1, n + t, x', v3, by have := HJ.out; omega, by omega, ht, by go_num, by go_num, rfl, hx'0, by omega, HNK.out, hz4, HR.out.1, HR.out.2.1, HR.out.2.2, HE3.out⟩
      · have HZ := hid (HJN.out)
        have hjc : j ≤ d.length → 100 ≤ d.length := by omega
        have hjd : j ≤ d.length ∨ j = d.length + 1 := by omega
        obtain ⟨A6, c6, hv6⟩ := HN2.out.form
        simp only [List.length_map, List.length_range] at hv6
        subst hv6
        by_cases hjle : j ≤ d.length
        · have h100 : 100 ≤ d.length := hjc hjle
          have hj100' : 100 ≤ j := by omega
          clear hjd hcond2 hjc
          go_wp2_with fail
          refine (alive_pend _).mono ?_
          rintro e w4 ⟨rfl, hb4⟩
          have HB4 := hid (HB2.out.trans (hb4.mono (by omega)))
          clear hb4
          go_wp2
          go_ret
          exact ⟨rfl, HB4.out⟩
        · have hjeq : j = d.length + 1 := by omega
          obtain rfl : n = k := HZ.out hjeq
          have h100 : ¬ 100 ≤ d.length := by omega
          clear hjd hcond2 hjc hjeq
          go_wp2_with fail
          refine (alive_pend _).mono ?_
          rintro e w4 ⟨rfl, hb4⟩
          have HB4 := hid (HB2.out.trans (hb4.mono (by omega)))
          have HQ4 := hid (HQ2.out.chg (fun j hj => hb4.block j hj) hb4.size)
          clear hb4
          · go_wp2_with fail
            refine (len_any HQ4.out).mono ?_
            rintro e w5 ⟨rfl, rfl⟩
            rw [show ((EO s n).drop n).length = 0 from by rw [List.length_drop, EO_length]; omega]
            go_wp2
            go_ret
            exact ⟨rfl, HB4.out⟩
  case first =>
  go_wp2_with fail
  go_loopw [6, 7, 8] (fun need needs i wr => ∃ k : Nat, k ≤ s.length ∧ k ≤ 60 ∧ i = .int .i64 k ∧ need = .int .i64 (nd (s.take k)) ∧ w.heap.size + 1 ≤ wr.heap.size ∧ Below w.heap.size w wr ∧
      ∃ v D, QAt wr w.heap.size w.heap.size v D (EO s k) ∧ Own Rep.i64 wr w.heap.size 3 (fun _ => False) needs ((List.range k).map fun j => nd (s.take (j + 1))) ∧ (∀ g, needs.ownBlock = some g → g ≠ w.heap.size ∧ v.ownBlock ≠ some g ∧ ¬ D g))
    (fun _ _ i _ => s.length - (intOf i).toNat)
  case atStart => exact ⟨0, Nat.zero_le _, Nat.zero_le _, rfl, rfl, hz1', HB1.out, _, _, HQ1.out, Own.nil _ _ _ _ _, fun g hg => by simp [Value.ownBlock] at hg⟩
  case round =>
    obtain ⟨k, hk, hk6, rfl, rfl, hz, hb, v, D, hq, hn, hne⟩ := hrel
    have HQ := hid hq
    have HN := hid hn
    have HE := hid hne
    have HB := hid hb
    clear hq hn hne hb
    by_cases hcond : k < s.length ∧ k < 60
    · obtain ⟨hlt, hlt6⟩ := hcond
      · obtain ⟨g, off, rfl, hg, hc⟩ := HSC.out (by rintro rfl; simp at hlt)
        have hcell := (HB.out.cell (p := ⟨g, off + k, none⟩) hg).trans (hc k hlt)
        have hgr : g < wr.heap.size := by omega
        clear hc
        have hbits : bits BinOp.and IntKind.u8 (s[k].toNat : Int) 3 = ((s[k].toNat &&& 3 : Nat) : Int) := u8_and_nat s[k].toNat 3 s[k].toNat_lt (by decide)
        have hb3 := and3 s[k]
        have hn1 := nd_bd' s k
        have hn2 := nd_bd' s (k + 1)
        have hsucc := (nd_succ s k hlt).symm
        go_wp2_with fail
        have hqa := HQ.out.chg (w' := wr.alloc (.cells #[.int .u8 (k : Int)] 5)) (fun k hk => Below.heap_alloc _ _ _ hk) (by simp)
        have hbad : badE (entO s k) = false := by
          unfold badE
          rw [decide_eq_false_iff_not]
          rintro (h | h | h | h | h)
          · change 1 + (k : Int) % 3 < 1 at h; omega
          · change 1 + (k : Int) % 3 > 1099511627776 at h; omega
          · change nd (s.take (k + 1)) < 0 at h; omega
          · change nd (s.take (k + 1)) > 1099511627776 at h; omega
          · change 1002 < 1 at h; omega
        have hbv : #[Value.int IntKind.u8 (k : Int)] = (([UInt8.ofNat k] : List UInt8).map bv).toArray := by
          simp [bv, u8_ofNat (show k < 256 by omega)]
        refine (add_ok' hqa (by simp; omega) (entO s k) rfl rfl rfl (fun _ => True) (SlB.new [UInt8.ofNat k] hbv (heap_alloc_new _ _) trivial (by simp [maxLen])) hbad (by rw [EO_length]; omega)).mono ?_
        rintro e w2 ⟨rfl, v2, D2, hq2, hc2, ho2, hd2⟩
        simp only [World.size_alloc] at ho2 hd2
        have hzz : wr.heap.size ≤ w2.heap.size := by have := hc2.size; simp at this; omega
        have HC2 := hid hc2
        have hN2 : Own Rep.i64 w2 w.heap.size 3 (fun _ => False) u7 _ := HN.out.keep fun j hj => by
          rcases hj with hj | hj
          · exact hj.elim
          · have h1 := (HN.out.block j hj).2
            exact (HC2.out.block j (by simp; omega) (fun e => e.elim (fun e => (HE.out j hj).1 e) (fun e => (HE.out j hj).2.1 e))).trans (Below.heap_alloc _ _ _ h1)
        have HN2 := hid hN2
        have HQ2 := hid hq2
        have hE2 : ∀ g, u7.ownBlock = some g → g ≠ w.heap.size ∧ v2.ownBlock ≠ some g ∧ ¬ D2 g := fun g hg => by
          have h1 := (HN.out.block g hg).2
          obtain ⟨k1, k2, k3⟩ := HE.out g hg
          exact ⟨k1, fun e => (ho2 g e).elim k2 (fun e => by omega), fun e => (hd2 g e).elim k3 (fun e => by omega)⟩
        have HE2 := hid hE2
        have HB2 := hid ((HB.out.alloc (by omega) _).trans (hc2.below (by simp; omega) hqa.mq))
        clear hqa hbad hbv hq2 hc2 ho2 hd2 hN2 hE2 hcell
        go_wp2_with (at_builtin; (refine wpList_app1 (w := w2) (v := u7) (x0 := nd (s.take (k + 1))) (cs := #[.int .i64 (nd (s.take (k + 1)))]) rfl _ _ _ rfl elI rfl HN2.out (fun _ h => h.elim) rfl ⟨rfl, by omega, by omega⟩ rfl ⟨rfl, rfl, rfl⟩ (by simp; omega) (by decide) (by omega) ?_); intro v3 w3 hap)
        go_roundw
        case rel =>
          have hs3 := hap.grown.size
          refine ⟨k + 1, by omega, by omega, by go_num, rfl, by omega, hap.below HB2.out (by omega) (fun g hg => (HN2.out.block g hg).1), v2, D2, ?_, ?_, fun g hg => ?_⟩
          · rw [EO_succ]
            exact HQ2.out.keep (fun j hj hor => hap.grown.block j hj fun e => by
              obtain ⟨k1, k2, k3⟩ := HE2.out j e.symm
              rcases hor with h | h | h
              · exact k1 h
              · exact k2 h
              · exact k3 h) hs3
          · rw [List.range_succ, List.map_append]
            exact hap.own
          · rcases hap.at_ g hg with h1 | h1
            · exact HE2.out g h1
            · exact ⟨by omega, fun e => by have := (HQ2.out.own.block g e).2; omega, fun e => by have := HQ2.out.Dlt g e; omega⟩
        case measure => simp [intOf]; omega
    · by_cases hlt : k < s.length
      all_goals
        go_wp2_with fail
        go_meet
        exact ⟨k, hk, hk6, rfl, hz, HB.out, v, D, HQ.out, HN.out, HE.out⟩
end Go.Proofs.Ytpkgdlhiblgdnaa

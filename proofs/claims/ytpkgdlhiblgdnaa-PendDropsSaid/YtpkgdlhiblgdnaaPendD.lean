/- The walk of the law PendDrops: for all bytes it answers true and leaves memory as it was. -/
import Derived.Test.YtpkgdlhiblgdnaaPendA
open Go.RowKit Go.Pl
namespace Go.Proofs.Ytpkgdlhiblgdnaa
set_option maxHeartbeats 1000000
set_option linter.unusedVariables false
def to3 (b : UInt8) : Int := 1 + ((b.toNat &&& 3 : Nat) : Int)
def entD (s : List UInt8) (j : Nat) : Ent := (to3 (s.getD j 0), [UInt8.ofNat j], (j : Int))
def ED (s : List UInt8) (k : Nat) : List Ent := (List.range k).map (entD s)
def isD (d : UInt8) (s : List UInt8) (j : Nat) : Bool := to3 (s.getD j 0) == to3 d
def LD (s : List UInt8) (d : UInt8) (k : Nat) : List Nat := (List.range k).filter (fun j => !isD d s j)
theorem ED_succ (s : List UInt8) (k : Nat) : ED s (k + 1) = ED s k ++ [entD s k] := by simp [ED, List.range_succ]
theorem ED_length (s : List UInt8) (k : Nat) : (ED s k).length = k := by simp [ED]
theorem ED_drop (s : List UInt8) (d : UInt8) (k : Nat) : (ED s k).filter (fun x => !dropP (to3 d) x) = (LD s d k).map (entD s) := by
  unfold ED LD
  rw [List.filter_map]
  rfl
theorem ED_dropped (s : List UInt8) (d : UInt8) (k : Nat) : ((ED s k).filter (dropP (to3 d))).length = ((List.range k).filter (isD d s)).length := by
  unfold ED
  rw [List.filter_map, List.length_map]
  rfl
theorem LD_mem {s : List UInt8} {d : UInt8} {k j : Nat} (h : j ∈ LD s d k) : j < k := by
  have := (List.mem_filter.1 h).1
  simpa using this
theorem LD_ready (s : List UInt8) (d : UInt8) (k : Nat) (hk : k ≤ 64) : ((LD s d k).map (entD s)).filter (readyP 64) = (LD s d k).map (entD s) ∧ ((LD s d k).map (entD s)).filter (fun x => !readyP 64 x) = [] := by
  have h : ∀ x ∈ (LD s d k).map (entD s), readyP 64 x = true := by
    intro x hx
    obtain ⟨j, hj, rfl⟩ := List.mem_map.1 hx
    have := LD_mem hj
    simp [readyP, entD]; omega
  exact ⟨List.filter_eq_self.2 h, List.filter_eq_nil_iff.2 fun x hx => by simp [h x hx]⟩
theorem LD_length (s : List UInt8) (d : UInt8) (k : Nat) : (LD s d k).length ≤ k := by
  have := List.length_filter_le (fun j => !isD d s j) (List.range k)
  simpa [LD] using this
theorem nD_length (s : List UInt8) (d : UInt8) (k : Nat) : ((List.range k).filter (isD d s)).length ≤ k := by
  have := List.length_filter_le (isD d s) (List.range k)
  simpa using this
set_option maxRecDepth 100000 in
theorem drops_walk (v0 : Value) (d : UInt8) (s : List UInt8) (w : World) (h0 : SlB w (· < w.heap.size) v0 s) :
    Calls Try.prog 4 #[v0, .int .u8 (d.toNat : Int)] w fun e w' => e = .returned (.bool true) ∧ Below w.heap.size w w' := by
  obtain ⟨A0, c0, rfl, hs1, hs2, hsc⟩ := h0.form
  unfold maxLen at hs2
  have HSC := hid hsc
  clear hsc h0
  have hdb : bits BinOp.and IntKind.u8 (d.toNat : Int) 3 = ((d.toNat &&& 3 : Nat) : Int) := u8_and_nat d.toNat 3 d.toNat_lt (by decide)
  have hd3 := and3 d
  go_enter Try.func4, Try.ntmps4
  go_wp2_with fail
  refine (new_any w.heap.size w (Nat.le_refl _)).mono ?_
  rintro e w1 ⟨rfl, hq1, hb1, hz1⟩
  have hz1' : w.heap.size + 1 ≤ w1.heap.size := by omega
  have HQ1 := hid hq1
  have HB1 := hid hb1
  clear hq1 hb1 hz1
  go_upto_block 0 with (fail)
  go_cut [6, 7] (fun left nn wr => ∃ k : Nat, k ≤ s.length ∧ k ≤ 64 ∧ nn = .int .i64 ((List.range k).filter (isD d s)).length ∧ w.heap.size + 1 ≤ wr.heap.size ∧ Below w.heap.size w wr ∧
      ∃ v D, QAt wr w.heap.size w.heap.size v D (ED s k) ∧ Own Rep.i64 wr w.heap.size 3 (fun _ => False) left ((LD s d k).map Int.ofNat) ∧ (∀ g, left.ownBlock = some g → g ≠ w.heap.size ∧ v.ownBlock ≠ some g ∧ ¬ D g))
  case rest =>
    obtain ⟨k, hk, hk6, rfl, hz, hb, v, D, hq, hn, hne⟩ := hcut
    have HQ := hid hq
    have HN := hid hn
    have HE := hid hne
    have HB := hid hb
    clear hq hn hne hb
    have hLD := LD_length s d k
    have hnD := nD_length s d k
    go_wp2_with fail
    refine (drop_any HQ.out (by omega) (by rw [ED_length]; omega) _).mono ?_
    rintro e w2 ⟨v2, rfl, hq2, hc2, ho2⟩
    change QAt w2 _ _ v2 D ((ED s k).filter (fun x => !dropP (to3 d) x)) at hq2
    rw [show ((ED s k).filter (dropP (1 + ((d.toNat &&& 3 : Nat) : Int)))).length = ((List.range k).filter (isD d s)).length from ED_dropped s d k]
    rw [ED_drop] at hq2
    have hz2 := hc2.size
    have HB2 := hid (HB.out.trans (hc2.below (by omega) (fun k hk e => by omega)))
    have HN2 := hid (HN.out.keep (w' := w2) fun j hj => hc2.block j (HN.out.block j (hj.resolve_left id)).2 (fun e => (HE.out j (hj.resolve_left id)).1 e))
    have HQ2 := hid hq2
    clear hq2 hc2 ho2
    go_wp2_with fail
    refine (ready_any HQ2.out (by omega) (by rw [List.length_map]; omega) 64).mono ?_
    rintro e w3 ⟨v3, r3, rfl, hq3, hr3, hc3, ho3⟩
    rw [(LD_ready s d k hk6).1] at hr3
    rw [(LD_ready s d k hk6).2] at hq3
    have hz3 := hc3.size
    have HB3 := hid (HB2.out.trans (hc3.below (by omega) (fun k hk e => by omega)))
    have HN3 := hid (HN2.out.keep (w' := w3) fun j hj => hc3.block j (HN2.out.block j (hj.resolve_left id)).2 (fun e => (HE.out j (hj.resolve_left id)).1 e))
    obtain ⟨A3, c3, hv3⟩ := hr3.form
    rw [List.length_map] at hv3
    subst hv3
    obtain ⟨A4, c4, hv4⟩ := HN3.out.form
    rw [List.length_map] at hv4
    have HR3 := hid hr3
    have HQ3 := hid hq3
    clear hr3 hq3 hc3 ho3
    subst hv4
    go_wp2_with fail
    go_loopg [11] (LD s d k).length (fun gh kk wr => ∃ i, gh + i = (LD s d k).length ∧ kk = .int .i64 i ∧ ∃ a, w3.drewN a = wr)
    case atStart => exact ⟨0, rfl, rfl, 0, rfl⟩
    case round =>
      obtain ⟨i, hi, rfl, a, rfl⟩ := hrel
      have HI := hid hi
      have hi' : i ≤ (LD s d k).length := by omega
      clear hi
      by_cases hit : i < (LD s d k).length
      · obtain ⟨g4, c4', A5, d4, hv4, hg4, i0, i1, i2, hok4⟩ := RE.at_ HR3.out i (by simpa using hit)
        injection hv4 with hv4 hx1 hx2
        subst hv4
        clear hx1 hx2 i1 hok4
        obtain ⟨g6, c6, ec, hv6, _, hg6, ⟨rfl, _⟩, _, hc6'⟩ := HN3.out.at_ i (by simpa using hit)
        have hc6 := hc6' 0 (by decide)
        injection hv6 with hv6 hx1 hx2
        subst hv6
        clear hx1 hx2 hc6'
        obtain ⟨jj, hjj⟩ : ∃ jj, jj = (LD s d k)[i] := ⟨_, rfl⟩
        have hjk : jj < k := by rw [hjj]; exact LD_mem (List.getElem_mem hit)
        simp only [List.getElem_map, ← hjj] at i0 i2
        simp [Rep.i64, ← hjj] at hc6
        change w3.cell? _ = some (.int .i64 (jj : Int)) at i2
        have hjs : jj < s.length := by omega
        obtain ⟨g, off, rfl, hg, hc⟩ := HSC.out (by rintro rfl; simp at hjs)
        have hcell := (HB3.out.cell (p := ⟨g, off + jj, none⟩) hg).trans (hc jj hjs)
        have i0' : w3.cell? ⟨g4, i * 3, none⟩ = some (.int .i64 (1 + ((s[jj].toNat &&& 3 : Nat) : Int))) := by
          rw [i0]; simp [entD, to3, hjs]
        have hbits : bits BinOp.and IntKind.u8 (s[jj].toNat : Int) 3 = ((s[jj].toNat &&& 3 : Nat) : Int) := u8_and_nat s[jj].toNat 3 s[jj].toNat_lt (by decide)
        have hb3 := and3 s[jj]
        clear i0 hc hjj
        have hw : IntKind.i64.wrap (1 + ((s[jj].toNat &&& 3 : Nat) : Int)) = 1 + ((s[jj].toNat &&& 3 : Nat) : Int) := IntWalk.i64_in _ (by omega)
        have hw2 : IntKind.i64.wrap (((s[jj].toNat &&& 3 : Nat) : Int)) = ((s[jj].toNat &&& 3 : Nat) : Int) := IntWalk.i64_in _ (by omega)
        go_wp2_with fail
        go_quiet (fail)
        clear hw hw2
        go_wp2_with fail
        go_roundg (gk - 1)
        case measure => have := HI.out; omega
        case rel => exact ⟨i + 1, by have := HI.out; omega, by go_num, _, rfl⟩
      · go_wp2_with fail
        refine (alive_pend _).mono ?_
        rintro e w4 ⟨rfl, hb4⟩
        have HB4 := hid ((below_drewN HB3.out a).trans (hb4.mono (show w.heap.size ≤ w3.heap.size by omega)))
        have HQ4 := hid (HQ3.out.chg (w' := w4) (fun j hj => hb4.block j hj) hb4.size)
        clear hb4
        go_wp2_with fail
        refine (len_any HQ4.out).mono ?_
        rintro e w5 ⟨rfl, rfl⟩
        rw [show (([] : List Ent).length) = 0 from rfl]
        go_wp2
        go_ret
        exact ⟨rfl, HB4.out⟩
  case first =>
  go_wp2_with fail
  go_loopw [6, 7, 8] (fun left nn i wr => ∃ k : Nat, k ≤ s.length ∧ k ≤ 64 ∧ i = .int .i64 k ∧ nn = .int .i64 ((List.range k).filter (isD d s)).length ∧ w.heap.size + 1 ≤ wr.heap.size ∧ Below w.heap.size w wr ∧
      ∃ v D, QAt wr w.heap.size w.heap.size v D (ED s k) ∧ Own Rep.i64 wr w.heap.size 3 (fun _ => False) left ((LD s d k).map Int.ofNat) ∧ (∀ g, left.ownBlock = some g → g ≠ w.heap.size ∧ v.ownBlock ≠ some g ∧ ¬ D g))
    (fun _ _ i _ => s.length - (intOf i).toNat)
  case atStart => exact ⟨0, Nat.zero_le _, Nat.zero_le _, rfl, rfl, hz1', HB1.out, _, _, HQ1.out, Own.nil _ _ _ _ _, fun g hg => by simp [Value.ownBlock] at hg⟩
  case round =>
    obtain ⟨k, hk, hk6, rfl, rfl, hz, hb, v, D, hq, hn, hne⟩ := hrel
    have HQ := hid hq
    have HN := hid hn
    have HE := hid hne
    have HB := hid hb
    clear hq hn hne hb
    by_cases hcond : k < s.length ∧ k < 64
    · obtain ⟨hlt, hlt6⟩ := hcond
      obtain ⟨g, off, rfl, hg, hc⟩ := HSC.out (by rintro rfl; simp at hlt)
      have hcell := (HB.out.cell (p := ⟨g, off + k, none⟩) hg).trans (hc k hlt)
      have hgr : g < wr.heap.size := by omega
      have hbits : bits BinOp.and IntKind.u8 (s[k].toNat : Int) 3 = ((s[k].toNat &&& 3 : Nat) : Int) := u8_and_nat s[k].toNat 3 s[k].toNat_lt (by decide)
      have hb3 := and3 s[k]
      have hnD := nD_length s d k
      have hLD := LD_length s d k
      clear hc
      go_wp2_with fail
      have hqa := HQ.out.chg (w' := wr.alloc (.cells #[.int .u8 (k : Int)] 5)) (fun k hk => Below.heap_alloc _ _ _ hk) (by simp)
      have hE1 : 1 + ((s[k].toNat &&& 3 : Nat) : Int) = (entD s k).1 := by simp [entD, to3, hlt]
      have hbad : badE (entD s k) = false := by
        unfold badE
        rw [decide_eq_false_iff_not, ← hE1]
        rintro (h | h | h | h | h)
        · omega
        · omega
        · change (k : Int) < 0 at h; omega
        · change (k : Int) > 1099511627776 at h; omega
        · change 1002 < 1 at h; omega
      have hbv : #[Value.int IntKind.u8 (k : Int)] = (([UInt8.ofNat k] : List UInt8).map bv).toArray := by
        simp [bv, u8_ofNat (show k < 256 by omega)]
      refine (add_ok' hqa (by simp; omega) (entD s k) hE1 rfl rfl (fun _ => True) (SlB.new [UInt8.ofNat k] hbv (heap_alloc_new _ _) trivial (by simp [maxLen])) hbad (by rw [ED_length]; omega)).mono ?_
      rintro e w2 ⟨rfl, v2, D2, hq2, hc2, ho2, hd2⟩
      simp only [World.size_alloc] at ho2 hd2
      have hzz : wr.heap.size ≤ w2.heap.size := by have := hc2.size; simp at this; omega
      have HC2 := hid hc2
      have hN2 : Own Rep.i64 w2 w.heap.size 3 (fun _ => False) u6 _ := HN.out.keep fun j hj => by
        have hj := hj.resolve_left id
        have h1 := (HN.out.block j hj).2
        exact (HC2.out.block j (by simp; omega) (fun e => e.elim (fun e => (HE.out j hj).1 e) (fun e => (HE.out j hj).2.1 e))).trans (Below.heap_alloc _ _ _ h1)
      have HN2 := hid hN2
      have HQ2 := hid hq2
      have HE2 := hid (fun g (hg : u6.ownBlock = some g) => show g ≠ w.heap.size ∧ v2.ownBlock ≠ some g ∧ ¬ D2 g from by
        have h1 := (HN.out.block g hg).2
        obtain ⟨k1, k2, k3⟩ := HE.out g hg
        exact ⟨k1, fun e => (ho2 g e).elim k2 (fun e => by omega), fun e => (hd2 g e).elim k3 (fun e => by omega)⟩)
      have HB2 := hid ((HB.out.alloc (by omega) _).trans (hc2.below (by simp; omega) hqa.mq))
      have hgd : s.getD k 0 = s[k] := by simp [hlt]
      have HG := hid hgd
      clear hqa hbad hbv hq2 hc2 ho2 hd2 hN2 hcell hE1 hgd
      by_cases hdrop : 1 + ((s[k].toNat &&& 3 : Nat) : Int) = 1 + ((d.toNat &&& 3 : Nat) : Int)
      · have hdb2 : ((1 + ((s[k].toNat &&& 3 : Nat) : Int)) == (1 + ((d.toNat &&& 3 : Nat) : Int))) = true := by simp; omega
        have hisD : isD d s k = true := by unfold isD; rw [HG.out]; exact hdb2
        have HD := hid hisD
        clear hdrop hisD
        go_wp2_with fail
        go_roundw
        case rel =>
          refine ⟨k + 1, by omega, by omega, by go_num, ?_, by omega, HB2.out, v2, D2, ?_, ?_, HE2.out⟩
          · rw [List.range_succ, List.filter_append]; simp [HD.out]
          · rw [ED_succ]; exact HQ2.out
          · unfold LD; rw [List.range_succ, List.filter_append]; simp [HD.out]; exact HN2.out
        case measure => simp [intOf]; omega
      · have hdb2 : ((1 + ((s[k].toNat &&& 3 : Nat) : Int)) == (1 + ((d.toNat &&& 3 : Nat) : Int))) = false := by simp; omega
        have hisD : isD d s k = false := by unfold isD; rw [HG.out]; exact hdb2
        have HD := hid hisD
        clear hdrop hisD
        go_wp2_with (at_builtin; refine wpList_app1 (w := w2) (v := u6) (x0 := (k : Int)) (cs := #[.int .i64 (k : Int)]) rfl _ _ _ rfl elI rfl HN2.out (fun _ h => h.elim) rfl ⟨rfl, by omega, by omega⟩ rfl ⟨rfl, rfl, rfl⟩ (by simp; omega) (by decide) (by omega) ?_; intro v3 w3 hap)
        go_roundw
        case rel =>
          have hs3 := hap.grown.size
          refine ⟨k + 1, by omega, by omega, by go_num, ?_, by omega, hap.below HB2.out (by omega) (fun g hg => (HN2.out.block g hg).1), v2, D2, ?_, ?_, fun g hg => ?_⟩
          · rw [List.range_succ, List.filter_append]; simp [HD.out]
          · rw [ED_succ]
            exact HQ2.out.keep (fun j hj hor => hap.grown.block j hj fun e => by
              obtain ⟨k1, k2, k3⟩ := HE2.out j e.symm
              rcases hor with h | h | h
              · exact k1 h
              · exact k2 h
              · exact k3 h) hs3
          · unfold LD; rw [List.range_succ, List.filter_append]; simp [HD.out]; exact hap.own
          · rcases hap.at_ g hg with h1 | h1
            · exact HE2.out g h1
            · exact ⟨by omega, fun e => by have := (HQ2.out.own.block g e).2; omega, fun e => by have := HQ2.out.Dlt g e; omega⟩
        case measure => simp [intOf]; omega
    · by_cases hlt : k < s.length
      all_goals
        go_wp2_with fail
        go_meet
        exact ⟨k, hk, hk6, rfl, hz, HB.out, v, D, HQ.out, HN.out, HE.out⟩
end Go.Proofs.Ytpkgdlhiblgdnaa

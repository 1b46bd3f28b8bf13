/- The walk of the law HeadBack: for every head and all bytes it answers true and leaves memory as it was. -/
import Derived.Test.YtpkgdlhiblgdnaaHeadP
import Derived.Test.YtpkgdlhiblgdnaaExt
open Go.RowKit Go.Pl
namespace Go.Proofs.Ytpkgdlhiblgdnaa
set_option maxHeartbeats 1000000
set_option linter.unusedVariables false
set_option maxRecDepth 100000 in
theorem back_big (h : Hd) (v1 v2 v3 : Value) (a c b : List UInt8) (w : World) (h1 : SlB w (· < w.heap.size) v1 a) (h2 : SlB w (· < w.heap.size) v2 c) (h3 : SlB w (· < w.heap.size) v3 b) (hbig : 50 < a.length ∨ 50 < c.length ∨ 50 < b.length) :
    Calls Try.prog 12 #[hv h, v1, v2, v3] w fun e w' => e = .returned (.bool true) ∧ Below w.heap.size w w' := by
  obtain ⟨A1, c1, rfl, _⟩ := h1.form
  obtain ⟨A2, c2, rfl, _⟩ := h2.form
  obtain ⟨A3, c3, rfl, _⟩ := h3.form
  clear h1 h2 h3
  unfold hv
  by_cases g1 : 50 < a.length
  · clear hbig
    go_enter Try.func12, Try.ntmps12
    go_wp2_with fail
    refine (alive_head _).mono ?_
    rintro e w1 ⟨rfl, hb1⟩
    simp only [World.size_alloc] at hb1
    have HB := hid (((Below.refl _ w).alloc (Nat.le_refl _) _).trans (hb1.mono (by omega)))
    clear hb1
    go_wp2
    go_ret
    exact ⟨rfl, HB.out⟩
  by_cases g2 : 50 < c.length
  · clear hbig
    go_enter Try.func12, Try.ntmps12
    go_wp2_with fail
    refine (alive_head _).mono ?_
    rintro e w1 ⟨rfl, hb1⟩
    simp only [World.size_alloc] at hb1
    have HB := hid (((Below.refl _ w).alloc (Nat.le_refl _) _).trans (hb1.mono (by omega)))
    clear hb1
    go_wp2
    go_ret
    exact ⟨rfl, HB.out⟩
  · have g3 : 50 < b.length := by omega
    clear hbig
    go_enter Try.func12, Try.ntmps12
    go_wp2_with fail
    refine (alive_head _).mono ?_
    rintro e w1 ⟨rfl, hb1⟩
    simp only [World.size_alloc] at hb1
    have HB := hid (((Below.refl _ w).alloc (Nat.le_refl _) _).trans (hb1.mono (by omega)))
    clear hb1
    go_wp2
    go_ret
    exact ⟨rfl, HB.out⟩
set_option maxRecDepth 100000 in
theorem back_walk (h : Hd) (v1 v2 v3 : Value) (a c b : List UInt8) (w : World) (hn : h.2.1 < 18446744073709551616) (h1 : SlB w (· < w.heap.size) v1 a) (h2 : SlB w (· < w.heap.size) v2 c) (h3 : SlB w (· < w.heap.size) v3 b) :
    Calls Try.prog 12 #[hv h, v1, v2, v3] w fun e w' => e = .returned (.bool true) ∧ Below w.heap.size w w' := by
  by_cases hbig : 50 < a.length ∨ 50 < c.length ∨ 50 < b.length
  · exact back_big h v1 v2 v3 a c b w h1 h2 h3 hbig
  have g1 : a.length ≤ 50 := by omega
  have g2 : c.length ≤ 50 := by omega
  have g3 : b.length ≤ 50 := by omega
  clear hbig
  obtain ⟨A1, c1, rfl, _⟩ := h1.form
  obtain ⟨A2, c2, rfl, _⟩ := h2.form
  obtain ⟨A3, c3, rfl, hl3, hm3, _⟩ := h3.form
  unfold maxLen at hm3
  have H1 := hid h1
  have H2 := hid h2
  have H3 := hid h3
  have HN := hid hn
  clear h1 h2 h3 hn
  obtain ⟨m, n, o⟩ := h
  unfold hv
  dsimp only
  go_enter Try.func12, Try.ntmps12
  go_wp2_with fail
  have HBox := hid (Blk.new w 69 #[.int .i64 m, .int .u64 (n : Int), .bool o])
  cases hr : rightB (m, n, o) with
  | false =>
    refine (write_bad (m, n, o) _ hr).mono ?_
    rintro e w1 ⟨rfl, hb1⟩
    simp only [World.size_alloc] at hb1
    have HB := hid (((Below.refl _ w).alloc (Nat.le_refl _) _).trans (hb1.mono (by omega)))
    clear hb1 hr
    have HBc := HB
    go_wp2_with fail
    have hlt3 : w.heap.size ≤ w1.heap.size := HBc.out.size
    obtain ⟨⟨a', n', o'⟩, x, y, hr⟩ : ∃ (h : Hd) (x y : Nat), readH b 0 = (h, x, y) := ⟨_, _, _, rfl⟩
    have hbd := readH_bd b 0
    rw [hr] at hbd
    dsimp only at hbd
    obtain ⟨hx1, hx2, hx3⟩ := hbd
    refine (read_is hlt3 (H3.out.below HBc.out) 0 hr).mono ?_
    rintro e x1 ⟨rfl, hb1⟩
    have hzx1 := hb1.size
    have HC1 := hid (HBc.out.trans (hb1.mono (by omega)))
    have HRd := hid hr
    clear hb1 hr
    by_cases hy0 : y = 0
    · subst hy0
      have hwr : rightB (a', n', o') = true ∧ (writeL (a', n', o')).length ≤ x ∧ ((sizeN (a', n', o') = x) ↔ writeL (a', n', o') = b.take x) := by
        have h1 := HRd.out
        unfold readH at h1
        rw [if_neg (by omega)] at h1
        have h2 := write_read b 0 (by have := congrArg (fun z => z.2.2) h1; simpa using this)
        rw [show readN b 0 = ((a', n', o'), x, 0) from h1] at h2
        simpa using h2
      obtain ⟨hw1, hw2, hw3⟩ := hwr
      have hsh : shortB b 0 = decide (sizeN (a', n', o') = x) := by
        unfold shortB
        rw [HRd.out]
        simp
        rw [Bool.eq_iff_iff]
        simp
        omega
      have HSH := hid hsh
      have HW3 := hid hw3
      clear hsh hw3 hx3
      go_wp2_with fail
      refine (write_ok (a', n', o') _ hw1 hx2).mono ?_
      rintro e x2 ⟨y2, rfl, ho2, hb2⟩
      simp only [World.size_alloc] at hb2 ho2
      have hzx2 := hb2.size
      simp only [World.size_alloc] at hzx2
      have HC2 := hid ((HC1.out.alloc (by omega) _).trans (hb2.mono (by omega)))
      obtain ⟨Y2, cy2, rfl⟩ := ho2.form
      have HY2 := hid ((ho2.slB (Nat.le_refl _)).mono (S' := (· < x2.heap.size)) fun k hk => hk.2)
      have HB3 := hid ((SlB.take (H3.out.below HC2.out) x hx1).mono (S' := (· < x2.heap.size)) fun k hk => Nat.lt_of_lt_of_le hk HC2.out.size)
      have HB4 := hid (H3.out.below HC2.out)
      clear ho2 hb2 hw1
      go_wp2_with fail
      have hcv1 : ∀ z : ExtW x2, (convert 22 9 (.slice Y2 (writeL (a', n', o')).length cy2)).run Try.prog z.val = .ok (.string ⟨(writeL (a', n', o')).toArray⟩) z.val := fun z => strB (HY2.out.ext z)
      have hcv2 : ∀ z : ExtW x2, (convert 22 9 (.slice A3 x c3)).run Try.prog z.val = .ok (.string ⟨(b.take x).toArray⟩) z.val := fun z => strB (HB3.out.ext z)
      have hle : ((writeL (a', n', o')).length : Int) ≤ (x : Int) := by omega
      have hxc : (x : Int) ≤ (c3 : Int) := by omega
      have hx0 : (0 : Int) ≤ (x : Int) := by omega
      by_cases hs : sizeN (a', n', o') = x
      · have e1 : shortB b 0 = true := by rw [HSH.out]; simpa using hs
        have e2 : (writeL (a', n', o') == b.take x) = true := by simpa using HW3.out.1 hs
        have E1 := hid e1
        clear e1 hs hw2
        have HSh := hid (fun z : ExtW x2 => Calls.ext_of ((shortest_any (B := w.heap.size) (Nat.le_trans HC2.out.size z.ext.size) (HB4.out.frame fun k hk => z.heap k (Nat.lt_of_lt_of_le hk HC2.out.size)) 0 (by omega)).mono fun e w' hh => ⟨by rw [hh.1, E1.out], hh.2⟩))
        refine wp_region_ext (by kernel_rfl) (by kernel_rfl) ?_
        repeat (go_big_quiet_step ((first | (go_at_call 36; exact Calls.ext_of (alive_head _)) | (go_at_call 42; exact HSh.out _))))
        refine wpQuiet_nil ?_
        rintro _ ⟨z, rfl⟩
        clear hcv1 hcv2
        go_wp2_with fail
        go_ret
        exact ⟨rfl, HC2.out.trans (z.ext.mono HC2.out.size)⟩
      · have e1 : shortB b 0 = false := by rw [HSH.out]; simpa using hs
        have e2 : (writeL (a', n', o') == b.take x) = false := by simpa using fun h => hs (HW3.out.2 h)
        have E1 := hid e1
        clear e1 hs hw2
        have HSh := hid (fun z : ExtW x2 => Calls.ext_of ((shortest_any (B := w.heap.size) (Nat.le_trans HC2.out.size z.ext.size) (HB4.out.frame fun k hk => z.heap k (Nat.lt_of_lt_of_le hk HC2.out.size)) 0 (by omega)).mono fun e w' hh => ⟨by rw [hh.1, E1.out], hh.2⟩))
        refine wp_region_ext (by kernel_rfl) (by kernel_rfl) ?_
        repeat (go_big_quiet_step ((first | (go_at_call 36; exact Calls.ext_of (alive_head _)) | (go_at_call 42; exact HSh.out _))))
        refine wpQuiet_nil ?_
        rintro _ ⟨z, rfl⟩
        clear hcv1 hcv2
        go_wp2_with fail
        go_ret
        exact ⟨rfl, HC2.out.trans (z.ext.mono HC2.out.size)⟩
    · have hsh : shortB b 0 = false := by
        unfold shortB
        rw [HRd.out]
        simp [hy0]
      have HSH := hid hsh
      have hyy : ((y : Int) != 0) = true := by simp; omega
      clear hsh hy0 hx3
      go_wp2_with fail
      refine (alive_head _).mono ?_
      rintro e x2 ⟨rfl, hb2⟩
      simp only [World.size_alloc] at hb2
      have hzx2 := hb2.size
      simp only [World.size_alloc] at hzx2
      have HC2 := hid ((HC1.out.alloc (by omega) _).trans (hb2.mono (by omega)))
      clear hb2
      go_wp2_with fail
      refine (shortest_any (B := w.heap.size) (by omega) (H3.out.below HC2.out) 0 (by omega)).mono ?_
      rintro e x3 ⟨rfl, hb3⟩
      rw [HSH.out]
      have HC3 := hid (HC2.out.trans (hb3.mono (by omega)))
      clear hb3
      go_wp2
      go_ret
      exact ⟨rfl, HC3.out⟩
  | true =>
    refine (write_ok (m, n, o) _ hr HN.out).mono ?_
    rintro e w1 ⟨y1, rfl, hy1, hb1⟩
    simp only [World.size_alloc] at hb1 hy1
    have hz1 := hb1.size
    simp only [World.size_alloc] at hz1
    have HB1 := hid (((Below.refl _ w).alloc (Nat.le_refl _) _).trans (hb1.mono (by omega)))
    have HBx1 := hid (HBox.out.below hb1 (by omega))
    have hW9 : (writeL (m, n, o)).length ≤ 9 := by rw [writeL_length _ hr]; exact sizeN_le _
    obtain ⟨Y, cy, rfl⟩ := hy1.form
    have HY := hid hy1
    have HR := hid hr
    clear hb1 hy1 hr
    have hs1 : SlB (w1.alloc (.cells #[] 5)) (· < w.heap.size) (.slice A1 a.length c1) a := (H1.out.below HB1.out).keep (by decide) (fun k hk hh => Below.heap_alloc _ _ _ (by have := HB1.out.size; omega)) (fun k hk hh => hh)
    have hs2 : SlB (w1.alloc (.cells #[] 5)) (fun k => w.heap.size + 1 ≤ k ∧ k < w1.heap.size) (.slice Y (writeL (m, n, o)).length cy) (writeL (m, n, o)) := (HY.out.slB (Nat.le_refl _)).frame fun k hk => Below.heap_alloc _ _ _ hk.2
    have hs3 : SlB (w1.alloc (.cells #[] 5)) (· < w.heap.size) (.slice A2 c.length c2) c := (H2.out.below HB1.out).keep (by decide) (fun k hk hh => Below.heap_alloc _ _ _ (by have := HB1.out.size; omega)) (fun k hk hh => hh)
    have HS1 := hid hs1
    have HS2 := hid hs2
    have HS3 := hid hs3
    clear hs1 hs2 hs3
    go_upto_if 40 with (fail)
    go_cut [] (fun wx => Below w.heap.size w wx)
    case rest =>
      have HBc := hid hcut
      clear hcut
      go_wp2_with fail
      have hlt3 : w.heap.size ≤ wc.heap.size := HBc.out.size
      obtain ⟨⟨a', n', o'⟩, x, y, hr⟩ : ∃ (h : Hd) (x y : Nat), readH b 0 = (h, x, y) := ⟨_, _, _, rfl⟩
      have hbd := readH_bd b 0
      rw [hr] at hbd
      dsimp only at hbd
      obtain ⟨hx1, hx2, hx3⟩ := hbd
      refine (read_is hlt3 (H3.out.below HBc.out) 0 hr).mono ?_
      rintro e x1 ⟨rfl, hb1⟩
      have hzx1 := hb1.size
      have HC1 := hid (HBc.out.trans (hb1.mono (by omega)))
      have HRd := hid hr
      clear hb1 hr
      by_cases hy0 : y = 0
      · subst hy0
        have hwr : rightB (a', n', o') = true ∧ (writeL (a', n', o')).length ≤ x ∧ ((sizeN (a', n', o') = x) ↔ writeL (a', n', o') = b.take x) := by
          have h1 := HRd.out
          unfold readH at h1
          rw [if_neg (by omega)] at h1
          have h2 := write_read b 0 (by have := congrArg (fun z => z.2.2) h1; simpa using this)
          rw [show readN b 0 = ((a', n', o'), x, 0) from h1] at h2
          simpa using h2
        obtain ⟨hw1, hw2, hw3⟩ := hwr
        have hsh : shortB b 0 = decide (sizeN (a', n', o') = x) := by
          unfold shortB
          rw [HRd.out]
          simp
          rw [Bool.eq_iff_iff]
          simp
          omega
        have HSH := hid hsh
        have HW3 := hid hw3
        clear hsh hw3 hx3
        go_wp2_with fail
        refine (write_ok (a', n', o') _ hw1 hx2).mono ?_
        rintro e x2 ⟨y2, rfl, ho2, hb2⟩
        simp only [World.size_alloc] at hb2 ho2
        have hzx2 := hb2.size
        simp only [World.size_alloc] at hzx2
        have HC2 := hid ((HC1.out.alloc (by omega) _).trans (hb2.mono (by omega)))
        obtain ⟨Y2, cy2, rfl⟩ := ho2.form
        have HY2 := hid ((ho2.slB (Nat.le_refl _)).mono (S' := (· < x2.heap.size)) fun k hk => hk.2)
        have HB3 := hid ((SlB.take (H3.out.below HC2.out) x hx1).mono (S' := (· < x2.heap.size)) fun k hk => Nat.lt_of_lt_of_le hk HC2.out.size)
        have HB4 := hid (H3.out.below HC2.out)
        clear ho2 hb2 hw1
        go_wp2_with fail
        have hcv1 : ∀ z : ExtW x2, (convert 22 9 (.slice Y2 (writeL (a', n', o')).length cy2)).run Try.prog z.val = .ok (.string ⟨(writeL (a', n', o')).toArray⟩) z.val := fun z => strB (HY2.out.ext z)
        have hcv2 : ∀ z : ExtW x2, (convert 22 9 (.slice A3 x c3)).run Try.prog z.val = .ok (.string ⟨(b.take x).toArray⟩) z.val := fun z => strB (HB3.out.ext z)
        have hle : ((writeL (a', n', o')).length : Int) ≤ (x : Int) := by omega
        have hxc : (x : Int) ≤ (c3 : Int) := by omega
        have hx0 : (0 : Int) ≤ (x : Int) := by omega
        by_cases hs : sizeN (a', n', o') = x
        · have e1 : shortB b 0 = true := by rw [HSH.out]; simpa using hs
          have e2 : (writeL (a', n', o') == b.take x) = true := by simpa using HW3.out.1 hs
          have E1 := hid e1
          clear e1 hs hw2
          have HSh := hid (fun z : ExtW x2 => Calls.ext_of ((shortest_any (B := w.heap.size) (Nat.le_trans HC2.out.size z.ext.size) (HB4.out.frame fun k hk => z.heap k (Nat.lt_of_lt_of_le hk HC2.out.size)) 0 (by omega)).mono fun e w' hh => ⟨by rw [hh.1, E1.out], hh.2⟩))
          refine wp_region_ext (by kernel_rfl) (by kernel_rfl) ?_
          repeat (go_big_quiet_step ((first | (go_at_call 36; exact Calls.ext_of (alive_head _)) | (go_at_call 42; exact HSh.out _))))
          refine wpQuiet_nil ?_
          rintro _ ⟨z, rfl⟩
          clear hcv1 hcv2
          go_wp2_with fail
          go_ret
          exact ⟨rfl, HC2.out.trans (z.ext.mono HC2.out.size)⟩
        · have e1 : shortB b 0 = false := by rw [HSH.out]; simpa using hs
          have e2 : (writeL (a', n', o') == b.take x) = false := by simpa using fun h => hs (HW3.out.2 h)
          have E1 := hid e1
          clear e1 hs hw2
          have HSh := hid (fun z : ExtW x2 => Calls.ext_of ((shortest_any (B := w.heap.size) (Nat.le_trans HC2.out.size z.ext.size) (HB4.out.frame fun k hk => z.heap k (Nat.lt_of_lt_of_le hk HC2.out.size)) 0 (by omega)).mono fun e w' hh => ⟨by rw [hh.1, E1.out], hh.2⟩))
          refine wp_region_ext (by kernel_rfl) (by kernel_rfl) ?_
          repeat (go_big_quiet_step ((first | (go_at_call 36; exact Calls.ext_of (alive_head _)) | (go_at_call 42; exact HSh.out _))))
          refine wpQuiet_nil ?_
          rintro _ ⟨z, rfl⟩
          clear hcv1 hcv2
          go_wp2_with fail
          go_ret
          exact ⟨rfl, HC2.out.trans (z.ext.mono HC2.out.size)⟩
      · have hsh : shortB b 0 = false := by
          unfold shortB
          rw [HRd.out]
          simp [hy0]
        have HSH := hid hsh
        have hyy : ((y : Int) != 0) = true := by simp; omega
        clear hsh hy0 hx3
        go_wp2_with fail
        refine (alive_head _).mono ?_
        rintro e x2 ⟨rfl, hb2⟩
        simp only [World.size_alloc] at hb2
        have hzx2 := hb2.size
        simp only [World.size_alloc] at hzx2
        have HC2 := hid ((HC1.out.alloc (by omega) _).trans (hb2.mono (by omega)))
        clear hb2
        go_wp2_with fail
        refine (shortest_any (B := w.heap.size) (by omega) (H3.out.below HC2.out) 0 (by omega)).mono ?_
        rintro e x3 ⟨rfl, hb3⟩
        rw [HSH.out]
        have HC3 := hid (HC2.out.trans (hb3.mono (by omega)))
        clear hb3
        go_wp2
        go_ret
        exact ⟨rfl, HC3.out⟩
    case first =>
      have hbox : ∀ g, (Value.slice (some ⟨w1.heap.size, 0, none⟩) 0 0).ownBlock = some g → g = w1.heap.size := fun g hg => by cases hg; rfl
      go_wp2_with (first | (at_builtin; refine wpList_apps rfl (.tmp 41) (.tmp 42) _ rfl elB rfl (Own.made Rep.byte w1 w1.heap.size 5 (fun _ => False) (Nat.le_refl _) (fun h => h)) (fun _ h => h.elim) rfl HS1.out (fun _ h => run_byte_any h) (by simp; simp only [maxLen]; omega) (by simp; omega) (by simp) ?_; ((intro u1 x1 hap1; have q2 := hid (hap1.sl_keep HS2.out (fun k hk => by simp; omega) (fun g hg hk => by have := hbox g hg; omega)); have q3 := hid (hap1.sl_keep HS3.out (fun k hk => by simp; omega) (fun g hg hk => by have := hbox g hg; omega)); have q1 := hid hap1; clear hap1))) | (at_builtin; (refine wpList_apps rfl (.tmp 43) (.tmp 44) _ rfl elB rfl q1.out.own (fun _ h => h.elim) rfl q2.out (fun _ h => run_byte_any h) (by (try simp only [List.nil_append, List.length_append]); unfold maxLen; omega) (by (try simp only [List.nil_append, List.length_append]); omega) (by have := q1.out.grown.size; (try simp only [World.size_alloc] at this); omega) ?_); ((intro u2 x2 hap2; have q5 := hid (hap2.sl_keep q3.out (fun k hk => by have := q1.out.grown.size; (try simp only [World.size_alloc] at this); omega) (fun g hg hk => by have := (q1.out.own.block g hg).1; omega)); have q4 := hid hap2; clear hap2))) | (at_builtin; (refine wpList_apps rfl (.tmp 45) (.tmp 46) _ rfl elB rfl q4.out.own (fun _ h => h.elim) rfl q5.out (fun _ h => run_byte_any h) (by (try simp only [List.nil_append, List.length_append]); unfold maxLen; omega) (by (try simp only [List.nil_append, List.length_append]); omega) (by have t1 := q1.out.grown.size; have t2 := q4.out.grown.size; simp only [World.size_alloc] at t1; omega) ?_); ((intro u3 x3 hap3; have q6 := hid hap3; clear hap3))) )
      have hz3 : w1.heap.size < x3.heap.size := by
        have t1 := q1.out.grown.size
        have t2 := q4.out.grown.size
        have t3 := q6.out.grown.size
        simp only [World.size_alloc] at t1
        omega
      have HB3 := hid (((((HB1.out.alloc (by omega) (.cells #[] 5)).grown q1.out.grown (by simp; omega) (fun g hg => by have := hbox g hg; omega)).grown q4.out.grown (by have := q1.out.grown.size; simp only [World.size_alloc] at this; omega) (fun g hg => by have := (q1.out.own.block g hg).1; omega))).grown q6.out.grown (by have t1 := q1.out.grown.size; have t2 := q4.out.grown.size; simp only [World.size_alloc] at t1; omega) (fun g hg => by have := (q4.out.own.block g hg).1; omega))
      have hk : ∀ k, k < w1.heap.size → x3.heap[k]? = w1.heap[k]? := fun k hk => by
        have t1 := q1.out.grown.size
        have t2 := q4.out.grown.size
        simp only [World.size_alloc] at t1
        rw [q6.out.grown.block k (by omega) (fun e => by have := (q4.out.own.block k e.symm).1; omega), q4.out.grown.block k (by omega) (fun e => by have := (q1.out.own.block k e.symm).1; omega), q1.out.grown.block k (by simp; omega) (fun e => by have := hbox k e.symm; omega), Below.heap_alloc _ _ _ hk]
      have hU := q6.out.own.slB (Nat.le_refl _)
      rw [List.nil_append] at hU
      have HU := hid (hU.mono (S' := (· < x3.heap.size)) fun k hk => hk.2)
      have HBx3 := hid (show Blk x3 w.heap.size 69 _ from (hk _ (by omega)).trans HBx1.out)
      clear hk hU hbox q1 q4 q6 q2 q3 q5 HS1 HS2 HS3
      refine (read_is (Nat.le_refl _) HU.out (a.length : Int) (a := m) (n := n) (o := o) (readH_write (m, n, o) HR.out HN.out a c)).mono ?_
      rintro e x4 ⟨rfl, hb4⟩
      have hz4 := hb4.size
      have HB4 := hid (HB3.out.trans (hb4.mono (by omega)))
      have HU4 := hid (HU.out.below hb4)
      have hbx4 := HBx3.out.below hb4 (by omega)
      have HX4 := hid hbx4
      clear hb4
      have d0 := (hbx4.alloc (.cells #[.int .i64 m, .int .u64 (n : Int), .bool o] 69)).cell 0
      have d1 := (hbx4.alloc (.cells #[.int .i64 m, .int .u64 (n : Int), .bool o] 69)).cell 1
      have d2 := (hbx4.alloc (.cells #[.int .i64 m, .int .u64 (n : Int), .bool o] 69)).cell 2
      simp only [List.getElem?_toArray, List.getElem?_cons_zero, List.getElem?_cons_succ] at d0 d1 d2
      clear hbx4
      go_wp2_with fail
      have hU5 : SlB (x4.alloc (.cells #[.int .i64 m, .int .u64 (n : Int), .bool o] 69)) (· < x3.heap.size) u3 (a ++ writeL (m, n, o) ++ c) := HU4.out.keep (by decide) (fun k hk hh => Below.heap_alloc _ _ _ hk) (fun k hk hh => hh)
      refine (shortest_any (B := x3.heap.size) (by simp; omega) hU5 (a.length : Int) (by omega)).mono ?_
      rintro e x5 ⟨rfl, hb5⟩
      rw [shortB_write _ HR.out HN.out]
      have HB5 := hid ((HB4.out.alloc (by omega) _).trans (hb5.mono (by simp; omega)))
      clear hb5 d0 d1 d2 hU5
      go_wp2_with fail
      go_meet
      exact HB5.out
end Go.Proofs.Ytpkgdlhiblgdnaa

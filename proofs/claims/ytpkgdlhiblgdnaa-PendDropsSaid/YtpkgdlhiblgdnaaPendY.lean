/- Words and contracts on the way to the laws of this seat: each theorem says what a function of the program computes and which memory it leaves as it was; its conditions are its hypotheses. -/
import Derived.Test.YtpkgdlhiblgdnaaPendX
open Go.RowKit Go.Pl
namespace Go.Proofs.Ytpkgdlhiblgdnaa
set_option maxHeartbeats 1000000
def readyP (done : Int) (x : Ent) : Bool := decide (x.2.2 ≤ done)
def dropP (who : Int) (x : Ent) : Bool := x.1 == who
theorem ready1 (a b done : Int) (v : Value) (p : Nat) (w : World) (hc : w.cell? ⟨p, 0, none⟩ = some (.int .i64 done)) (hp : p < w.heap.size) (hv : v.oneCell' = true) :
    Calls Try.prog 45 #[.agg #[.int .i64 a, v, .int .i64 b], .pointer (some ⟨p, 0, none⟩)] w fun e w' => e = .returned (.bool (decide (b ≤ done))) ∧ Below w.heap.size w w' := by
  go_enter Try.func45, Try.ntmps45
  go_wp2
  go_ret
  exact ⟨rfl, (Below.refl _ _).alloc (Nat.le_refl _) _⟩
theorem drop1 (a b done : Int) (v : Value) (p : Nat) (w : World) (hc : w.cell? ⟨p, 0, none⟩ = some (.int .i64 done)) (hp : p < w.heap.size) (hv : v.oneCell' = true) :
    Calls Try.prog 46 #[.agg #[.int .i64 a, v, .int .i64 b], .pointer (some ⟨p, 0, none⟩)] w fun e w' => e = .returned (.bool (a == done)) ∧ Below w.heap.size w w' := by
  go_enter Try.func46, Try.ntmps46
  go_wp2
  go_ret
  exact ⟨rfl, (Below.refl _ _).alloc (Nat.le_refl _) _⟩

theorem RE.cells {w : World} {S : Nat → Prop} {cs : List Value} {x : Ent} (h : RE.ok w S cs x) : ∃ A c, cs = [.int .i64 x.1, .slice A x.2.1.length c, .int .i64 x.2.2] := by
  obtain ⟨c1, c2, rfl, ⟨rfl, _⟩, c3, c4, rfl, ⟨v, rfl, A, c, rfl, _⟩, ⟨rfl, _⟩⟩ := h
  exact ⟨A, c, rfl⟩

theorem RE.data {w : World} {S : Nat → Prop} {a b : Int} {v : Value} {x : Ent} (h : RE.ok w S [.int .i64 a, v, .int .i64 b] x) : SlB w S v x.2.1 := by
  obtain ⟨c1, c2, e1, ⟨rfl, _⟩, c3, c4, rfl, ⟨u, rfl, hu⟩, ⟨rfl, _⟩⟩ := h
  simp at e1
  rw [e1.2.1]; exact hu
/-- the cells of entry k of an owned list -/
theorem RE.at_ {w : World} {B : Nat} {D : Nat → Prop} {v : Value} {l : List Ent} (h : Own RE w B 29 D v l) (k : Nat) (hk : k < l.length) :
    ∃ g c A' c', v = .slice (some ⟨g, 0, none⟩) l.length c ∧ g < w.heap.size ∧ w.cell? ⟨g, k * 3, none⟩ = some (.int .i64 l[k].1) ∧ w.cell? ⟨g, k * 3 + 1, none⟩ = some (.slice A' l[k].2.1.length c') ∧
      w.cell? ⟨g, k * 3 + 2, none⟩ = some (.int .i64 l[k].2.2) ∧ RE.ok w D [.int .i64 l[k].1, .slice A' l[k].2.1.length c', .int .i64 l[k].2.2] l[k] := by
  obtain ⟨g, c, ec, hv, _, hg, hok, hl, hc⟩ := h.at_ k hk
  obtain ⟨A', c', rfl⟩ := RE.cells hok
  exact ⟨g, c, A', c', hv, hg, hc 0 (by decide), hc 1 (by decide), hc 2 (by decide), hok⟩

theorem part_fin {w wr : World} {B q : Nat} {v v' r : Value} {l l1 l2 : List Ent} {D : Nat → Prop} (h : QAt w B q v D l) (hB : B ≤ w.heap.size) (hb : Below w.heap.size w wr)
    (hlf : Own RE wr w.heap.size 29 D v' l2) (hr : Own RE wr w.heap.size 29 D r l1) (hne : ∀ g, r.ownBlock = some g → v'.ownBlock ≠ some g) :
    QAt (wr.setCell ⟨q, 1, none⟩ v') B q v' D l2 ∧ Own RE (wr.setCell ⟨q, 1, none⟩ v') w.heap.size 29 D r l1 ∧ Chg (fun k => k = q) w (wr.setCell ⟨q, 1, none⟩ v') ∧
      (∀ g, v'.ownBlock = some g → w.heap.size ≤ g ∧ r.ownBlock ≠ some g) := by
  have hDq := h.Dq
  have hDs := h.Dlt
  have hq := h.blk.lt
  have hz := hb.size
  have hk : ∀ (u : Value) (l0 : List Ent), Own RE wr w.heap.size 29 D u l0 → Own RE (wr.setCell ⟨q, 1, none⟩ v') w.heap.size 29 D u l0 := fun u l0 hu => hu.keep fun k hk => Below.heap_setCell _ _ _ _ (by
    rintro rfl
    rcases hk with hk | hk
    · exact hDq hk
    · have := (hu.block _ hk).1; omega)
  have hD' : ∀ k, D k → k < (wr.setCell ⟨q, 1, none⟩ v').heap.size := fun k hk => by have := hDs k hk; simp [World.setCell]; omega
  refine ⟨⟨by simpa using (h.blk.below hb hq).set_ 1 v', h.Bq, (hk _ _ hlf).lower hB, hDq, hD', fun e => by have := (hlf.block q e).1; omega⟩, hk _ _ hr, (Chg.of_below hb (fun k => k = q)).setCell (p := ⟨q, 1, none⟩) (.inl rfl) _, fun g hg => ⟨(hlf.block g hg).1, fun e => hne g e hg⟩⟩

theorem part_any (fid : FuncId) (hfid : fid = 45 ∨ fid = 46) (p : Nat) (is : Ent → Bool) {w : World} {B q : Nat} {v : Value} {D : Nat → Prop} {l : List Ent} (h : QAt w B q v D l) (hB : B ≤ w.heap.size) (hl : l.length ≤ 64)
    (hcl : ∀ (x : Ent) (A : Option Addr) (c : Nat) (w1 : World), Below w.heap.size w w1 → Calls Try.prog fid #[.agg #[.int .i64 x.1, .slice A x.2.1.length c, .int .i64 x.2.2], .pointer (some ⟨p, 0, none⟩)] w1 fun e w' => e = .returned (.bool (is x)) ∧ Below w1.heap.size w1 w') :
    Calls Try.prog 44 #[.pointer (some ⟨q, 0, none⟩), .func (.func fid) #[] #[.pointer (some ⟨p, 0, none⟩)]] w fun e w' =>
      ∃ v' r, e = .returned r ∧ QAt w' B q v' D (l.filter (fun x => !is x)) ∧ Own RE w' w.heap.size 29 D r (l.filter is) ∧ Chg (fun k => k = q) w w' ∧ (∀ g, v'.ownBlock = some g → w.heap.size ≤ g ∧ r.ownBlock ≠ some g) := by
  have HC := hid hcl
  clear hcl
  have ho := h.own
  have hDq := h.Dq
  have hDs := h.Dlt
  obtain ⟨A', c', rfl⟩ := ho.form
  have c0 := h.blk.cell 0
  have c1 := h.blk.cell 1
  have hq := h.blk.lt
  simp at c0 c1
  rcases hfid with rfl | rfl
  all_goals
  go_enter Try.func44, Try.ntmps44
  go_wp2_with fail
  have HH := hid h
  have HO := hid ho
  have HD := hid hDs
  clear h ho hDs
  go_loopw [5, 6, 14] (fun r lf i wr => ∃ k : Nat, k ≤ l.length ∧ i = .int .i64 k ∧ Below w.heap.size w wr ∧ Own RE wr w.heap.size 29 D r ((l.take k).filter is) ∧ Own RE wr w.heap.size 29 D lf ((l.take k).filter (fun x => !is x)) ∧ (∀ g, r.ownBlock = some g → lf.ownBlock ≠ some g))
    (fun _ _ i _ => l.length - (intOf i).toNat)
  case atStart => exact ⟨0, Nat.zero_le _, rfl, Below.refl _ _, Own.nil _ _ _ _ _, Own.nil _ _ _ _ _, fun g hg => by simp [Value.ownBlock] at hg⟩
  case round =>
    obtain ⟨k, hk, rfl, hb, hr, hlf, hne⟩ := hrel
    by_cases hlt : k < l.length
    · obtain ⟨g, c2, A1, c3, hv, hg, q0, q1, q2, hok⟩ := RE.at_ HO.out k hlt
      injection hv with hv1 hv2 hv3
      subst hv1 hv3
      obtain ⟨hc, hf⟩ := bcell hb
      have hz := hb.size
      have HR := hid hr
      have HL := hid hlf
      have HN := hid hne
      have HK := hid hok
      clear hr hlf hne hok
      go_wp2_with fail
      refine (HC.out l[k] A1 c3 _ ?_).mono ?_
      · exact hb.alloc hz _
      rintro e w1 ⟨rfl, hb1⟩
      clear hc hf
      simp only [World.size_alloc] at hb1
      have hz1 := hb1.size
      simp only [World.size_alloc] at hz1
      have hbx := (Blk.new wr 29 #[.int .i64 l[k].1, .slice A1 l[k].2.1.length c3, .int .i64 l[k].2.2]).below hb1 (by omega)
      have b0 := hbx.cell 0
      have b1 := hbx.cell 1
      have b2 := hbx.cell 2
      simp at b0 b1 b2
      have hbw : Below w.heap.size w w1 := (hb.alloc hz _).trans (hb1.mono (by omega))
      have hkp : ∀ j, j < wr.heap.size → w1.heap[j]? = wr.heap[j]? := fun j hj => (hb1.block j (by omega)).trans (Below.heap_alloc _ _ _ hj)
      have hr1 : Own RE w1 w.heap.size 29 D u5 _ := HR.out.keep fun j hj => hkp j (by
        rcases hj with hj | hj
        · have := Hid.out HD j hj; omega
        · exact (HR.out.block j hj).2)
      have hl1 : Own RE w1 w.heap.size 29 D u6 _ := HL.out.keep fun j hj => hkp j (by
        rcases hj with hj | hj
        · have := Hid.out HD j hj; omega
        · exact (HL.out.block j hj).2)
      have hok1 : RE.ok w1 D (#[.int .i64 l[k].1, .slice A1 l[k].2.1.length c3, .int .i64 l[k].2.2] : Array Value).toList l[k] := RE.frame (fun j hj => hbw.block j (HD.out j hj)) HK.out
      have hD1 : ∀ j, D j → j < w1.heap.size := fun j hj => by have := Hid.out HD j hj; omega
      have hlr : ((l.take k).filter is).length ≤ 64 := by
        have := List.length_filter_le is (l.take k)
        have := List.length_take_le k l
        omega
      have hll : ((l.take k).filter (fun x => !is x)).length ≤ 64 := by
        have := List.length_filter_le (fun x => !is x) (l.take k)
        have := List.length_take_le k l
        omega
      have HR1 := hid hr1
      have HL1 := hid hl1
      have HK1 := hid hok1
      have HD1 := hid hD1
      have HKP := hid hkp
      have HRb := hid HR.out.block
      have HLb := hid HL.out.block
      have htk : l.take (k + 1) = l.take k ++ [l[k]] := by rw [List.take_succ_eq_append_getElem hlt]
      have HT := hid htk
      clear hr1 hl1 hok1 hD1 hkp htk HR HL HK
      by_cases his : is l[k] = true
      · go_wp2_with (at_builtin; refine wpList_app1 (w := w1) (v := u5) rfl _ _ _ rfl elE rfl HR1.out HD1.out rfl HK1.out rfl ⟨rfl, rfl, rfl⟩ (by omega) (by decide) (by omega) ?_; intro v2 w2 hap)
        go_roundw
        case rel =>
          obtain ⟨k1, k2⟩ := hap.keep_own HL1.out HD1.out fun g hg => ⟨HN.out g hg, fun hh => by have := (HRb.out g hg).1; have := Hid.out HD g hh; omega⟩
          exact ⟨k + 1, by omega, by go_num, hap.below hbw (by omega) (fun g hg => (HRb.out g hg).1), by rw [HT.out, List.filter_append]; simpa [his] using hap.own, by rw [HT.out, List.filter_append]; simpa [his] using k1, fun g hg => (k2 g hg).1⟩
        case measure => simp [intOf]; omega
      · go_wp2_with (at_builtin; refine wpList_app1 (w := w1) (v := u6) rfl _ _ _ rfl elE rfl HL1.out HD1.out rfl HK1.out rfl ⟨rfl, rfl, rfl⟩ (by omega) (by decide) (by omega) ?_; intro v2 w2 hap)
        go_roundw
        case rel =>
          obtain ⟨k1, k2⟩ := hap.keep_own HR1.out HD1.out fun g hg => ⟨fun e => HN.out g e hg, fun hh => by have := (HLb.out g hg).1; have := Hid.out HD g hh; omega⟩
          exact ⟨k + 1, by omega, by go_num, hap.below hbw (by omega) (fun g hg => (HLb.out g hg).1), by rw [HT.out, List.filter_append]; simpa [his] using k1, by rw [HT.out, List.filter_append]; simpa [his] using hap.own, fun g hg e => (k2 g e).1 hg⟩
        case measure => simp [intOf]; omega
    · obtain rfl : k = l.length := by omega
      rw [List.take_length] at hr hlf
      obtain ⟨A1, c2, rfl⟩ := hlf.form
      obtain ⟨hc, hf⟩ := bcell hb
      have f1 := HH.out.blk.frozen 1
      have HR := hid hr
      have HL := hid hlf
      have HN := hid hne
      clear hr hlf hne
      have hz := hb.size
      go_wp2_with fail
      go_ret
      exact ⟨_, u5, rfl, part_fin HH.out hB hb HL.out HR.out HN.out⟩

/-- a queue's Ready -/
theorem ready_any {w : World} {B q : Nat} {v : Value} {D : Nat → Prop} {l : List Ent} (h : QAt w B q v D l) (hB : B ≤ w.heap.size) (hl : l.length ≤ 64) (done : Int) :
    Calls Try.prog 16 #[.pointer (some ⟨q, 0, none⟩), .int .i64 done] w fun e w' =>
      ∃ v' r, e = .returned r ∧ QAt w' B q v' D (l.filter (fun x => !readyP done x)) ∧ Own RE w' w.heap.size 29 D r (l.filter (readyP done)) ∧ Chg (fun k => k = q) w w' ∧ (∀ g, v'.ownBlock = some g → w.heap.size ≤ g ∧ r.ownBlock ≠ some g) := by
  have hq := h.blk.lt
  have hqa : QAt (w.alloc (.cells #[.int .i64 done] 3)) B q v D l := h.chg (fun k hk => Below.heap_alloc _ _ _ hk) (by simp)
  have HQ := hid hqa
  clear h hqa
  go_enter Try.func16, Try.ntmps16
  go_wp2_with fail
  refine (part_any 45 (.inl rfl) w.heap.size (readyP done) HQ.out (by simp; omega) hl ?_).mono ?_
  · intro x A c w1 hb
    refine ready1 _ _ _ _ _ _ ?_ (by have := hb.size; simp at this; omega) rfl
    rw [hb.cell (by simp)]
    simp
  · rintro e w' ⟨v', r, rfl, h1, h2, h5, h6⟩
    go_wp2
    go_ret
    simp only [World.size_alloc] at h2 h6
    exact ⟨_, _, rfl, h1, h2.lower (by omega), (Chg.alloc (Chg.refl _ w) _).trans h5 (fun _ _ h => h), fun g hg => ⟨by have := (h6 g hg).1; omega, (h6 g hg).2⟩⟩
theorem drop_any {w : World} {B q : Nat} {v : Value} {D : Nat → Prop} {l : List Ent} (h : QAt w B q v D l) (hB : B ≤ w.heap.size) (hl : l.length ≤ 64) (who : Int) :
    Calls Try.prog 19 #[.pointer (some ⟨q, 0, none⟩), .int .i64 who] w fun e w' =>
      ∃ v', e = .returned (.int .i64 (l.filter (dropP who)).length) ∧ QAt w' B q v' D (l.filter (fun x => !dropP who x)) ∧ Chg (fun k => k = q) w w' ∧ (∀ g, v'.ownBlock = some g → w.heap.size ≤ g) := by
  have hq := h.blk.lt
  have hqa : QAt (w.alloc (.cells #[.int .i64 who] 3)) B q v D l := h.chg (fun k hk => Below.heap_alloc _ _ _ hk) (by simp)
  have HQ := hid hqa
  clear h hqa
  go_enter Try.func19, Try.ntmps19
  go_wp2_with fail
  refine (part_any 46 (.inr rfl) w.heap.size (dropP who) HQ.out (by simp; omega) hl ?_).mono ?_
  · intro x A c w1 hb
    refine drop1 _ _ _ _ _ _ ?_ (by have := hb.size; simp at this; omega) rfl
    rw [hb.cell (by simp)]
    simp
  · rintro e w' ⟨v', r, rfl, h1, h2, h5, h6⟩
    obtain ⟨A, c, rfl⟩ := h2.form
    go_wp2
    go_ret
    simp only [World.size_alloc] at h2 h6
    exact ⟨_, rfl, h1, (Chg.alloc (Chg.refl _ w) _).trans h5 (fun _ _ h => h), fun g hg => by have := (h6 g hg).1; omega⟩
/-- of one that is nil, or that no call made -/
theorem ready_nil (done : Int) (w : World) : Calls Try.prog 16 #[.pointer none, .int .i64 done] w fun e w' => e = .returned (.slice none 0 0) ∧ Below w.heap.size w w' := by
  go_enter Try.func16, Try.ntmps16
  go_wp2
  go_ret
  exact ⟨rfl, (Below.refl _ _).alloc (Nat.le_refl _) _⟩
theorem drop_nil (who : Int) (w : World) : Calls Try.prog 19 #[.pointer none, .int .i64 who] w fun e w' => e = .returned (.int .i64 0) ∧ Below w.heap.size w w' := by
  go_enter Try.func19, Try.ntmps19
  go_wp2
  go_ret
  exact ⟨rfl, (Below.refl _ _).alloc (Nat.le_refl _) _⟩
theorem clear_nil (w : World) : Calls Try.prog 23 #[.pointer none] w fun e w' => e = .returned (.tuple #[]) ∧ w = w' := by
  go_enter Try.func23, Try.ntmps23
  go_wp2
  go_end0
  exact ⟨rfl, rfl⟩
theorem clear_any {w : World} {B q : Nat} {v : Value} {D : Nat → Prop} {l : List Ent} (h : QAt w B q v D l) :
    Calls Try.prog 23 #[.pointer (some ⟨q, 0, none⟩)] w fun e w' => e = .returned (.tuple #[]) ∧ QAt w' B q (.slice none 0 0) (fun _ => False) [] ∧ Chg (fun k => k = q) w w' := by
  have c1 := h.blk.cell 1
  have f1 := h.blk.frozen 1
  have hb := hid h
  simp at c1
  clear h
  go_enter Try.func23, Try.ntmps23
  go_wp2
  go_end0
  exact ⟨rfl, ⟨by simpa using hb.out.blk.set_ 1 _, hb.out.Bq, Own.nil _ _ _ _ _, fun h => h, fun _ h => h.elim, by simp [Value.ownBlock]⟩, (Chg.refl (fun k => k = q) w).setCell (p := ⟨q, 1, none⟩) (.inl rfl) _⟩
/-- a queue that no call made -/
theorem add_nil (v : Value) (w : World) (hv : ∃ a b A n c, v = .agg #[.int .i64 a, .slice A n c, .int .i64 b]) : Calls Try.prog 15 #[.pointer none, v] w fun e w' => e = .returned (.int .i64 6) ∧ Below w.heap.size w w' := by
  obtain ⟨a, b, A, n, c, rfl⟩ := hv
  go_enter Try.func15, Try.ntmps15
  go_wp2
  go_ret
  exact ⟨rfl, (Below.refl _ _).alloc (Nat.le_refl _) _⟩
theorem add_zero (v : Value) (q : Nat) (w : World) (hc : w.cell? ⟨q, 0, none⟩ = some (.bool false)) (hq : q < w.heap.size) (hv : ∃ a b A n c, v = .agg #[.int .i64 a, .slice A n c, .int .i64 b]) : Calls Try.prog 15 #[.pointer (some ⟨q, 0, none⟩), v] w fun e w' => e = .returned (.int .i64 6) ∧ Below w.heap.size w w' := by
  obtain ⟨a, b, A, n, c, rfl⟩ := hv
  go_enter Try.func15, Try.ntmps15
  go_wp2
  go_ret
  exact ⟨rfl, (Below.refl _ _).alloc (Nat.le_refl _) _⟩
end Go.Proofs.Ytpkgdlhiblgdnaa

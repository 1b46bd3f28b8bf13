/- Words and contracts on the way to the laws of this seat: each theorem says what a function of the program computes and which memory it leaves as it was; its conditions are its hypotheses. -/
import Derived.Test.YtpkgdlhiblgdnaaPend
open Go.RowKit Go.Pl
namespace Go.Proofs.Ytpkgdlhiblgdnaa
set_option maxHeartbeats 1000000
/-- what the store of the grown list into the queue's block leaves -/
theorem add_fin {w w2 w3 : World} {B q : Nat} {v v3 : Value} {D : Nat → Prop} {l l' : List Ent} {S' : Nat → Prop} (h : QAt w B q v D l) (hb2 : Below w.heap.size w w2)
    (hqb : Blk w2 q 49 #[.bool true, v]) (hS : ∀ k, S' k → k < w2.heap.size) (hSq : ¬ S' q) (hap : App RE B 29 S' w2 v l' v3 w3) :
    QAt (w3.setCell ⟨q, 1, none⟩ v3) B q v3 S' l' ∧ Chg (Mq q v) w (w3.setCell ⟨q, 1, none⟩ v3) ∧ (∀ g, v3.ownBlock = some g → v.ownBlock = some g ∨ w.heap.size ≤ g) := by
  have hq := h.blk.lt
  have hz2 := hb2.size
  have hz3 := hap.grown.size
  have hown : ∀ g, v3.ownBlock = some g → v.ownBlock = some g ∨ w.heap.size ≤ g := fun g hg => (hap.at_ g hg).imp id (fun h => by omega)
  have hne : v3.ownBlock ≠ some q := fun e => by
    rcases hown q e with h1 | h1
    · exact h.apart h1
    · omega
  have hq3 : Blk w3 q 49 #[.bool true, v] := (hap.grown.block q hqb.lt (fun e => h.apart e.symm)).trans hqb
  refine ⟨⟨by simpa using hq3.set_ 1 v3, h.Bq, hap.own.keep fun k hk => Below.heap_setCell _ _ _ _ ?_, hSq, fun k hk => by have := hS k hk; simp [World.setCell]; omega, hne⟩, ?_, hown⟩
  · rintro rfl
    rcases hk with hk | hk
    · exact hSq hk
    · exact hne hk
  · refine (((Chg.of_below hb2 (Mq q v)).trans (Chg.of_grownBy hap.grown) fun k hk hh => ?_)).setCell (p := ⟨q, 1, none⟩) (.inl (.inl rfl)) _
    exact .inr hh.symm
theorem add_ok {w : World} {B q : Nat} {v : Value} {D : Nat → Prop} {l : List Ent} (h : QAt w B q v D l) (hB : B ≤ w.heap.size) (x : Ent) (A : Option Addr) (c : Nat) (S : Nat → Prop) (hs : SlB w S (.slice A x.2.1.length c) x.2.1) (hx : badE x = false) (hl : l.length < 64) :
    Calls Try.prog 15 #[.pointer (some ⟨q, 0, none⟩), .agg #[.int .i64 x.1, .slice A x.2.1.length c, .int .i64 x.2.2]] w fun e w' =>
      e = .returned (.int .i64 0) ∧ ∃ v' D', QAt w' B q v' D' (l ++ [x]) ∧ Chg (Mq q v) w w' ∧ (∀ g, v'.ownBlock = some g → v.ownBlock = some g ∨ w.heap.size ≤ g) ∧ (∀ k, D' k → D k ∨ w.heap.size ≤ k) := by
  obtain ⟨tt, data, need⟩ := x
  have c0 := h.blk.cell 0
  have c1 := h.blk.cell 1
  have f1 := h.blk.frozen 1
  have ho := h.own
  have hDq := h.Dq
  have hDs := h.Dlt
  obtain ⟨A', c', rfl⟩ := ho.form
  simp at c0 c1
  have hq := h.blk.lt
  simp only [badE, decide_eq_false_iff_not] at hx
  dsimp only at hx hs ⊢
  have h1 : 1 ≤ tt := by omega
  have h2 : tt ≤ 1099511627776 := by omega
  have h3 : 0 ≤ need := by omega
  have h4 : need ≤ 1099511627776 := by omega
  have h5 : data.length ≤ 1002 := by omega
  clear hx
  go_enter Try.func15, Try.ntmps15
  go_wp2_with fail
  have hs' : SlB (w.alloc (Obj.cells #[Value.int IntKind.i64 tt, Value.slice A data.length c, Value.int IntKind.i64 need] 29)) (fun k => S k ∧ k < w.heap.size) (.slice A data.length c) data := hs.keep (by decide) (fun k hk _ => Below.heap_alloc w _ k hk) (fun k hk hS => ⟨hS, hk⟩)
  refine (clone_any _ data _ _ hs' (by omega)).mono ?_
  rintro e w1 ⟨v1, rfl, hown1, hb1⟩
  simp only [World.size_alloc] at hb1 hown1
  obtain ⟨A1, cc1, rfl⟩ := hown1.form
  have hz : w.heap.size + 1 ≤ w1.heap.size := by have := hb1.size; simpa using this
  obtain ⟨hc, hf⟩ := bcell hb1
  go_wp2_with fail
  -- the world behind the copy is stored into the box
  obtain ⟨w2, hw2⟩ : ∃ w2, w2 = w1.setCell ⟨w.heap.size, 1, none⟩ (.slice A1 data.length cc1) := ⟨_, rfl⟩
  have hbox : Blk w2 w.heap.size 29 #[.int .i64 tt, .slice A1 data.length cc1, .int .i64 need] := by
    have := ((Blk.new w 29 #[.int .i64 tt, .slice A data.length c, .int .i64 need]).below hb1 (by omega)).set_ 1 (.slice A1 data.length cc1)
    rw [hw2]; simpa using this
  have hqb : Blk w2 q 49 #[.bool true, .slice A' l.length c'] := by
    have := ((h.blk.alloc (.cells #[.int .i64 tt, .slice A data.length c, .int .i64 need] 29)).below hb1 (by omega)).far (p := ⟨w.heap.size, 1, none⟩) (by simp; omega) (.slice A1 data.length cc1)
    rw [hw2]; exact this
  have hb2 : Below w.heap.size w w2 := by
    rw [hw2]
    exact (((Below.refl _ w).alloc (Nat.le_refl _) _).trans (hb1.mono (by omega))).setCell (by simp) _
  have hold2 : ∀ k, k < w.heap.size → w2.heap[k]? = w.heap[k]? := fun k hk => by
    rw [hw2, Below.heap_setCell _ _ _ _ (by simp; omega), hb1.block k (by omega), Below.heap_alloc _ _ _ hk]
  have hz2 : w2.heap.size = w1.heap.size := by rw [hw2]; simp [World.setCell]
  have hown2 : Own Rep.byte w2 (w.heap.size + 1) 5 (fun _ => False) (.slice A1 data.length cc1) data := hown1.keep fun k hk => by
    rcases hk with hk | hk
    · exact hk.elim
    · have := (hown1.block k hk).1
      rw [hw2, Below.heap_setCell _ _ _ _ (by simp; omega)]
  rw [← hw2]
  clear hw2 hc hf hown1 hb1 hs'
  have e0 := hbox.cell 0
  have e1 := hbox.cell 1
  have e2 := hbox.cell 2
  have g0 := hqb.cell 0
  have g1 := hqb.cell 1
  have g2 := hqb.frozen 1
  simp at e0 e1 e2 g0 g1
  clear c0 c1 f1
  have hq2 := hqb.lt
  have hz3 : w.heap.size + 1 ≤ w2.heap.size := by omega
  have hOn := hown2.block
  have hO : Own RE w2 B 29 (fun k => D k ∨ (Value.slice A1 data.length cc1).ownBlock = some k) (.slice A' l.length c') l := by
    refine (ho.keep fun k hk => hold2 k ?_).mono (fun k hk => .inl hk) fun g hg hh => ?_
    · rcases hk with hk | hk
      · exact hDs k hk
      · exact (ho.block k hk).2
    · rcases hh with hh | hh
      · exact ho.apart g hg hh
      · have := (hOn g hh).1
        have := (ho.block g hg).2
        omega
  have hS' : ∀ k, (D k ∨ (Value.slice A1 data.length cc1).ownBlock = some k) → k < w2.heap.size := fun k hk => by
    rcases hk with hk | hk
    · have := hDs k hk; omega
    · exact (hOn k hk).2
  have hrun : RE.ok w2 (fun k => D k ∨ (Value.slice A1 data.length cc1).ownBlock = some k) (#[.int .i64 tt, .slice A1 data.length cc1, .int .i64 need] : Array Value).toList (tt, data, need) :=
    ⟨[.int .i64 tt], [.slice A1 data.length cc1, .int .i64 need], rfl, ⟨rfl, by dsimp only; omega, by dsimp only; omega⟩, [.slice A1 data.length cc1], [.int .i64 need], rfl,
      ⟨_, rfl, hown2.sl (fun _ h => h.elim) (fun g hg => .inr hg)⟩, ⟨rfl, by dsimp only; omega, by dsimp only; omega⟩⟩
  have hqw2 := hqb.lt
  have HQ := hid (fun (w3 : World) (hg : World.grownBy w2 w3 (Value.slice A' l.length c').ownBlock) => show Blk w3 q 49 #[.bool true, .slice A' l.length c'] from (hg.block q hqb.lt (fun e => h.apart e.symm)).trans hqb)
  have HO := hid hO
  have HS := hid hS'
  have HR := hid hrun
  have HZ := hid hz2
  have HOld := hid hold2
  have HDD := hid (fun k (hk : D k ∨ (Value.slice A1 data.length cc1).ownBlock = some k) => show D k ∨ w.heap.size ≤ k from hk.imp id fun e => by have := (hOn k e).1; omega)
  have HF := hid (fun (v3 : Value) (w3 : World) => add_fin (v3 := v3) (w3 := w3) (l' := l ++ [(tt, data, need)]) h hb2 hqb hS' (fun hh => by
    rcases hh with hh | hh
    · exact hDq hh
    · have := (hOn q hh).1
      omega))
  clear hO hrun hS' hOn hz2 hold2
  go_region_law (with_reducible refine step_app1 (w := w2) (v := .slice A' l.length c') rfl _ _ _ rfl elE rfl HO.out HS.out rfl HR.out rfl ⟨rfl, rfl, rfl⟩ (by omega) (by decide) (by omega) ?_; intro v3 w3 hap; obtain ⟨A3, c3, rfl⟩ := hap.form1; have m1 := (HQ.out _ hap.grown).cell 1; have m2 := (HQ.out _ hap.grown).frozen 1; simp at m1)
  all_goals
    go_wp2
    go_ret
    obtain ⟨k1, k2, k3⟩ := HF.out _ _ hap
    exact ⟨rfl, _, _, k1, k2, k3, HDD.out⟩
/-- the same, the arguments as they stand at the call -/
theorem add_ok' {w : World} {B q : Nat} {v : Value} {D : Nat → Prop} {l : List Ent} (h : QAt w B q v D l) (hB : B ≤ w.heap.size) (x : Ent) {a b : Int} {A : Option Addr} {n c : Nat} (ha : a = x.1) (hn : n = x.2.1.length) (hb : b = x.2.2)
    (S : Nat → Prop) (hs : SlB w S (.slice A n c) x.2.1) (hx : badE x = false) (hl : l.length < 64) :
    Calls Try.prog 15 #[.pointer (some ⟨q, 0, none⟩), .agg #[.int .i64 a, .slice A n c, .int .i64 b]] w fun e w' =>
      e = .returned (.int .i64 0) ∧ ∃ v' D', QAt w' B q v' D' (l ++ [x]) ∧ Chg (Mq q v) w w' ∧ (∀ g, v'.ownBlock = some g → v.ownBlock = some g ∨ w.heap.size ≤ g) ∧ (∀ k, D' k → D k ∨ w.heap.size ≤ k) := by
  subst ha hn hb
  exact add_ok h hB x A c S hs hx hl
end Go.Proofs.Ytpkgdlhiblgdnaa

/- Package eid: is a text plain? -/
import Derived.Test.YthbmdkhlialmeaaDoorPk
import Derived.Test.YthbmdkhlialmeaaDoorAv19
import Derived.Laws.RangeAny
import Derived.LoopTactic
open Go.RowKit Go.Pl Go.Av
namespace Go.Proofs.YthbmdkhlialmeaaDoor
set_option linter.unusedVariables false
set_option linter.unusedSimpArgs false
set_option maxHeartbeats 1000000
/-- may a byte be, beside m? -/
def okB (m : Nat) (c : UInt8) : Bool := (97 ≤ c.toNat && c.toNat ≤ 122) || (48 ≤ c.toNat && c.toNat ≤ 57) || c.toNat == 45 || c.toNat == m
theorem okB_true {m : Nat} {c : UInt8} : okB m c = true ↔ (97 ≤ (c.toNat : Int) ∧ (c.toNat : Int) ≤ 122) ∨ (48 ≤ (c.toNat : Int) ∧ (c.toNat : Int) ≤ 57) ∨ (c.toNat : Int) = 45 ∨ (c.toNat : Int) = (m : Int) := by
  simp only [okB, Bool.or_eq_true, Bool.and_eq_true, decide_eq_true_eq, beq_iff_eq]
  omega
theorem plain_walk (s : ByteArray) (m : Nat) (hm : m < 128) (w : World) (B : Bool) (hB : s.data.toList.all (okB m) = B) :
    Calls Tryd.prog 23 #[.string s, .int .i32 (m : Int)] w fun e w' => e = .returned (.bool B) ∧ Below w.heap.size w w' := by
  have hT : (∀ j, j < s.size → ∀ c, s.data.toList[j]? = some c → okB m c = true) → B = true := fun h => by
    rw [← hB, List.all_eq_true]
    intro x hx
    obtain ⟨j, hj⟩ := List.getElem?_of_mem hx
    have hlt := (List.getElem?_eq_some_iff.1 hj).1
    exact h j (by simpa using hlt) x hj
  have hF : ∀ (j : Nat) (c : UInt8), s.data.toList[j]? = some c → ¬ okB m c = true → B = false := fun j c hj hc => by
    rw [← hB, List.all_eq_false]
    exact ⟨c, List.mem_of_getElem? hj, hc⟩
  clear hB
  go_enter Tryd.func23, Tryd.ntmps23
  go_wp2
  go_loopw [] (fun w' => ∃ pos, w' = w.iter s pos ∧ pos ≤ s.size ∧ Hid (∀ j, j < pos → ∀ c, s.data.toList[j]? = some c → okB m c = true)) (fun w' => s.size - w'.iterPos w.heap.size)
  case atStart => exact ⟨0, rfl, Nat.zero_le _, fun j hj => by omega⟩
  case round =>
    obtain ⟨pos, rfl, hps, hall⟩ := hrel
    have hb : ∀ p, Below w.heap.size w (w.iter s p) := fun p => (Below.refl _ _).alloc (Nat.le_refl _) _
    by_cases hp : pos < s.size
    · have hget : s.data.toList[pos]? = some (s[pos]'hp) := by
        have hlt : pos < s.data.toList.length := by simpa using hp
        rw [List.getElem?_eq_getElem hlt]; rfl
      by_cases ha : (s[pos]'hp).toNat < 128
      · obtain ⟨c, hc⟩ : ∃ c, c = s[pos]'hp := ⟨_, rfl⟩
        have hnx : ∀ ty, (Instr.next (.pointer (some ⟨w.heap.size, 0, none⟩)) true ty).run Tryd.prog (w.iter s pos) = .ok (.tuple #[.bool true, .int .i64 pos, .int .i32 (c.toNat : Int)]) (w.iter s (pos + 1)) := fun ty => by
          rw [hc]; exact run_next_ascii w s pos ty hp ha
        rw [← hc] at hget ha
        clear hc
        have hbad := hid (hF pos c hget)
        have hstep : Hid (okB m c = true → ∀ j, j < pos + 1 → ∀ c, s.data.toList[j]? = some c → okB m c = true) := fun hc j hj c' hj' => by
          rcases Nat.lt_or_ge j pos with h | h
          · exact hall j h c' hj'
          · have : j = pos := by omega
            subst this
            rw [hget] at hj'
            injection hj' with hj'
            subst hj'
            exact hc
        clear hT hF hget
        go_wp2
        all_goals first
          | (go_ret
             have hBf := hbad (fun h => by rw [okB_true] at h; clear hbad hstep hnx; (try simp only [bne_iff_ne, ne_eq, bne_eq_false_iff_eq] at *); omega)
             subst hBf
             exact ⟨rfl, hb _⟩)
          | (refine ⟨⟨pos + 1, rfl, by omega, hstep ?_⟩, ?_⟩
             · rw [okB_true]
               clear hbad hstep hnx
               try simp only [bne_iff_ne, ne_eq, bne_eq_false_iff_eq] at *
               omega
             · simp; omega)
      · obtain ⟨hd1, hd2⟩ := decode_high s pos hp (by omega)
        have hle := decode_le s pos
        have hnx : ∀ ty, (Instr.next (.pointer (some ⟨w.heap.size, 0, none⟩)) true ty).run Tryd.prog (w.iter s pos) = _ := fun ty => run_next_any w s pos ty hp
        have hBf := hF pos _ hget (fun h => by rw [okB_true] at h; omega)
        clear hT hF hget
        subst hBf
        generalize Utf8.decode s pos = dd at hd1 hd2 hle hnx
        have n1 : ¬ ((dd.1 : Int) < 97) := by omega
        have n2 : ((dd.1 : Int) > 122) := by omega
        have n3 : ¬ ((dd.1 : Int) < 48) := by omega
        have n4 : ((dd.1 : Int) > 57) := by omega
        have n5 : ¬ ((dd.1 : Int) = 45) := by omega
        have n6 : ¬ ((dd.1 : Int) = (m : Int)) := by omega
        go_wp2
        all_goals first
          | (go_ret; exact ⟨rfl, hb _⟩)
          | (exfalso; clear hnx hb hall; (try simp only [bne_iff_ne, ne_eq, bne_eq_false_iff_eq] at *); omega)
    · have hnx : ∀ ty, (Instr.next (.pointer (some ⟨w.heap.size, 0, none⟩)) true ty).run Tryd.prog (w.iter s pos) = _ := fun ty => run_next_end w s pos ty hp
      have hBt := hT (fun j hj => hall j (by omega))
      subst hBt
      go_wp2
      go_ret
      exact ⟨rfl, hb _⟩
end Go.Proofs.YthbmdkhlialmeaaDoor

/- Rows of memory that settle: slices built and appended to; structs built. -/
import Derived.Test.YteijmldnfjcipaaGreatDoorAv8
open Go.RowKit Go.Pl
namespace Go.Av
set_option linter.unusedSimpArgs false
set_option linter.unusedVariables false
/-- elements of so many cells each -/
def Uni (sz : Nat) (l : List E) : Prop := ∀ e ∈ l, e.cells.length = sz
theorem Uni.nil (sz : Nat) : Uni sz [] := fun e h => by cases h
theorem Uni.cons {sz : Nat} {e : E} {l : List E} (h : e.cells.length = sz) (t : Uni sz l) : Uni sz (e :: l) := fun x hx => by
  rcases List.mem_cons.1 hx with rfl | hx
  · exact h
  · exact t x hx
theorem Uni.append {sz : Nat} {l l' : List E} (h : Uni sz l) (h' : Uni sz l') : Uni sz (l ++ l') := fun x hx => (List.mem_append.1 hx).elim (h x) (h' x)
theorem Uni.map {α : Type} {sz : Nat} {f : α → E} (h : ∀ x, (f x).cells.length = sz) (l : List α) : Uni sz (l.map f) := fun x hx => by
  obtain ⟨y, _, rfl⟩ := List.mem_map.1 hx
  exact h y
theorem Uni.sub {sz : Nat} {l l' : List E} (h : Uni sz l) (hs : ∀ e ∈ l', e ∈ l) : Uni sz l' := fun x hx => h x (hs x hx)
theorem Uni.flat {sz : Nat} {l : List E} (h : Uni sz l) : (flat l).length = l.length * sz := by
  induction l with
  | nil => simp
  | cons e l ih =>
    simp only [flat_cons, List.length_append, List.length_cons]
    rw [h e (by simp), ih fun x hx => h x (by simp [hx]), Nat.add_mul]
    omega
/-- element i's cells -/
theorem Uni.at_ {sz : Nat} : ∀ {l : List E} {i : Nat} {e : E}, Uni sz l → l[i]? = some e → ∀ j, j < sz → (Go.Av.flat l)[i * sz + j]? = e.cells[j]?
  | [], i, e, _, hi, j, hj => by simp at hi
  | x :: l, 0, e, h, hi, j, hj => by
    simp at hi; subst hi
    simp only [flat_cons, Nat.zero_mul, Nat.zero_add]
    rw [List.getElem?_append_left (by rw [h x (by simp)]; exact hj)]
  | x :: l, i + 1, e, h, hi, j, hj => by
    simp at hi
    have := Uni.at_ (l := l) (fun x hx => h x (by simp [hx])) hi j hj
    rw [flat_cons, List.getElem?_append_right (by rw [h x (by simp), Nat.add_mul]; omega), h x (by simp), Nat.add_mul]
    rw [← this]; congr 1; omega
theorem Uni.drop_flat {sz : Nat} : ∀ {l : List E} (k : Nat), Uni sz l → Go.Av.flat (l.drop k) = (Go.Av.flat l).drop (k * sz)
  | l, 0, h => by simp
  | [], k + 1, h => by simp
  | x :: l, k + 1, h => by
    rw [List.drop_succ_cons, flat_cons, Uni.drop_flat k (fun x hx => h x (by simp [hx])), Nat.add_mul, Nat.one_mul, Nat.add_comm, ← List.drop_drop]
    congr 1
    rw [List.drop_append_of_le_length (by rw [h x (by simp)]; exact Nat.le_refl _), List.drop_of_length_le (by rw [h x (by simp)]; exact Nat.le_refl _), List.nil_append]
theorem Uni.take_flat {sz : Nat} : ∀ {l : List E} (k : Nat), Uni sz l → Go.Av.flat (l.take k) = (Go.Av.flat l).take (k * sz)
  | l, 0, h => by simp
  | [], k + 1, h => by simp
  | x :: l, k + 1, h => by
    have hx := h x (by simp)
    rw [List.take_succ_cons, flat_cons, flat_cons, Uni.take_flat k (fun x hx => h x (by simp [hx])), Nat.add_mul, Nat.one_mul, List.take_append, hx, List.take_of_length_le (l := x.cells) (by rw [hx]; omega), show k * sz + sz - sz = k * sz from by omega]

section
variable {P : Program} {Q : X → St → Prop} {n : Nat} {ee : Nat × Nat} {tm : List (Nat × D)} {bx bx' : List (List D)} {fr fr' : List Fr} {b0 : Bs} {g : G} {w : World} {a : Act} {T : Tab}
variable {ops : Array Oper} {rest : List Oper} {t ty : Nat} {pos : String} {after : Array Edge}
def G.row (g : G) (w : World) (m cap : Nat) : G := ⟨fun b o => g.C b o ∨ (b = w.heap.size ∧ o < m), g.ρ, g.τ ++ [(w.heap.size, cap)]⟩
/-- a new row of which the first cells settle -/
theorem Mem.row (hm : Mem g bx fr w) (cur : List Value) (l : List E) (cap sz : Nat) (e : TypeId) (hsz : 0 < sz) (hcur : cur.length = cap * sz) (hl : l.length ≤ cap) (hcap : cap ≤ maxLen) (hU : Uni sz l)
    (hv : ∀ (j : Nat) (x : E) (u : Value), (flat l)[j]? = some x → cur[j]? = some u → VE w g.C x u) :
    Evo ⟨g, fr, w⟩ ⟨g.row w (l.length * sz) cap, fr ++ [⟨l.length, sz, e⟩], w.alloc (.cells cur.toArray e)⟩ ∧ Mem (g.row w (l.length * sz) cap) bx (fr ++ [⟨l.length, sz, e⟩]) (w.alloc (.cells cur.toArray e)) ∧
      V (w.alloc (.cells cur.toArray e)) (g.row w (l.length * sz) cap) (fr ++ [⟨l.length, sz, e⟩]) (.sl (.own fr.length) l) (.slice (some ⟨w.heap.size, 0, none⟩) l.length cap) := by
  have hevo : Evo ⟨g, fr, w⟩ ⟨g.row w (l.length * sz) cap, fr ++ [⟨l.length, sz, e⟩], w.alloc (.cells cur.toArray e)⟩ := by
    refine ⟨rfl, rfl, rfl, by simp, fun k hk _ => Below.heap_alloc w _ k hk, fun _ _ h => .inl h, fun k o h => cell_alloc w _ (hm.Clt k o h) o, fun k o h => ?_, fun _ _ h => h, fun _ h => .inl h, fun k c h => ?_, fun i f hf => ?_⟩
    · rcases h with h | ⟨h, _⟩
      · exact .inl h
      · exact .inr (.inl (by simp [h]))
    · rcases List.mem_append.1 h with h | h
      · exact .inl ⟨c, h⟩
      · simp at h; exact .inr (by simp [h.1])
    · have hlt := (List.getElem?_eq_some_iff.1 hf).1
      refine ⟨f, by rw [List.getElem?_append_left hlt]; exact hf, Nat.le_refl _, fun _ => ?_⟩
      show (g.τ ++ [(w.heap.size, cap)])[i]? = g.τ[i]?
      rw [List.getElem?_append_left (by rw [hm.tl]; exact hlt)]
  have hflat := hU.flat
  have hle : l.length * sz ≤ cap * sz := Nat.mul_le_mul_right _ hl
  have hnew : (w.alloc (.cells cur.toArray e)).heap[w.heap.size]? = some (.cells cur.toArray e (0, 0)) := heap_alloc_new w _
  have hτ : (g.τ ++ [(w.heap.size, cap)])[fr.length]? = some (w.heap.size, cap) := by
    rw [List.getElem?_append_right (by rw [hm.tl]; exact Nat.le_refl _), hm.tl]; simp
  refine ⟨hevo, ?_, ?_⟩
  · constructor
    · exact hm.bl
    · intro i k cs h1 h2
      obtain ⟨us, ut, k1, k2, k3⟩ := hm.bat i k cs h1 h2
      exact ⟨us, ut, (Below.heap_alloc w _ k (Array.getElem?_eq_some_iff.1 k1).1).trans k1, k2, fun j d v hd hv => (k3 j d v hd hv).evo hevo⟩
    · intro k o hk hC
      rcases hC with hC | ⟨hC, _⟩
      · exact hm.bC k o hk hC
      · have := hm.lt (.inl hk); omega
    · exact hm.bN
    · simp [G.row, hm.tl]
    · intro i k c f h1 h2
      rcases Nat.lt_or_ge i fr.length with hlt | hge
      · have h1 : g.τ[i]? = some (k, c) := by
          have := h1; simp only [G.row] at this
          rwa [List.getElem?_append_left (by rw [hm.tl]; exact hlt)] at this
        rw [List.getElem?_append_left hlt] at h2
        have hTk := hm.tat i k c f h1 h2
        obtain ⟨cur', s1, s2⟩ := hTk.row
        have hklt := (Array.getElem?_eq_some_iff.1 s1).1
        refine ⟨⟨cur', (Below.heap_alloc w _ k hklt).trans s1, s2⟩, hTk.le, hTk.max, hTk.pos, fun o ho hC => ?_⟩
        rcases hC with hC | ⟨hC, _⟩
        · exact hTk.far o ho hC
        · omega
      · have hi : i = fr.length := by
          have := (List.getElem?_eq_some_iff.1 h2).1; simp at this; omega
        subst hi
        simp only [G.row] at h1
        rw [hτ] at h1
        injection h1 with h1
        injection h1 with h1 h3
        subst h1 h3
        rw [List.getElem?_append_right (Nat.le_refl _)] at h2
        simp at h2; subst h2
        refine ⟨⟨cur.toArray, hnew, by simpa using hcur⟩, hl, hcap, hsz, fun o ho hC => ?_⟩
        rcases hC with hC | ⟨_, hC⟩
        · have := hm.Clt _ o hC; omega
        · have ho : l.length * sz ≤ o := ho
          omega
    · intro i j k c c' h1 h2
      have hget : ∀ (i : Nat) (c : Nat), (g.row w (l.length * sz) cap).τ[i]? = some (k, c) → g.τ[i]? = some (k, c) ∨ (i = g.τ.length ∧ k = w.heap.size) := fun i c h => by
        simp only [G.row] at h
        rcases Nat.lt_or_ge i g.τ.length with hlt | hge
        · rw [List.getElem?_append_left hlt] at h; exact .inl h
        · have := (List.getElem?_eq_some_iff.1 h).1
          simp at this
          have hi : i = g.τ.length := by omega
          subst hi
          rw [List.getElem?_append_right (Nat.le_refl _)] at h
          simp at h
          exact .inr ⟨rfl, h.1.symm⟩
      have cross : ∀ (i c : Nat), g.τ[i]? = some (k, c) → k = w.heap.size → False := fun i c h3 e => by
        have := hm.lt (.inr ⟨c, List.mem_of_getElem? h3⟩); omega
      rcases hget i c h1 with h3 | ⟨e3, h3⟩ <;> rcases hget j c' h2 with h4 | ⟨e4, h4⟩
      · exact hm.tN i j k c c' h3 h4
      · exact (cross i c h3 h4).elim
      · exact (cross j c' h4 h3).elim
      · omega
    · intro k c hk hr
      rcases List.mem_append.1 hk with h | h
      · exact hm.tρ k c h hr
      · simp at h
        have := hm.lt (.inl hr); omega
    · intro k o hC
      rcases hC with hC | ⟨hC, _⟩
      · have := hm.Clt k o hC; simp; omega
      · simp [hC]
  · have hVE : VE (w.alloc (.cells cur.toArray e)) (g.row w (l.length * sz) cap).C (.sl l) (.slice (some ⟨w.heap.size, 0, none⟩) l.length cap) := by
      refine .slC l w.heap.size 0 cap (fun j => cur.getD j undef) hl hcap (fun j hj => .inr ⟨rfl, by rw [hflat] at hj; omega⟩) (fun j hj => ?_) (fun j x hx => ?_)
      · rw [cell_of_row _ _ _ _ _ _ hnew]
        have : j < cur.length := by omega
        simp [List.getD, this]
      · have hj := (List.getElem?_eq_some_iff.1 hx).1
        have hlt : j < cur.length := by omega
        refine (hv j x _ hx (by rw [List.getElem?_eq_getElem hlt]; simp [List.getD, hlt])).mono (fun _ _ h => .inl h) fun k o h => cell_alloc w _ (hm.Clt k o h) o
    refine .sl _ _ _ hVE ?_
    refine ⟨⟨l.length, sz, e⟩, by simp, Nat.le_refl _, fun _ => ⟨w.heap.size, cap, rfl, hτ⟩⟩
end
end Go.Av

/- Regions that draw their order, in which a few operations, in an order of their own, change variables or tokens. -/
import Derived.Test.YteijmldnfjcipaaGreatDoorAv24
open Go.RowKit Go.Pl
namespace Go.Av
set_option linter.unusedSimpArgs false
set_option linter.unusedVariables false
/-- what an operation leaves: a datum; and variables and tokens, if it changes them -/
inductive Y where
  | pu (d : D)
  | ef (d : D) (bx : List (List D)) (fr : List Fr)
def Y.d : Y → D
  | .pu d => d
  | .ef d _ _ => d
def Y.aft : Y → List (List D) × List Fr → List (List D) × List Fr
  | .pu _, s => s
  | .ef _ b f, _ => (b, f)
/-- a slot for each operation; an operation without one takes a number that no slot has -/
def oslot (n i : Nat) (o : Oper) : Nat := match o.dst with
  | some t => t
  | none => n + i
def qY (o : Oper) (bx : List (List D)) (fr : List Fr) : Y → X → St → Prop
  | .pu d, .norm, S => match o.dst with
    | some t => qp t d bx fr .norm S
    | none => d = .junk ∧ S.bx = bx ∧ S.fr = fr
  | .ef d b f, .norm, S => S.bx = b ∧ S.fr = f ∧ match o.dst with
    | some t => look S.tm t = d
    | none => d = .junk
  | _, _, _ => False
theorem qY_not {o : Oper} {bx : List (List D)} {fr : List Fr} {y : Y} {x : X} {S : St} (h : qY o bx fr y x S) : x = .norm := by
  cases y <;> cases x <;> simp [qY] at h ⊢
def dstOk (n : Nat) (o : Oper) : Bool := match o.dst with
  | some t => Nat.blt t n
  | none => true
inductive AE (P : Program) (l : List Oper) (n : Nat) : Nat → List Oper → List (Nat × D) → List (List D) → List Fr → List Y → List (Nat × D) → List (List D) → List Fr → Prop
  | nil (i : Nat) (tm : List (Nat × D)) (bx : List (List D)) (fr : List Fr) : AE P l n i [] tm bx fr [] tm bx fr
  | cons (i : Nat) (o : Oper) (rest : List Oper) (tm : List (Nat × D)) (bx : List (List D)) (fr : List Fr) (y : Y) (ys : List Y) (tm' : List (Nat × D)) (bx' : List (List D)) (fr' : List Fr) (ht : dstOk n o = true)
      (h : AL P l.toArray [o] ⟨n, restr l o tm, bx, fr, (bx.length, fr.length)⟩ (qY o bx fr y)) (k : AE P l n (i + 1) rest ((oslot n i o, y.d) :: tm) (y.aft (bx, fr)).1 (y.aft (bx, fr)).2 ys tm' bx' fr') : AE P l n i (o :: rest) tm bx fr (y :: ys) tm' bx' fr'
def stg : List Y → List (List D) × List Fr → (Nat → Bool) → List (List D) × List Fr
  | [], s, _ => s
  | y :: ys, s, p => stg ys (match p 0 with | true => y.aft s | false => s) (fun j => p (j + 1))
def isEf (ys : List Y) (i : Nat) : Prop := ∃ d b f, ys[i]? = some (.ef d b f)
theorem stg_congr : ∀ (ys : List Y) (s : List (List D) × List Fr) (p q : Nat → Bool), (∀ i, isEf ys i → p i = q i) → stg ys s p = stg ys s q
  | [], s, p, q, _ => rfl
  | y :: ys, s, p, q, h => by
    simp only [stg]
    have h1 : (match p 0 with | true => y.aft s | false => s) = (match q 0 with | true => y.aft s | false => s) := by
      cases y with
      | pu d => cases p 0 <;> cases q 0 <;> rfl
      | ef d b f => rw [h 0 ⟨d, b, f, rfl⟩]
    rw [h1]
    exact stg_congr ys _ _ _ fun i ⟨d, b, f, hi⟩ => h (i + 1) ⟨d, b, f, by simpa using hi⟩
theorem stg_none : ∀ (ys : List Y) (s : List (List D) × List Fr) (p : Nat → Bool), (∀ i, isEf ys i → p i = false) → stg ys s p = s
  | [], s, p, _ => rfl
  | y :: ys, s, p, h => by
    simp only [stg]
    have h1 : (match p 0 with | true => y.aft s | false => s) = s := by
      cases y with
      | pu d => cases p 0 <;> rfl
      | ef d b f => rw [h 0 ⟨d, b, f, rfl⟩]
    rw [h1]
    exact stg_none ys _ _ fun i ⟨d, b, f, hi⟩ => h (i + 1) ⟨d, b, f, by simpa using hi⟩
/-- behind the operation that is done last of those that change something -/
theorem stg_at : ∀ (ys : List Y) (s : List (List D) × List Fr) (i : Nat) (y : Y), ys[i]? = some y → stg ys s (fun j => decide (j < i + 1)) = y.aft (stg ys s (fun j => decide (j < i)))
  | [], s, i, y, h => by simp at h
  | y0 :: ys, s, 0, y, h => by
    simp at h; subst h
    simp only [stg]
    have e1 : (match decide (0 < 0 + 1) with | true => y0.aft s | false => s) = y0.aft s := by simp
    have e2 : (match decide (0 < 0) with | true => y0.aft s | false => s) = s := by simp
    rw [e1, e2, stg_none ys _ _ (by intro i _; simp), stg_none ys _ _ (by intro i _; simp)]
  | y0 :: ys, s, i + 1, y, h => by
    simp only [stg]
    have e1 : (match decide (0 < i + 1 + 1) with | true => y0.aft s | false => s) = y0.aft s := by simp
    have e2 : (match decide (0 < i + 1) with | true => y0.aft s | false => s) = y0.aft s := by simp
    rw [e1, e2]
    have := stg_at ys (y0.aft s) i y (by simpa using h)
    simpa using this
section
variable {P : Program} {Q : X → St → Prop} {n : Nat} {ee : Nat × Nat} {tm tm' : List (Nat × D)} {bx bx' : List (List D)} {fr fr' : List Fr} {b0 : Bs} {g : G} {w : World} {a : Act} {ys : List Y}
theorem AE.steps {l : List Oper} {i0 : Nat} {rest : List Oper} (h : AE P l n i0 rest tm bx fr ys tm' bx' fr') : ∃ ds : List (Nat × D), ds.length = rest.length ∧ ys.length = rest.length ∧ tm' = ds.reverse ++ tm ∧ stg ys (bx, fr) (fun _ => true) = (bx', fr') ∧
    ∀ (i : Nat) (o : Oper), rest[i]? = some o → ∃ y, ys[i]? = some y ∧ ds[i]? = some (oslot n (i0 + i) o, y.d) ∧ dstOk n o = true ∧
      AL P l.toArray [o] ⟨n, restr l o ((ds.take i).reverse ++ tm), (stg ys (bx, fr) (fun j => decide (j < i))).1, (stg ys (bx, fr) (fun j => decide (j < i))).2, ((stg ys (bx, fr) (fun j => decide (j < i))).1.length, (stg ys (bx, fr) (fun j => decide (j < i))).2.length)⟩ (qY o (stg ys (bx, fr) (fun j => decide (j < i))).1 (stg ys (bx, fr) (fun j => decide (j < i))).2 y) := by
  induction h with
  | nil i tm bx fr => exact ⟨[], rfl, rfl, rfl, rfl, fun i o h => by simp at h⟩
  | cons i o rest tm bx fr y ys tm' bx' fr' ht h k ih =>
    obtain ⟨ds, h1, h2, h3, h4, h5⟩ := ih
    refine ⟨(oslot n i o, y.d) :: ds, by simp [h1], by simp [h2], by simp [h3], ?_, fun j o' ho => ?_⟩
    · simp only [stg]; exact h4
    cases j with
    | zero =>
      simp at ho; subst ho
      have e : stg (y :: ys) (bx, fr) (fun j => decide (j < 0)) = (bx, fr) := stg_none _ _ _ (by intro i _; simp)
      refine ⟨y, rfl, by simp, ht, ?_⟩
      rw [e]
      simpa using h
    | succ j =>
      simp at ho
      obtain ⟨y', q1, q2, q3, q4⟩ := h5 j o' ho
      have e : stg (y :: ys) (bx, fr) (fun x => decide (x < j + 1)) = stg ys (y.aft (bx, fr)) (fun x => decide (x < j)) := by
        simp only [stg]
        have e2 : (match decide (0 < j + 1) with | true => y.aft (bx, fr) | false => (bx, fr)) = y.aft (bx, fr) := by simp
        rw [e2]
        exact stg_congr _ _ _ _ fun i _ => by simp
      refine ⟨y', by simpa using q1, by rw [show i + (j + 1) = i + 1 + j from by omega]; simpa using q2, q3, ?_⟩
      rw [e]
      simpa using q4
/-- which operations change something; the states that they leave -/
def esOf : Nat → List Y → List Nat
  | _, [] => []
  | i, .pu _ :: ys => esOf (i + 1) ys
  | i, .ef _ _ _ :: ys => i :: esOf (i + 1) ys
def stsOf : Nat → List Y → List (Nat × List (List D) × List Fr)
  | _, [] => []
  | i, .pu _ :: ys => stsOf (i + 1) ys
  | i, .ef _ b f :: ys => (i + 1, b, f) :: stsOf (i + 1) ys
theorem mem_esOf : ∀ {ys : List Y} {i0 e : Nat}, e ∈ esOf i0 ys ↔ ∃ i, e = i0 + i ∧ isEf ys i
  | [], i0, e => by simp [esOf, isEf]
  | .pu d :: ys, i0, e => by
    simp only [esOf]
    rw [mem_esOf]
    constructor
    · rintro ⟨i, rfl, d, b, f, h⟩; exact ⟨i + 1, by omega, d, b, f, by simpa using h⟩
    · rintro ⟨i, rfl, d, b, f, h⟩
      cases i with
      | zero => simp at h
      | succ i => exact ⟨i, by omega, d, b, f, by simpa using h⟩
  | .ef d b f :: ys, i0, e => by
    simp only [esOf, List.mem_cons]
    rw [mem_esOf]
    constructor
    · rintro (rfl | ⟨i, rfl, d, b, f, h⟩)
      · exact ⟨0, by omega, d, b, f, rfl⟩
      · exact ⟨i + 1, by omega, d, b, f, by simpa using h⟩
    · rintro ⟨i, rfl, d, b, f, h⟩
      cases i with
      | zero => exact .inl (by omega)
      | succ i => exact .inr ⟨i, by omega, d, b, f, by simpa using h⟩
theorem mem_stsOf : ∀ {ys : List Y} {i0 i : Nat} {d : D} {b : List (List D)} {f : List Fr}, ys[i]? = some (.ef d b f) → (i0 + i + 1, b, f) ∈ stsOf i0 ys
  | .pu d :: ys, i0, 0, _, _, _, h => by simp at h
  | .pu d :: ys, i0, i + 1, _, _, _, h => by
    simp only [stsOf]
    have := mem_stsOf (i0 := i0 + 1) (by simpa using h)
    rw [show i0 + (i + 1) + 1 = i0 + 1 + i + 1 from by omega]; exact this
  | .ef d b f :: ys, i0, 0, _, _, _, h => by
    simp at h
    obtain ⟨_, rfl, rfl⟩ := h
    simp [stsOf]
  | .ef d b f :: ys, i0, i + 1, _, _, _, h => by
    simp only [stsOf]
    have := mem_stsOf (i0 := i0 + 1) (by simpa using h)
    rw [show i0 + (i + 1) + 1 = i0 + 1 + i + 1 from by omega]; exact List.mem_cons_of_mem _ this
  | [], i0, i, _, _, _, h => by simp at h
/-- may the i-th operation be done where just the operations of es ahead of c are done? (not asked where it is so in the order of the text) -/
def feas (l : List Oper) (es : List Nat) (i c : Nat) : Bool := !(es.all fun e => decide (e < c) == decide (e < i)) && es.all fun e => (!up (masks [] l) i e || decide (e < c)) && (!up (masks [] l) e i || decide (c ≤ e))
def chkEs (l : List Oper) (es : List Nat) : Bool := es.all fun e => es.all fun e' => !decide (e < e') || up (masks [] l) e' e
def chkLk (n : Nat) (l : List Oper) : Bool := l.all fun o => (looks l o).all fun t => Nat.blt t n
inductive AOs (P : Program) (l : List Oper) (n : Nat) (es : List Nat) (i : Nat) (o : Oper) (tm : List (Nat × D)) (d : D) : List (Nat × List (List D) × List Fr) → Prop
  | nil : AOs P l n es i o tm d []
  | skip (c : Nat) (bx : List (List D)) (fr : List Fr) (sts : List (Nat × List (List D) × List Fr)) (h : feas l es i c = false) (k : AOs P l n es i o tm d sts) : AOs P l n es i o tm d ((c, bx, fr) :: sts)
  | go (c : Nat) (bx : List (List D)) (fr : List Fr) (sts : List (Nat × List (List D) × List Fr)) (h : AL P l.toArray [o] ⟨n, restr l o tm, bx, fr, (bx.length, fr.length)⟩ (qY o bx fr (.pu d))) (k : AOs P l n es i o tm d sts) : AOs P l n es i o tm d ((c, bx, fr) :: sts)
inductive AO (P : Program) (l : List Oper) (n : Nat) (es : List Nat) (sts : List (Nat × List (List D) × List Fr)) : Nat → List Oper → List Y → List (Nat × D) → Prop
  | nil (i : Nat) (ys : List Y) (tm : List (Nat × D)) : AO P l n es sts i [] ys tm
  | ef (i : Nat) (o : Oper) (rest : List Oper) (d : D) (bx : List (List D)) (fr : List Fr) (ys : List Y) (tm : List (Nat × D)) (k : AO P l n es sts (i + 1) rest ys ((oslot n i o, d) :: tm)) : AO P l n es sts i (o :: rest) (.ef d bx fr :: ys) tm
  | pu (i : Nat) (o : Oper) (rest : List Oper) (d : D) (ys : List Y) (tm : List (Nat × D)) (h : AOs P l n es i o tm d sts) (k : AO P l n es sts (i + 1) rest ys ((oslot n i o, d) :: tm)) : AO P l n es sts i (o :: rest) (.pu d :: ys) tm
theorem AOs.get {l : List Oper} {es : List Nat} {i : Nat} {o : Oper} {d : D} {sts : List (Nat × List (List D) × List Fr)} (h : AOs P l n es i o tm d sts) : ∀ {c : Nat} {b : List (List D)} {f : List Fr}, (c, b, f) ∈ sts → feas l es i c = false ∨ AL P l.toArray [o] ⟨n, restr l o tm, b, f, (b.length, f.length)⟩ (qY o b f (.pu d)) := by
  induction h with
  | nil => intro c b f h; cases h
  | skip c bx fr sts h k ih =>
    intro c' b f hm
    rcases List.mem_cons.1 hm with hm | hm
    · cases hm; exact .inl h
    · exact ih hm
  | go c bx fr sts h k ih =>
    intro c' b f hm
    rcases List.mem_cons.1 hm with hm | hm
    · cases hm; exact .inr h
    · exact ih hm
theorem AO.get {l : List Oper} {es : List Nat} {sts : List (Nat × List (List D) × List Fr)} {i0 : Nat} {rest : List Oper} (h : AO P l n es sts i0 rest ys tm) : ∀ {i : Nat} {o : Oper} {d : D}, rest[i]? = some o → ys[i]? = some (.pu d) → ∀ (ds : List (Nat × D)), (∀ (j : Nat) (oj : Oper) (y : Y), j < i → rest[j]? = some oj → ys[j]? = some y → ds[j]? = some (oslot n (i0 + j) oj, y.d)) → i ≤ ds.length → AOs P l n es (i0 + i) o ((ds.take i).reverse ++ tm) d sts := by
  induction h with
  | nil i ys tm => intro i o d h; simp at h
  | ef i0 o0 rest d0 bx fr ys tm k ih =>
    intro i o d ho hy ds hds hl
    cases i with
    | zero => simp at hy
    | succ i =>
      cases ds with
      | nil => simp at hl
      | cons p ds =>
        have h0 := hds 0 o0 _ (by omega) rfl rfl
        simp at h0
        subst h0
        have := ih (i := i) (by simpa using ho) (by simpa using hy) ds (fun j oj y hj h1 h2 => by
          have := hds (j + 1) oj y (by omega) (by simpa using h1) (by simpa using h2)
          rw [show i0 + 1 + j = i0 + (j + 1) from by omega]; simpa using this) (by simpa using hl)
        rw [show i0 + (i + 1) = i0 + 1 + i from by omega]
        simpa [Y.d] using this
  | pu i0 o0 rest d0 ys tm h k ih =>
    intro i o d ho hy ds hds hl
    cases i with
    | zero =>
      simp at ho hy
      subst ho hy
      simpa using h
    | succ i =>
      cases ds with
      | nil => simp at hl
      | cons p ds =>
        have h0 := hds 0 o0 _ (by omega) rfl rfl
        simp at h0
        subst h0
        have := ih (i := i) (by simpa using ho) (by simpa using hy) ds (fun j oj y hj h1 h2 => by
          have := hds (j + 1) oj y (by omega) (by simpa using h1) (by simpa using h2)
          rw [show i0 + 1 + j = i0 + (j + 1) from by omega]; simpa using this) (by simpa using hl)
        rw [show i0 + (i + 1) = i0 + 1 + i from by omega]
        simpa [Y.d] using this
/-- a set of done operations that is closed is, among those of es, a beginning -/
theorem cut_of {p : Nat → Bool} : ∀ (es : List Nat), (∀ e ∈ es, ∀ e' ∈ es, e < e' → p e' = true → p e = true) → ∃ c, (c = 0 ∨ ∃ e ∈ es, c = e + 1 ∧ p e = true) ∧ ∀ e ∈ es, p e = decide (e < c)
  | [], _ => ⟨0, .inl rfl, by simp⟩
  | e :: es, h => by
    obtain ⟨c, h1, h2⟩ := cut_of es fun x hx y hy => h x (by simp [hx]) y (by simp [hy])
    cases hp : p e with
    | true =>
      rcases Nat.lt_or_ge e c with hc | hc
      · refine ⟨c, h1.imp id fun ⟨x, hx, k⟩ => ⟨x, by simp [hx], k⟩, fun x hx => ?_⟩
        rcases List.mem_cons.1 hx with rfl | hx
        · simp [hp, hc]
        · exact h2 x hx
      · refine ⟨e + 1, .inr ⟨e, by simp, rfl, hp⟩, fun x hx => ?_⟩
        rcases List.mem_cons.1 hx with rfl | hx'
        · simp [hp]
        · rcases Nat.lt_trichotomy x e with hlt | rfl | hgt
          · rw [h x hx e (by simp) hlt hp]; simp; omega
          · rw [hp]; simp
          · rw [h2 x hx']; simp; omega
    | false =>
      refine ⟨c, h1.imp id fun ⟨x, hx, k⟩ => ⟨x, by simp [hx], k⟩, fun x hx => ?_⟩
      rcases List.mem_cons.1 hx with rfl | hx'
      · rw [hp]
        rcases h1 with rfl | ⟨y, hy, rfl, hpy⟩
        · simp
        · have : ¬ x < y + 1 := fun hlt => by
            rcases Nat.lt_or_ge x y with h3 | h3
            · have := h x (by simp) y (by simp [hy]) h3 hpy
              rw [hp] at this; cases this
            · have : x = y := by omega
              subst this
              rw [hp] at hpy; cases hpy
          simp [this]
      · exact h2 x hx'
end
end Go.Av

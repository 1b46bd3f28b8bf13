/- Abstract states: Go values that read as trees, variables in memory, slices that may grow; and what a function of the program does to them, said without addresses. -/
import Derived.Test.YteijmldnfjcipaaGreatDoorBase
open Go.RowKit Go.Pl
namespace Go.Av
set_option linter.unusedVariables false
set_option linter.unusedSimpArgs false

/-! ### trees: what settled memory reads as -/
inductive E where
  | bool (b : Bool)
  | int (k : IntKind) (n : Int)
  | str (s : List UInt8)
  | sl (l : List E)
  | agg (l : List E)
  | nilp
  deriving Inhabited
def E.cells : E → List E
  | .agg l => l
  | e => [e]
def flat (l : List E) : List E := l.flatMap E.cells
@[simp] theorem flat_nil : flat [] = [] := rfl
@[simp] theorem flat_cons (e : E) (l : List E) : flat (e :: l) = e.cells ++ flat l := rfl
@[simp] theorem flat_append (l l' : List E) : flat (l ++ l') = flat l ++ flat l' := by simp [flat]
abbrev E.byte (b : UInt8) : E := .int .u8 (b.toNat : Int)

/-- a value reads as a tree, by cells that stay -/
inductive VE (w : World) (C : Nat → Nat → Prop) : E → Value → Prop
  | bool (b : Bool) : VE w C (.bool b) (.bool b)
  | int (k : IntKind) (n : Int) : VE w C (.int k n) (.int k n)
  | str (s : List UInt8) (h : s.length ≤ maxLen) : VE w C (.str s) (.string ⟨s.toArray⟩)
  | nilp : VE w C .nilp (.pointer none)
  | slE (A : Option Addr) (cap : Nat) (h : cap ≤ maxLen) : VE w C (.sl []) (.slice A 0 cap)
  | slC (l : List E) (g off cap : Nat) (us : Nat → Value) (h1 : l.length ≤ cap) (h2 : cap ≤ maxLen)
      (hc : ∀ j, j < (flat l).length → C g (off + j)) (hw : ∀ j, j < (flat l).length → w.cell? ⟨g, off + j, none⟩ = some (us j))
      (hv : ∀ (j : Nat) (e : E), (flat l)[j]? = some e → VE w C e (us j)) : VE w C (.sl l) (.slice (some ⟨g, off, none⟩) l.length cap)

theorem VE.mono {w w' : World} {C C' : Nat → Nat → Prop} {e : E} {v : Value} (h : VE w C e v) (hC : ∀ g o, C g o → C' g o)
    (hw : ∀ g o, C g o → w'.cell? ⟨g, o, none⟩ = w.cell? ⟨g, o, none⟩) : VE w' C' e v := by
  induction h with
  | bool b => exact .bool b
  | int k n => exact .int k n
  | str s h => exact .str s h
  | nilp => exact .nilp
  | slE A cap h => exact .slE A cap h
  | slC l g off cap us h1 h2 hc hw' _ ih => exact .slC l g off cap us h1 h2 (fun j hj => hC _ _ (hc j hj)) (fun j hj => (hw _ _ (hc j hj)).trans (hw' j hj)) ih
theorem VE.one {w : World} {C : Nat → Nat → Prop} {e : E} {v : Value} (h : VE w C e v) : v.oneCell' = true := by
  cases h <;> rfl
theorem VE.notAgg {w : World} {C : Nat → Nat → Prop} {l : List E} {v : Value} (h : VE w C (.agg l) v) : False := by cases h

/-! ### what slots and variables hold -/
/-- may a slice grow in place? 'own i': it is the row of token i, from its beginning -/
inductive Tok where
  | ext
  | nil
  | own (i : Nat)
  deriving Inhabited, DecidableEq
inductive D where
  | bool (b : Bool)
  | int (k : IntKind) (n : Int)
  | str (s : List UInt8)
  | sl (t : Tok) (l : List E)
  | nilp
  | ptr (b o : Nat)
  | eptr (cs : List E) (o : Nat)
  | agg (l : List D)
  | tup (l : List D)
  | fn (f : FuncId) (cap : List D)
  | nilf
  | iface (t : TypeId) (d : D)
  | nili
  | junk
  deriving Inhabited
abbrev D.byte (b : UInt8) : D := .int .u8 (b.toNat : Int)

/-- a token: at how many elements it stands, how many cells an element has, of which type it is -/
structure Fr where
  n : Nat
  sz : Nat
  e : TypeId
  deriving Inhabited
/-- the ghost: which cells stay; each variable's block; each token's row -/
structure G where
  C : Nat → Nat → Prop
  ρ : List Nat
  τ : List (Nat × Nat)

/-- of a slice of l elements: its token's row is known, if the token stands at its end -/
def TokOk (g : G) (fr : List Fr) (t : Tok) (n : Nat) (v : Value) : Prop :=
  match t with
  | .ext => True
  | .nil => v = .slice none 0 0
  | .own i => ∃ f : Fr, fr[i]? = some f ∧ n ≤ f.n ∧ (f.n = n → ∃ blk cap, v = .slice (some ⟨blk, 0, none⟩) n cap ∧ g.τ[i]? = some (blk, cap))

inductive V (w : World) (g : G) (fr : List Fr) : D → Value → Prop
  | bool (b : Bool) : V w g fr (.bool b) (.bool b)
  | int (k : IntKind) (n : Int) : V w g fr (.int k n) (.int k n)
  | str (s : List UInt8) (h : s.length ≤ maxLen) : V w g fr (.str s) (.string ⟨s.toArray⟩)
  | sl (t : Tok) (l : List E) (v : Value) (h : VE w g.C (.sl l) v) (ht : TokOk g fr t l.length v) : V w g fr (.sl t l) v
  | nilp : V w g fr .nilp (.pointer none)
  | ptr (b o blk : Nat) (h : g.ρ[b]? = some blk) : V w g fr (.ptr b o) (.pointer (some ⟨blk, o, none⟩))
  | eptr (cs : List E) (o blk off : Nat) (us : Nat → Value) (hc : ∀ j, j < cs.length → g.C blk (off + j)) (hw : ∀ j, j < cs.length → w.cell? ⟨blk, off + j, none⟩ = some (us j))
      (hv : ∀ (j : Nat) (e : E), cs[j]? = some e → VE w g.C e (us j)) : V w g fr (.eptr cs o) (.pointer (some ⟨blk, off + o, none⟩))
  | agg (l : List D) (vs : List Value) (hl : vs.length = l.length) (h : ∀ (j : Nat) (d : D) (v : Value), l[j]? = some d → vs[j]? = some v → V w g fr d v) : V w g fr (.agg l) (.agg vs.toArray)
  | tup (l : List D) (vs : List Value) (hl : vs.length = l.length) (h : ∀ (j : Nat) (d : D) (v : Value), l[j]? = some d → vs[j]? = some v → V w g fr d v) : V w g fr (.tup l) (.tuple vs.toArray)
  | fn (f : FuncId) (l : List D) (vs : List Value) (hl : vs.length = l.length) (h : ∀ (j : Nat) (d : D) (v : Value), l[j]? = some d → vs[j]? = some v → V w g fr d v) : V w g fr (.fn f l) (.func (.func f) #[] vs.toArray)
  | nilf : V w g fr .nilf .nilFunc
  | iface (t : TypeId) (d : D) (v : Value) (h : V w g fr d v) : V w g fr (.iface t d) (.iface t v)
  | nili : V w g fr .nili .nilIface
  | junk (v : Value) : V w g fr .junk v

/-- a datum that is one cell of a tree -/
def D.ofE : E → D
  | .bool b => .bool b
  | .int k n => .int k n
  | .str s => .str s
  | .sl l => .sl .ext l
  | .agg l => .agg (l.map fun | .bool b => .bool b | .int k n => .int k n | .str s => .str s | .sl l => .sl .ext l | .agg _ => .junk | .nilp => .nilp)
  | .nilp => .nilp
theorem V.ofE {w : World} {g : G} {fr : List Fr} {e : E} {v : Value} (h : VE w g.C e v) : V w g fr (.ofE e) v := by
  cases h with
  | bool b => exact .bool b
  | int k n => exact .int k n
  | str s h => exact .str s h
  | nilp => exact .nilp
  | slE A cap h => exact .sl .ext [] _ (.slE A cap h) trivial
  | slC l g off cap us h1 h2 hc hw hv => exact .sl .ext l _ (.slC l g off cap us h1 h2 hc hw hv) trivial
/-- and back: what may lie in settled memory -/
def D.toE1 : D → Option E
  | .bool b => some (.bool b)
  | .int k n => some (.int k n)
  | .str s => some (.str s)
  | .sl _ l => some (.sl l)
  | .nilp => some .nilp
  | _ => none
theorem V.toE1 {w : World} {g : G} {fr : List Fr} {d : D} {e : E} {v : Value} (h : V w g fr d v) (he : d.toE1 = some e) : VE w g.C e v := by
  cases h <;> simp [D.toE1] at he <;> subst he
  · exact .bool _
  · exact .int _ _
  · exact .str _ ‹_›
  · assumption
  · exact .nilp
def D.toEs : List D → Option (List E)
  | [] => some []
  | d :: l => match d.toE1, D.toEs l with
    | some e, some l' => some (e :: l')
    | _, _ => none
def D.toE : D → Option E
  | .agg l => (D.toEs l).map .agg
  | d => d.toE1

/-- tokens go on -/
def TokOn (g : G) (fr : List Fr) (g' : G) (fr' : List Fr) : Prop := ∀ (i : Nat) (f : Fr), fr[i]? = some f → ∃ f' : Fr, fr'[i]? = some f' ∧ f.n ≤ f'.n ∧ (f'.n = f.n → g'.τ[i]? = g.τ[i]?)
theorem TokOn.refl (g : G) (fr : List Fr) : TokOn g fr g fr := fun _ f h => ⟨f, h, Nat.le_refl _, fun _ => rfl⟩
theorem TokOn.trans {g g1 g2 : G} {fr fr1 fr2 : List Fr} (h : TokOn g fr g1 fr1) (k : TokOn g1 fr1 g2 fr2) : TokOn g fr g2 fr2 := fun i f hf => by
  obtain ⟨f1, h1, h2, h3⟩ := h i f hf
  obtain ⟨f2, k1, k2, k3⟩ := k i f1 h1
  exact ⟨f2, k1, Nat.le_trans h2 k2, fun e => (k3 (by omega)).trans (h3 (by omega))⟩
theorem TokOk.mono {g g' : G} {fr fr' : List Fr} {t : Tok} {n : Nat} {v : Value} (h : TokOk g fr t n v) (ht : TokOn g fr g' fr') : TokOk g' fr' t n v := by
  cases t with
  | ext => trivial
  | nil => exact h
  | own i =>
    obtain ⟨f, h1, h2, h3⟩ := h
    obtain ⟨f', k1, k2, k3⟩ := ht i f h1
    refine ⟨f', k1, Nat.le_trans h2 k2, fun e => ?_⟩
    obtain ⟨blk, cap, e1, e2⟩ := h3 (by omega)
    exact ⟨blk, cap, e1, (k3 (by omega)).trans e2⟩

/-- V is kept where settled cells, variables' blocks and the tokens that stand where they stood are -/
theorem V.mono {w w' : World} {g g' : G} {fr fr' : List Fr} {d : D} {v : Value} (h : V w g fr d v) (hC : ∀ b o, g.C b o → g'.C b o)
    (hw : ∀ b o, g.C b o → w'.cell? ⟨b, o, none⟩ = w.cell? ⟨b, o, none⟩) (hρ : ∀ (i b : Nat), g.ρ[i]? = some b → g'.ρ[i]? = some b)
    (ht : TokOn g fr g' fr') : V w' g' fr' d v := by
  induction h with
  | bool b => exact .bool b
  | int k n => exact .int k n
  | str s h => exact .str s h
  | sl t l v h hk => exact .sl t l v (h.mono hC hw) (hk.mono ht)
  | nilp => exact .nilp
  | ptr b o blk h => exact .ptr b o blk (hρ _ _ h)
  | eptr cs o blk off us hc hw' hv => exact .eptr cs o blk off us (fun j hj => hC _ _ (hc j hj)) (fun j hj => (hw _ _ (hc j hj)).trans (hw' j hj)) (fun j e he => (hv j e he).mono hC hw)
  | agg l vs hl _ ih => exact .agg l vs hl ih
  | tup l vs hl _ ih => exact .tup l vs hl ih
  | fn f l vs hl _ ih => exact .fn f l vs hl ih
  | nilf => exact .nilf
  | iface t d v _ ih => exact .iface t d v ih
  | nili => exact .nili
  | junk v => exact .junk v

/-! ### memory -/
/-- the blocks that a call may write -/
def M (g : G) (k : Nat) : Prop := k ∈ g.ρ ∨ ∃ c, (k, c) ∈ g.τ
/-- what a token's row is -/
structure TokAt (w : World) (g : G) (blk cap : Nat) (f : Fr) : Prop where
  row : ∃ cur, w.heap[blk]? = some (.cells cur f.e (0, 0)) ∧ cur.size = cap * f.sz
  le : f.n ≤ cap
  max : cap ≤ maxLen
  pos : 0 < f.sz
  far : ∀ o, f.n * f.sz ≤ o → ¬ g.C blk o
/-- variables and rows -/
structure Mem (g : G) (bx : List (List D)) (fr : List Fr) (w : World) : Prop where
  bl : g.ρ.length = bx.length
  bat : ∀ (i blk : Nat) (cs : List D), g.ρ[i]? = some blk → bx[i]? = some cs → ∃ vs ty, w.heap[blk]? = some (.cells vs ty (0, 0)) ∧ vs.size = cs.length ∧
    (∀ (j : Nat) (d : D) (v : Value), cs[j]? = some d → vs[j]? = some v → V w g fr d v)
  bC : ∀ blk o, blk ∈ g.ρ → ¬ g.C blk o
  bN : ∀ (i j b : Nat), g.ρ[i]? = some b → g.ρ[j]? = some b → i = j
  tl : g.τ.length = fr.length
  tat : ∀ (i blk cap : Nat) (f : Fr), g.τ[i]? = some (blk, cap) → fr[i]? = some f → TokAt w g blk cap f
  tN : ∀ (i j b c c' : Nat), g.τ[i]? = some (b, c) → g.τ[j]? = some (b, c') → i = j
  tρ : ∀ b c, (b, c) ∈ g.τ → b ∉ g.ρ
  Clt : ∀ b o, g.C b o → b < w.heap.size
/-- how ghost and world go on -/
structure Bs where
  g : G
  fr : List Fr
  w : World
structure Evo (b b' : Bs) : Prop where
  os : b'.w.os = b.w.os
  tape : b'.w.tape = b.w.tape
  output : b'.w.output = b.w.output
  size : b.w.heap.size ≤ b'.w.heap.size
  block : ∀ k, k < b.w.heap.size → ¬ M b.g k → b'.w.heap[k]? = b.w.heap[k]?
  C : ∀ k o, b.g.C k o → b'.g.C k o
  cell : ∀ k o, b.g.C k o → b'.w.cell? ⟨k, o, none⟩ = b.w.cell? ⟨k, o, none⟩
  newC : ∀ k o, b'.g.C k o → b.g.C k o ∨ b.w.heap.size ≤ k ∨ M b.g k
  ρp : ∀ (i k : Nat), b.g.ρ[i]? = some k → b'.g.ρ[i]? = some k
  ρn : ∀ k, k ∈ b'.g.ρ → k ∈ b.g.ρ ∨ b.w.heap.size ≤ k
  τn : ∀ k c, (k, c) ∈ b'.g.τ → (∃ c', (k, c') ∈ b.g.τ) ∨ b.w.heap.size ≤ k
  tok : TokOn b.g b.fr b'.g b'.fr
theorem Evo.own {b b' : Bs} (h : Evo b b') {k : Nat} (hk : M b'.g k) : M b.g k ∨ b.w.heap.size ≤ k := by
  rcases hk with hk | ⟨c, hk⟩
  · exact (h.ρn k hk).imp .inl id
  · exact (h.τn k c hk).imp .inr id
theorem Evo.refl (b : Bs) : Evo b b := ⟨rfl, rfl, rfl, Nat.le_refl _, fun _ _ _ => rfl, fun _ _ h => h, fun _ _ _ => rfl, fun _ _ h => .inl h, fun _ _ h => h, fun _ h => .inl h, fun _ c h => .inl ⟨c, h⟩, TokOn.refl _ _⟩
theorem Evo.trans {b b1 b2 : Bs} (h : Evo b b1) (k : Evo b1 b2) : Evo b b2 where
  os := k.os.trans h.os
  tape := k.tape.trans h.tape
  output := k.output.trans h.output
  size := Nat.le_trans h.size k.size
  block i hi hn := (k.block i (Nat.lt_of_lt_of_le hi h.size) (fun hh => (h.own hh).elim hn (fun h => by omega))).trans (h.block i hi hn)
  C b o hh := k.C b o (h.C b o hh)
  cell b o hh := (k.cell b o (h.C b o hh)).trans (h.cell b o hh)
  newC b o hh := by
    rcases k.newC b o hh with h1 | h1 | h1
    · exact h.newC b o h1
    · exact .inr (.inl (Nat.le_trans h.size h1))
    · exact (h.own h1).elim (fun h => .inr (.inr h)) (fun h => .inr (.inl h))
  ρp i b hh := k.ρp i b (h.ρp i b hh)
  ρn i hh := (k.ρn i hh).elim (h.ρn i) (fun h1 => .inr (Nat.le_trans h.size h1))
  τn i c hh := (k.τn i c hh).elim (fun ⟨c', h1⟩ => h.τn i c' h1) (fun h1 => .inr (Nat.le_trans h.size h1))
  tok := h.tok.trans k.tok
theorem V.evo {g g' : G} {fr fr' : List Fr} {w w' : World} {d : D} {v : Value} (h : V w g fr d v) (e : Evo ⟨g, fr, w⟩ ⟨g', fr', w'⟩) : V w' g' fr' d v := h.mono e.C e.cell e.ρp e.tok

/-! ### states -/
structure St where
  n : Nat
  tm : List (Nat × D)
  bx : List (List D)
  fr : List Fr
  e : Nat × Nat
def look : List (Nat × D) → Nat → D
  | [], _ => .junk
  | (k, d) :: l, t => match Nat.beq k t with
    | true => d
    | false => look l t
structure Inv (b : Bs) (S : St) (g : G) (a : Act) (w : World) : Prop where
  size : a.tmps.size = S.n
  defers : a.defers = []
  mem : Mem g S.bx S.fr w
  tm : ∀ t, V w g S.fr (look S.tm t) (a.tmps.getD t undef)
  evo : Evo b ⟨g, S.fr, w⟩
  bd : b.g.ρ.length ≤ S.e.1 ∧ b.fr.length ≤ S.e.2
/-- how a piece of code is left -/
inductive X where
  | norm
  | exit (id : Nat)
  | goto (l : Nat)
  | ret
  | pan (d : D)
def conc (b0 : Bs) (Q : X → St → Prop) : Exit → Act → World → Prop
  | .normal, a, w => ∃ S g, Inv b0 S g a w ∧ Q .norm S
  | .exit id, a, w => ∃ S g, Inv b0 S g a w ∧ Q (.exit id) S
  | .goto l, a, w => ∃ S g, Inv b0 S g a w ∧ Q (.goto l) S
  | .ret, a, w => ∃ S g, Inv b0 S g a w ∧ Q .ret S
  | .panic chain, a, w => ∃ S g v d, Inv b0 S g a w ∧ chain = [{ v, recovered := false }] ∧ V w g S.fr d v ∧ Q (.pan d) S
  | .outgrown, _, _ => False
structure AW (P : Program) (c : Code) (S : St) (Q : X → St → Prop) : Prop where
  run : ∀ b0 g a w, Inv b0 S g a w → c.wp P (conc b0 Q) a w
structure AL (P : Program) (ops : Array Oper) (l : List Oper) (S : St) (Q : X → St → Prop) : Prop where
  run : ∀ b0 g a w, Inv b0 S g a w → wpList P ops (conc b0 Q) l a w
section
variable {P : Program} {Q : X → St → Prop} {S : St}
theorem AW_skip (h : Q .norm S) : AW P .skip S Q := ⟨fun _ g _ _ hi => wp_skip ⟨S, g, hi, h⟩⟩
theorem AW_label {l : Nat} (h : Q .norm S) : AW P (.label l) S Q := ⟨fun _ g _ _ hi => wp_label ⟨S, g, hi, h⟩⟩
theorem AW_exit {id : Nat} (h : Q (.exit id) S) : AW P (.exit id) S Q := ⟨fun _ g _ _ hi => wp_exit ⟨S, g, hi, h⟩⟩
theorem AW_goto {id : Nat} (h : Q (.goto id) S) : AW P (.goto id) S Q := ⟨fun _ g _ _ hi => wp_goto ⟨S, g, hi, h⟩⟩
theorem AW_ret (h : Q .ret S) : AW P .ret S Q := ⟨fun _ g _ _ hi => wp_ret ⟨S, g, hi, h⟩⟩
def X.then (K : St → Prop) (Q : X → St → Prop) : X → St → Prop
  | .norm, S => K S
  | x, S => Q x S
theorem AW_mono {c : Code} {Q' : X → St → Prop} (h : AW P c S Q) (hq : ∀ x S, Q x S → Q' x S) : AW P c S Q' := ⟨fun b0 g a w hi => wp_mono (h.run b0 g a w hi) fun e a w hc => by
  cases e <;> simp only [conc] at hc ⊢
  · obtain ⟨S, g, h1, h2⟩ := hc; exact ⟨S, g, h1, hq _ _ h2⟩
  · obtain ⟨S, g, h1, h2⟩ := hc; exact ⟨S, g, h1, hq _ _ h2⟩
  · obtain ⟨S, g, h1, h2⟩ := hc; exact ⟨S, g, h1, hq _ _ h2⟩
  · obtain ⟨S, g, h1, h2⟩ := hc; exact ⟨S, g, h1, hq _ _ h2⟩
  · obtain ⟨S, g, v, d, h1, h2, h3, h4⟩ := hc; exact ⟨S, g, v, d, h1, h2, h3, hq _ _ h4⟩⟩
theorem AW_seq {x y : Code} (h : ∀ K : St → Prop, (∀ S, AW P y S Q → K S) → AW P x S (X.then K Q)) : AW P (.seq x y) S Q := ⟨fun b0 g a w hi => wp_seq <| wp_mono ((h (fun S => AW P y S Q) (fun _ h => h)).run b0 g a w hi) fun e a w hc => by
  cases e <;> simp only [conc, X.then, Exit.then] at hc ⊢
  · obtain ⟨S, g, h1, h2⟩ := hc; exact h2.run b0 g a w h1
  all_goals exact hc⟩
theorem AW_cond {c : Operand} {x y : Code} {b : Bool} {t : Nat} (hc : c = .tmp t) (hd : look S.tm t = .bool b) (h1 : b = true → AW P x S Q) (h2 : b = false → AW P y S Q) : AW P (.cond c x y) S Q := ⟨fun b0 g a w hi => by
  subst hc
  have hv := hi.tm t
  rw [hd] at hv
  have : a.eval (.tmp t) = .bool b := by
    generalize he : a.tmps.getD t undef = u at hv
    show a.tmps.getD t undef = _
    rw [he]; cases hv; rfl
  cases b with
  | true => exact wp_cond_true this ((h1 rfl).run b0 g a w hi)
  | false => exact wp_cond_false this ((h2 rfl).run b0 g a w hi)⟩
def X.inBlock (id : Nat) (Q : X → St → Prop) : X → St → Prop
  | .exit i, S => if i = id then Q .norm S else Q (.exit i) S
  | x, S => Q x S
theorem AW_block {id : Nat} {c : Code} (h : AW P c S (X.inBlock id Q)) : AW P (.block id c) S Q := ⟨fun b0 g a w hi => wp_block <| wp_mono (h.run b0 g a w hi) fun e a w hc => by
  cases e <;> simp only [conc, X.inBlock, Exit.inBlock] at hc ⊢
  case exit i =>
    by_cases hid : i = id
    · simp only [hid, if_true] at hc ⊢; exact hc
    · simp only [hid, if_false] at hc ⊢; exact hc
  all_goals exact hc⟩
theorem AW_region {id : Nat} {l : List Oper} (h : AL P l.toArray l S Q) : AW P (.region id l.toArray false) S Q := ⟨fun b0 g a w hi => wp_region_lit (h.run b0 g a w hi)⟩
theorem AW_loop {c : Code} (I : Nat → St → Prop) (n : Nat) (h0 : I n S) (hr : ∀ n S, I n S → ∀ K : X → St → Prop, (∀ S' m, m < n → I m S' → K .norm S') → (∀ x S', (∀ h : x = .norm, False) → Q x S' → K x S') → AW P c S K) : AW P (.loop c) S Q := by
  refine ⟨fun b0 g a w hi => ?_⟩
  refine wp_loop_ghost (fun n a w => ∃ S g, Inv b0 S g a w ∧ I n S) n ⟨S, g, hi, h0⟩ fun n a w hI => ?_
  obtain ⟨S, g, hi, hI⟩ := hI
  refine wp_mono ((hr n S hI (X.then (fun S' => ∃ m, m < n ∧ I m S') Q) (fun S' m hm hI => ⟨m, hm, hI⟩) (fun x S' hx hq => by cases x <;> first | exact (hx rfl).elim | exact hq)).run b0 g a w hi) fun e a w hc => ?_
  cases e <;> simp only [conc, X.then, Exit.then] at hc ⊢
  · obtain ⟨S', g', hi', m, hm, hI'⟩ := hc
    exact ⟨m, hm, S', g', hi', hI'⟩
  all_goals exact hc
end
end Go.Av

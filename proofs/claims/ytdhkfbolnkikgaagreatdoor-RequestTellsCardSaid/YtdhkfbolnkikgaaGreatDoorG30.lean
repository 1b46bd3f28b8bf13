/- Regions that draw their order, in which new variables come in any order, and what is laid into them comes when it can. -/
import Derived.Test.YtdhkfbolnkikgaaGreatDoorG29
import Derived.Test.YtdhkfbolnkikgaaGreatDoorG15
section
open Go.RowKit Go.Pl
namespace Go.Av
set_option linter.unusedSimpArgs false
set_option linter.unusedVariables false
/-- an operation ahead of the chain leaves a datum, or is a new variable with these cells, or lays these cells into a new variable -/
inductive Wy where
  | pu (d : D)
  | al (cs : List D)
  | st (t : Nat) (cs : List D)
def wJ (p : Nat × Wy) : Nat × D := (p.1, match p.2 with | .pu d => d | .al _ => .junk | .st _ _ => .junk)
def wfin : Nat → List (Nat × Wy) → List (Nat × D) → List (Nat × D)
  | _, [], tm => tm
  | m, (_, .pu _) :: zs, tm => wfin m zs tm
  | m, (t, .al _) :: zs, tm => wfin (m + 1) zs ((t, .ptr m 0) :: tm)
  | m, (_, .st _ _) :: zs, tm => wfin m zs tm
/-- what is laid into a new variable, as far as p tells that it is done -/
def stO (p : Nat → Bool) : Nat → List (Nat × Wy) → Nat → Option (List D)
  | _, [], _ => none
  | i, (_, .st t cs) :: zs, x => match Nat.beq t x && p i with
    | true => some cs
    | false => stO p (i + 1) zs x
  | i, (_, .pu _) :: zs, x => stO p (i + 1) zs x
  | i, (_, .al _) :: zs, x => stO p (i + 1) zs x
def wcs (all : List (Nat × Wy)) : List (Nat × Wy) → List (List D)
  | [] => []
  | (_, .pu _) :: zs => wcs all zs
  | (t, .al cs) :: zs => ((stO (fun _ => true) 0 all t).getD cs) :: wcs all zs
  | (_, .st _ _) :: zs => wcs all zs
def isAlO (o : Oper) : Bool := match o.op with
  | .alloc _ => true
  | _ => false
section
variable {P : Program} {T : Tab} {Q : X → St → Prop} {n : Nat} {ee : Nat × Nat} {tm tm' : List (Nat × D)} {bx : List (List D)} {fr : List Fr} {b0 : Bs} {g g' : G} {w w' : World} {a : Act}
inductive AV [Known] [Dfr] (P : Program) (T : Tab) (l : List Oper) (n : Nat) (bx : List (List D)) (fr : List Fr) : Nat → List Oper → List (Nat × D) → List (Nat × Wy) → List (Nat × D) → Prop
  | nil (i : Nat) (tm : List (Nat × D)) : AV P T l n bx fr i [] tm [] tm
  | pu (i : Nat) (o : Oper) (rest : List Oper) (t : Nat) (d : D) (tm : List (Nat × D)) (zs : List (Nat × Wy)) (tm' : List (Nat × D)) (hd : o.dst = some t) (hna : isAlO o = false) (ht : Nat.blt t n = true) (h : AL P l.toArray [o] ⟨n, restr l o tm, bx, fr, (bx.length, fr.length)⟩ (qY o bx fr (.pu d))) (k : AV P T l n bx fr (i + 1) rest ((t, d) :: tm) zs tm') : AV P T l n bx fr i (o :: rest) tm ((t, .pu d) :: zs) tm'
  | al (i t : Nat) (e : TypeId) (ty : Nat) (pos : String) (after : Array Edge) (rest : List Oper) (ti : Ti) (tm : List (Nat × D)) (zs : List (Nat × Wy)) (tm' : List (Nat × D)) (ht : Nat.blt t n = true) (hti : tl T e = some ti) (k : AV P T l n bx fr (i + 1) rest ((t, .junk) :: tm) zs tm') : AV P T l n bx fr i (⟨some t, .alloc e, ty, pos, after, none⟩ :: rest) tm ((t, .al (ti.zero.map ZK.d)) :: zs) tm'
  | st (i ts : Nat) (e : TypeId) (y : Operand) (ty : Nat) (pos : String) (after : Array Edge) (rest : List Oper) (ti : Ti) (d : D) (tm : List (Nat × D)) (zs : List (Nat × Wy)) (tm' : List (Nat × D)) (hy : nf (ev tm y) = some d) (ho : D.ones d.cellsOf = true) (hti : tl T e = some ti) (hs : Nat.beq d.cellsOf.length ti.size = true) (k : AV P T l n bx fr (i + 1) rest ((n + i, .junk) :: tm) zs tm') : AV P T l n bx fr i (⟨none, .store e (.tmp ts) y, ty, pos, after, none⟩ :: rest) tm ((n + i, .st ts d.cellsOf) :: zs) tm'
/-- what is known of an operation -/
def Wof [Known] [Dfr] (P : Program) (T : Tab) (l : List Oper) (n : Nat) (bx : List (List D)) (fr : List Fr) (A : List (Nat × D)) (o : Oper) : Wy → Prop
  | .pu d => (∃ t, o.dst = some t) ∧ isAlO o = false ∧ AL P l.toArray [o] ⟨n, restr l o A, bx, fr, (bx.length, fr.length)⟩ (qY o bx fr (.pu d))
  | .al cs => ∃ (t : Nat) (e : TypeId) (ty : Nat) (pos : String) (after : Array Edge) (ti : Ti), o = ⟨some t, .alloc e, ty, pos, after, none⟩ ∧ tl T e = some ti ∧ cs = ti.zero.map ZK.d
  | .st ts cs => ∃ (e : TypeId) (y : Operand) (ty : Nat) (pos : String) (after : Array Edge) (ti : Ti) (d : D), o = ⟨none, .store e (.tmp ts) y, ty, pos, after, none⟩ ∧ nf (ev A y) = some d ∧ D.ones d.cellsOf = true ∧ tl T e = some ti ∧ d.cellsOf.length = ti.size ∧ cs = d.cellsOf
theorem AV.steps [Known] [Dfr] {l rest : List Oper} {zs : List (Nat × Wy)} {i0 : Nat} (h : AV P T l n bx fr i0 rest tm zs tm') : zs.length = rest.length ∧ tm' = (zs.map wJ).reverse ++ tm ∧
    ∀ (i : Nat) (o : Oper), rest[i]? = some o → ∃ y, zs[i]? = some (oslot n (i0 + i) o, y) ∧ dstOk n o = true ∧ Wof P T l n bx fr (((zs.take i).map wJ).reverse ++ tm) o y := by
  induction h with
  | nil i tm => exact ⟨rfl, rfl, fun i o h => by simp at h⟩
  | pu i o rest t d tm zs tm' hd hna ht h k ih =>
    obtain ⟨h1, h2, h3⟩ := ih
    refine ⟨by simp [h1], by rw [h2]; simp [wJ], fun j o' ho => ?_⟩
    cases j with
    | zero =>
      simp at ho; subst ho
      exact ⟨.pu d, by simp [oslot, hd], by simp only [dstOk, hd, ht], ⟨t, hd⟩, hna, by simpa using h⟩
    | succ j =>
      simp at ho
      obtain ⟨y, q1, q2, q3⟩ := h3 j o' ho
      refine ⟨y, by rw [show i + (j + 1) = i + 1 + j by omega]; simpa using q1, q2, ?_⟩
      have e : ((((t, Wy.pu d) :: zs).take (j + 1)).map wJ).reverse ++ tm = ((zs.take j).map wJ).reverse ++ ((t, d) :: tm) := by simp [wJ]
      rw [e]; exact q3
  | al i t e ty pos after rest ti tm zs tm' ht hti k ih =>
    obtain ⟨h1, h2, h3⟩ := ih
    refine ⟨by simp [h1], by rw [h2]; simp [wJ], fun j o' ho => ?_⟩
    cases j with
    | zero =>
      simp at ho; subst ho
      exact ⟨.al _, by simp [oslot], by simp only [dstOk, ht], t, e, ty, pos, after, ti, rfl, hti, rfl⟩
    | succ j =>
      simp at ho
      obtain ⟨y, q1, q2, q3⟩ := h3 j o' ho
      refine ⟨y, by rw [show i + (j + 1) = i + 1 + j by omega]; simpa using q1, q2, ?_⟩
      have e : ((((t, Wy.al (ti.zero.map ZK.d)) :: zs).take (j + 1)).map wJ).reverse ++ tm = ((zs.take j).map wJ).reverse ++ ((t, .junk) :: tm) := by simp [wJ]
      rw [e]; exact q3
  | st i ts e y ty pos after rest ti d tm zs tm' hy ho hti hs k ih =>
    obtain ⟨h1, h2, h3⟩ := ih
    refine ⟨by simp [h1], by rw [h2]; simp [wJ], fun j o' hoo => ?_⟩
    cases j with
    | zero =>
      simp at hoo; subst hoo
      exact ⟨.st ts d.cellsOf, by simp [oslot], rfl, e, y, ty, pos, after, ti, d, rfl, by simpa using hy, ho, hti, Nat.eq_of_beq_eq_true hs, rfl⟩
    | succ j =>
      simp at hoo
      obtain ⟨y', q1, q2, q3⟩ := h3 j o' hoo
      refine ⟨y', by rw [show i + (j + 1) = i + 1 + j by omega]; simpa using q1, q2, ?_⟩
      have e : ((((n + i, Wy.st ts d.cellsOf) :: zs).take (j + 1)).map wJ).reverse ++ tm = ((zs.take j).map wJ).reverse ++ ((n + i, .junk) :: tm) := by simp [wJ]
      rw [e]; exact q3
/-- a block that is nobody's yet, and what its cells hold -/
def Goo (b0 : Bs) (g : G) (fr : List Fr) (w : World) (k : Nat) (cs : List D) : Prop := b0.w.heap.size ≤ k ∧ ¬ M g k ∧ (∀ o, ¬ g.C k o) ∧ ∃ vs ty, w.heap[k]? = some (.cells vs ty (0, 0)) ∧ vs.size = cs.length ∧ ∀ (j : Nat) (d : D) (v : Value), cs[j]? = some d → vs[j]? = some v → V w g fr d v
theorem Goo.lt {k : Nat} {cs : List D} (h : Goo b0 g fr w k cs) : k < w.heap.size := by
  obtain ⟨_, _, _, vs, ty, h1, _⟩ := h
  exact (Array.getElem?_eq_some_iff.1 h1).1
theorem Goo.evo {k : Nat} {cs : List D} {fr' : List Fr} (h : Goo b0 g fr w k cs) (e : Evo ⟨g, fr, w⟩ ⟨g', fr', w'⟩) : Goo b0 g' fr' w' k cs := by
  have hlt := h.lt
  obtain ⟨h1, h2, h3, vs, ty, h4, h5, h6⟩ := h
  refine ⟨h1, fun hm => ?_, fun o hc => ?_, vs, ty, (e.block k hlt h2).trans h4, h5, fun j d v hd hv => (h6 j d v hd hv).evo e⟩
  · rcases e.own hm with hm | hm
    · exact h2 hm
    · exact absurd hlt (Nat.not_lt.2 hm)
  · rcases e.newC k o hc with hc | hc | hc
    · exact h3 o hc
    · exact absurd hlt (Nat.not_lt.2 hc)
    · exact h2 hc
/-- a block that is nobody's is turned -/
structure Turn (w w' : World) (k : Nat) : Prop where
  os : w'.os = w.os
  tape : w'.tape = w.tape
  output : w'.output = w.output
  size : w'.heap.size = w.heap.size
  far : ∀ b, b ≠ k → w'.heap[b]? = w.heap[b]?
theorem Turn.cell {k : Nat} (h : Turn w w' k) (hC : ∀ o, ¬ g.C k o) (b o : Nat) (hb : g.C b o) : w'.cell? ⟨b, o, none⟩ = w.cell? ⟨b, o, none⟩ :=
  World.cell?_of_block (w := w) (h.far b fun e => by subst e; exact hC o hb)
theorem V.turn {k : Nat} {d : D} {v : Value} (hv : V w g fr d v) (h : Turn w w' k) (hC : ∀ o, ¬ g.C k o) : V w' g fr d v := hv.mono (fun _ _ h => h) (fun b o hb => h.cell hC b o hb) (fun _ _ h => h) (TokOn.refl g fr)
theorem Evo.turn {k : Nat} (e : Evo b0 ⟨g, fr, w⟩) (h : Turn w w' k) (hC : ∀ o, ¬ g.C k o) (hk : b0.w.heap.size ≤ k) : Evo b0 ⟨g, fr, w'⟩ :=
  ⟨h.os.trans e.os, h.tape.trans e.tape, h.output.trans e.output, by show _ ≤ w'.heap.size; rw [h.size]; exact e.size, fun b hb hn => (h.far b (by omega)).trans (e.block b hb hn), e.C, fun b o hb => (h.cell hC b o (e.C b o hb)).trans (e.cell b o hb), e.newC, e.ρp, e.ρn, e.τn, e.tok⟩
theorem Mem.turn [Known] {k : Nat} (hm : Mem g bx fr w) (h : Turn w w' k) (hM : ¬ M g k) (hC : ∀ o, ¬ g.C k o) : Mem g bx fr w' where
  bl := hm.bl
  bat i b cs' h1 h2 := by
    obtain ⟨us, ty, k1, k2, k3⟩ := hm.bat i b cs' h1 h2
    exact ⟨us, ty, (h.far b fun e => by subst e; exact hM (.inl (List.mem_of_getElem? h1))).trans k1, k2, fun j d v hd hv => (k3 j d v hd hv).turn h hC⟩
  bC := hm.bC
  bN := hm.bN
  tl := hm.tl
  tat i b c f h1 h2 := by
    have hT := hm.tat i b c f h1 h2
    obtain ⟨cur, r1, r2⟩ := hT.row
    exact ⟨⟨cur, (h.far b fun e => by subst e; exact hM (.inr ⟨c, List.mem_of_getElem? h1⟩)).trans r1, r2⟩, hT.le, hT.max, hT.pos, hT.far⟩
  tN := hm.tN
  tρ := hm.tρ
  Clt b p hb := by
    have := hm.Clt b p hb
    rw [h.size]; exact this
  gl := ⟨fun b cs hb j v hv => ⟨(hm.gl.1 b cs hb j v hv).1, (h.cell hC _ _ (hm.gl.1 b cs hb j v hv).1).trans (hm.gl.1 b cs hb j v hv).2⟩, fun b t hb => ⟨(hm.gl.2 b t hb).1, (hm.gl.2 b t hb).2.imp fun v hv => (h.cell hC _ _ (hm.gl.2 b t hb).1).trans hv⟩⟩
end
end Go.Av
end
/- The region in which new variables come in any order and values are laid into them, as one step of a walk. -/
section
open Go.RowKit Go.Pl
namespace Go.Av
set_option linter.unusedSimpArgs false
set_option linter.unusedVariables false
section
variable {P : Program} {T : Tab} {Q : X → St → Prop} {n : Nat} {ee : Nat × Nat} {tm tm' : List (Nat × D)} {bx : List (List D)} {fr : List Fr} {b0 : Bs} {g g' : G} {w w' : World} {a : Act}
theorem Goo.turn {k k' : Nat} {cs : List D} (h : Goo b0 g fr w k' cs) (ht : Turn w w' k) (hne : k' ≠ k) (hC : ∀ o, ¬ g.C k o) : Goo b0 g fr w' k' cs := by
  obtain ⟨h1, h2, h3, vs, ty, h4, h5, h6⟩ := h
  exact ⟨h1, h2, h3, vs, ty, (ht.far k' hne).trans h4, h5, fun j d v hd hv => (h6 j d v hd hv).turn ht hC⟩
/-- what stands behind the first pass -/
structure AWk [Known] [Dfr] (P : Program) (l acts : List Oper) (n : Nat) (zs : List (Nat × Wy)) (tm : List (Nat × D)) (bx : List (List D)) (fr : List Fr) (ee : Nat × Nat) (Q : X → St → Prop) : Prop where
  run : AL P l.toArray acts ⟨n, wfin bx.length zs tm, bx ++ wcs zs zs, fr, ee⟩ Q
end
end Go.Av
end
/- The document's answers for names: the name of a text, by cases. -/
section
open Go.RowKit Go.Pl Go.Av
namespace Go.Proofs.YtdhkfbolnkikgaaGreatDoor
set_option linter.unusedVariables false
set_option linter.unusedSimpArgs false
set_option maxHeartbeats 4000000
/-- what comes of a candidate -/
abbrev candD (z4 z5 i : Bool) (n s : Nat) (h d : List UInt8) : D := match z4, z5 with
  | false, false => .tup [.agg [.bool i, .int .u64 (n : Int), .int .u64 (s : Int), .str h, .str d], .bool true]
  | _, _ => .tup [.agg [.bool false, .int .u64 0, .int .u64 0, .str [], .str []], .bool false]
theorem rp_n [Known] (s : List UInt8) (h0 : (s == [100, 116, 110, 58, 110, 111, 110, 101]) = true) : AP Tryz.prog 36 [.str s] (.tup [.agg [.bool false, .int .u64 0, .int .u64 0, .str [], .str []], .bool true]) [] := by
  refine AP.ofA ?_
  refine AC_of Tryz.func36 rfl Tryz.ntmps36 rfl rfl ?_
  repeat' (first | (apply AL_move; exact rfl; exact rfl) | (apply AL_assign; exact rfl; exact rfl) | (apply AL_store ttok; (iterate 8 exact rfl)) | refine AL_nil ?_ | refine AW_region ?_ | refine AW_seq' ?_ | (apply AW_condA; exact rfl; (first | with_reducible assumption | decide +kernel)) | refine then_norm ?_ | refine AW_ret ?_ | refine then_ret ?_ | (apply AL_build ttok; (iterate 6 exact rfl)) | (apply AL_allocZ ttok; (iterate 4 exact rfl)) | (apply AL_str; (iterate 5 exact rfl)))
  all_goals (apply endQ []; (repeat (first | exact ResL.nil | (apply ResL.cons; first | exact .tmp _ _ rfl | (apply res_n ttok; (iterate 6 exact rfl)) | (apply res_1 ttok; (iterate 5 exact rfl))))); (iterate 4 exact rfl))
  all_goals rfl
/-- neither by numbers nor by texts -/
theorem rp_z [Known] (s : List UInt8) (h0 : (s == [100, 116, 110, 58, 110, 111, 110, 101]) = false)
    (h1 : decide ((s.length : Int) > 4) = false ∨ decide ((s.length : Int) > 4) = true ∧ 4 ≤ s.length ∧ ((s.take (Int.toNat 4)).drop 0 == [105, 112, 110, 58]) = false) (h2 : decide ((s.length : Int) > 6) = false ∨ decide ((s.length : Int) > 6) = true ∧ 6 ≤ s.length ∧ ((s.take (Int.toNat 6)).drop 0 == [100, 116, 110, 58, 47, 47]) = false)
    (hK : AP Tryz.prog 42 [.agg [.bool false, .int .u64 0, .int .u64 0, .str [], .str []]] (.int .i64 0) []) :
    AP Tryz.prog 36 [.str s] (.tup [.agg [.bool false, .int .u64 0, .int .u64 0, .str [], .str []], .bool false]) [] := by
  rcases h1 with t1 | ⟨t1, b1, t2⟩ <;> rcases h2 with t3 | ⟨t3, b3, t4⟩
  all_goals
    refine AP.ofA ?_
    refine AC_of Tryz.func36 rfl Tryz.ntmps36 rfl rfl ?_
    repeat' (first | (apply AL_callPw (hK); kernel_rfl; (iterate 4 exact rfl)) | (apply AL_sliceS ttok; (iterate 4 exact rfl); exact .dft _; exact .lit _ _ _ _ rfl (by decide); exact Nat.zero_le _; (first | exact b1 | exact b3); exact rfl) | (apply AL_move; exact rfl; exact rfl) | (apply AL_assign; exact rfl; exact rfl) | (apply AL_bin; (iterate 5 exact rfl)) | (apply AL_loadn ttok; (iterate 7 exact rfl)) | (apply AL_store ttok; (iterate 8 exact rfl)) | refine AL_nil ?_ | (apply AL_guardT; (iterate 3 exact rfl); (first | with_reducible assumption | decide +kernel)) | (apply AL_guardFt; (iterate 3 exact rfl); (first | with_reducible assumption | decide +kernel)) | (apply AL_guardFf; (iterate 3 exact rfl); (first | with_reducible assumption | decide +kernel)) | (apply AL_pickT; exact rfl; (first | with_reducible assumption | decide +kernel); exact rfl; exact rfl) | (apply AL_pickF; exact rfl; (first | with_reducible assumption | decide +kernel); exact rfl; exact rfl) | refine AW_region ?_ | refine AW_seq' ?_ | (apply AW_condA; exact rfl; (first | with_reducible assumption | decide +kernel)) | (apply AW_condB; exact rfl; (first | with_reducible assumption | decide +kernel)) | refine then_norm ?_ | refine AW_ret ?_ | refine then_ret ?_ | (apply AL_lens ttok; (iterate 4 exact rfl)) | (apply AL_build ttok; (iterate 6 exact rfl)) | (apply AL_allocZ ttok; (iterate 4 exact rfl)) | (apply AL_str; (iterate 5 exact rfl)) | refine AW_skip ?_)
    all_goals (apply endQ []; (repeat (first | exact ResL.nil | (apply ResL.cons; first | exact .tmp _ _ rfl | (apply res_n ttok; (iterate 6 exact rfl)) | (apply res_1 ttok; (iterate 5 exact rfl))))); (iterate 4 exact rfl))
    all_goals rfl
/-- by numbers -/
theorem rp_i [Known] (s : List UInt8) (a b p q : Nat) (κ : Int) (t : List UInt8) (z3 z4 z5 : Bool) (h0 : (s == [100, 116, 110, 58, 110, 111, 110, 101]) = false)
    (t1 : decide ((s.length : Int) > 4) = true) (b1 : 4 ≤ s.length) (t2 : ((s.take (Int.toNat 4)).drop 0 == [105, 112, 110, 58]) = true)
    (hC1 : AP Tryz.prog 52 [.str s, .int .i64 4] (.tup [.int .u64 (a : Int), .int .i64 (p : Int)]) [])
    (t3 : decide ((p : Int) < (s.length : Int)) = z3) (e3 : IntKind.i64.wrap ((p : Int) + 1) = ((p + 1 : Nat) : Int))
    (hC2 : z3 = true → AP Tryz.prog 52 [.str s, .int .i64 ((p + 1 : Nat) : Int)] (.tup [.int .u64 (b : Int), .int .i64 (q : Int)]) []) (hb0 : z3 = false → b = 0)
    (hK : AP Tryz.prog 42 [.agg [.bool true, .int .u64 (a : Int), .int .u64 (b : Int), .str [], .str []]] (.int .i64 κ) []) (t4 : decide (κ < 1) = z4)
    (hT : z4 = false → AP Tryz.prog 53 [.agg [.bool true, .int .u64 (a : Int), .int .u64 (b : Int), .str [], .str []]] (.str t) []) (t5 : (t != s) = z5) :
    AP Tryz.prog 36 [.str s] (candD z4 z5 true a b [] []) [] := by
  cases z3 with
  | false =>
    obtain rfl := hb0 rfl
    clear hC2
    cases z4 with
    | true =>
      clear hT
      cases z5
      all_goals
        refine AP.ofA ?_
        refine AC_of Tryz.func36 rfl Tryz.ntmps36 rfl rfl ?_
        repeat' (first | (apply AL_callPw (hC1); kernel_rfl; (iterate 4 exact rfl)) | (apply AL_callPw (hK); kernel_rfl; (iterate 4 exact rfl)) | (apply AL_sliceS ttok; (iterate 4 exact rfl); exact .dft _; exact .lit _ _ _ _ rfl (by decide); exact Nat.zero_le _; exact b1; exact rfl) | (apply AL_move; exact rfl; exact rfl) | (apply AL_assign; exact rfl; exact rfl) | (apply AL_bin; (iterate 5 exact rfl)) | (apply AL_loadn ttok; (iterate 7 exact rfl)) | (apply AL_store ttok; (iterate 8 exact rfl)) | (apply AL_extract; (iterate 3 exact rfl)) | refine AL_nil ?_ | (apply AL_guardT; (iterate 3 exact rfl); (first | with_reducible assumption | decide +kernel)) | (apply AL_guardFf; (iterate 3 exact rfl); (first | with_reducible assumption | decide +kernel)) | (apply AL_pickT; exact rfl; (first | with_reducible assumption | decide +kernel); exact rfl; exact rfl) | refine AW_region ?_ | refine AW_seq' ?_ | (apply AW_condA; exact rfl; (first | with_reducible assumption | decide +kernel)) | (apply AW_condB; exact rfl; (first | with_reducible assumption | decide +kernel)) | refine then_norm ?_ | refine AW_ret ?_ | refine then_ret ?_ | (apply AL_lens ttok; (iterate 4 exact rfl)) | (apply AL_build ttok; (iterate 6 exact rfl)) | (apply AL_allocZ ttok; (iterate 4 exact rfl)) | (apply AL_str; (iterate 5 exact rfl)) | refine AW_skip ?_)
        all_goals (apply endQ []; (repeat (first | exact ResL.nil | (apply ResL.cons; first | exact .tmp _ _ rfl | (apply res_n ttok; (iterate 6 exact rfl)) | (apply res_1 ttok; (iterate 5 exact rfl))))); (iterate 4 exact rfl))
        all_goals rfl
    | false =>
      have hT := hT rfl
      cases z5
      all_goals
        refine AP.ofA ?_
        refine AC_of Tryz.func36 rfl Tryz.ntmps36 rfl rfl ?_
        repeat' (first | (apply AL_callPw (hC1); kernel_rfl; (iterate 4 exact rfl)) | (apply AL_callPw (hK); kernel_rfl; (iterate 4 exact rfl)) | (apply AL_callPw (hT); kernel_rfl; (iterate 4 exact rfl)) | (apply AL_sliceS ttok; (iterate 4 exact rfl); exact .dft _; exact .lit _ _ _ _ rfl (by decide); exact Nat.zero_le _; exact b1; exact rfl) | (apply AL_move; exact rfl; exact rfl) | (apply AL_assign; exact rfl; exact rfl) | (apply AL_bin; (iterate 5 exact rfl)) | (apply AL_loadn ttok; (iterate 7 exact rfl)) | (apply AL_store ttok; (iterate 8 exact rfl)) | (apply AL_extract; (iterate 3 exact rfl)) | refine AL_nil ?_ | (apply AL_guardT; (iterate 3 exact rfl); (first | with_reducible assumption | decide +kernel)) | (apply AL_pickT; exact rfl; (first | with_reducible assumption | decide +kernel); exact rfl; exact rfl) | (apply AL_pickF; exact rfl; (first | with_reducible assumption | decide +kernel); exact rfl; exact rfl) | refine AW_region ?_ | refine AW_seq' ?_ | (apply AW_condA; exact rfl; (first | with_reducible assumption | decide +kernel)) | (apply AW_condB; exact rfl; (first | with_reducible assumption | decide +kernel)) | refine then_norm ?_ | refine AW_ret ?_ | refine then_ret ?_ | (apply AL_lens ttok; (iterate 4 exact rfl)) | (apply AL_build ttok; (iterate 6 exact rfl)) | (apply AL_allocZ ttok; (iterate 4 exact rfl)) | (apply AL_str; (iterate 5 exact rfl)) | refine AW_skip ?_)
        all_goals (apply endQ []; (repeat (first | exact ResL.nil | (apply ResL.cons; first | exact .tmp _ _ rfl | (apply res_n ttok; (iterate 6 exact rfl)) | (apply res_1 ttok; (iterate 5 exact rfl))))); (iterate 4 exact rfl))
        all_goals rfl
  | true =>
    have hC2 := hC2 rfl
    clear hb0
    cases z4 with
    | true =>
      clear hT
      cases z5
      all_goals
        refine AP.ofA ?_
        refine AC_of Tryz.func36 rfl Tryz.ntmps36 rfl rfl ?_
        repeat' (first | rw [e3] | (apply AL_callPw (hC1); kernel_rfl; (iterate 4 exact rfl)) | (apply AL_callPw (hC2); kernel_rfl; (iterate 4 exact rfl)) | (apply AL_callPw (hK); kernel_rfl; (iterate 4 exact rfl)) | (apply AL_sliceS ttok; (iterate 4 exact rfl); exact .dft _; exact .lit _ _ _ _ rfl (by decide); exact Nat.zero_le _; exact b1; exact rfl) | (apply AL_move; exact rfl; exact rfl) | (apply AL_assign; exact rfl; exact rfl) | (apply AL_bin; (iterate 5 exact rfl)) | (apply AL_loadn ttok; (iterate 7 exact rfl)) | (apply AL_store ttok; (iterate 8 exact rfl)) | (apply AL_extract; (iterate 3 exact rfl)) | refine AL_nil ?_ | (apply AL_guardT; (iterate 3 exact rfl); (first | with_reducible assumption | decide +kernel)) | (apply AL_guardFf; (iterate 3 exact rfl); (first | with_reducible assumption | decide +kernel)) | (apply AL_pickT; exact rfl; (first | with_reducible assumption | decide +kernel); exact rfl; exact rfl) | refine AW_region ?_ | refine AW_seq' ?_ | (apply AW_condA; exact rfl; (first | with_reducible assumption | decide +kernel)) | (apply AW_condB; exact rfl; (first | with_reducible assumption | decide +kernel)) | refine then_norm ?_ | refine AW_ret ?_ | refine then_ret ?_ | (apply AL_lens ttok; (iterate 4 exact rfl)) | (apply AL_build ttok; (iterate 6 exact rfl)) | (apply AL_allocZ ttok; (iterate 4 exact rfl)) | (apply AL_str; (iterate 5 exact rfl)) | refine AW_skip ?_)
        all_goals (apply endQ []; (repeat (first | exact ResL.nil | (apply ResL.cons; first | exact .tmp _ _ rfl | (apply res_n ttok; (iterate 6 exact rfl)) | (apply res_1 ttok; (iterate 5 exact rfl))))); (iterate 4 exact rfl))
        all_goals rfl
    | false =>
      have hT := hT rfl
      cases z5
      all_goals
        refine AP.ofA ?_
        refine AC_of Tryz.func36 rfl Tryz.ntmps36 rfl rfl ?_
        repeat' (first | rw [e3] | (apply AL_callPw (hC1); kernel_rfl; (iterate 4 exact rfl)) | (apply AL_callPw (hC2); kernel_rfl; (iterate 4 exact rfl)) | (apply AL_callPw (hK); kernel_rfl; (iterate 4 exact rfl)) | (apply AL_callPw (hT); kernel_rfl; (iterate 4 exact rfl)) | (apply AL_sliceS ttok; (iterate 4 exact rfl); exact .dft _; exact .lit _ _ _ _ rfl (by decide); exact Nat.zero_le _; exact b1; exact rfl) | (apply AL_move; exact rfl; exact rfl) | (apply AL_assign; exact rfl; exact rfl) | (apply AL_bin; (iterate 5 exact rfl)) | (apply AL_loadn ttok; (iterate 7 exact rfl)) | (apply AL_store ttok; (iterate 8 exact rfl)) | (apply AL_extract; (iterate 3 exact rfl)) | refine AL_nil ?_ | (apply AL_guardT; (iterate 3 exact rfl); (first | with_reducible assumption | decide +kernel)) | (apply AL_pickT; exact rfl; (first | with_reducible assumption | decide +kernel); exact rfl; exact rfl) | (apply AL_pickF; exact rfl; (first | with_reducible assumption | decide +kernel); exact rfl; exact rfl) | refine AW_region ?_ | refine AW_seq' ?_ | (apply AW_condA; exact rfl; (first | with_reducible assumption | decide +kernel)) | (apply AW_condB; exact rfl; (first | with_reducible assumption | decide +kernel)) | refine then_norm ?_ | refine AW_ret ?_ | refine then_ret ?_ | (apply AL_lens ttok; (iterate 4 exact rfl)) | (apply AL_build ttok; (iterate 6 exact rfl)) | (apply AL_allocZ ttok; (iterate 4 exact rfl)) | (apply AL_str; (iterate 5 exact rfl)) | refine AW_skip ?_)
        all_goals (apply endQ []; (repeat (first | exact ResL.nil | (apply ResL.cons; first | exact .tmp _ _ rfl | (apply res_n ttok; (iterate 6 exact rfl)) | (apply res_1 ttok; (iterate 5 exact rfl))))); (iterate 4 exact rfl))
        all_goals rfl
end Go.Proofs.YtdhkfbolnkikgaaGreatDoor
end
/- The document's answers for names: the name of a text, by texts. -/
section
open Go.RowKit Go.Pl Go.Av
namespace Go.Proofs.YtdhkfbolnkikgaaGreatDoor
set_option linter.unusedVariables false
set_option linter.unusedSimpArgs false
set_option maxHeartbeats 4000000
theorem rp_t [Known] (s : List UInt8) (m : Nat) (h d : List UInt8) (κ : Int) (t : List UInt8) (z4 z5 : Bool) (h0 : (s == [100, 116, 110, 58, 110, 111, 110, 101]) = false) (hsl : s.length ≤ 4398046511104)
    (t1 : decide ((s.length : Int) > 4) = true) (b1 : 4 ≤ s.length) (t2 : ((s.take (Int.toNat 4)).drop 0 == [105, 112, 110, 58]) = false)
    (t3 : decide ((s.length : Int) > 6) = true) (b3 : 6 ≤ s.length) (t6 : ((s.take (Int.toNat 6)).drop 0 == [100, 116, 110, 58, 47, 47]) = true)
    (m6 : 6 ≤ m) (ml : m ≤ s.length) (hm1 : ∀ i, 6 ≤ i → i < m → ∃ c, s[i]? = some c ∧ c.toNat ≠ 47) (hm2 : m < s.length → ∃ c, s[m]? = some c ∧ c.toNat = 47)
    (hh : (s.take m).drop 6 = h) (hd : s.drop (m + 1) = d)
    (hK : AP Tryz.prog 42 [.agg [.bool false, .int .u64 0, .int .u64 0, .str h, .str d]] (.int .i64 κ) []) (t4 : decide (κ < 1) = z4)
    (hT : z4 = false → AP Tryz.prog 53 [.agg [.bool false, .int .u64 0, .int .u64 0, .str h, .str d]] (.str t) []) (t5 : (t != s) = z5) :
    AP Tryz.prog 36 [.str s] (if m < s.length then candD z4 z5 false 0 0 h d else .tup [.agg [.bool false, .int .u64 0, .int .u64 0, .str [], .str []], .bool false]) [] := by
  refine AP.ofA ?_
  refine AC_of Tryz.func36 rfl Tryz.ntmps36 rfl rfl ?_
  repeat' (first | (apply AL_sliceS ttok; (iterate 4 exact rfl); exact .dft _; exact .lit _ _ _ _ rfl (by decide); exact Nat.zero_le _; (first | exact b1 | exact b3); exact rfl) | (apply AL_move; exact rfl; exact rfl) | (apply AL_assign; exact rfl; exact rfl) | (apply AL_bin; (iterate 5 exact rfl)) | (apply AL_store ttok; (iterate 8 exact rfl)) | refine AL_nil ?_ | (apply AL_guardT; (iterate 3 exact rfl); (first | with_reducible assumption | decide +kernel)) | (apply AL_pickT; exact rfl; (first | with_reducible assumption | decide +kernel); exact rfl; exact rfl) | refine AW_region ?_ | refine AW_seq' ?_ | (apply AW_condA; exact rfl; (first | with_reducible assumption | decide +kernel)) | (apply AW_condB; exact rfl; (first | with_reducible assumption | decide +kernel)) | refine AW_block ?_ | (apply AL_lens ttok; (iterate 4 exact rfl)) | (apply AL_build ttok; (iterate 6 exact rfl)) | (apply AL_allocZ ttok; (iterate 4 exact rfl)) | (apply AL_str; (iterate 5 exact rfl)) | refine AW_skip ?_)
  refine AW_loopJ (fun k tm bx fr => ∃ (a : Nat), k + a = m ∧ 6 ≤ a ∧ tm = [(0, .str s), (2, .ptr 0 0), (3, .bool false), (4, .ptr 1 0), (8, .int .i64 (a : Int))] ∧ bx = [[.bool false, .int .u64 0, .int .u64 0, .str [], .str []], [.bool false, .int .u64 0, .int .u64 0, .str [], .str []]] ∧ fr = []) (m + 1) (Lands.mk' (m := m - 6) (by omega) ⟨6, by omega, Nat.le_refl _, rfl, rfl, rfl⟩ ?_ rfl rfl rfl rfl rfl rfl) ?_
  · exact .cons rfl (.cons rfl (.cons rfl (.cons rfl (.cons rfl .nil))))
  rintro k tm bx fr ⟨a, hk, ha, rfl, rfl, rfl⟩
  rcases Nat.lt_or_ge a m with hlt | hge
  · have t7 : decide ((a : Int) < (s.length : Int)) = true := decide_eq_true (by omega)
    obtain ⟨c, hc, hne⟩ := hm1 a ha hlt
    have hidx : s[((a : Nat) : Int).toNat]? = some c := by simpa using hc
    have t8 : ((c.toNat : Int) != 47) = true := by simp; omega
    have e5 : IntKind.i64.wrap ((a : Int) + 1) = ((a + 1 : Nat) : Int) := by rw [IntWalk.i64_in _ (by omega)]; omega
    repeat' (first | rw [e5] | (apply AL_idxs ttok; (iterate 5 exact rfl); exact Int.natCast_nonneg _; exact hidx) | (apply AL_move; exact rfl; exact rfl) | (apply AL_assign; exact rfl; exact rfl) | (apply AL_bin; (iterate 5 exact rfl)) | refine AL_nil ?_ | (apply AL_guardT; (iterate 3 exact rfl); (first | with_reducible assumption | decide +kernel)) | (apply AL_pickT; exact rfl; (first | with_reducible assumption | decide +kernel); exact rfl; exact rfl) | refine AW_region ?_ | refine AW_seq' ?_ | (apply AW_condA; exact rfl; (first | with_reducible assumption | decide +kernel)) | refine then_norm ?_ | refine blk_norm ?_ | refine AW_block ?_ | (apply AL_lens ttok; (iterate 4 exact rfl)) | refine AW_skip ?_)
    refine Lands.mk' (m := k - 1) (by omega) ⟨a + 1, by omega, by omega, rfl, rfl, rfl⟩ ?_ rfl rfl rfl rfl rfl rfl
    exact .cons rfl (.cons rfl (.cons rfl (.cons rfl (.cons rfl .nil))))
  · obtain rfl : a = m := by omega
    rcases Nat.lt_or_ge a s.length with hl | hl
    · have t7 : decide ((a : Int) < (s.length : Int)) = true := decide_eq_true (by omega)
      obtain ⟨c, hc, hne⟩ := hm2 hl
      have hidx : s[((a : Nat) : Int).toNat]? = some c := by simpa using hc
      have t8 : ((c.toNat : Int) != 47) = false := by simp; omega
      have t9 : ((a : Int) == (s.length : Int)) = false := by simp; omega
      have e5 : IntKind.i64.wrap ((a : Int) + 1) = ((a + 1 : Nat) : Int) := by rw [IntWalk.i64_in _ (by omega)]; omega
      have q1 : Int.toNat 6 ≤ ((a : Nat) : Int).toNat := by omega
      have q2 : ((a : Nat) : Int).toNat ≤ s.length := by omega
      have q3 : ((a + 1 : Nat) : Int).toNat ≤ s.length := by omega
      have s1 : (s.take ((a : Nat) : Int).toNat).drop (Int.toNat 6) = h := by rw [← hh]; rfl
      have s2 : (s.take s.length).drop ((a + 1 : Nat) : Int).toNat = d := by rw [List.take_length, ← hd]; rfl
      rw [if_pos hl]
      clear hm1 hm2
      cases z4 with
      | true =>
        clear hT
        cases z5
        all_goals
          repeat' (first | rw [e5] | (apply AL_callPw (hK); kernel_rfl; (iterate 4 exact rfl)) | (apply AL_idxs ttok; (iterate 5 exact rfl); exact Int.natCast_nonneg _; exact hidx) | (apply AL_sliceS ttok; (iterate 4 exact rfl); exact .lit _ _ _ _ rfl (by decide); exact .lit _ _ _ _ rfl (Int.natCast_nonneg _); exact q1; exact q2; exact s1) | (apply AL_sliceS ttok; (iterate 4 exact rfl); exact .lit _ _ _ _ rfl (Int.natCast_nonneg _); exact .dft _; exact q3; exact Nat.le_refl _; exact s2) | (apply AL_move; exact rfl; exact rfl) | (apply AL_assign; exact rfl; exact rfl) | (apply AL_bin; (iterate 5 exact rfl)) | (apply AL_loadn ttok; (iterate 7 exact rfl)) | (apply AL_store ttok; (iterate 8 exact rfl)) | refine AL_nil ?_ | (apply AL_guardT; (iterate 3 exact rfl); (first | with_reducible assumption | decide +kernel)) | (apply AL_guardFf; (iterate 3 exact rfl); (first | with_reducible assumption | decide +kernel)) | (apply AL_pickT; exact rfl; (first | with_reducible assumption | decide +kernel); exact rfl; exact rfl) | refine AW_region ?_ | refine AW_seq' ?_ | (apply AW_condA; exact rfl; (first | with_reducible assumption | decide +kernel)) | (apply AW_condB; exact rfl; (first | with_reducible assumption | decide +kernel)) | refine then_norm ?_ | refine AW_exit ?_ | refine AW_ret ?_ | refine then_ret ?_ | (apply AL_lens ttok; (iterate 4 exact rfl)) | (apply AL_build ttok; (iterate 6 exact rfl)) | (apply AW_drawE 7 hmix; (decide +kernel); (kernel_rfl); (kernel_rfl); (kernel_rfl); exact rfl; exact rfl) | (apply AE_consZ; (iterate 4 exact rfl)) | exact AE.nil _ _ _ _ | (apply AEk_puT; exact rfl) | (apply AOt_mk; exact rfl; exact rfl; (decide +kernel); exact rfl) | (apply AO_puT; exact rfl) | exact AO.nil _ _ _ | (apply AOs_skip; (decide +kernel)) | exact AOs.nil | exact qY_ok rfl rfl | refine AW_skip ?_)
          all_goals (apply endQ []; (repeat (first | exact ResL.nil | (apply ResL.cons; first | exact .tmp _ _ rfl | (apply res_n ttok; (iterate 6 exact rfl)) | (apply res_1 ttok; (iterate 5 exact rfl))))); (iterate 4 exact rfl))
          all_goals rfl
      | false =>
        have hT := hT rfl
        cases z5
        all_goals
          repeat' (first | rw [e5] | (apply AL_callPw (hK); kernel_rfl; (iterate 4 exact rfl)) | (apply AL_callPw (hT); kernel_rfl; (iterate 4 exact rfl)) | (apply AL_idxs ttok; (iterate 5 exact rfl); exact Int.natCast_nonneg _; exact hidx) | (apply AL_sliceS ttok; (iterate 4 exact rfl); exact .lit _ _ _ _ rfl (by decide); exact .lit _ _ _ _ rfl (Int.natCast_nonneg _); exact q1; exact q2; exact s1) | (apply AL_sliceS ttok; (iterate 4 exact rfl); exact .lit _ _ _ _ rfl (Int.natCast_nonneg _); exact .dft _; exact q3; exact Nat.le_refl _; exact s2) | (apply AL_move; exact rfl; exact rfl) | (apply AL_assign; exact rfl; exact rfl) | (apply AL_bin; (iterate 5 exact rfl)) | (apply AL_loadn ttok; (iterate 7 exact rfl)) | (apply AL_store ttok; (iterate 8 exact rfl)) | refine AL_nil ?_ | (apply AL_guardT; (iterate 3 exact rfl); (first | with_reducible assumption | decide +kernel)) | (apply AL_pickT; exact rfl; (first | with_reducible assumption | decide +kernel); exact rfl; exact rfl) | (apply AL_pickF; exact rfl; (first | with_reducible assumption | decide +kernel); exact rfl; exact rfl) | refine AW_region ?_ | refine AW_seq' ?_ | (apply AW_condA; exact rfl; (first | with_reducible assumption | decide +kernel)) | (apply AW_condB; exact rfl; (first | with_reducible assumption | decide +kernel)) | refine then_norm ?_ | refine AW_exit ?_ | refine AW_ret ?_ | refine then_ret ?_ | (apply AL_lens ttok; (iterate 4 exact rfl)) | (apply AL_build ttok; (iterate 6 exact rfl)) | (apply AL_str; (iterate 5 exact rfl)) | (apply AW_drawE 7 hmix; (decide +kernel); (kernel_rfl); (kernel_rfl); (kernel_rfl); exact rfl; exact rfl) | (apply AE_consZ; (iterate 4 exact rfl)) | exact AE.nil _ _ _ _ | (apply AEk_puT; exact rfl) | (apply AOt_mk; exact rfl; exact rfl; (decide +kernel); exact rfl) | (apply AO_puT; exact rfl) | exact AO.nil _ _ _ | (apply AOs_skip; (decide +kernel)) | exact AOs.nil | exact qY_ok rfl rfl | refine AW_skip ?_)
          all_goals (apply endQ []; (repeat (first | exact ResL.nil | (apply ResL.cons; first | exact .tmp _ _ rfl | (apply res_n ttok; (iterate 6 exact rfl)) | (apply res_1 ttok; (iterate 5 exact rfl))))); (iterate 4 exact rfl))
          all_goals rfl
    · have t7 : decide ((a : Int) < (s.length : Int)) = false := decide_eq_false (by omega)
      have t9 : ((a : Int) == (s.length : Int)) = true := by simp; omega
      rw [if_neg (by omega)]
      repeat' (first | (apply AL_move; exact rfl; exact rfl) | (apply AL_assign; exact rfl; exact rfl) | (apply AL_bin; (iterate 5 exact rfl)) | (apply AL_store ttok; (iterate 8 exact rfl)) | refine AL_nil ?_ | (apply AL_guardFt; (iterate 3 exact rfl); (first | with_reducible assumption | decide +kernel)) | (apply AL_pickF; exact rfl; (first | with_reducible assumption | decide +kernel); exact rfl; exact rfl) | refine AW_region ?_ | refine AW_seq' ?_ | (apply AW_condA; exact rfl; (first | with_reducible assumption | decide +kernel)) | (apply AW_condB; exact rfl; (first | with_reducible assumption | decide +kernel)) | refine then_norm ?_ | refine AW_exit ?_ | refine AW_ret ?_ | refine then_ret ?_ | (apply AL_lens ttok; (iterate 4 exact rfl)) | (apply AL_build ttok; (iterate 6 exact rfl)))
      all_goals (apply endQ []; (repeat (first | exact ResL.nil | (apply ResL.cons; first | exact .tmp _ _ rfl | (apply res_n ttok; (iterate 6 exact rfl)) | (apply res_1 ttok; (iterate 5 exact rfl))))); (iterate 4 exact rfl))
      all_goals rfl
end Go.Proofs.YtdhkfbolnkikgaaGreatDoor
end
/- The document's answers for names: the name of any text. -/
section
open Go.RowKit Go.Pl Go.Av
namespace Go.Proofs.YtdhkfbolnkikgaaGreatDoor
set_option linter.unusedVariables false
set_option linter.unusedSimpArgs false
theorem toNat_ne {c : UInt8} (h : c ≠ 47) : c.toNat ≠ 47 := fun e => h (UInt8.toNat_inj.1 (by rw [e]; rfl))
theorem cand_all {s : List UInt8} {c : EidV} (h0 : s ≠ noneT) (hc : (parseE s).2 = true → c = (parseE s).1) {i : Bool} {n q : Nat} {h d : List UInt8} (ec : c = ⟨i, n, q, h, d⟩) : candD (decide (kindN c < 1)) (textE c != s) i n q h d = parseR s := by
  cases hk : decide (kindN c < 1) with
  | true => rw [parseR_no (cand_k h0 hc hk)]; cases (textE c != s) <;> rfl
  | false =>
    cases ht : (textE c != s) with
    | true => rw [parseR_no (cand_t hc ht)]; rfl
    | false => rw [parseR_yes (cand_y hk ht), ec]
theorem right_of_k {c : EidV} (h : decide (kindN c < 1) = false) : eRight c = true := by
  rw [kind_lt, Bool.or_eq_false_iff] at h
  simpa using h.1
theorem av_refParse [Known] (s : List UInt8) (hs : s.length ≤ 1099511627776) : AP Tryz.prog 36 [.str s] (parseR s) [] := by
  cases h0 : (s == noneT) with
  | true =>
    have e : parseE s = (eidZ, true) := by unfold parseE; rw [if_pos h0]
    rw [parseR_yes e]
    exact rp_n s h0
  | false =>
    have hne : s ≠ noneT := by simpa using h0
    by_cases hI : ∃ r, r ≠ [] ∧ s = ipnT ++ r
    · obtain ⟨r, hr, rfl⟩ := hI
      have hl : (ipnT ++ r).length = 4 + r.length := by simp [ipnT]; omega
      have hrl : 0 < r.length := List.length_pos_iff.2 hr
      have hn := numR_len 11 0 r
      have hC1 := av_number (ipnT ++ r) 4 (by omega) (by omega)
      have ed : (ipnT ++ r).drop 4 = r := rfl
      rw [ed] at hC1
      have hK := av_kind (candI r) ⟨by simp [candI], by simp [candI]⟩
      rw [← cand_all hne candI_ok (show candI r = ⟨true, _, _, [], []⟩ from rfl)]
      refine rp_i (ipnT ++ r) (numR 11 0 r).1 (if 4 + (numR 11 0 r).2 < 4 + r.length then (numR 11 0 (r.drop ((numR 11 0 r).2 + 1))).1 else 0) (4 + (numR 11 0 r).2) ((4 + (numR 11 0 r).2 + 1) + (numR 11 0 (r.drop ((numR 11 0 r).2 + 1))).2) (kindN (candI r)) (textE (candI r)) (decide (4 + (numR 11 0 r).2 < 4 + r.length)) _ _ h0 (decide_eq_true (by omega)) (by omega) rfl hC1 (by rw [hl]; simp only [Int.ofNat_lt]) (by rw [IntWalk.i64_in _ (by omega)]; omega) (fun hz => ?_) (fun hz => if_neg (of_decide_eq_false hz)) hK rfl (fun hz => av_refText _ (right_of_k hz)) rfl
      have hz := of_decide_eq_true hz
      rw [if_pos hz]
      have hC2 := av_number (ipnT ++ r) (4 + (numR 11 0 r).2 + 1) (by omega) (by omega)
      have ed2 : (ipnT ++ r).drop (4 + (numR 11 0 r).2 + 1) = r.drop ((numR 11 0 r).2 + 1) := by
        rw [show 4 + (numR 11 0 r).2 + 1 = 4 + ((numR 11 0 r).2 + 1) by omega, ← List.drop_drop, ed]
      rw [ed2] at hC2
      exact hC2
    · by_cases hT : ∃ r, r ≠ [] ∧ s = [100, 116, 110, 58, 47, 47] ++ r
      · obtain ⟨r, hr, rfl⟩ := hT
        have hl : ([100, 116, 110, 58, 47, 47] ++ r : List UInt8).length = 6 + r.length := by simp; omega
        have hrl : 0 < r.length := List.length_pos_iff.2 hr
        have ed : ([100, 116, 110, 58, 47, 47] ++ r : List UInt8).drop 6 = r := rfl
        have eg : ∀ i, ([100, 116, 110, 58, 47, 47] ++ r : List UInt8)[6 + i]? = r[i]? := fun i => by rw [← List.getElem?_drop, ed]
        rcases cut_cases 47 r with hno | ⟨a, b, rfl, hno⟩
        · have hK := av_kind ⟨false, 0, 0, r, []⟩ ⟨by show r.length ≤ _; omega, by simp⟩
          have h := rp_t ([100, 116, 110, 58, 47, 47] ++ r) (6 + r.length) r [] (kindN ⟨false, 0, 0, r, []⟩) (textE ⟨false, 0, 0, r, []⟩) _ _ h0 (by omega) (decide_eq_true (by omega)) (by omega) rfl (decide_eq_true (by omega)) (by omega) rfl (by omega) (by omega)
            (fun i h6 hi => by
              obtain ⟨j, rfl⟩ : ∃ j, i = 6 + j := ⟨i - 6, by omega⟩
              rw [eg]
              have hj : j < r.length := by omega
              exact ⟨r[j], List.getElem?_eq_getElem hj, toNat_ne fun e => hno (e ▸ List.getElem_mem hj)⟩)
            (fun h => by omega) (by rw [List.take_of_length_le (by omega), ed]) (List.drop_of_length_le (by omega)) hK rfl (fun hz => av_refText _ (right_of_k hz)) rfl
          rw [if_neg (by omega)] at h
          rw [parseR_no (parse_no hne (fun r' hr' e => hI ⟨r', hr', e⟩) (fun h d hh e => hno (by rw [List.append_cancel_left e]; simp)))]
          exact h
        · have hal : (a ++ 47 :: b).length = a.length + (b.length + 1) := by simp
          have hK := av_kind ⟨false, 0, 0, a, b⟩ ⟨by show a.length ≤ _; omega, by show b.length ≤ _; omega⟩
          have h := rp_t ([100, 116, 110, 58, 47, 47] ++ (a ++ 47 :: b)) (6 + a.length) a b (kindN ⟨false, 0, 0, a, b⟩) (textE ⟨false, 0, 0, a, b⟩) _ _ h0 (by omega) (decide_eq_true (by omega)) (by omega) rfl (decide_eq_true (by omega)) (by omega) rfl (by omega) (by omega)
            (fun i h6 hi => by
              obtain ⟨j, rfl⟩ : ∃ j, i = 6 + j := ⟨i - 6, by omega⟩
              rw [eg]
              have hj : j < a.length := by omega
              exact ⟨a[j], by rw [List.getElem?_append_left hj, List.getElem?_eq_getElem hj], toNat_ne fun e => hno (e ▸ List.getElem_mem hj)⟩)
            (fun h => ⟨47, by rw [eg, List.getElem?_append_right (Nat.le_refl _), Nat.sub_self]; rfl, rfl⟩)
            (by
              have e : ([100, 116, 110, 58, 47, 47] ++ (a ++ 47 :: b) : List UInt8).take (6 + a.length) = [100, 116, 110, 58, 47, 47] ++ a := by
                rw [← List.append_assoc, List.take_append_of_le_length (by simp; omega), List.take_of_length_le (by simp; omega)]
              rw [e]; rfl)
            (by
              have e : ([100, 116, 110, 58, 47, 47] ++ (a ++ 47 :: b) : List UInt8).drop (6 + (a.length + 1)) = (a ++ 47 :: b).drop (a.length + 1) := by rw [← List.drop_drop, ed]
              rw [show 6 + a.length + 1 = 6 + (a.length + 1) by omega, e, List.drop_append, List.drop_of_length_le (by omega)]; simp)
            hK rfl (fun hz => av_refText _ (right_of_k hz)) rfl
          rw [if_pos (by omega)] at h
          rw [← cand_all hne (candT_ok hno) rfl]
          exact h
      · have hpn := parse_no hne (fun r' hr' e => hI ⟨r', hr', e⟩) (fun h d hh e => hT ⟨_, by simp, e⟩)
        rw [parseR_no hpn]
        have hK := av_kind eidZ ⟨by decide, by decide⟩
        refine rp_z s h0 ?_ ?_ hK
        · rcases Nat.lt_or_ge 4 s.length with h4 | h4
          · refine .inr ⟨decide_eq_true (by omega), by omega, ?_⟩
            cases hb : ((s.take (Int.toNat 4)).drop 0 == [105, 112, 110, 58]) with
            | false => rfl
            | true =>
              have e : s.take 4 = ipnT := beq_iff_eq.1 hb
              refine absurd ⟨s.drop 4, ?_, ?_⟩ hI
              · intro hn; have := congrArg List.length hn; simp at this; omega
              · rw [← e, List.take_append_drop]
          · exact .inl (decide_eq_false (by omega))
        · rcases Nat.lt_or_ge 6 s.length with h4 | h4
          · refine .inr ⟨decide_eq_true (by omega), by omega, ?_⟩
            cases hb : ((s.take (Int.toNat 6)).drop 0 == [100, 116, 110, 58, 47, 47]) with
            | false => rfl
            | true =>
              have e : s.take 6 = [100, 116, 110, 58, 47, 47] := beq_iff_eq.1 hb
              refine absurd ⟨s.drop 6, ?_, ?_⟩ hT
              · intro hn; have := congrArg List.length hn; simp at this; omega
              · rw [← e, List.take_append_drop]
          · exact .inl (decide_eq_false (by omega))
end Go.Proofs.YtdhkfbolnkikgaaGreatDoor
end

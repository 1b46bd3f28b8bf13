/- What a row's tables and errors of strconv tell of the world. -/
import Derived.Test.YtdhkfbolnkikgaaGreatDoorG13
import Derived.Test.YtdhkfbolnkikgaaGreatDoorG36
import Derived.Stop.LaidErr
import Derived.Test.YtdhkfbolnkikgaaGreatDoorG11
section
open Go.RowKit Go.Pl Go.Av Go.Lib
namespace Go.Proofs.YtdhkfbolnkikgaaGreatDoor
set_option linter.unusedVariables false
theorem star_e : "*" ++ "errors.errorString" = "*errors.errorString" := by decide
theorem row_e (u : TypeId) (h : Tryz.prog.typeName? 3 u = some "*errors.errorString") : u = 143 :=
  typeName_ptr_named (nm := "errors.errorString") (by rw [star_e]; kernel_rfl) (by kernel_rfl) (by decide) u (by rw [star_e]; exact h)
theorem err_face : Tryz.prog.underlying 108 = some (.interface (Tryz.prog.methodsAt 108)) := by kernel_rfl
theorem sent_at {W : World} {n : String} {g : Nat} {text : List UInt8} {r : List (String × DataW Unit)} (hg : Tryz.prog.globalNamed n = some g) (ht : (Tryz.prog.globals[g]?).map (·.type) = some 108) (h : laidMet Tryz.prog ((n, .iface "*errors.errorString" (.ptr (.agg [.lit (.string text)]))) :: r) W) :
    (g0 W).C g 0 ∧ ∃ v, W.cell? ⟨g, 0, none⟩ = some (.iface 143 v) := by
  obtain ⟨a, s, hv, _⟩ := laid_sentinel h hg ht err_face row_e (Tryz.underlying143) (Tryz.underlying145) rfl rfl Tryz.underlying9 (by kernel_rfl) (by kernel_rfl)
  have hc : W.cell? ⟨g, 0, none⟩ = some (.iface 143 (.pointer (some a))) := by
    rw [World.var?_cell hg hv 0]; rfl
  exact ⟨World.block_lt_of_cell? W _ hc, _, hc⟩
abbrev knownSc : Known := ⟨[0, 2, 3]⟩
theorem knownSc_ok : @KnownSc knownSc := @KnownSc.mk knownSc (List.mem_cons_of_mem _ (List.mem_cons_of_mem _ (List.mem_cons_self ..))) (List.mem_cons_of_mem _ (List.mem_cons_self ..))
theorem knownPow_ok : @KnownPow knownSc := @KnownPow.mk knownSc (List.mem_cons_self ..)
def powZ : List Int := (List.range 20).map fun i => ((10 ^ i : Nat) : Int)
theorem gls_sc {W : World} {laid r1 r2 : List (String × DataW Unit)} (h1 : ("internal/strconv.uint64pow10", Rows.laid_internal_strconv_uint64pow10) ∈ laid) (h : laidMet Tryz.prog laid W) (hR : laidMet Tryz.prog (("strconv.ErrRange", Rows.laid_strconv_ErrRange) :: r1) W) (hS : laidMet Tryz.prog (("strconv.ErrSyntax", Rows.laid_strconv_ErrSyntax) :: r2) W) : @Gls knownSc (g0 W).C W := by
  have r1' := laidMet.reads h h1
  have c1 := cells_at (P := Tryz.prog) (g := 0) (t := 120) (by kernel_rfl) (by kernel_rfl) r1' (ints_at powZ (by kernel_rfl) (n := 20) (by kernel_rfl) Tryz.underlying22 (by kernel_rfl) (by kernel_rfl))
  have eR := sent_at (W := W) (g := 3) (by kernel_rfl) (by kernel_rfl) hR
  have eS := sent_at (W := W) (g := 2) (by kernel_rfl) (by kernel_rfl) hS
  refine ⟨fun k cs hk => ?_, fun k t hk => ?_⟩
  · obtain ⟨hk, hm⟩ := hk
    simp only [tabs, List.mem_cons, List.not_mem_nil, or_false, Prod.mk.injEq] at hm
    have hk : k ∈ [0, 2, 3] := hk
    simp only [List.mem_cons, List.not_mem_nil, or_false] at hk
    clear r1' h1 h hR hS eR eS
    rcases hk with rfl | rfl | rfl
    all_goals repeat' (refine Or.elim hm (fun hm => ?_) (fun hm => ?_))
    all_goals first
      | (obtain ⟨h, rfl⟩ := hm; exact c1)
      | (obtain ⟨h, _⟩ := hm; exact absurd h (by decide))
  · obtain ⟨hk, hm⟩ := hk
    have hk : k ∈ [0, 2, 3] := hk
    simp only [List.mem_cons, List.not_mem_nil, or_false] at hk
    simp only [tabI, List.mem_cons, List.not_mem_nil, or_false, Prod.mk.injEq] at hm
    clear r1' h1 h hR hS c1
    rcases hk with rfl | rfl | rfl
    all_goals repeat' (refine Or.elim hm (fun hm => ?_) (fun hm => ?_))
    all_goals first
      | (obtain ⟨h, _⟩ := hm; exact absurd h (by decide))
      | (obtain ⟨_, rfl⟩ := hm; exact eS)
      | (obtain ⟨_, rfl⟩ := hm; exact eR)
end Go.Proofs.YtdhkfbolnkikgaaGreatDoor
end
/- RequestTells: the walk, from the row's arguments. -/
section
open Go.RowKit Go.Pl Go.Av
namespace Go.Proofs.YtdhkfbolnkikgaaGreatDoor
set_option linter.unusedVariables false
theorem rq_fit {W : World} {cs : List Value} {x : XQ} (h : RQ.ok W (· < W.heap.size) cs x) : Fit x.v.ep ∧ Fit x.v.ds := by
  obtain ⟨id, kd, ⟨ei, en, es, eh, ed⟩, ⟨di, dn, dq, dh, dd⟩, r⟩ := x
  obtain ⟨_, _, _, _, _, _, _, _, _, _, _, ⟨_, _, _, _, _, _, _, _, _, _, _, _, _, _, _, ⟨_, h1⟩, ⟨_, h2⟩⟩, _, _, _, ⟨_, _, _, _, _, _, _, _, _, _, _, _, _, _, _, ⟨_, h3⟩, ⟨_, h4⟩⟩, _⟩ := h
  unfold maxLen at h1 h2 h3 h4
  exact ⟨⟨h1, h2⟩, ⟨h3, h4⟩⟩
theorem requestTells_walk (c0 c1 : List Value) (v2 : Value) (a3 : Int) (x0 x1 : XQ) (x2 : List UInt8) (W : World) (h0 : RQ.ok W (· < W.heap.size) c0 x0) (h1 : RQ.ok W (· < W.heap.size) c1 x1) (h2 : Sl Rep.byte W (· < W.heap.size) v2 x2) (h3 : -9223372036854775808 ≤ a3 ∧ a3 ≤ 9223372036854775807) (hl : laidMet Tryz.prog Rows.requestTellsRow.laid W) :
    Calls Tryz.prog 3 #[.agg c0.toArray, .agg c1.toArray, v2, .int .i64 a3] W fun e w' => e = .returned (.bool true) ∧ Below W.heap.size W w' := by
  have hg := gls_sc (laid := Rows.requestTellsRow.laid) (by unfold Rows.requestTellsRow; repeat (first | exact List.mem_cons_self .. | apply List.mem_cons_of_mem)) hl hl.tail.tail.tail hl.tail.tail.tail.tail
  obtain ⟨f1, f2⟩ := rq_fit h0
  have h := @av_requestTells knownSc knownSc_ok knownPow_ok x0.v x1.v x2 a3 h3 f1 f2
  refine @topG knownSc Tryz.prog 3 _ (@AC.mono knownSc _ _ _ _ _ _ _ h fun r b t h => h.1) W [.agg c0.toArray, .agg c1.toArray, v2, .int .i64 a3] hg rfl ?_
  intro j d v hd hv
  match j, hd, hv with
  | 0, hd, hv => cases hd; cases hv; exact @rq_V knownSc _ _ _ h0
  | 1, hd, hv => cases hd; cases hv; exact @rq_V knownSc _ _ _ h1
  | 2, hd, hv => cases hd; cases hv; exact bytes_V h2
  | 3, hd, hv => cases hd; cases hv; exact .int _ _
  | j + 4, hd, hv => cases hd
end Go.Proofs.YtdhkfbolnkikgaaGreatDoor
end

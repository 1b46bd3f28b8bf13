/- What a row's tables and errors of strconv tell of the world. -/
import Derived.Test.YtnihobjehelagaaDoorG12
import Derived.Test.YtnihobjehelagaaDoorG07
import Derived.Stop.LaidErr
import Derived.Test.YtnihobjehelagaaDoorG20
section
open Go.RowKit Go.Pl Go.Av Go.Lib
namespace Go.Proofs.YtnihobjehelagaaDoor
set_option linter.unusedVariables false
theorem star_e : "*" ++ "errors.errorString" = "*errors.errorString" := by decide
theorem row_e (u : TypeId) (h : Tryd.prog.typeName? 3 u = some "*errors.errorString") : u = 213 :=
  typeName_ptr_named (nm := "errors.errorString") (by rw [star_e]; kernel_rfl) (by kernel_rfl) (by decide) u (by rw [star_e]; exact h)
theorem err_face : Tryd.prog.underlying 153 = some (.interface (Tryd.prog.methodsAt 153)) := by kernel_rfl
theorem sent_at {W : World} {n : String} {g : Nat} {text : List UInt8} {r : List (String × DataW Unit)} (hg : Tryd.prog.globalNamed n = some g) (ht : (Tryd.prog.globals[g]?).map (·.type) = some 153) (h : laidMet Tryd.prog ((n, .iface "*errors.errorString" (.ptr (.agg [.lit (.string text)]))) :: r) W) :
    (g0 W).C g 0 ∧ ∃ v, W.cell? ⟨g, 0, none⟩ = some (.iface 213 v) := by
  obtain ⟨a, s, hv, _⟩ := laid_sentinel h hg ht err_face row_e (Tryd.underlying213) (Tryd.underlying215) rfl rfl Tryd.underlying9 (by kernel_rfl) (by kernel_rfl)
  have hc : W.cell? ⟨g, 0, none⟩ = some (.iface 213 (.pointer (some a))) := by
    rw [World.var?_cell hg hv 0]; rfl
  exact ⟨World.block_lt_of_cell? W _ hc, _, hc⟩
abbrev knownSc : Known := ⟨[2, 4, 5]⟩
theorem knownSc_ok : @KnownSc knownSc := @KnownSc.mk knownSc (List.mem_cons_of_mem _ (List.mem_cons_of_mem _ (List.mem_cons_self ..))) (List.mem_cons_of_mem _ (List.mem_cons_self ..))
theorem knownPow_ok : @KnownPow knownSc := @KnownPow.mk knownSc (List.mem_cons_self ..)
def powZ : List Int := (List.range 20).map fun i => ((10 ^ i : Nat) : Int)
theorem gls_sc {W : World} {laid r1 r2 : List (String × DataW Unit)} (h1 : ("internal/strconv.uint64pow10", Rows.laid_internal_strconv_uint64pow10) ∈ laid) (h : laidMet Tryd.prog laid W) (hR : laidMet Tryd.prog (("strconv.ErrRange", Rows.laid_strconv_ErrRange) :: r1) W) (hS : laidMet Tryd.prog (("strconv.ErrSyntax", Rows.laid_strconv_ErrSyntax) :: r2) W) : @Gls knownSc (g0 W).C W := by
  have r1' := laidMet.reads h h1
  have c1 := cells_at (P := Tryd.prog) (g := 2) (t := 191) (by kernel_rfl) (by kernel_rfl) r1' (ints_at powZ (by kernel_rfl) (n := 20) (by kernel_rfl) Tryd.underlying22 (by kernel_rfl) (by kernel_rfl))
  have eR := sent_at (W := W) (g := 5) (by kernel_rfl) (by kernel_rfl) hR
  have eS := sent_at (W := W) (g := 4) (by kernel_rfl) (by kernel_rfl) hS
  refine ⟨fun k cs hk => ?_, fun k t hk => ?_⟩
  · obtain ⟨hk, hm⟩ := hk
    simp only [tabs, List.mem_cons, List.not_mem_nil, or_false, Prod.mk.injEq] at hm
    have hk : k ∈ [2, 4, 5] := hk
    simp only [List.mem_cons, List.not_mem_nil, or_false] at hk
    clear r1' h1 h hR hS eR eS
    rcases hk with rfl | rfl | rfl
    all_goals repeat' (refine Or.elim hm (fun hm => ?_) (fun hm => ?_))
    all_goals first
      | (obtain ⟨h, rfl⟩ := hm; exact c1)
      | (obtain ⟨h, _⟩ := hm; exact absurd h (by decide))
  · obtain ⟨hk, hm⟩ := hk
    have hk : k ∈ [2, 4, 5] := hk
    simp only [List.mem_cons, List.not_mem_nil, or_false] at hk
    simp only [tabI, List.mem_cons, List.not_mem_nil, or_false, Prod.mk.injEq] at hm
    clear r1' h1 h hR hS c1
    rcases hk with rfl | rfl | rfl
    all_goals repeat' (refine Or.elim hm (fun hm => ?_) (fun hm => ?_))
    all_goals first
      | (obtain ⟨h, _⟩ := hm; exact absurd h (by decide))
      | (obtain ⟨_, rfl⟩ := hm; exact eS)
      | (obtain ⟨_, rfl⟩ := hm; exact eR)
end Go.Proofs.YtnihobjehelagaaDoor
end
/- EidTexts: the walk, from the row's arguments. -/
section
open Go.RowKit Go.Pl Go.Av
namespace Go.Proofs.YtnihobjehelagaaDoor
set_option linter.unusedVariables false
theorem str_V [Known] {W : World} {s : ByteArray} (h : s.size ≤ maxLen) : V W (g0 W) [] (.str s.data.toList) (.string s) := by
  have := V.str (w := W) (g := g0 W) (fr := []) s.data.toList (by simpa using h)
  simpa using this
theorem eidTexts_walk (c0 c1 : List Value) (a2 : ByteArray) (x0 x1 : XE) (W : World) (h0 : RE.ok W (· < W.heap.size) c0 x0) (h1 : RE.ok W (· < W.heap.size) c1 x1) (h2 : a2.size ≤ maxLen) (hl : laidMet Tryd.prog Rows.eidTextsRow.laid W) :
    Calls Tryd.prog 9 #[.agg c0.toArray, .agg c1.toArray, .string a2] W fun e w' => e = .returned (.bool true) ∧ Below W.heap.size W w' := by
  have hg := gls_sc (laid := Rows.eidTextsRow.laid) (by unfold Rows.eidTextsRow; repeat (first | exact List.mem_cons_self .. | apply List.mem_cons_of_mem)) hl hl.tail.tail.tail hl.tail.tail.tail.tail
  have h := @av_eidTexts knownSc knownSc_ok knownPow_ok x0.v x1.v a2.data.toList
  refine @topG knownSc Tryd.prog 9 _ (@AC.mono knownSc _ _ _ _ _ _ _ h fun r b t h => h.1) W [.agg c0.toArray, .agg c1.toArray, .string a2] hg rfl ?_
  intro j d v hd hv
  match j, hd, hv with
  | 0, hd, hv => cases hd; cases hv; exact @eid_V knownSc _ _ _ h0
  | 1, hd, hv => cases hd; cases hv; exact @eid_V knownSc _ _ _ h1
  | 2, hd, hv => cases hd; cases hv; exact @str_V knownSc _ _ h2
  | j + 3, hd, hv => cases hd
end Go.Proofs.YtnihobjehelagaaDoor
end

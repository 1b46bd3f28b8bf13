/- cbor.Read: the item at a place, where it ends, or why there is none. -/
import Derived.Test.YtnihobjehelagaaDoorG05
import Derived.Test.YtnihobjehelagaaDoorG04
section
open Go.RowKit Go.Pl Go.Av
namespace Go.Proofs.YtnihobjehelagaaDoor
set_option linter.unusedVariables false
set_option linter.unusedSimpArgs false
set_option maxHeartbeats 4000000
abbrev zIt : List D := [.int .i64 0, .int .u64 0, .sl .nil [], .sl .nil []]
/-- code behind the first three pieces -/
def behind3 : Code → Code
  | .seq _ (.seq _ (.seq _ r)) => r
  | c => c
abbrev rdTm (b : List UInt8) (p : Nat) : List (Nat × D) := [(17, .fn 52 [.ptr 0 0, .ptr 1 0, .ptr 2 0]), (0, byE b), (1, .int .i64 (p : Int)), (4, .ptr 0 0), (5, .ptr 1 0), (6, .ptr 2 0)]
theorem rd_ok [Known] [KnownU8] [Dfr] (b : List UInt8) (p p2 m1 : Nat) (k : Int) (n : Nat) (bb : List UInt8) (l : List It) (hit : AR Tryd.prog 53 [.ptr 0 0, .int .i64 ((1 : Nat) : Int)] [rdC b p 256] (.ok (itD (.mk k n bb l), [rdC b p2 m1]))) :
    AW Tryd.prog (behind3 (Tryd.f17.body.getD .skip)) ⟨29, rdTm b p, [zIt, [.int .i64 0], [.int .i64 0]], [], (3, 0)⟩
      (fun X S => X = .ret ∧ S.n = 29 ∧ S.bx = [itC k n bb l, [.int .i64 (p2 : Int)], [.int .i64 0], rdC b p2 m1] ∧ S.fr = [] ∧ Av.look S.tm 4 = .ptr 0 0 ∧ Av.look S.tm 5 = .ptr 1 0 ∧ Av.look S.tm 6 = .ptr 2 0) := by
  conv => enter [4]; whnf
  repeat' (first | (apply AL_callQw [3] (hit.q rfl); kernel_rfl; (iterate 7 exact rfl)) | (apply AL_move; exact rfl; exact rfl) | (apply AL_assign; exact rfl; exact rfl) | (apply AL_load1 ttok; (iterate 6 exact rfl)) | (apply AL_loadn ttok; (iterate 7 exact rfl)) | (apply AL_fieldAddr ttok; (iterate 7 exact rfl)) | (apply AL_nilCheck; exact rfl; exact rfl) | (apply AL_boxZ; (iterate 5 exact rfl)) | (apply AL_store ttok; (iterate 8 exact rfl)) | refine AL_nil ?_ | refine AW_region ?_ | refine AW_seq' ?_ | refine then_norm ?_ | refine AW_ret ?_ | (apply AL_build ttok; (iterate 6 exact rfl)) | (apply AW_drawE 6 hmix; (decide +kernel); (kernel_rfl); (kernel_rfl); (kernel_rfl); exact rfl; exact rfl) | (apply AE_consZ; (iterate 4 exact rfl)) | exact AE.nil _ _ _ _ | (apply AEk_puT; exact rfl) | (apply AEk_pu; exact rfl) | (apply AOt_mk; exact rfl; exact rfl; (decide +kernel); exact rfl) | (apply AO_puT; exact rfl) | (apply AO_pu; exact rfl) | exact AO.nil _ _ _ | (apply AOs_skip; (decide +kernel)) | exact AOs.nil | exact qY_ok rfl rfl | exact qY_none rfl)
  all_goals exact ⟨rfl, rfl, rfl, rfl, rfl, rfl, rfl⟩
theorem rd_err [Known] [KnownU8] [Dfr] (b : List UInt8) (p e : Nat) (hit : AR Tryd.prog 53 [.ptr 0 0, .int .i64 ((1 : Nat) : Int)] [rdC b p 256] (.error (faultD e))) :
    AW Tryd.prog (behind3 (Tryd.f17.body.getD .skip)) ⟨29, rdTm b p, [zIt, [.int .i64 0], [.int .i64 0]], [], (3, 0)⟩
      (fun X S => X = .pan (faultD e) ∧ S.n = 29 ∧ S.bx.take 3 = [zIt, [.int .i64 0], [.int .i64 0]] ∧ Av.look S.tm 4 = .ptr 0 0 ∧ Av.look S.tm 5 = .ptr 1 0 ∧ Av.look S.tm 6 = .ptr 2 0) := by
  conv => enter [4]; whnf
  repeat' (first | (apply AL_callX2 [3] (hit.x rfl); kernel_rfl; (iterate 6 exact rfl); intro bx2 fr2 hle2) | (apply AL_move; exact rfl; exact rfl) | (apply AL_assign; exact rfl; exact rfl) | (apply AL_boxZ; (iterate 5 exact rfl)) | refine AL_nil ?_ | refine AW_region ?_ | refine AW_seq' ?_ | (apply AL_build ttok; (iterate 6 exact rfl)) | refine then_pan ?_)
  all_goals
    obtain ⟨c, t, rfl⟩ : ∃ c t, bx2 = c :: t := by
      cases bx2 with
      | nil => simp at hle2
      | cons c t => exact ⟨c, t, rfl⟩
    exact ⟨rfl, rfl, rfl, rfl, rfl, rfl⟩
/-- the deferred call behind a reading that went well: nothing is recovered -/
theorem cl_ret [Known] (k : Int) (n : Nat) (bb : List UInt8) (l : List It) (p2 : Nat) : ∀ (g : G) (w : World) (vs : List Value), Mem g [itC k n bb l, [.int .i64 (p2 : Int)], [.int .i64 0]] [] w → vs.length = ([.ptr 0 0, .ptr 1 0, .ptr 2 0] : List D).length → (∀ (j : Nat) (d : D) (v : Value), ([.ptr 0 0, .ptr 1 0, .ptr 2 0] : List D)[j]? = some d → vs[j]? = some v → V w g [] d v) →
    CallsD Tryd.prog 52 vs.toArray .returning w fun e u2 w' => (∃ v, e = .returned v) ∧ u2 = .returning ∧ ∃ g', Mem g' [itC k n bb l, [.int .i64 (p2 : Int)], [.int .i64 0]] [] w' ∧ Evo ⟨g, [], w⟩ ⟨g', [], w'⟩ := fun g w vs hm hl hv => by
  refine (CD_of (dv := .nili) (u' := .returning) (post := fun S => S.bx = [itC k n bb l, [.int .i64 (p2 : Int)], [.int .i64 0], [.int .i64 0]] ∧ S.fr = []) Tryd.func52 rfl Tryd.ntmps52 rfl rfl rfl rfl rfl (fun ρ => by simp [execOp, resolve, invoke, Sem.run_bind]; rfl) hm hl hv (fun c₀ cs hc => by simp [recoverD, hc]) ?_).mono ?_
  · repeat' (first | (apply AL_taN ttok (cs := [.int .i64 0]); (iterate 3 exact rfl); kernel_rfl; exact rfl) | refine ⟨rfl, ?_⟩ | (apply AL_move; exact rfl; exact rfl) | (apply AL_assign; exact rfl; exact rfl) | (apply AL_store ttok; (iterate 8 exact rfl)) | (apply AL_extract; (iterate 3 exact rfl)) | refine AL_nil ?_ | refine AW_region ?_ | refine AW_seq' ?_ | (apply AW_condB; exact rfl; (first | with_reducible assumption | decide +kernel)) | (apply AL_allocZ ttok; (iterate 4 exact rfl)) | refine AW_skip ?_)
    all_goals rfl
  · rintro e u2 w' ⟨he, hu, S, g', hm', hev, hbx, hfr⟩
    have hok : okSel [0, 1, 2] S.bx.length := selOk_ok (by rw [hbx]; rfl)
    refine ⟨he, hu, g'.sel [0, 1, 2] [], ?_, ?_⟩
    · have := hm'.sel (bs := [0, 1, 2]) (ts := []) hok (okSel_nil _)
      rw [hbx] at this; exact this
    · exact hev.sel hm' (bs := [0, 1, 2]) (ts := []) hok (okSel_nil _) (fun i hi => by
        have hi : i < g.ρ.length := hi
        have h3 : g.ρ.length = 3 := hm.bl
        obtain rfl | rfl | rfl : i = 0 ∨ i = 1 ∨ i = 2 := by omega
        all_goals rfl) (fun i hi => by simp at hi)
/-- what a reader's fault is -/
abbrev faultV (e : Nat) : Value := .iface 89 (.agg #[.int .i64 (e : Int)])
theorem fault_inv {w : World} {g : G} {fr : List Fr} {e : Nat} {v : Value} (h : V w g fr (faultD e) v) : v = faultV e := by
  cases h with
  | iface _ _ u hu =>
    obtain ⟨vs, rfl, hl, hvs⟩ := agg_inv hu
    match vs, hl with
    | [x], _ => have := (hvs 0 _ x rfl rfl).int_inv; subst this; rfl
theorem fault_V (w : World) (g : G) (fr : List Fr) (e : Nat) : V w g fr (faultD e) (faultV e) :=
  .iface _ _ _ (.agg _ [.int .i64 (e : Int)] rfl fun j d v hd hv => by
    match j with
    | 0 => simp at hd hv; subst hd hv; exact .int _ _
    | j + 1 => simp at hd)
/-- the deferred call behind a reading that panicked -/
theorem cl_err [Known] (e0 : Nat) : ∀ (g : G) (w : World) (vs : List Value), Mem g [zIt, [.int .i64 0], [.int .i64 0]] [] w → vs.length = ([.ptr 0 0, .ptr 1 0, .ptr 2 0] : List D).length → (∀ (j : Nat) (d : D) (v : Value), ([.ptr 0 0, .ptr 1 0, .ptr 2 0] : List D)[j]? = some d → vs[j]? = some v → V w g [] d v) →
    CallsD Tryd.prog 52 vs.toArray (.panicking [{ v := faultV e0, recovered := false }]) w fun e u2 w' => (∃ v, e = .returned v) ∧ u2 = .panicking [{ v := faultV e0, recovered := true }] ∧ ∃ g', Mem g' [zIt, [.int .i64 0], [.int .i64 (e0 : Int)]] [] w' ∧ Evo ⟨g, [], w⟩ ⟨g', [], w'⟩ := fun g w vs hm hl hv => by
  refine (CD_of (dv := faultD e0) (u' := .panicking [{ v := faultV e0, recovered := true }]) (post := fun S => S.bx = [zIt, [.int .i64 0], [.int .i64 (e0 : Int)], [.int .i64 (e0 : Int)]] ∧ S.fr = []) Tryd.func52 rfl Tryd.ntmps52 rfl rfl rfl rfl rfl (fun ρ => by simp [execOp, resolve, invoke, Sem.run_bind]; rfl) hm hl hv (fun c₀ cs hc => by simp only [recoverD, hc]; exact ⟨fault_V _ _ _ _, trivial⟩) ?_).mono ?_
  · repeat' (first | (apply AL_taY ttok; (iterate 4 exact rfl)) | refine ⟨rfl, ?_⟩ | (apply AL_move; exact rfl; exact rfl) | (apply AL_assign; exact rfl; exact rfl) | (apply AL_load1 ttok; (iterate 6 exact rfl)) | (apply AL_fieldAddr ttok; (iterate 7 exact rfl)) | (apply AL_store ttok; (iterate 8 exact rfl)) | (apply AL_extract; (iterate 3 exact rfl)) | refine AL_nil ?_ | refine AW_region ?_ | refine AW_seq' ?_ | (apply AW_condA; exact rfl; (first | with_reducible assumption | decide +kernel)) | (apply AL_build ttok; (iterate 6 exact rfl)) | (apply AL_allocZ ttok; (iterate 4 exact rfl)) | (apply AW_drawE 5 hmix; (decide +kernel); (kernel_rfl); (kernel_rfl); (kernel_rfl); exact rfl; exact rfl) | (apply AE_consZ; (iterate 4 exact rfl)) | exact AE.nil _ _ _ _ | (apply AEk_puT; exact rfl) | (apply AEk_pu; exact rfl) | (apply AOt_mk; exact rfl; exact rfl; (decide +kernel); exact rfl) | (apply AO_puT; exact rfl) | (apply AO_pu; exact rfl) | exact AO.nil _ _ _ | (apply AOs_skip; (decide +kernel)) | exact AOs.nil | exact qY_ok rfl rfl | exact qY_none rfl)
    all_goals rfl
  · rintro e u2 w' ⟨he, hu, S, g', hm', hev, hbx, hfr⟩
    have hok : okSel [0, 1, 2] S.bx.length := selOk_ok (by rw [hbx]; rfl)
    refine ⟨he, hu, g'.sel [0, 1, 2] [], ?_, ?_⟩
    · have := hm'.sel (bs := [0, 1, 2]) (ts := []) hok (okSel_nil _)
      rw [hbx] at this; exact this
    · exact hev.sel hm' (bs := [0, 1, 2]) (ts := []) hok (okSel_nil _) (fun i hi => by
        have hi : i < g.ρ.length := hi
        have h3 : g.ρ.length = 3 := hm.bl
        obtain rfl | rfl | rfl : i = 0 ∨ i = 1 ∨ i = 2 := by omega
        all_goals rfl) (fun i hi => by simp at hi)
theorem tm3 {w : World} {g : G} {bx : List (List D)} {fr : List Fr} {tm : List (Nat × D)} {T : Nat → Value} [Known] (hm : Mem g bx fr w) (hok : okSel [0, 1, 2] bx.length) (h : ∀ t, V w g fr (Av.look tm t) (T t)) (h4 : Av.look tm 4 = .ptr 0 0) (h5 : Av.look tm 5 = .ptr 1 0) (h6 : Av.look tm 6 = .ptr 2 0) :
    ∀ t, V w (g.sel [0, 1, 2] []) [] (Av.look [(4, .ptr 0 0), (5, .ptr 1 0), (6, .ptr 2 0)] t) (T t) := fun t => by
  have k := fun (i : Nat) (d : D) (hd : Av.look tm i = d) => (hd ▸ h i : V w g fr d (T i)).sel hm hok (okSel_nil _)
  by_cases e4 : t = 4
  · subst e4; exact k 4 _ h4
  by_cases e5 : t = 5
  · subst e5; exact k 5 _ h5
  by_cases e6 : t = 6
  · subst e6; exact k 6 _ h6
  · have : Av.look [(4, D.ptr 0 0), (5, .ptr 1 0), (6, .ptr 2 0)] t = .junk := by
      have b : ∀ x : Nat, t ≠ x → Nat.beq x t = false := fun x hx => by
        cases hb : Nat.beq x t with
        | false => rfl
        | true => exact (hx (Nat.eq_of_beq_eq_true hb).symm).elim
      simp only [Av.look, b 4 e4, b 5 e5, b 6 e6]
    rw [this]
    exact .junk _
abbrev rdI (r : It × Nat × Nat) : D := .tup [itD r.1, .int .i64 (r.2.1 : Int), .int .i64 (r.2.2 : Int)]
theorem av_readC [Known] [KnownU8] (b : List UInt8) (p : Int) (hb : b.length ≤ 1099511627776) : AP Tryd.prog 17 [byE b, .int .i64 p] (rdI (readI b p)) [] := by
  by_cases hout : p < 0 ∨ (b.length : Int) < p
  · have e : readI b p = (.mk 0 0 [] [], 0, 1) := by rw [readI, if_pos hout]
    rw [e]
    rcases Int.lt_or_le p 0 with hp | hp
    · have d0 : decide (p < 0) = true := decide_eq_true hp
      refine AP.ofA ?_
      refine AC_of Tryd.func17 rfl Tryd.ntmps17 rfl rfl ?_
      repeat' (first | (apply AL_move; exact rfl; exact rfl) | (apply AL_bin; (iterate 5 exact rfl)) | (apply AL_store ttok; (iterate 8 exact rfl)) | refine AL_nil ?_ | (apply AL_guardFf; (iterate 3 exact rfl); (first | with_reducible assumption | decide +kernel)) | (apply AL_pickT; exact rfl; (first | with_reducible assumption | decide +kernel); exact rfl; exact rfl) | refine AW_region ?_ | refine AW_seq' ?_ | (apply AW_condA; exact rfl; (first | with_reducible assumption | decide +kernel)) | refine then_norm ?_ | refine AW_ret ?_ | refine then_ret ?_ | (apply AL_build ttok; (iterate 6 exact rfl)) | (apply AL_allocZ ttok; (iterate 4 exact rfl)))
      all_goals (apply endQ []; (repeat (first | exact ResL.nil | (apply ResL.cons; first | exact .tmp _ _ rfl | (apply res_n ttok; (iterate 6 exact rfl)) | (apply res_1 ttok; (iterate 5 exact rfl))))); (iterate 4 exact rfl))
      all_goals rfl
    · have d0 : decide (p < 0) = false := decide_eq_false (by omega)
      have d1 : decide (p > ((b.map E.byte).length : Int)) = true := decide_eq_true (by rw [List.length_map]; omega)
      refine AP.ofA ?_
      refine AC_of Tryd.func17 rfl Tryd.ntmps17 rfl rfl ?_
      repeat' (first | (apply AL_move; exact rfl; exact rfl) | (apply AL_bin; (iterate 5 exact rfl)) | (apply AL_store ttok; (iterate 8 exact rfl)) | refine AL_nil ?_ | (apply AL_guardT; (iterate 3 exact rfl); (first | with_reducible assumption | decide +kernel)) | (apply AL_pickF; exact rfl; (first | with_reducible assumption | decide +kernel); exact rfl; exact rfl) | refine AW_region ?_ | refine AW_seq' ?_ | (apply AW_condA; exact rfl; (first | with_reducible assumption | decide +kernel)) | refine then_norm ?_ | refine AW_ret ?_ | refine then_ret ?_ | (apply AL_len ttok; (iterate 4 exact rfl)) | (apply AL_build ttok; (iterate 6 exact rfl)) | (apply AL_allocZ ttok; (iterate 4 exact rfl)))
      all_goals (apply endQ []; (repeat (first | exact ResL.nil | (apply ResL.cons; first | exact .tmp _ _ rfl | (apply res_n ttok; (iterate 6 exact rfl)) | (apply res_1 ttok; (iterate 5 exact rfl))))); (iterate 4 exact rfl))
      all_goals rfl
  · obtain ⟨q, rfl⟩ : ∃ q : Nat, p = (q : Int) := ⟨p.toNat, by omega⟩
    have hq : q ≤ b.length := by omega
    have d0 : decide ((q : Int) < 0) = false := decide_eq_false (by omega)
    have d1 : decide ((q : Int) > ((b.map E.byte).length : Int)) = false := decide_eq_false (by rw [List.length_map]; omega)
    have hit := av_ritem b hb 6 1 rfl q 256 hq (Nat.le_refl _)
    have e : readI b (q : Int) = match itemS 6 256 (b.drop q) with
      | .error e => (.mk 0 0 [] [], 0, e)
      | .ok (x, r, _) => (x, b.length - r.length, 0) := by rw [readI, if_neg hout, Int.toNat_natCast]; rfl
    rw [e]
    unfold itR at hit
    refine ⟨fun g w vs hm hlen hv => ?_⟩
    have hρ : g.ρ = [] := List.length_eq_zero_iff.1 hm.bl
    refine calls_of_wp_defers Tryd.func17 rfl ?_
    have hi := inv_enter (n := 29) (Nat.le_of_ble_eq_true rfl) hm hlen hv
    refine wp_split2 29 [(0, byE b), (1, .int .i64 (q : Int)), (4, .ptr 0 0), (5, .ptr 1 0), (6, .ptr 2 0)] [zIt, [.int .i64 0], [.int .i64 0]] [] (0, 0) hi ?_ fun g1 a1 w1 hi1 => ?_
    · repeat' (first | refine AL_nil ?_ | refine AW_region ?_ | (apply AL_allocZ ttok; (iterate 4 exact rfl)))
      all_goals exact ⟨rfl, rfl, rfl, rfl, rfl, .cons rfl (.cons rfl (.cons rfl (.cons rfl (.cons rfl .nil))))⟩
    refine wp_split2 29 [(0, byE b), (1, .int .i64 (q : Int)), (4, .ptr 0 0), (5, .ptr 1 0), (6, .ptr 2 0)] [zIt, [.int .i64 0], [.int .i64 0]] [] (0, 0) hi1 ?_ fun g2 a2 w2 hi2 => ?_
    · repeat' (first | (apply AL_move; exact rfl; exact rfl) | (apply AL_bin; (iterate 5 exact rfl)) | refine AL_nil ?_ | (apply AL_guardT; (iterate 3 exact rfl); (first | with_reducible assumption | decide +kernel)) | (apply AL_pickF; exact rfl; (first | with_reducible assumption | decide +kernel); exact rfl; exact rfl) | refine AW_region ?_ | refine AW_seq' ?_ | (apply AW_condB; exact rfl; (first | with_reducible assumption | decide +kernel)) | (apply AL_len ttok; (iterate 4 exact rfl)) | refine AW_skip ?_)
      all_goals exact ⟨rfl, rfl, rfl, rfl, rfl, .cons rfl (.cons rfl (.cons rfl (.cons rfl (.cons rfl .nil))))⟩
    refine wp_deferR hi2 rfl rfl fun cvs a3 hcl hcv hi3 => ?_
    have ev2 : Evo ⟨g, [], w⟩ ⟨g2, [], w2⟩ := hi2.evo
    have hi4 := @Inv.rebase _ ⟨[{ target := .fn (.func 52) cvs.toArray, args := #[] }]⟩ _ _ _ _ _ _ _ _ _ hi3 3 0 rfl rfl
    have hfd : isFn Tryd.prog 52 = true := by kernel_rfl
    cases hx : itemS 6 256 (b.drop q) with
    | error e0 =>
      rw [hx] at hit
      dsimp only at hit ⊢
      refine AW_runD [{ target := .fn (.func 52) cvs.toArray, args := #[] }] (@rd_err _ _ ⟨[{ target := .fn (.func 52) cvs.toArray, args := #[] }]⟩ b q e0 hit) hi4 (fun S g a w _ _ h => by cases h.1) (fun S g4 a4 w4 v d hi5 hdl hv h => ?_) (fun S h => by cases h.1) (fun S i h => by cases h.1) (fun S i h => by cases h.1)
      obtain ⟨hp, hn, hbx, h4, h5, h6⟩ := h
      injection hp with hp
      subst hp
      obtain rfl := fault_inv hv
      obtain ⟨_, hm5, htm5, hev5⟩ := @Inv.parts _ ⟨[{ target := .fn (.func 52) cvs.toArray, args := #[] }]⟩ _ _ _ _ _ hi5
      obtain ⟨x0, x1, x2, xs, hS⟩ : ∃ x0 x1 x2 xs, S.bx = x0 :: x1 :: x2 :: xs := by
        match hS : S.bx, hbx with
        | x0 :: x1 :: x2 :: xs, _ => exact ⟨x0, x1, x2, xs, rfl⟩
        | [], h => simp at h
        | [_], h => simp at h
        | [_, _], h => simp at h
      rw [hS] at hbx
      simp only [List.take_succ_cons, List.take_zero, List.cons.injEq, and_true] at hbx
      obtain ⟨rfl, rfl, rfl⟩ := hbx
      have hok : okSel [0, 1, 2] S.bx.length := selOk_ok (by rw [hS]; rfl)
      show Leaves Tryd.prog _ a4.tmps _ a4.defers _ w4
      rw [hdl]
      refine leaves_one (rs := [.cell 4 26, .cell 5 3, .cell 6 29]) rfl (b := ⟨g, [], w⟩) hρ rfl (@Inv.base _ ⟨[{ target := .fn (.func 52) cvs.toArray, args := #[] }]⟩ _ _ _ _ _ _ hi5 ev2 hρ rfl) hok rfl hfd hcl (fun j d v hd hv => (hcv j d v hd hv).evo hev5) (by simp) rfl (by rw [hS]; rfl) (cl_err e0) (tm3 hm5 hok htm5 h4 h5 h6) (ds := [.agg zIt, .int .i64 0, .int .i64 (e0 : Int)]) ?_ (fun g' w' v hev hm' hv' => ?_)
      · (repeat (first | exact ResL.nil | (apply ResL.cons; first | exact .tmp _ _ rfl | (apply res_n ttok; (iterate 6 exact rfl)) | (apply res_1 ttok; (iterate 5 exact rfl)))))
      · exact ⟨g', [], [], .ret (D.wk _), hev, hm', ⟨v, rfl, hv'.wk⟩, rfl, rfl, rfl⟩
    | ok y =>
      obtain ⟨⟨k1, n1, b1, l1⟩, r, m1⟩ := y
      rw [hx] at hit
      dsimp only at hit ⊢
      refine AW_runD [{ target := .fn (.func 52) cvs.toArray, args := #[] }] (@rd_ok _ _ ⟨[{ target := .fn (.func 52) cvs.toArray, args := #[] }]⟩ b q (b.length - r.length) m1 k1 n1 b1 l1 hit) hi4 (fun S g4 a4 w4 hi5 hdl h => ?_) (fun S g a w v d _ _ _ h => by cases h.1) (fun S h => by cases h.1) (fun S i h => by cases h.1) (fun S i h => by cases h.1)
      obtain ⟨_, hn, hbx, hfr, h4, h5, h6⟩ := h
      obtain ⟨_, hm5, htm5, hev5⟩ := @Inv.parts _ ⟨[{ target := .fn (.func 52) cvs.toArray, args := #[] }]⟩ _ _ _ _ _ hi5
      have hok : okSel [0, 1, 2] S.bx.length := selOk_ok (by rw [hbx]; rfl)
      show Leaves Tryd.prog _ a4.tmps _ a4.defers _ w4
      rw [hdl]
      refine leaves_one (rs := [.cell 4 26, .cell 5 3, .cell 6 29]) rfl (b := ⟨g, [], w⟩) hρ rfl (@Inv.base _ ⟨[{ target := .fn (.func 52) cvs.toArray, args := #[] }]⟩ _ _ _ _ _ _ hi5 ev2 hρ rfl) hok rfl hfd hcl (fun j d v hd hv => (hcv j d v hd hv).evo hev5) (by simp) rfl (by rw [hbx]; rfl) (cl_ret k1 n1 b1 l1 (b.length - r.length)) (tm3 hm5 hok htm5 h4 h5 h6) (ds := [.agg (itC k1 n1 b1 l1), .int .i64 ((b.length - r.length : Nat) : Int), .int .i64 0]) ?_ (fun g' w' v hev hm' hv' => ?_)
      · (repeat (first | exact ResL.nil | (apply ResL.cons; first | exact .tmp _ _ rfl | (apply res_n ttok; (iterate 6 exact rfl)) | (apply res_1 ttok; (iterate 5 exact rfl)))))
      · exact ⟨g', [], [], .ret (D.wk _), hev, hm', ⟨v, rfl, hv'.wk⟩, rfl, rfl, rfl⟩
end Go.Proofs.YtnihobjehelagaaDoor
end
/- Items: their bytes. -/
section
open Go.RowKit Go.Pl Go.Av
namespace Go.Proofs.YtnihobjehelagaaDoor
set_option linter.unusedVariables false
set_option linter.unusedSimpArgs false
set_option maxHeartbeats 4000000
mutual
/-- has each part a major for its kind? -/
def okx : It → Prop
  | .mk k _ _ l => (0 ≤ k ∧ k ≤ 7) ∧ okxs l
def okxs : List It → Prop
  | [] => True
  | x :: l => okx x ∧ okxs l
end
theorem okxs_mem : ∀ {l : List It}, okxs l → ∀ y ∈ l, okx y
  | x :: l, ⟨h1, h2⟩, y, hy => by
    rcases List.mem_cons.1 hy with rfl | hy
    · exact h1
    · exact okxs_mem h2 y hy
mutual
theorem walk_okx : ∀ {x : It} {d m m' : Nat}, walkI x d m = some m' → okx x
  | .mk k n b l, d, m, m', h => by
    obtain ⟨_, _, h3, h4⟩ := walkI_own h
    exact ⟨own_k07 h3, walks_okx h4⟩
theorem walks_okx : ∀ {l : List It} {d m m' : Nat}, walks l d m = some m' → okxs l
  | [], d, m, m', h => trivial
  | x :: l, d, m, m', h => by
    obtain ⟨m1, h1, h2⟩ := walks_cons h
    exact ⟨walk_okx h1, walks_okx h2⟩
end
theorem right_okx {x : It} (h : rightI x = true) : okx x := by
  unfold rightI at h
  cases hw : walkI x 1 256 with
  | none => rw [hw] at h; cases h
  | some m => exact walk_okx hw
theorem writeL_cons (h : Hd) : ∃ c t, writeL h = c :: t := by
  unfold writeL
  split
  · exact ⟨_, _, rfl⟩
  · exact ⟨_, _, rfl⟩
theorem puts_take_succ {l : List It} {i : Nat} {y : It} (hy : l[i]? = some y) : puts (l.take (i + 1)) = puts (l.take i) ++ putI y := by
  rw [List.take_add_one, hy, puts_app]
  simp [puts]
theorem puts_take_le (l : List It) (i : Nat) : (puts (l.take i)).length ≤ (puts l).length := by
  have h := congrArg List.length (puts_app (l.take i) (l.drop i))
  rw [List.take_append_drop, List.length_append] at h
  omega
theorem av_putO [Known] : ∀ (x : It), wfI x → okx x → ∀ (L : List E) (c : Nat), c = L.length → Uni 1 L → L.length + (putI x).length ≤ 1099511627776 → AT Tryd.prog 51 [.sl (.own 0) L, itD x] [] [⟨c, 1, 5⟩] (.sl (.own 0) (L ++ (putI x).map E.byte)) [] [⟨c + (putI x).length, 1, 5⟩] := by
  refine It.ind fun k n b l ih hw ho L c hc hUL hlim => ?_
  subst hc
  obtain ⟨hn, hb, hl, hws⟩ := hw
  obtain ⟨hk7, hos⟩ := ho
  have hlen := itEs_len l
  have hr : rightB (k, (It.mk k n b l).hn, false) = true := by simp [rightB]; exact hk7
  have hhn : (It.mk k n b l).hn < 18446744073709551616 := by simp only [It.hn]; (repeat' split) <;> omega
  have hput : putI (.mk k n b l) = writeL (k, (It.mk k n b l).hn, false) ++ (b ++ puts l) := by rw [putI, if_pos hr]
  rw [hput] at hlim ⊢
  have hW := av_write (k, (It.mk k n b l).hn, false) hhn
  rw [if_pos hr, if_pos hr] at hW
  obtain ⟨c0, t0, hcw⟩ := writeL_cons (k, (It.mk k n b l).hn, false)
  rw [hcw] at hW hlim ⊢
  have hU0 := uniB1 (c0 :: t0)
  have hU1 := uniB1 b
  have hU01 : Uni 1 (L ++ (c0 :: t0).map E.byte) := hUL.append hU0
  have eb : IntKind.u64.wrap (((b.map E.byte).length : Nat) : Int) = ((b.length : Nat) : Int) := by rw [List.length_map, IntKind.wrap_u64]; omega
  have el : IntKind.u64.wrap (((itEs l).length : Nat) : Int) = ((l.length : Nat) : Int) := by rw [hlen, IntKind.wrap_u64]; omega
  have hS : ∀ (i : Nat), IntKind.i64.wrap ((i : Int) + 1) = ((i + 1 : Nat) : Int) ∨ 1099511627776 < i := fun i => by
    rcases Nat.lt_or_ge 1099511627776 i with h | h
    · exact .inr h
    · left; rw [IntWalk.i64_in _ (by omega)]; omega
  have hkc : (k = 2 ∧ (It.mk k n b l).hn = b.length) ∨ (k = 3 ∧ (It.mk k n b l).hn = b.length) ∨ (k = 4 ∧ (It.mk k n b l).hn = l.length) ∨ (k ≠ 2 ∧ k ≠ 3 ∧ k ≠ 4 ∧ (It.mk k n b l).hn = n) := by
    by_cases h2 : k = 2
    · subst h2; exact .inl ⟨rfl, rfl⟩
    by_cases h3 : k = 3
    · subst h3; exact .inr (.inl ⟨rfl, rfl⟩)
    by_cases h4 : k = 4
    · subst h4; exact .inr (.inr (.inl ⟨rfl, rfl⟩))
    · exact .inr (.inr (.inr ⟨h2, h3, h4, by simp [It.hn, h2, h3, h4]⟩))
  clear hhn hr hcw hput
  generalize (It.mk k n b l).hn = hn0 at hkc hW
  have hbc : b = [] ∨ ∃ c1 b1, b = c1 :: b1 := by cases b <;> simp
  have hne2 : k ≠ 2 → (k == 2) = false := fun h => by simpa using h
  have hne3 : k ≠ 3 → (k == 3) = false := fun h => by simpa using h
  have hne4 : k ≠ 4 → (k == 4) = false := fun h => by simpa using h
  rcases hkc with ⟨rfl, rfl⟩ | ⟨rfl, rfl⟩ | ⟨rfl, rfl⟩ | ⟨k2, k3, k4, hh⟩
  · rcases hbc with rfl | ⟨c1, b1, rfl⟩
    · refine AC_of Tryd.func51 rfl Tryd.ntmps51 rfl rfl ?_
      repeat' (first | rw [eb] | (apply AL_callPw (hW); kernel_rfl; (iterate 4 exact rfl)) | (apply AL_move; exact rfl; exact rfl) | (apply AL_assign; exact rfl; exact rfl) | (apply AL_bin; (iterate 5 exact rfl)) | (apply AL_load1 ttok; (iterate 6 exact rfl)) | (apply AL_fieldAddr ttok; (iterate 7 exact rfl)) | (apply AL_boxZ; (iterate 5 exact rfl)) | (apply AL_convT ttok; (iterate 5 exact rfl)) | (apply AL_extract; (iterate 3 exact rfl)) | refine AL_nil ?_ | refine AW_region ?_ | refine AW_seq' ?_ | (apply AW_condA; exact rfl; (first | with_reducible assumption | decide +kernel)) | refine then_norm ?_ | refine AW_block ?_ | (apply AL_len ttok; (iterate 4 exact rfl)) | (apply AL_build ttok; (iterate 6 exact rfl)) | (apply AW_drawE 5 hmix; (decide +kernel); (kernel_rfl); (kernel_rfl); (kernel_rfl); exact rfl; exact rfl) | (apply AE_consZ; (iterate 4 exact rfl)) | exact AE.nil _ _ _ _ | (apply AEk_puT; exact rfl) | (apply AEk_efT; exact rfl) | (apply AOt_mk; exact rfl; exact rfl; (decide +kernel); exact rfl) | (apply AO_puT; exact rfl) | (apply AO_efT; exact rfl) | exact AO.nil _ _ _ | (apply AOs_skip; (decide +kernel)) | (apply AOs_goZ; (iterate 3 exact rfl)) | exact AOs.nil | exact qY_ok rfl rfl | exact qY_ef rfl rfl | refine AW_skip ?_ | (apply AL_append_none ttok; (iterate 6 exact rfl)) | (apply AL_append ttok; (iterate 6 exact rfl); (first | with_reducible assumption | decide +kernel | exact rfl | rotate_left); exact rfl; exact rfl; (first | exact uniB_ok rfl | with_reducible assumption | decide +kernel | rotate_left); (first | exact uniB_ok rfl | with_reducible assumption | decide +kernel | rotate_left); (first | exact List.cons_ne_nil _ _ | with_reducible assumption | decide +kernel | rotate_left); (first | with_reducible assumption | decide +kernel | rotate_left); (first | with_reducible assumption | decide +kernel | rotate_left); exact rfl; exact rfl))
      all_goals first | (first | rfl | (simp only [List.length_append, List.length_cons, List.length_nil, List.length_map, itEs_len]; done) | (simp only [List.length_append, List.length_cons, List.length_nil, List.length_map, itEs_len] at *; (try unfold maxLen); (try simp only [Nat.add_mul]); omega)) | skip
      refine AW_loopJ (fun f tm bx fr => ∃ (i c : Nat) (M : List E), f + i = l.length ∧ c = M.length ∧ M = L ++ ((c0 :: t0) ++ (([] : List UInt8) ++ puts (l.take i))).map E.byte ∧ tm = [(0, .sl (.own 0) M), (3, .ptr 0 0), (42, .sl .ext (itEs l)), (43, .int .i64 ((itEs l).length : Int)), (44, .int .i64 (i : Int))] ∧ bx = [itC (2) n ([] : List UInt8) l] ∧ fr = [⟨c, 1, 5⟩]) (l.length + 1) (Lands.mk' (m := l.length) (Nat.lt_succ_self _) ⟨0, L.length + ((c0 :: t0).map E.byte).length, L ++ (c0 :: t0).map E.byte, rfl, by simp only [List.length_append], by simp [puts], rfl, rfl, rfl⟩ ?_ rfl rfl rfl rfl rfl rfl) ?_
      · exact .cons rfl (.cons rfl (.cons rfl (.cons rfl (.cons rfl .nil))))
      rintro f tm bx fr ⟨i, c, M, hf, hc, hM, rfl, rfl, rfl⟩
      subst hc
      have hU := uniI l
      have hUM : Uni 1 M := by rw [hM]; exact hUL.append (uniB1 _)
      have hMl : M.length = L.length + ((c0 :: t0) ++ (([] : List UInt8) ++ puts (l.take i))).length := by rw [hM]; simp only [List.length_append, List.length_map]
      rcases Nat.lt_or_ge i l.length with hlt | hge
      · have hdl : decide ((i : Int) < ((itEs l).length : Int)) = true := decide_eq_true (by omega)
        obtain ⟨⟨k1, n1, b2, l1⟩, hy⟩ : ∃ y, l[i]? = some y := ⟨_, List.getElem?_eq_getElem hlt⟩
        have hv : (itEs l)[((i : Nat) : Int).toNat]? = some (.agg [.int .i64 k1, .int .u64 (n1 : Int), .sl (b2.map E.byte), .sl (itEs l1)]) := by
          rw [Int.toNat_natCast, itEs_map, List.getElem?_map, hy]; rfl
        have hmem := List.mem_of_getElem? hy
        have hps := puts_take_succ hy
        have hpl := puts_take_le l (i + 1)
        have hps2 := congrArg List.length hps
        rw [List.length_append] at hps2
        have hc := ih _ hmem (wfs_mem hws _ hmem) (okxs_mem hos _ hmem) M _ rfl hUM (by simp only [List.length_append] at hMl hlim; omega)
        have ei : IntKind.i64.wrap ((i : Int) + 1) = ((i + 1 : Nat) : Int) := by rw [IntWalk.i64_in _ (by omega)]; omega
        repeat' (first | rw [ei] | (apply AL_callT [] [0] (hc); kernel_rfl; (iterate 10 exact rfl)) | (apply AL_move; exact rfl; exact rfl) | (apply AL_assign; exact rfl; exact rfl) | (apply AL_bin; (iterate 5 exact rfl)) | (apply AL_loadn ttok; (iterate 7 exact rfl)) | (apply AL_store ttok; (iterate 8 exact rfl)) | refine AL_nil ?_ | refine AW_region ?_ | refine AW_seq' ?_ | (apply AW_condA; exact rfl; (first | with_reducible assumption | decide +kernel)) | refine then_norm ?_ | refine AW_block ?_ | (apply AL_eloadn ttok; (iterate 6 exact rfl)) | (apply AL_allocZ ttok; (iterate 4 exact rfl)) | refine AW_skip ?_ | (apply AL_idx ttok; (iterate 6 exact rfl); (first | with_reducible assumption | decide +kernel | exact Int.natCast_nonneg _ | (guard_target = (0:Int) ≤ (OfNat.ofNat _ : Int); decide) | rotate_left); (first | with_reducible assumption | decide +kernel | exact rfl); (first | exact uniB_ok rfl | with_reducible assumption | decide +kernel | rotate_left)))
        refine Lands.mk' (m := f - 1) (by omega) ⟨i + 1, M.length + (putI (.mk k1 n1 b2 l1)).length, M ++ (putI (.mk k1 n1 b2 l1)).map E.byte, by omega, by simp only [List.length_append, List.length_map], by rw [hM, hps]; simp, rfl, rfl, rfl⟩ ?_ rfl rfl rfl rfl rfl rfl
        exact .cons rfl (.cons rfl (.cons rfl (.cons rfl (.cons rfl .nil))))
      · have hdl : decide ((i : Int) < ((itEs l).length : Int)) = false := decide_eq_false (by omega)
        rw [List.take_of_length_le hge] at hM hMl
        repeat' (first | (apply AL_move; exact rfl; exact rfl) | (apply AL_assign; exact rfl; exact rfl) | (apply AL_bin; (iterate 5 exact rfl)) | refine AL_nil ?_ | refine AW_region ?_ | refine AW_seq' ?_ | (apply AW_condB; exact rfl; (first | with_reducible assumption | decide +kernel)) | refine then_norm ?_ | refine AW_exit ?_ | refine AW_ret ?_)
        all_goals (apply endT [] [0]; (repeat (first | exact ResL.nil | (apply ResL.cons; first | exact .tmp _ _ rfl | (apply res_n ttok; (iterate 6 exact rfl)) | (apply res_1 ttok; (iterate 5 exact rfl))))); (iterate 7 exact rfl))
        · rw [hM]; rfl
        · rfl
        · rw [hMl]; rfl
    · refine AC_of Tryd.func51 rfl Tryd.ntmps51 rfl rfl ?_
      repeat' (first | rw [eb] | (apply AL_callPw (hW); kernel_rfl; (iterate 4 exact rfl)) | (apply AL_move; exact rfl; exact rfl) | (apply AL_assign; exact rfl; exact rfl) | (apply AL_bin; (iterate 5 exact rfl)) | (apply AL_load1 ttok; (iterate 6 exact rfl)) | (apply AL_fieldAddr ttok; (iterate 7 exact rfl)) | (apply AL_boxZ; (iterate 5 exact rfl)) | (apply AL_convT ttok; (iterate 5 exact rfl)) | (apply AL_extract; (iterate 3 exact rfl)) | refine AL_nil ?_ | refine AW_region ?_ | refine AW_seq' ?_ | (apply AW_condA; exact rfl; (first | with_reducible assumption | decide +kernel)) | refine then_norm ?_ | refine AW_block ?_ | (apply AL_len ttok; (iterate 4 exact rfl)) | (apply AL_build ttok; (iterate 6 exact rfl)) | (apply AW_drawE 5 hmix; (decide +kernel); (kernel_rfl); (kernel_rfl); (kernel_rfl); exact rfl; exact rfl) | (apply AE_consZ; (iterate 4 exact rfl)) | exact AE.nil _ _ _ _ | (apply AEk_puT; exact rfl) | (apply AEk_efT; exact rfl) | (apply AOt_mk; exact rfl; exact rfl; (decide +kernel); exact rfl) | (apply AO_puT; exact rfl) | (apply AO_efT; exact rfl) | exact AO.nil _ _ _ | (apply AOs_skip; (decide +kernel)) | (apply AOs_goZ; (iterate 3 exact rfl)) | exact AOs.nil | exact qY_ok rfl rfl | exact qY_ef rfl rfl | refine AW_skip ?_ | (apply AL_append ttok; (iterate 6 exact rfl); (first | with_reducible assumption | decide +kernel | exact rfl | rotate_left); exact rfl; exact rfl; (first | exact uniB_ok rfl | with_reducible assumption | decide +kernel | rotate_left); (first | exact uniB_ok rfl | with_reducible assumption | decide +kernel | rotate_left); (first | exact List.cons_ne_nil _ _ | with_reducible assumption | decide +kernel | rotate_left); (first | with_reducible assumption | decide +kernel | rotate_left); (first | with_reducible assumption | decide +kernel | rotate_left); exact rfl; exact rfl))
      all_goals first | (first | rfl | (simp only [List.length_append, List.length_cons, List.length_nil, List.length_map, itEs_len]; done) | (simp only [List.length_append, List.length_cons, List.length_nil, List.length_map, itEs_len] at *; (try unfold maxLen); (try simp only [Nat.add_mul]); omega)) | skip
      refine AW_loopJ (fun f tm bx fr => ∃ (i c : Nat) (M : List E), f + i = l.length ∧ c = M.length ∧ M = L ++ ((c0 :: t0) ++ ((c1 :: b1) ++ puts (l.take i))).map E.byte ∧ tm = [(0, .sl (.own 0) M), (3, .ptr 0 0), (42, .sl .ext (itEs l)), (43, .int .i64 ((itEs l).length : Int)), (44, .int .i64 (i : Int))] ∧ bx = [itC (2) n (c1 :: b1) l] ∧ fr = [⟨c, 1, 5⟩]) (l.length + 1) (Lands.mk' (m := l.length) (Nat.lt_succ_self _) ⟨0, (L ++ (c0 :: t0).map E.byte).length + ((c1 :: b1).map E.byte).length, (L ++ (c0 :: t0).map E.byte) ++ (c1 :: b1).map E.byte, rfl, by simp only [List.length_append], by simp [puts], rfl, rfl, rfl⟩ ?_ rfl rfl rfl rfl rfl rfl) ?_
      · exact .cons rfl (.cons rfl (.cons rfl (.cons rfl (.cons rfl .nil))))
      rintro f tm bx fr ⟨i, c, M, hf, hc, hM, rfl, rfl, rfl⟩
      subst hc
      have hU := uniI l
      have hUM : Uni 1 M := by rw [hM]; exact hUL.append (uniB1 _)
      have hMl : M.length = L.length + ((c0 :: t0) ++ ((c1 :: b1) ++ puts (l.take i))).length := by rw [hM]; simp only [List.length_append, List.length_map]
      rcases Nat.lt_or_ge i l.length with hlt | hge
      · have hdl : decide ((i : Int) < ((itEs l).length : Int)) = true := decide_eq_true (by omega)
        obtain ⟨⟨k1, n1, b2, l1⟩, hy⟩ : ∃ y, l[i]? = some y := ⟨_, List.getElem?_eq_getElem hlt⟩
        have hv : (itEs l)[((i : Nat) : Int).toNat]? = some (.agg [.int .i64 k1, .int .u64 (n1 : Int), .sl (b2.map E.byte), .sl (itEs l1)]) := by
          rw [Int.toNat_natCast, itEs_map, List.getElem?_map, hy]; rfl
        have hmem := List.mem_of_getElem? hy
        have hps := puts_take_succ hy
        have hpl := puts_take_le l (i + 1)
        have hps2 := congrArg List.length hps
        rw [List.length_append] at hps2
        have hc := ih _ hmem (wfs_mem hws _ hmem) (okxs_mem hos _ hmem) M _ rfl hUM (by simp only [List.length_append] at hMl hlim; omega)
        have ei : IntKind.i64.wrap ((i : Int) + 1) = ((i + 1 : Nat) : Int) := by rw [IntWalk.i64_in _ (by omega)]; omega
        repeat' (first | rw [ei] | (apply AL_callT [] [0] (hc); kernel_rfl; (iterate 10 exact rfl)) | (apply AL_move; exact rfl; exact rfl) | (apply AL_assign; exact rfl; exact rfl) | (apply AL_bin; (iterate 5 exact rfl)) | (apply AL_loadn ttok; (iterate 7 exact rfl)) | (apply AL_store ttok; (iterate 8 exact rfl)) | refine AL_nil ?_ | refine AW_region ?_ | refine AW_seq' ?_ | (apply AW_condA; exact rfl; (first | with_reducible assumption | decide +kernel)) | refine then_norm ?_ | refine AW_block ?_ | (apply AL_eloadn ttok; (iterate 6 exact rfl)) | (apply AL_allocZ ttok; (iterate 4 exact rfl)) | refine AW_skip ?_ | (apply AL_idx ttok; (iterate 6 exact rfl); (first | with_reducible assumption | decide +kernel | exact Int.natCast_nonneg _ | (guard_target = (0:Int) ≤ (OfNat.ofNat _ : Int); decide) | rotate_left); (first | with_reducible assumption | decide +kernel | exact rfl); (first | exact uniB_ok rfl | with_reducible assumption | decide +kernel | rotate_left)))
        refine Lands.mk' (m := f - 1) (by omega) ⟨i + 1, M.length + (putI (.mk k1 n1 b2 l1)).length, M ++ (putI (.mk k1 n1 b2 l1)).map E.byte, by omega, by simp only [List.length_append, List.length_map], by rw [hM, hps]; simp, rfl, rfl, rfl⟩ ?_ rfl rfl rfl rfl rfl rfl
        exact .cons rfl (.cons rfl (.cons rfl (.cons rfl (.cons rfl .nil))))
      · have hdl : decide ((i : Int) < ((itEs l).length : Int)) = false := decide_eq_false (by omega)
        rw [List.take_of_length_le hge] at hM hMl
        repeat' (first | (apply AL_move; exact rfl; exact rfl) | (apply AL_assign; exact rfl; exact rfl) | (apply AL_bin; (iterate 5 exact rfl)) | refine AL_nil ?_ | refine AW_region ?_ | refine AW_seq' ?_ | (apply AW_condB; exact rfl; (first | with_reducible assumption | decide +kernel)) | refine then_norm ?_ | refine AW_exit ?_ | refine AW_ret ?_)
        all_goals (apply endT [] [0]; (repeat (first | exact ResL.nil | (apply ResL.cons; first | exact .tmp _ _ rfl | (apply res_n ttok; (iterate 6 exact rfl)) | (apply res_1 ttok; (iterate 5 exact rfl))))); (iterate 7 exact rfl))
        · rw [hM]; rfl
        · rfl
        · rw [hMl]; rfl
  · rcases hbc with rfl | ⟨c1, b1, rfl⟩
    · refine AC_of Tryd.func51 rfl Tryd.ntmps51 rfl rfl ?_
      repeat' (first | rw [eb] | (apply AL_callPw (hW); kernel_rfl; (iterate 4 exact rfl)) | (apply AL_move; exact rfl; exact rfl) | (apply AL_assign; exact rfl; exact rfl) | (apply AL_bin; (iterate 5 exact rfl)) | (apply AL_load1 ttok; (iterate 6 exact rfl)) | (apply AL_fieldAddr ttok; (iterate 7 exact rfl)) | (apply AL_boxZ; (iterate 5 exact rfl)) | (apply AL_convT ttok; (iterate 5 exact rfl)) | (apply AL_extract; (iterate 3 exact rfl)) | refine AL_nil ?_ | refine AW_region ?_ | refine AW_seq' ?_ | (apply AW_condA; exact rfl; (first | with_reducible assumption | decide +kernel)) | (apply AW_condB; exact rfl; (first | with_reducible assumption | decide +kernel)) | refine then_norm ?_ | refine AW_block ?_ | (apply AL_len ttok; (iterate 4 exact rfl)) | (apply AL_build ttok; (iterate 6 exact rfl)) | (apply AW_drawE 5 hmix; (decide +kernel); (kernel_rfl); (kernel_rfl); (kernel_rfl); exact rfl; exact rfl) | (apply AE_consZ; (iterate 4 exact rfl)) | exact AE.nil _ _ _ _ | (apply AEk_puT; exact rfl) | (apply AEk_efT; exact rfl) | (apply AOt_mk; exact rfl; exact rfl; (decide +kernel); exact rfl) | (apply AO_puT; exact rfl) | (apply AO_efT; exact rfl) | exact AO.nil _ _ _ | (apply AOs_skip; (decide +kernel)) | (apply AOs_goZ; (iterate 3 exact rfl)) | exact AOs.nil | exact qY_ok rfl rfl | exact qY_ef rfl rfl | (apply AL_append_none ttok; (iterate 6 exact rfl)) | (apply AL_append ttok; (iterate 6 exact rfl); (first | with_reducible assumption | decide +kernel | exact rfl | rotate_left); exact rfl; exact rfl; (first | exact uniB_ok rfl | with_reducible assumption | decide +kernel | rotate_left); (first | exact uniB_ok rfl | with_reducible assumption | decide +kernel | rotate_left); (first | exact List.cons_ne_nil _ _ | with_reducible assumption | decide +kernel | rotate_left); (first | with_reducible assumption | decide +kernel | rotate_left); (first | with_reducible assumption | decide +kernel | rotate_left); exact rfl; exact rfl))
      all_goals first | (first | rfl | (simp only [List.length_append, List.length_cons, List.length_nil, List.length_map, itEs_len]; done) | (simp only [List.length_append, List.length_cons, List.length_nil, List.length_map, itEs_len] at *; (try unfold maxLen); (try simp only [Nat.add_mul]); omega)) | skip
      refine AW_loopJ (fun f tm bx fr => ∃ (i c : Nat) (M : List E), f + i = l.length ∧ c = M.length ∧ M = L ++ ((c0 :: t0) ++ (([] : List UInt8) ++ puts (l.take i))).map E.byte ∧ tm = [(0, .sl (.own 0) M), (3, .ptr 0 0), (42, .sl .ext (itEs l)), (43, .int .i64 ((itEs l).length : Int)), (44, .int .i64 (i : Int))] ∧ bx = [itC (3) n ([] : List UInt8) l] ∧ fr = [⟨c, 1, 5⟩]) (l.length + 1) (Lands.mk' (m := l.length) (Nat.lt_succ_self _) ⟨0, L.length + ((c0 :: t0).map E.byte).length, L ++ (c0 :: t0).map E.byte, rfl, by simp only [List.length_append], by simp [puts], rfl, rfl, rfl⟩ ?_ rfl rfl rfl rfl rfl rfl) ?_
      · exact .cons rfl (.cons rfl (.cons rfl (.cons rfl (.cons rfl .nil))))
      rintro f tm bx fr ⟨i, c, M, hf, hc, hM, rfl, rfl, rfl⟩
      subst hc
      have hU := uniI l
      have hUM : Uni 1 M := by rw [hM]; exact hUL.append (uniB1 _)
      have hMl : M.length = L.length + ((c0 :: t0) ++ (([] : List UInt8) ++ puts (l.take i))).length := by rw [hM]; simp only [List.length_append, List.length_map]
      rcases Nat.lt_or_ge i l.length with hlt | hge
      · have hdl : decide ((i : Int) < ((itEs l).length : Int)) = true := decide_eq_true (by omega)
        obtain ⟨⟨k1, n1, b2, l1⟩, hy⟩ : ∃ y, l[i]? = some y := ⟨_, List.getElem?_eq_getElem hlt⟩
        have hv : (itEs l)[((i : Nat) : Int).toNat]? = some (.agg [.int .i64 k1, .int .u64 (n1 : Int), .sl (b2.map E.byte), .sl (itEs l1)]) := by
          rw [Int.toNat_natCast, itEs_map, List.getElem?_map, hy]; rfl
        have hmem := List.mem_of_getElem? hy
        have hps := puts_take_succ hy
        have hpl := puts_take_le l (i + 1)
        have hps2 := congrArg List.length hps
        rw [List.length_append] at hps2
        have hc := ih _ hmem (wfs_mem hws _ hmem) (okxs_mem hos _ hmem) M _ rfl hUM (by simp only [List.length_append] at hMl hlim; omega)
        have ei : IntKind.i64.wrap ((i : Int) + 1) = ((i + 1 : Nat) : Int) := by rw [IntWalk.i64_in _ (by omega)]; omega
        repeat' (first | rw [ei] | (apply AL_callT [] [0] (hc); kernel_rfl; (iterate 10 exact rfl)) | (apply AL_move; exact rfl; exact rfl) | (apply AL_assign; exact rfl; exact rfl) | (apply AL_bin; (iterate 5 exact rfl)) | (apply AL_loadn ttok; (iterate 7 exact rfl)) | (apply AL_store ttok; (iterate 8 exact rfl)) | refine AL_nil ?_ | refine AW_region ?_ | refine AW_seq' ?_ | (apply AW_condA; exact rfl; (first | with_reducible assumption | decide +kernel)) | refine then_norm ?_ | refine AW_block ?_ | (apply AL_eloadn ttok; (iterate 6 exact rfl)) | (apply AL_allocZ ttok; (iterate 4 exact rfl)) | refine AW_skip ?_ | (apply AL_idx ttok; (iterate 6 exact rfl); (first | with_reducible assumption | decide +kernel | exact Int.natCast_nonneg _ | (guard_target = (0:Int) ≤ (OfNat.ofNat _ : Int); decide) | rotate_left); (first | with_reducible assumption | decide +kernel | exact rfl); (first | exact uniB_ok rfl | with_reducible assumption | decide +kernel | rotate_left)))
        refine Lands.mk' (m := f - 1) (by omega) ⟨i + 1, M.length + (putI (.mk k1 n1 b2 l1)).length, M ++ (putI (.mk k1 n1 b2 l1)).map E.byte, by omega, by simp only [List.length_append, List.length_map], by rw [hM, hps]; simp, rfl, rfl, rfl⟩ ?_ rfl rfl rfl rfl rfl rfl
        exact .cons rfl (.cons rfl (.cons rfl (.cons rfl (.cons rfl .nil))))
      · have hdl : decide ((i : Int) < ((itEs l).length : Int)) = false := decide_eq_false (by omega)
        rw [List.take_of_length_le hge] at hM hMl
        repeat' (first | (apply AL_move; exact rfl; exact rfl) | (apply AL_assign; exact rfl; exact rfl) | (apply AL_bin; (iterate 5 exact rfl)) | refine AL_nil ?_ | refine AW_region ?_ | refine AW_seq' ?_ | (apply AW_condB; exact rfl; (first | with_reducible assumption | decide +kernel)) | refine then_norm ?_ | refine AW_exit ?_ | refine AW_ret ?_)
        all_goals (apply endT [] [0]; (repeat (first | exact ResL.nil | (apply ResL.cons; first | exact .tmp _ _ rfl | (apply res_n ttok; (iterate 6 exact rfl)) | (apply res_1 ttok; (iterate 5 exact rfl))))); (iterate 7 exact rfl))
        · rw [hM]; rfl
        · rfl
        · rw [hMl]; rfl
    · refine AC_of Tryd.func51 rfl Tryd.ntmps51 rfl rfl ?_
      repeat' (first | rw [eb] | (apply AL_callPw (hW); kernel_rfl; (iterate 4 exact rfl)) | (apply AL_move; exact rfl; exact rfl) | (apply AL_assign; exact rfl; exact rfl) | (apply AL_bin; (iterate 5 exact rfl)) | (apply AL_load1 ttok; (iterate 6 exact rfl)) | (apply AL_fieldAddr ttok; (iterate 7 exact rfl)) | (apply AL_boxZ; (iterate 5 exact rfl)) | (apply AL_convT ttok; (iterate 5 exact rfl)) | (apply AL_extract; (iterate 3 exact rfl)) | refine AL_nil ?_ | refine AW_region ?_ | refine AW_seq' ?_ | (apply AW_condA; exact rfl; (first | with_reducible assumption | decide +kernel)) | (apply AW_condB; exact rfl; (first | with_reducible assumption | decide +kernel)) | refine then_norm ?_ | refine AW_block ?_ | (apply AL_len ttok; (iterate 4 exact rfl)) | (apply AL_build ttok; (iterate 6 exact rfl)) | (apply AW_drawE 5 hmix; (decide +kernel); (kernel_rfl); (kernel_rfl); (kernel_rfl); exact rfl; exact rfl) | (apply AE_consZ; (iterate 4 exact rfl)) | exact AE.nil _ _ _ _ | (apply AEk_puT; exact rfl) | (apply AEk_efT; exact rfl) | (apply AOt_mk; exact rfl; exact rfl; (decide +kernel); exact rfl) | (apply AO_puT; exact rfl) | (apply AO_efT; exact rfl) | exact AO.nil _ _ _ | (apply AOs_skip; (decide +kernel)) | (apply AOs_goZ; (iterate 3 exact rfl)) | exact AOs.nil | exact qY_ok rfl rfl | exact qY_ef rfl rfl | (apply AL_append ttok; (iterate 6 exact rfl); (first | with_reducible assumption | decide +kernel | exact rfl | rotate_left); exact rfl; exact rfl; (first | exact uniB_ok rfl | with_reducible assumption | decide +kernel | rotate_left); (first | exact uniB_ok rfl | with_reducible assumption | decide +kernel | rotate_left); (first | exact List.cons_ne_nil _ _ | with_reducible assumption | decide +kernel | rotate_left); (first | with_reducible assumption | decide +kernel | rotate_left); (first | with_reducible assumption | decide +kernel | rotate_left); exact rfl; exact rfl))
      all_goals first | (first | rfl | (simp only [List.length_append, List.length_cons, List.length_nil, List.length_map, itEs_len]; done) | (simp only [List.length_append, List.length_cons, List.length_nil, List.length_map, itEs_len] at *; (try unfold maxLen); (try simp only [Nat.add_mul]); omega)) | skip
      refine AW_loopJ (fun f tm bx fr => ∃ (i c : Nat) (M : List E), f + i = l.length ∧ c = M.length ∧ M = L ++ ((c0 :: t0) ++ ((c1 :: b1) ++ puts (l.take i))).map E.byte ∧ tm = [(0, .sl (.own 0) M), (3, .ptr 0 0), (42, .sl .ext (itEs l)), (43, .int .i64 ((itEs l).length : Int)), (44, .int .i64 (i : Int))] ∧ bx = [itC (3) n (c1 :: b1) l] ∧ fr = [⟨c, 1, 5⟩]) (l.length + 1) (Lands.mk' (m := l.length) (Nat.lt_succ_self _) ⟨0, (L ++ (c0 :: t0).map E.byte).length + ((c1 :: b1).map E.byte).length, (L ++ (c0 :: t0).map E.byte) ++ (c1 :: b1).map E.byte, rfl, by simp only [List.length_append], by simp [puts], rfl, rfl, rfl⟩ ?_ rfl rfl rfl rfl rfl rfl) ?_
      · exact .cons rfl (.cons rfl (.cons rfl (.cons rfl (.cons rfl .nil))))
      rintro f tm bx fr ⟨i, c, M, hf, hc, hM, rfl, rfl, rfl⟩
      subst hc
      have hU := uniI l
      have hUM : Uni 1 M := by rw [hM]; exact hUL.append (uniB1 _)
      have hMl : M.length = L.length + ((c0 :: t0) ++ ((c1 :: b1) ++ puts (l.take i))).length := by rw [hM]; simp only [List.length_append, List.length_map]
      rcases Nat.lt_or_ge i l.length with hlt | hge
      · have hdl : decide ((i : Int) < ((itEs l).length : Int)) = true := decide_eq_true (by omega)
        obtain ⟨⟨k1, n1, b2, l1⟩, hy⟩ : ∃ y, l[i]? = some y := ⟨_, List.getElem?_eq_getElem hlt⟩
        have hv : (itEs l)[((i : Nat) : Int).toNat]? = some (.agg [.int .i64 k1, .int .u64 (n1 : Int), .sl (b2.map E.byte), .sl (itEs l1)]) := by
          rw [Int.toNat_natCast, itEs_map, List.getElem?_map, hy]; rfl
        have hmem := List.mem_of_getElem? hy
        have hps := puts_take_succ hy
        have hpl := puts_take_le l (i + 1)
        have hps2 := congrArg List.length hps
        rw [List.length_append] at hps2
        have hc := ih _ hmem (wfs_mem hws _ hmem) (okxs_mem hos _ hmem) M _ rfl hUM (by simp only [List.length_append] at hMl hlim; omega)
        have ei : IntKind.i64.wrap ((i : Int) + 1) = ((i + 1 : Nat) : Int) := by rw [IntWalk.i64_in _ (by omega)]; omega
        repeat' (first | rw [ei] | (apply AL_callT [] [0] (hc); kernel_rfl; (iterate 10 exact rfl)) | (apply AL_move; exact rfl; exact rfl) | (apply AL_assign; exact rfl; exact rfl) | (apply AL_bin; (iterate 5 exact rfl)) | (apply AL_loadn ttok; (iterate 7 exact rfl)) | (apply AL_store ttok; (iterate 8 exact rfl)) | refine AL_nil ?_ | refine AW_region ?_ | refine AW_seq' ?_ | (apply AW_condA; exact rfl; (first | with_reducible assumption | decide +kernel)) | refine then_norm ?_ | refine AW_block ?_ | (apply AL_eloadn ttok; (iterate 6 exact rfl)) | (apply AL_allocZ ttok; (iterate 4 exact rfl)) | refine AW_skip ?_ | (apply AL_idx ttok; (iterate 6 exact rfl); (first | with_reducible assumption | decide +kernel | exact Int.natCast_nonneg _ | (guard_target = (0:Int) ≤ (OfNat.ofNat _ : Int); decide) | rotate_left); (first | with_reducible assumption | decide +kernel | exact rfl); (first | exact uniB_ok rfl | with_reducible assumption | decide +kernel | rotate_left)))
        refine Lands.mk' (m := f - 1) (by omega) ⟨i + 1, M.length + (putI (.mk k1 n1 b2 l1)).length, M ++ (putI (.mk k1 n1 b2 l1)).map E.byte, by omega, by simp only [List.length_append, List.length_map], by rw [hM, hps]; simp, rfl, rfl, rfl⟩ ?_ rfl rfl rfl rfl rfl rfl
        exact .cons rfl (.cons rfl (.cons rfl (.cons rfl (.cons rfl .nil))))
      · have hdl : decide ((i : Int) < ((itEs l).length : Int)) = false := decide_eq_false (by omega)
        rw [List.take_of_length_le hge] at hM hMl
        repeat' (first | (apply AL_move; exact rfl; exact rfl) | (apply AL_assign; exact rfl; exact rfl) | (apply AL_bin; (iterate 5 exact rfl)) | refine AL_nil ?_ | refine AW_region ?_ | refine AW_seq' ?_ | (apply AW_condB; exact rfl; (first | with_reducible assumption | decide +kernel)) | refine then_norm ?_ | refine AW_exit ?_ | refine AW_ret ?_)
        all_goals (apply endT [] [0]; (repeat (first | exact ResL.nil | (apply ResL.cons; first | exact .tmp _ _ rfl | (apply res_n ttok; (iterate 6 exact rfl)) | (apply res_1 ttok; (iterate 5 exact rfl))))); (iterate 7 exact rfl))
        · rw [hM]; rfl
        · rfl
        · rw [hMl]; rfl
  · rcases hbc with rfl | ⟨c1, b1, rfl⟩
    · refine AC_of Tryd.func51 rfl Tryd.ntmps51 rfl rfl ?_
      repeat' (first | rw [el] | (apply AL_callPw (hW); kernel_rfl; (iterate 4 exact rfl)) | (apply AL_move; exact rfl; exact rfl) | (apply AL_assign; exact rfl; exact rfl) | (apply AL_bin; (iterate 5 exact rfl)) | (apply AL_load1 ttok; (iterate 6 exact rfl)) | (apply AL_fieldAddr ttok; (iterate 7 exact rfl)) | (apply AL_boxZ; (iterate 5 exact rfl)) | (apply AL_convT ttok; (iterate 5 exact rfl)) | (apply AL_extract; (iterate 3 exact rfl)) | refine AL_nil ?_ | refine AW_region ?_ | refine AW_seq' ?_ | (apply AW_condA; exact rfl; (first | with_reducible assumption | decide +kernel)) | (apply AW_condB; exact rfl; (first | with_reducible assumption | decide +kernel)) | refine then_norm ?_ | refine AW_block ?_ | (apply AL_len ttok; (iterate 4 exact rfl)) | (apply AL_build ttok; (iterate 6 exact rfl)) | (apply AW_drawE 5 hmix; (decide +kernel); (kernel_rfl); (kernel_rfl); (kernel_rfl); exact rfl; exact rfl) | (apply AE_consZ; (iterate 4 exact rfl)) | exact AE.nil _ _ _ _ | (apply AEk_puT; exact rfl) | (apply AEk_efT; exact rfl) | (apply AOt_mk; exact rfl; exact rfl; (decide +kernel); exact rfl) | (apply AO_puT; exact rfl) | (apply AO_efT; exact rfl) | exact AO.nil _ _ _ | (apply AOs_skip; (decide +kernel)) | (apply AOs_goZ; (iterate 3 exact rfl)) | exact AOs.nil | exact qY_ok rfl rfl | exact qY_ef rfl rfl | (apply AL_append_none ttok; (iterate 6 exact rfl)) | (apply AL_append ttok; (iterate 6 exact rfl); (first | with_reducible assumption | decide +kernel | exact rfl | rotate_left); exact rfl; exact rfl; (first | exact uniB_ok rfl | with_reducible assumption | decide +kernel | rotate_left); (first | exact uniB_ok rfl | with_reducible assumption | decide +kernel | rotate_left); (first | exact List.cons_ne_nil _ _ | with_reducible assumption | decide +kernel | rotate_left); (first | with_reducible assumption | decide +kernel | rotate_left); (first | with_reducible assumption | decide +kernel | rotate_left); exact rfl; exact rfl))
      all_goals first | (first | rfl | (simp only [List.length_append, List.length_cons, List.length_nil, List.length_map, itEs_len]; done) | (simp only [List.length_append, List.length_cons, List.length_nil, List.length_map, itEs_len] at *; (try unfold maxLen); (try simp only [Nat.add_mul]); omega)) | skip
      refine AW_loopJ (fun f tm bx fr => ∃ (i c : Nat) (M : List E), f + i = l.length ∧ c = M.length ∧ M = L ++ ((c0 :: t0) ++ (([] : List UInt8) ++ puts (l.take i))).map E.byte ∧ tm = [(0, .sl (.own 0) M), (3, .ptr 0 0), (42, .sl .ext (itEs l)), (43, .int .i64 ((itEs l).length : Int)), (44, .int .i64 (i : Int))] ∧ bx = [itC (4) n ([] : List UInt8) l] ∧ fr = [⟨c, 1, 5⟩]) (l.length + 1) (Lands.mk' (m := l.length) (Nat.lt_succ_self _) ⟨0, L.length + ((c0 :: t0).map E.byte).length, L ++ (c0 :: t0).map E.byte, rfl, by simp only [List.length_append], by simp [puts], rfl, rfl, rfl⟩ ?_ rfl rfl rfl rfl rfl rfl) ?_
      · exact .cons rfl (.cons rfl (.cons rfl (.cons rfl (.cons rfl .nil))))
      rintro f tm bx fr ⟨i, c, M, hf, hc, hM, rfl, rfl, rfl⟩
      subst hc
      have hU := uniI l
      have hUM : Uni 1 M := by rw [hM]; exact hUL.append (uniB1 _)
      have hMl : M.length = L.length + ((c0 :: t0) ++ (([] : List UInt8) ++ puts (l.take i))).length := by rw [hM]; simp only [List.length_append, List.length_map]
      rcases Nat.lt_or_ge i l.length with hlt | hge
      · have hdl : decide ((i : Int) < ((itEs l).length : Int)) = true := decide_eq_true (by omega)
        obtain ⟨⟨k1, n1, b2, l1⟩, hy⟩ : ∃ y, l[i]? = some y := ⟨_, List.getElem?_eq_getElem hlt⟩
        have hv : (itEs l)[((i : Nat) : Int).toNat]? = some (.agg [.int .i64 k1, .int .u64 (n1 : Int), .sl (b2.map E.byte), .sl (itEs l1)]) := by
          rw [Int.toNat_natCast, itEs_map, List.getElem?_map, hy]; rfl
        have hmem := List.mem_of_getElem? hy
        have hps := puts_take_succ hy
        have hpl := puts_take_le l (i + 1)
        have hps2 := congrArg List.length hps
        rw [List.length_append] at hps2
        have hc := ih _ hmem (wfs_mem hws _ hmem) (okxs_mem hos _ hmem) M _ rfl hUM (by simp only [List.length_append] at hMl hlim; omega)
        have ei : IntKind.i64.wrap ((i : Int) + 1) = ((i + 1 : Nat) : Int) := by rw [IntWalk.i64_in _ (by omega)]; omega
        repeat' (first | rw [ei] | (apply AL_callT [] [0] (hc); kernel_rfl; (iterate 10 exact rfl)) | (apply AL_move; exact rfl; exact rfl) | (apply AL_assign; exact rfl; exact rfl) | (apply AL_bin; (iterate 5 exact rfl)) | (apply AL_loadn ttok; (iterate 7 exact rfl)) | (apply AL_store ttok; (iterate 8 exact rfl)) | refine AL_nil ?_ | refine AW_region ?_ | refine AW_seq' ?_ | (apply AW_condA; exact rfl; (first | with_reducible assumption | decide +kernel)) | refine then_norm ?_ | refine AW_block ?_ | (apply AL_eloadn ttok; (iterate 6 exact rfl)) | (apply AL_allocZ ttok; (iterate 4 exact rfl)) | refine AW_skip ?_ | (apply AL_idx ttok; (iterate 6 exact rfl); (first | with_reducible assumption | decide +kernel | exact Int.natCast_nonneg _ | (guard_target = (0:Int) ≤ (OfNat.ofNat _ : Int); decide) | rotate_left); (first | with_reducible assumption | decide +kernel | exact rfl); (first | exact uniB_ok rfl | with_reducible assumption | decide +kernel | rotate_left)))
        refine Lands.mk' (m := f - 1) (by omega) ⟨i + 1, M.length + (putI (.mk k1 n1 b2 l1)).length, M ++ (putI (.mk k1 n1 b2 l1)).map E.byte, by omega, by simp only [List.length_append, List.length_map], by rw [hM, hps]; simp, rfl, rfl, rfl⟩ ?_ rfl rfl rfl rfl rfl rfl
        exact .cons rfl (.cons rfl (.cons rfl (.cons rfl (.cons rfl .nil))))
      · have hdl : decide ((i : Int) < ((itEs l).length : Int)) = false := decide_eq_false (by omega)
        rw [List.take_of_length_le hge] at hM hMl
        repeat' (first | (apply AL_move; exact rfl; exact rfl) | (apply AL_assign; exact rfl; exact rfl) | (apply AL_bin; (iterate 5 exact rfl)) | refine AL_nil ?_ | refine AW_region ?_ | refine AW_seq' ?_ | (apply AW_condB; exact rfl; (first | with_reducible assumption | decide +kernel)) | refine then_norm ?_ | refine AW_exit ?_ | refine AW_ret ?_)
        all_goals (apply endT [] [0]; (repeat (first | exact ResL.nil | (apply ResL.cons; first | exact .tmp _ _ rfl | (apply res_n ttok; (iterate 6 exact rfl)) | (apply res_1 ttok; (iterate 5 exact rfl))))); (iterate 7 exact rfl))
        · rw [hM]; rfl
        · rfl
        · rw [hMl]; rfl
    · refine AC_of Tryd.func51 rfl Tryd.ntmps51 rfl rfl ?_
      repeat' (first | rw [el] | (apply AL_callPw (hW); kernel_rfl; (iterate 4 exact rfl)) | (apply AL_move; exact rfl; exact rfl) | (apply AL_assign; exact rfl; exact rfl) | (apply AL_bin; (iterate 5 exact rfl)) | (apply AL_load1 ttok; (iterate 6 exact rfl)) | (apply AL_fieldAddr ttok; (iterate 7 exact rfl)) | (apply AL_boxZ; (iterate 5 exact rfl)) | (apply AL_convT ttok; (iterate 5 exact rfl)) | (apply AL_extract; (iterate 3 exact rfl)) | refine AL_nil ?_ | refine AW_region ?_ | refine AW_seq' ?_ | (apply AW_condA; exact rfl; (first | with_reducible assumption | decide +kernel)) | (apply AW_condB; exact rfl; (first | with_reducible assumption | decide +kernel)) | refine then_norm ?_ | refine AW_block ?_ | (apply AL_len ttok; (iterate 4 exact rfl)) | (apply AL_build ttok; (iterate 6 exact rfl)) | (apply AW_drawE 5 hmix; (decide +kernel); (kernel_rfl); (kernel_rfl); (kernel_rfl); exact rfl; exact rfl) | (apply AE_consZ; (iterate 4 exact rfl)) | exact AE.nil _ _ _ _ | (apply AEk_puT; exact rfl) | (apply AEk_efT; exact rfl) | (apply AOt_mk; exact rfl; exact rfl; (decide +kernel); exact rfl) | (apply AO_puT; exact rfl) | (apply AO_efT; exact rfl) | exact AO.nil _ _ _ | (apply AOs_skip; (decide +kernel)) | (apply AOs_goZ; (iterate 3 exact rfl)) | exact AOs.nil | exact qY_ok rfl rfl | exact qY_ef rfl rfl | (apply AL_append ttok; (iterate 6 exact rfl); (first | with_reducible assumption | decide +kernel | exact rfl | rotate_left); exact rfl; exact rfl; (first | exact uniB_ok rfl | with_reducible assumption | decide +kernel | rotate_left); (first | exact uniB_ok rfl | with_reducible assumption | decide +kernel | rotate_left); (first | exact List.cons_ne_nil _ _ | with_reducible assumption | decide +kernel | rotate_left); (first | with_reducible assumption | decide +kernel | rotate_left); (first | with_reducible assumption | decide +kernel | rotate_left); exact rfl; exact rfl))
      all_goals first | (first | rfl | (simp only [List.length_append, List.length_cons, List.length_nil, List.length_map, itEs_len]; done) | (simp only [List.length_append, List.length_cons, List.length_nil, List.length_map, itEs_len] at *; (try unfold maxLen); (try simp only [Nat.add_mul]); omega)) | skip
      refine AW_loopJ (fun f tm bx fr => ∃ (i c : Nat) (M : List E), f + i = l.length ∧ c = M.length ∧ M = L ++ ((c0 :: t0) ++ ((c1 :: b1) ++ puts (l.take i))).map E.byte ∧ tm = [(0, .sl (.own 0) M), (3, .ptr 0 0), (42, .sl .ext (itEs l)), (43, .int .i64 ((itEs l).length : Int)), (44, .int .i64 (i : Int))] ∧ bx = [itC (4) n (c1 :: b1) l] ∧ fr = [⟨c, 1, 5⟩]) (l.length + 1) (Lands.mk' (m := l.length) (Nat.lt_succ_self _) ⟨0, (L ++ (c0 :: t0).map E.byte).length + ((c1 :: b1).map E.byte).length, (L ++ (c0 :: t0).map E.byte) ++ (c1 :: b1).map E.byte, rfl, by simp only [List.length_append], by simp [puts], rfl, rfl, rfl⟩ ?_ rfl rfl rfl rfl rfl rfl) ?_
      · exact .cons rfl (.cons rfl (.cons rfl (.cons rfl (.cons rfl .nil))))
      rintro f tm bx fr ⟨i, c, M, hf, hc, hM, rfl, rfl, rfl⟩
      subst hc
      have hU := uniI l
      have hUM : Uni 1 M := by rw [hM]; exact hUL.append (uniB1 _)
      have hMl : M.length = L.length + ((c0 :: t0) ++ ((c1 :: b1) ++ puts (l.take i))).length := by rw [hM]; simp only [List.length_append, List.length_map]
      rcases Nat.lt_or_ge i l.length with hlt | hge
      · have hdl : decide ((i : Int) < ((itEs l).length : Int)) = true := decide_eq_true (by omega)
        obtain ⟨⟨k1, n1, b2, l1⟩, hy⟩ : ∃ y, l[i]? = some y := ⟨_, List.getElem?_eq_getElem hlt⟩
        have hv : (itEs l)[((i : Nat) : Int).toNat]? = some (.agg [.int .i64 k1, .int .u64 (n1 : Int), .sl (b2.map E.byte), .sl (itEs l1)]) := by
          rw [Int.toNat_natCast, itEs_map, List.getElem?_map, hy]; rfl
        have hmem := List.mem_of_getElem? hy
        have hps := puts_take_succ hy
        have hpl := puts_take_le l (i + 1)
        have hps2 := congrArg List.length hps
        rw [List.length_append] at hps2
        have hc := ih _ hmem (wfs_mem hws _ hmem) (okxs_mem hos _ hmem) M _ rfl hUM (by simp only [List.length_append] at hMl hlim; omega)
        have ei : IntKind.i64.wrap ((i : Int) + 1) = ((i + 1 : Nat) : Int) := by rw [IntWalk.i64_in _ (by omega)]; omega
        repeat' (first | rw [ei] | (apply AL_callT [] [0] (hc); kernel_rfl; (iterate 10 exact rfl)) | (apply AL_move; exact rfl; exact rfl) | (apply AL_assign; exact rfl; exact rfl) | (apply AL_bin; (iterate 5 exact rfl)) | (apply AL_loadn ttok; (iterate 7 exact rfl)) | (apply AL_store ttok; (iterate 8 exact rfl)) | refine AL_nil ?_ | refine AW_region ?_ | refine AW_seq' ?_ | (apply AW_condA; exact rfl; (first | with_reducible assumption | decide +kernel)) | refine then_norm ?_ | refine AW_block ?_ | (apply AL_eloadn ttok; (iterate 6 exact rfl)) | (apply AL_allocZ ttok; (iterate 4 exact rfl)) | refine AW_skip ?_ | (apply AL_idx ttok; (iterate 6 exact rfl); (first | with_reducible assumption | decide +kernel | exact Int.natCast_nonneg _ | (guard_target = (0:Int) ≤ (OfNat.ofNat _ : Int); decide) | rotate_left); (first | with_reducible assumption | decide +kernel | exact rfl); (first | exact uniB_ok rfl | with_reducible assumption | decide +kernel | rotate_left)))
        refine Lands.mk' (m := f - 1) (by omega) ⟨i + 1, M.length + (putI (.mk k1 n1 b2 l1)).length, M ++ (putI (.mk k1 n1 b2 l1)).map E.byte, by omega, by simp only [List.length_append, List.length_map], by rw [hM, hps]; simp, rfl, rfl, rfl⟩ ?_ rfl rfl rfl rfl rfl rfl
        exact .cons rfl (.cons rfl (.cons rfl (.cons rfl (.cons rfl .nil))))
      · have hdl : decide ((i : Int) < ((itEs l).length : Int)) = false := decide_eq_false (by omega)
        rw [List.take_of_length_le hge] at hM hMl
        repeat' (first | (apply AL_move; exact rfl; exact rfl) | (apply AL_assign; exact rfl; exact rfl) | (apply AL_bin; (iterate 5 exact rfl)) | refine AL_nil ?_ | refine AW_region ?_ | refine AW_seq' ?_ | (apply AW_condB; exact rfl; (first | with_reducible assumption | decide +kernel)) | refine then_norm ?_ | refine AW_exit ?_ | refine AW_ret ?_)
        all_goals (apply endT [] [0]; (repeat (first | exact ResL.nil | (apply ResL.cons; first | exact .tmp _ _ rfl | (apply res_n ttok; (iterate 6 exact rfl)) | (apply res_1 ttok; (iterate 5 exact rfl))))); (iterate 7 exact rfl))
        · rw [hM]; rfl
        · rfl
        · rw [hMl]; rfl
  · rw [hh] at hW
    clear hh
    have q2 := hne2 k2
    have q3 := hne3 k3
    have q4 := hne4 k4
    rcases hbc with rfl | ⟨c1, b1, rfl⟩
    · refine AC_of Tryd.func51 rfl Tryd.ntmps51 rfl rfl ?_
      repeat' (first | (apply AL_callPw (hW); kernel_rfl; (iterate 4 exact rfl)) | (apply AL_move; exact rfl; exact rfl) | (apply AL_assign; exact rfl; exact rfl) | (apply AL_bin; (iterate 5 exact rfl)) | (apply AL_load1 ttok; (iterate 6 exact rfl)) | (apply AL_fieldAddr ttok; (iterate 7 exact rfl)) | (apply AL_boxZ; (iterate 5 exact rfl)) | (apply AL_extract; (iterate 3 exact rfl)) | refine AL_nil ?_ | refine AW_region ?_ | refine AW_seq' ?_ | (apply AW_condB; exact rfl; (first | with_reducible assumption | decide +kernel)) | refine then_norm ?_ | refine AW_block ?_ | (apply AL_len ttok; (iterate 4 exact rfl)) | (apply AL_build ttok; (iterate 6 exact rfl)) | (apply AW_drawE 5 hmix; (decide +kernel); (kernel_rfl); (kernel_rfl); (kernel_rfl); exact rfl; exact rfl) | (apply AE_consZ; (iterate 4 exact rfl)) | exact AE.nil _ _ _ _ | (apply AEk_puT; exact rfl) | (apply AEk_efT; exact rfl) | (apply AOt_mk; exact rfl; exact rfl; (decide +kernel); exact rfl) | (apply AO_puT; exact rfl) | (apply AO_efT; exact rfl) | exact AO.nil _ _ _ | (apply AOs_skip; (decide +kernel)) | (apply AOs_goZ; (iterate 3 exact rfl)) | exact AOs.nil | exact qY_ok rfl rfl | exact qY_ef rfl rfl | refine AW_skip ?_ | (apply AL_append_none ttok; (iterate 6 exact rfl)) | (apply AL_append ttok; (iterate 6 exact rfl); (first | with_reducible assumption | decide +kernel | exact rfl | rotate_left); exact rfl; exact rfl; (first | exact uniB_ok rfl | with_reducible assumption | decide +kernel | rotate_left); (first | exact uniB_ok rfl | with_reducible assumption | decide +kernel | rotate_left); (first | exact List.cons_ne_nil _ _ | with_reducible assumption | decide +kernel | rotate_left); (first | with_reducible assumption | decide +kernel | rotate_left); (first | with_reducible assumption | decide +kernel | rotate_left); exact rfl; exact rfl))
      all_goals first | (first | rfl | (simp only [List.length_append, List.length_cons, List.length_nil, List.length_map, itEs_len]; done) | (simp only [List.length_append, List.length_cons, List.length_nil, List.length_map, itEs_len] at *; (try unfold maxLen); (try simp only [Nat.add_mul]); omega)) | skip
      refine AW_loopJ (fun f tm bx fr => ∃ (i c : Nat) (M : List E), f + i = l.length ∧ c = M.length ∧ M = L ++ ((c0 :: t0) ++ (([] : List UInt8) ++ puts (l.take i))).map E.byte ∧ tm = [(0, .sl (.own 0) M), (3, .ptr 0 0), (42, .sl .ext (itEs l)), (43, .int .i64 ((itEs l).length : Int)), (44, .int .i64 (i : Int))] ∧ bx = [itC (k) n ([] : List UInt8) l] ∧ fr = [⟨c, 1, 5⟩]) (l.length + 1) (Lands.mk' (m := l.length) (Nat.lt_succ_self _) ⟨0, L.length + ((c0 :: t0).map E.byte).length, L ++ (c0 :: t0).map E.byte, rfl, by simp only [List.length_append], by simp [puts], rfl, rfl, rfl⟩ ?_ rfl rfl rfl rfl rfl rfl) ?_
      · exact .cons rfl (.cons rfl (.cons rfl (.cons rfl (.cons rfl .nil))))
      rintro f tm bx fr ⟨i, c, M, hf, hc, hM, rfl, rfl, rfl⟩
      subst hc
      have hU := uniI l
      have hUM : Uni 1 M := by rw [hM]; exact hUL.append (uniB1 _)
      have hMl : M.length = L.length + ((c0 :: t0) ++ (([] : List UInt8) ++ puts (l.take i))).length := by rw [hM]; simp only [List.length_append, List.length_map]
      rcases Nat.lt_or_ge i l.length with hlt | hge
      · have hdl : decide ((i : Int) < ((itEs l).length : Int)) = true := decide_eq_true (by omega)
        obtain ⟨⟨k1, n1, b2, l1⟩, hy⟩ : ∃ y, l[i]? = some y := ⟨_, List.getElem?_eq_getElem hlt⟩
        have hv : (itEs l)[((i : Nat) : Int).toNat]? = some (.agg [.int .i64 k1, .int .u64 (n1 : Int), .sl (b2.map E.byte), .sl (itEs l1)]) := by
          rw [Int.toNat_natCast, itEs_map, List.getElem?_map, hy]; rfl
        have hmem := List.mem_of_getElem? hy
        have hps := puts_take_succ hy
        have hpl := puts_take_le l (i + 1)
        have hps2 := congrArg List.length hps
        rw [List.length_append] at hps2
        have hc := ih _ hmem (wfs_mem hws _ hmem) (okxs_mem hos _ hmem) M _ rfl hUM (by simp only [List.length_append] at hMl hlim; omega)
        have ei : IntKind.i64.wrap ((i : Int) + 1) = ((i + 1 : Nat) : Int) := by rw [IntWalk.i64_in _ (by omega)]; omega
        repeat' (first | rw [ei] | (apply AL_callT [] [0] (hc); kernel_rfl; (iterate 10 exact rfl)) | (apply AL_move; exact rfl; exact rfl) | (apply AL_assign; exact rfl; exact rfl) | (apply AL_bin; (iterate 5 exact rfl)) | (apply AL_loadn ttok; (iterate 7 exact rfl)) | (apply AL_store ttok; (iterate 8 exact rfl)) | refine AL_nil ?_ | refine AW_region ?_ | refine AW_seq' ?_ | (apply AW_condA; exact rfl; (first | with_reducible assumption | decide +kernel)) | refine then_norm ?_ | refine AW_block ?_ | (apply AL_eloadn ttok; (iterate 6 exact rfl)) | (apply AL_allocZ ttok; (iterate 4 exact rfl)) | refine AW_skip ?_ | (apply AL_idx ttok; (iterate 6 exact rfl); (first | with_reducible assumption | decide +kernel | exact Int.natCast_nonneg _ | (guard_target = (0:Int) ≤ (OfNat.ofNat _ : Int); decide) | rotate_left); (first | with_reducible assumption | decide +kernel | exact rfl); (first | exact uniB_ok rfl | with_reducible assumption | decide +kernel | rotate_left)))
        refine Lands.mk' (m := f - 1) (by omega) ⟨i + 1, M.length + (putI (.mk k1 n1 b2 l1)).length, M ++ (putI (.mk k1 n1 b2 l1)).map E.byte, by omega, by simp only [List.length_append, List.length_map], by rw [hM, hps]; simp, rfl, rfl, rfl⟩ ?_ rfl rfl rfl rfl rfl rfl
        exact .cons rfl (.cons rfl (.cons rfl (.cons rfl (.cons rfl .nil))))
      · have hdl : decide ((i : Int) < ((itEs l).length : Int)) = false := decide_eq_false (by omega)
        rw [List.take_of_length_le hge] at hM hMl
        repeat' (first | (apply AL_move; exact rfl; exact rfl) | (apply AL_assign; exact rfl; exact rfl) | (apply AL_bin; (iterate 5 exact rfl)) | refine AL_nil ?_ | refine AW_region ?_ | refine AW_seq' ?_ | (apply AW_condB; exact rfl; (first | with_reducible assumption | decide +kernel)) | refine then_norm ?_ | refine AW_exit ?_ | refine AW_ret ?_)
        all_goals (apply endT [] [0]; (repeat (first | exact ResL.nil | (apply ResL.cons; first | exact .tmp _ _ rfl | (apply res_n ttok; (iterate 6 exact rfl)) | (apply res_1 ttok; (iterate 5 exact rfl))))); (iterate 7 exact rfl))
        · rw [hM]; rfl
        · rfl
        · rw [hMl]; rfl
    · refine AC_of Tryd.func51 rfl Tryd.ntmps51 rfl rfl ?_
      repeat' (first | (apply AL_callPw (hW); kernel_rfl; (iterate 4 exact rfl)) | (apply AL_move; exact rfl; exact rfl) | (apply AL_assign; exact rfl; exact rfl) | (apply AL_bin; (iterate 5 exact rfl)) | (apply AL_load1 ttok; (iterate 6 exact rfl)) | (apply AL_fieldAddr ttok; (iterate 7 exact rfl)) | (apply AL_boxZ; (iterate 5 exact rfl)) | (apply AL_extract; (iterate 3 exact rfl)) | refine AL_nil ?_ | refine AW_region ?_ | refine AW_seq' ?_ | (apply AW_condB; exact rfl; (first | with_reducible assumption | decide +kernel)) | refine then_norm ?_ | refine AW_block ?_ | (apply AL_len ttok; (iterate 4 exact rfl)) | (apply AL_build ttok; (iterate 6 exact rfl)) | (apply AW_drawE 5 hmix; (decide +kernel); (kernel_rfl); (kernel_rfl); (kernel_rfl); exact rfl; exact rfl) | (apply AE_consZ; (iterate 4 exact rfl)) | exact AE.nil _ _ _ _ | (apply AEk_puT; exact rfl) | (apply AEk_efT; exact rfl) | (apply AOt_mk; exact rfl; exact rfl; (decide +kernel); exact rfl) | (apply AO_puT; exact rfl) | (apply AO_efT; exact rfl) | exact AO.nil _ _ _ | (apply AOs_skip; (decide +kernel)) | (apply AOs_goZ; (iterate 3 exact rfl)) | exact AOs.nil | exact qY_ok rfl rfl | exact qY_ef rfl rfl | refine AW_skip ?_ | (apply AL_append ttok; (iterate 6 exact rfl); (first | with_reducible assumption | decide +kernel | exact rfl | rotate_left); exact rfl; exact rfl; (first | exact uniB_ok rfl | with_reducible assumption | decide +kernel | rotate_left); (first | exact uniB_ok rfl | with_reducible assumption | decide +kernel | rotate_left); (first | exact List.cons_ne_nil _ _ | with_reducible assumption | decide +kernel | rotate_left); (first | with_reducible assumption | decide +kernel | rotate_left); (first | with_reducible assumption | decide +kernel | rotate_left); exact rfl; exact rfl))
      all_goals first | (first | rfl | (simp only [List.length_append, List.length_cons, List.length_nil, List.length_map, itEs_len]; done) | (simp only [List.length_append, List.length_cons, List.length_nil, List.length_map, itEs_len] at *; (try unfold maxLen); (try simp only [Nat.add_mul]); omega)) | skip
      refine AW_loopJ (fun f tm bx fr => ∃ (i c : Nat) (M : List E), f + i = l.length ∧ c = M.length ∧ M = L ++ ((c0 :: t0) ++ ((c1 :: b1) ++ puts (l.take i))).map E.byte ∧ tm = [(0, .sl (.own 0) M), (3, .ptr 0 0), (42, .sl .ext (itEs l)), (43, .int .i64 ((itEs l).length : Int)), (44, .int .i64 (i : Int))] ∧ bx = [itC (k) n (c1 :: b1) l] ∧ fr = [⟨c, 1, 5⟩]) (l.length + 1) (Lands.mk' (m := l.length) (Nat.lt_succ_self _) ⟨0, (L ++ (c0 :: t0).map E.byte).length + ((c1 :: b1).map E.byte).length, (L ++ (c0 :: t0).map E.byte) ++ (c1 :: b1).map E.byte, rfl, by simp only [List.length_append], by simp [puts], rfl, rfl, rfl⟩ ?_ rfl rfl rfl rfl rfl rfl) ?_
      · exact .cons rfl (.cons rfl (.cons rfl (.cons rfl (.cons rfl .nil))))
      rintro f tm bx fr ⟨i, c, M, hf, hc, hM, rfl, rfl, rfl⟩
      subst hc
      have hU := uniI l
      have hUM : Uni 1 M := by rw [hM]; exact hUL.append (uniB1 _)
      have hMl : M.length = L.length + ((c0 :: t0) ++ ((c1 :: b1) ++ puts (l.take i))).length := by rw [hM]; simp only [List.length_append, List.length_map]
      rcases Nat.lt_or_ge i l.length with hlt | hge
      · have hdl : decide ((i : Int) < ((itEs l).length : Int)) = true := decide_eq_true (by omega)
        obtain ⟨⟨k1, n1, b2, l1⟩, hy⟩ : ∃ y, l[i]? = some y := ⟨_, List.getElem?_eq_getElem hlt⟩
        have hv : (itEs l)[((i : Nat) : Int).toNat]? = some (.agg [.int .i64 k1, .int .u64 (n1 : Int), .sl (b2.map E.byte), .sl (itEs l1)]) := by
          rw [Int.toNat_natCast, itEs_map, List.getElem?_map, hy]; rfl
        have hmem := List.mem_of_getElem? hy
        have hps := puts_take_succ hy
        have hpl := puts_take_le l (i + 1)
        have hps2 := congrArg List.length hps
        rw [List.length_append] at hps2
        have hc := ih _ hmem (wfs_mem hws _ hmem) (okxs_mem hos _ hmem) M _ rfl hUM (by simp only [List.length_append] at hMl hlim; omega)
        have ei : IntKind.i64.wrap ((i : Int) + 1) = ((i + 1 : Nat) : Int) := by rw [IntWalk.i64_in _ (by omega)]; omega
        repeat' (first | rw [ei] | (apply AL_callT [] [0] (hc); kernel_rfl; (iterate 10 exact rfl)) | (apply AL_move; exact rfl; exact rfl) | (apply AL_assign; exact rfl; exact rfl) | (apply AL_bin; (iterate 5 exact rfl)) | (apply AL_loadn ttok; (iterate 7 exact rfl)) | (apply AL_store ttok; (iterate 8 exact rfl)) | refine AL_nil ?_ | refine AW_region ?_ | refine AW_seq' ?_ | (apply AW_condA; exact rfl; (first | with_reducible assumption | decide +kernel)) | refine then_norm ?_ | refine AW_block ?_ | (apply AL_eloadn ttok; (iterate 6 exact rfl)) | (apply AL_allocZ ttok; (iterate 4 exact rfl)) | refine AW_skip ?_ | (apply AL_idx ttok; (iterate 6 exact rfl); (first | with_reducible assumption | decide +kernel | exact Int.natCast_nonneg _ | (guard_target = (0:Int) ≤ (OfNat.ofNat _ : Int); decide) | rotate_left); (first | with_reducible assumption | decide +kernel | exact rfl); (first | exact uniB_ok rfl | with_reducible assumption | decide +kernel | rotate_left)))
        refine Lands.mk' (m := f - 1) (by omega) ⟨i + 1, M.length + (putI (.mk k1 n1 b2 l1)).length, M ++ (putI (.mk k1 n1 b2 l1)).map E.byte, by omega, by simp only [List.length_append, List.length_map], by rw [hM, hps]; simp, rfl, rfl, rfl⟩ ?_ rfl rfl rfl rfl rfl rfl
        exact .cons rfl (.cons rfl (.cons rfl (.cons rfl (.cons rfl .nil))))
      · have hdl : decide ((i : Int) < ((itEs l).length : Int)) = false := decide_eq_false (by omega)
        rw [List.take_of_length_le hge] at hM hMl
        repeat' (first | (apply AL_move; exact rfl; exact rfl) | (apply AL_assign; exact rfl; exact rfl) | (apply AL_bin; (iterate 5 exact rfl)) | refine AL_nil ?_ | refine AW_region ?_ | refine AW_seq' ?_ | (apply AW_condB; exact rfl; (first | with_reducible assumption | decide +kernel)) | refine then_norm ?_ | refine AW_exit ?_ | refine AW_ret ?_)
        all_goals (apply endT [] [0]; (repeat (first | exact ResL.nil | (apply ResL.cons; first | exact .tmp _ _ rfl | (apply res_n ttok; (iterate 6 exact rfl)) | (apply res_1 ttok; (iterate 5 exact rfl))))); (iterate 7 exact rfl))
        · rw [hM]; rfl
        · rfl
        · rw [hMl]; rfl
theorem av_putN [Known] (x : It) (hw : wfI x) (ho : okx x) (hlim : (putI x).length ≤ 1099511627776) : AT Tryd.prog 51 [.sl .nil [], itD x] [] [] (.sl (.own 0) ((putI x).map E.byte)) [] [⟨(putI x).length, 1, 5⟩] := by
  obtain ⟨k, n, b, l⟩ := x
  obtain ⟨hn, hb, hl, hws⟩ := hw
  obtain ⟨hk7, hos⟩ := ho
  have hlen := itEs_len l
  have hr : rightB (k, (It.mk k n b l).hn, false) = true := by simp [rightB]; exact hk7
  have hhn : (It.mk k n b l).hn < 18446744073709551616 := by simp only [It.hn]; (repeat' split) <;> omega
  have hput : putI (.mk k n b l) = writeL (k, (It.mk k n b l).hn, false) ++ (b ++ puts l) := by rw [putI, if_pos hr]
  rw [hput] at hlim ⊢
  have hW := av_write (k, (It.mk k n b l).hn, false) hhn
  rw [if_pos hr, if_pos hr] at hW
  obtain ⟨c0, t0, hcw⟩ := writeL_cons (k, (It.mk k n b l).hn, false)
  rw [hcw] at hW hlim ⊢
  have hU0 := uniB1 (c0 :: t0)
  have hU1 := uniB1 b
  have eb : IntKind.u64.wrap (((b.map E.byte).length : Nat) : Int) = ((b.length : Nat) : Int) := by rw [List.length_map, IntKind.wrap_u64]; omega
  have el : IntKind.u64.wrap (((itEs l).length : Nat) : Int) = ((l.length : Nat) : Int) := by rw [hlen, IntKind.wrap_u64]; omega
  have hS : ∀ (i : Nat), IntKind.i64.wrap ((i : Int) + 1) = ((i + 1 : Nat) : Int) ∨ 1099511627776 < i := fun i => by
    rcases Nat.lt_or_ge 1099511627776 i with h | h
    · exact .inr h
    · left; rw [IntWalk.i64_in _ (by omega)]; omega
  have hkc : (k = 2 ∧ (It.mk k n b l).hn = b.length) ∨ (k = 3 ∧ (It.mk k n b l).hn = b.length) ∨ (k = 4 ∧ (It.mk k n b l).hn = l.length) ∨ (k ≠ 2 ∧ k ≠ 3 ∧ k ≠ 4 ∧ (It.mk k n b l).hn = n) := by
    by_cases h2 : k = 2
    · subst h2; exact .inl ⟨rfl, rfl⟩
    by_cases h3 : k = 3
    · subst h3; exact .inr (.inl ⟨rfl, rfl⟩)
    by_cases h4 : k = 4
    · subst h4; exact .inr (.inr (.inl ⟨rfl, rfl⟩))
    · exact .inr (.inr (.inr ⟨h2, h3, h4, by simp [It.hn, h2, h3, h4]⟩))
  clear hhn hr hcw hput
  generalize (It.mk k n b l).hn = hn0 at hkc hW
  have hbc : b = [] ∨ ∃ c1 b1, b = c1 :: b1 := by cases b <;> simp
  have hne2 : k ≠ 2 → (k == 2) = false := fun h => by simpa using h
  have hne3 : k ≠ 3 → (k == 3) = false := fun h => by simpa using h
  have hne4 : k ≠ 4 → (k == 4) = false := fun h => by simpa using h
  rcases hkc with ⟨rfl, rfl⟩ | ⟨rfl, rfl⟩ | ⟨rfl, rfl⟩ | ⟨k2, k3, k4, hh⟩
  · rcases hbc with rfl | ⟨c1, b1, rfl⟩
    · refine AC_of Tryd.func51 rfl Tryd.ntmps51 rfl rfl ?_
      repeat' (first | rw [eb] | (apply AL_callPw (hW); kernel_rfl; (iterate 4 exact rfl)) | (apply AL_move; exact rfl; exact rfl) | (apply AL_assign; exact rfl; exact rfl) | (apply AL_bin; (iterate 5 exact rfl)) | (apply AL_load1 ttok; (iterate 6 exact rfl)) | (apply AL_fieldAddr ttok; (iterate 7 exact rfl)) | (apply AL_boxZ; (iterate 5 exact rfl)) | (apply AL_convT ttok; (iterate 5 exact rfl)) | (apply AL_extract; (iterate 3 exact rfl)) | refine AL_nil ?_ | refine AW_region ?_ | refine AW_seq' ?_ | (apply AW_condA; exact rfl; (first | with_reducible assumption | decide +kernel)) | refine then_norm ?_ | refine AW_block ?_ | (apply AL_len ttok; (iterate 4 exact rfl)) | (apply AL_build ttok; (iterate 6 exact rfl)) | (apply AW_drawE 5 hmix; (decide +kernel); (kernel_rfl); (kernel_rfl); (kernel_rfl); exact rfl; exact rfl) | (apply AE_consZ; (iterate 4 exact rfl)) | exact AE.nil _ _ _ _ | (apply AEk_puT; exact rfl) | (apply AEk_efT; exact rfl) | (apply AOt_mk; exact rfl; exact rfl; (decide +kernel); exact rfl) | (apply AO_puT; exact rfl) | (apply AO_efT; exact rfl) | exact AO.nil _ _ _ | (apply AOs_skip; (decide +kernel)) | (apply AOs_goZ; (iterate 3 exact rfl)) | exact AOs.nil | exact qY_ok rfl rfl | exact qY_ef rfl rfl | refine AW_skip ?_ | (apply AL_append_none ttok; (iterate 6 exact rfl)) | (apply AL_append_nil ttok; (iterate 6 exact rfl); (first | exact uniB_ok rfl | with_reducible assumption | decide +kernel | rotate_left); (first | exact List.cons_ne_nil _ _ | with_reducible assumption | decide +kernel | rotate_left); (first | with_reducible assumption | decide +kernel | rotate_left); (first | with_reducible assumption | decide +kernel | rotate_left); (iterate 3 exact rfl)))
      all_goals first | (first | rfl | (simp only [List.length_append, List.length_cons, List.length_nil, List.length_map, itEs_len]; done) | (simp only [List.length_append, List.length_cons, List.length_nil, List.length_map, itEs_len] at *; (try unfold maxLen); (try simp only [Nat.add_mul]); omega)) | skip
      refine AW_loopJ (fun f tm bx fr => ∃ (i c : Nat) (M : List E), f + i = l.length ∧ c = M.length ∧ M = ((c0 :: t0) ++ (([] : List UInt8) ++ puts (l.take i))).map E.byte ∧ tm = [(0, .sl (.own 0) M), (3, .ptr 0 0), (42, .sl .ext (itEs l)), (43, .int .i64 ((itEs l).length : Int)), (44, .int .i64 (i : Int))] ∧ bx = [itC (2) n ([] : List UInt8) l] ∧ fr = [⟨c, 1, 5⟩]) (l.length + 1) (Lands.mk' (m := l.length) (Nat.lt_succ_self _) ⟨0, ((c0 :: t0).map E.byte).length, (c0 :: t0).map E.byte, rfl, by simp only [List.length_append], by simp [puts], rfl, rfl, rfl⟩ ?_ rfl rfl rfl rfl rfl rfl) ?_
      · exact .cons rfl (.cons rfl (.cons rfl (.cons rfl (.cons rfl .nil))))
      rintro f tm bx fr ⟨i, c, M, hf, hc, hM, rfl, rfl, rfl⟩
      subst hc
      have hU := uniI l
      have hUM : Uni 1 M := by rw [hM]; exact uniB1 _
      have hMl : M.length = ((c0 :: t0) ++ (([] : List UInt8) ++ puts (l.take i))).length := by rw [hM]; simp only [List.length_append, List.length_map]
      rcases Nat.lt_or_ge i l.length with hlt | hge
      · have hdl : decide ((i : Int) < ((itEs l).length : Int)) = true := decide_eq_true (by omega)
        obtain ⟨⟨k1, n1, b2, l1⟩, hy⟩ : ∃ y, l[i]? = some y := ⟨_, List.getElem?_eq_getElem hlt⟩
        have hv : (itEs l)[((i : Nat) : Int).toNat]? = some (.agg [.int .i64 k1, .int .u64 (n1 : Int), .sl (b2.map E.byte), .sl (itEs l1)]) := by
          rw [Int.toNat_natCast, itEs_map, List.getElem?_map, hy]; rfl
        have hmem := List.mem_of_getElem? hy
        have hps := puts_take_succ hy
        have hpl := puts_take_le l (i + 1)
        have hps2 := congrArg List.length hps
        rw [List.length_append] at hps2
        have hc := av_putO _ (wfs_mem hws _ hmem) (okxs_mem hos _ hmem) M _ rfl hUM (by simp only [List.length_append] at hMl hlim; omega)
        have ei : IntKind.i64.wrap ((i : Int) + 1) = ((i + 1 : Nat) : Int) := by rw [IntWalk.i64_in _ (by omega)]; omega
        repeat' (first | rw [ei] | (apply AL_callT [] [0] (hc); kernel_rfl; (iterate 10 exact rfl)) | (apply AL_move; exact rfl; exact rfl) | (apply AL_assign; exact rfl; exact rfl) | (apply AL_bin; (iterate 5 exact rfl)) | (apply AL_loadn ttok; (iterate 7 exact rfl)) | (apply AL_store ttok; (iterate 8 exact rfl)) | refine AL_nil ?_ | refine AW_region ?_ | refine AW_seq' ?_ | (apply AW_condA; exact rfl; (first | with_reducible assumption | decide +kernel)) | refine then_norm ?_ | refine AW_block ?_ | (apply AL_eloadn ttok; (iterate 6 exact rfl)) | (apply AL_allocZ ttok; (iterate 4 exact rfl)) | refine AW_skip ?_ | (apply AL_idx ttok; (iterate 6 exact rfl); (first | with_reducible assumption | decide +kernel | exact Int.natCast_nonneg _ | (guard_target = (0:Int) ≤ (OfNat.ofNat _ : Int); decide) | rotate_left); (first | with_reducible assumption | decide +kernel | exact rfl); (first | exact uniB_ok rfl | with_reducible assumption | decide +kernel | rotate_left)))
        refine Lands.mk' (m := f - 1) (by omega) ⟨i + 1, M.length + (putI (.mk k1 n1 b2 l1)).length, M ++ (putI (.mk k1 n1 b2 l1)).map E.byte, by omega, by simp only [List.length_append, List.length_map], by rw [hM, hps]; simp, rfl, rfl, rfl⟩ ?_ rfl rfl rfl rfl rfl rfl
        exact .cons rfl (.cons rfl (.cons rfl (.cons rfl (.cons rfl .nil))))
      · have hdl : decide ((i : Int) < ((itEs l).length : Int)) = false := decide_eq_false (by omega)
        rw [List.take_of_length_le hge] at hM hMl
        repeat' (first | (apply AL_move; exact rfl; exact rfl) | (apply AL_assign; exact rfl; exact rfl) | (apply AL_bin; (iterate 5 exact rfl)) | refine AL_nil ?_ | refine AW_region ?_ | refine AW_seq' ?_ | (apply AW_condB; exact rfl; (first | with_reducible assumption | decide +kernel)) | refine then_norm ?_ | refine AW_exit ?_ | refine AW_ret ?_)
        all_goals (apply endT [] [0]; (repeat (first | exact ResL.nil | (apply ResL.cons; first | exact .tmp _ _ rfl | (apply res_n ttok; (iterate 6 exact rfl)) | (apply res_1 ttok; (iterate 5 exact rfl))))); (iterate 7 exact rfl))
        · rw [hM]; rfl
        · rfl
        · rw [hMl]; rfl
    · refine AC_of Tryd.func51 rfl Tryd.ntmps51 rfl rfl ?_
      repeat' (first | rw [eb] | (apply AL_callPw (hW); kernel_rfl; (iterate 4 exact rfl)) | (apply AL_move; exact rfl; exact rfl) | (apply AL_assign; exact rfl; exact rfl) | (apply AL_bin; (iterate 5 exact rfl)) | (apply AL_load1 ttok; (iterate 6 exact rfl)) | (apply AL_fieldAddr ttok; (iterate 7 exact rfl)) | (apply AL_boxZ; (iterate 5 exact rfl)) | (apply AL_convT ttok; (iterate 5 exact rfl)) | (apply AL_extract; (iterate 3 exact rfl)) | refine AL_nil ?_ | refine AW_region ?_ | refine AW_seq' ?_ | (apply AW_condA; exact rfl; (first | with_reducible assumption | decide +kernel)) | refine then_norm ?_ | refine AW_block ?_ | (apply AL_len ttok; (iterate 4 exact rfl)) | (apply AL_build ttok; (iterate 6 exact rfl)) | (apply AW_drawE 5 hmix; (decide +kernel); (kernel_rfl); (kernel_rfl); (kernel_rfl); exact rfl; exact rfl) | (apply AE_consZ; (iterate 4 exact rfl)) | exact AE.nil _ _ _ _ | (apply AEk_puT; exact rfl) | (apply AEk_efT; exact rfl) | (apply AOt_mk; exact rfl; exact rfl; (decide +kernel); exact rfl) | (apply AO_puT; exact rfl) | (apply AO_efT; exact rfl) | exact AO.nil _ _ _ | (apply AOs_skip; (decide +kernel)) | (apply AOs_goZ; (iterate 3 exact rfl)) | exact AOs.nil | exact qY_ok rfl rfl | exact qY_ef rfl rfl | refine AW_skip ?_ | (apply AL_append ttok; (iterate 6 exact rfl); (first | with_reducible assumption | decide +kernel | exact rfl | rotate_left); exact rfl; exact rfl; (first | exact uniB_ok rfl | with_reducible assumption | decide +kernel | rotate_left); (first | exact uniB_ok rfl | with_reducible assumption | decide +kernel | rotate_left); (first | exact List.cons_ne_nil _ _ | with_reducible assumption | decide +kernel | rotate_left); (first | with_reducible assumption | decide +kernel | rotate_left); (first | with_reducible assumption | decide +kernel | rotate_left); exact rfl; exact rfl) | (apply AL_append_nil ttok; (iterate 6 exact rfl); (first | exact uniB_ok rfl | with_reducible assumption | decide +kernel | rotate_left); (first | exact List.cons_ne_nil _ _ | with_reducible assumption | decide +kernel | rotate_left); (first | with_reducible assumption | decide +kernel | rotate_left); (first | with_reducible assumption | decide +kernel | rotate_left); (iterate 3 exact rfl)))
      all_goals first | (first | rfl | (simp only [List.length_append, List.length_cons, List.length_nil, List.length_map, itEs_len]; done) | (simp only [List.length_append, List.length_cons, List.length_nil, List.length_map, itEs_len] at *; (try unfold maxLen); (try simp only [Nat.add_mul]); omega)) | skip
      refine AW_loopJ (fun f tm bx fr => ∃ (i c : Nat) (M : List E), f + i = l.length ∧ c = M.length ∧ M = ((c0 :: t0) ++ ((c1 :: b1) ++ puts (l.take i))).map E.byte ∧ tm = [(0, .sl (.own 0) M), (3, .ptr 0 0), (42, .sl .ext (itEs l)), (43, .int .i64 ((itEs l).length : Int)), (44, .int .i64 (i : Int))] ∧ bx = [itC (2) n (c1 :: b1) l] ∧ fr = [⟨c, 1, 5⟩]) (l.length + 1) (Lands.mk' (m := l.length) (Nat.lt_succ_self _) ⟨0, ((c0 :: t0).map E.byte).length + ((c1 :: b1).map E.byte).length, ((c0 :: t0).map E.byte) ++ (c1 :: b1).map E.byte, rfl, by simp only [List.length_append], by simp [puts], rfl, rfl, rfl⟩ ?_ rfl rfl rfl rfl rfl rfl) ?_
      · exact .cons rfl (.cons rfl (.cons rfl (.cons rfl (.cons rfl .nil))))
      rintro f tm bx fr ⟨i, c, M, hf, hc, hM, rfl, rfl, rfl⟩
      subst hc
      have hU := uniI l
      have hUM : Uni 1 M := by rw [hM]; exact uniB1 _
      have hMl : M.length = ((c0 :: t0) ++ ((c1 :: b1) ++ puts (l.take i))).length := by rw [hM]; simp only [List.length_append, List.length_map]
      rcases Nat.lt_or_ge i l.length with hlt | hge
      · have hdl : decide ((i : Int) < ((itEs l).length : Int)) = true := decide_eq_true (by omega)
        obtain ⟨⟨k1, n1, b2, l1⟩, hy⟩ : ∃ y, l[i]? = some y := ⟨_, List.getElem?_eq_getElem hlt⟩
        have hv : (itEs l)[((i : Nat) : Int).toNat]? = some (.agg [.int .i64 k1, .int .u64 (n1 : Int), .sl (b2.map E.byte), .sl (itEs l1)]) := by
          rw [Int.toNat_natCast, itEs_map, List.getElem?_map, hy]; rfl
        have hmem := List.mem_of_getElem? hy
        have hps := puts_take_succ hy
        have hpl := puts_take_le l (i + 1)
        have hps2 := congrArg List.length hps
        rw [List.length_append] at hps2
        have hc := av_putO _ (wfs_mem hws _ hmem) (okxs_mem hos _ hmem) M _ rfl hUM (by simp only [List.length_append] at hMl hlim; omega)
        have ei : IntKind.i64.wrap ((i : Int) + 1) = ((i + 1 : Nat) : Int) := by rw [IntWalk.i64_in _ (by omega)]; omega
        repeat' (first | rw [ei] | (apply AL_callT [] [0] (hc); kernel_rfl; (iterate 10 exact rfl)) | (apply AL_move; exact rfl; exact rfl) | (apply AL_assign; exact rfl; exact rfl) | (apply AL_bin; (iterate 5 exact rfl)) | (apply AL_loadn ttok; (iterate 7 exact rfl)) | (apply AL_store ttok; (iterate 8 exact rfl)) | refine AL_nil ?_ | refine AW_region ?_ | refine AW_seq' ?_ | (apply AW_condA; exact rfl; (first | with_reducible assumption | decide +kernel)) | refine then_norm ?_ | refine AW_block ?_ | (apply AL_eloadn ttok; (iterate 6 exact rfl)) | (apply AL_allocZ ttok; (iterate 4 exact rfl)) | refine AW_skip ?_ | (apply AL_idx ttok; (iterate 6 exact rfl); (first | with_reducible assumption | decide +kernel | exact Int.natCast_nonneg _ | (guard_target = (0:Int) ≤ (OfNat.ofNat _ : Int); decide) | rotate_left); (first | with_reducible assumption | decide +kernel | exact rfl); (first | exact uniB_ok rfl | with_reducible assumption | decide +kernel | rotate_left)))
        refine Lands.mk' (m := f - 1) (by omega) ⟨i + 1, M.length + (putI (.mk k1 n1 b2 l1)).length, M ++ (putI (.mk k1 n1 b2 l1)).map E.byte, by omega, by simp only [List.length_append, List.length_map], by rw [hM, hps]; simp, rfl, rfl, rfl⟩ ?_ rfl rfl rfl rfl rfl rfl
        exact .cons rfl (.cons rfl (.cons rfl (.cons rfl (.cons rfl .nil))))
      · have hdl : decide ((i : Int) < ((itEs l).length : Int)) = false := decide_eq_false (by omega)
        rw [List.take_of_length_le hge] at hM hMl
        repeat' (first | (apply AL_move; exact rfl; exact rfl) | (apply AL_assign; exact rfl; exact rfl) | (apply AL_bin; (iterate 5 exact rfl)) | refine AL_nil ?_ | refine AW_region ?_ | refine AW_seq' ?_ | (apply AW_condB; exact rfl; (first | with_reducible assumption | decide +kernel)) | refine then_norm ?_ | refine AW_exit ?_ | refine AW_ret ?_)
        all_goals (apply endT [] [0]; (repeat (first | exact ResL.nil | (apply ResL.cons; first | exact .tmp _ _ rfl | (apply res_n ttok; (iterate 6 exact rfl)) | (apply res_1 ttok; (iterate 5 exact rfl))))); (iterate 7 exact rfl))
        · rw [hM]; rfl
        · rfl
        · rw [hMl]; rfl
  · rcases hbc with rfl | ⟨c1, b1, rfl⟩
    · refine AC_of Tryd.func51 rfl Tryd.ntmps51 rfl rfl ?_
      repeat' (first | rw [eb] | (apply AL_callPw (hW); kernel_rfl; (iterate 4 exact rfl)) | (apply AL_move; exact rfl; exact rfl) | (apply AL_assign; exact rfl; exact rfl) | (apply AL_bin; (iterate 5 exact rfl)) | (apply AL_load1 ttok; (iterate 6 exact rfl)) | (apply AL_fieldAddr ttok; (iterate 7 exact rfl)) | (apply AL_boxZ; (iterate 5 exact rfl)) | (apply AL_convT ttok; (iterate 5 exact rfl)) | (apply AL_extract; (iterate 3 exact rfl)) | refine AL_nil ?_ | refine AW_region ?_ | refine AW_seq' ?_ | (apply AW_condA; exact rfl; (first | with_reducible assumption | decide +kernel)) | (apply AW_condB; exact rfl; (first | with_reducible assumption | decide +kernel)) | refine then_norm ?_ | refine AW_block ?_ | (apply AL_len ttok; (iterate 4 exact rfl)) | (apply AL_build ttok; (iterate 6 exact rfl)) | (apply AW_drawE 5 hmix; (decide +kernel); (kernel_rfl); (kernel_rfl); (kernel_rfl); exact rfl; exact rfl) | (apply AE_consZ; (iterate 4 exact rfl)) | exact AE.nil _ _ _ _ | (apply AEk_puT; exact rfl) | (apply AEk_efT; exact rfl) | (apply AOt_mk; exact rfl; exact rfl; (decide +kernel); exact rfl) | (apply AO_puT; exact rfl) | (apply AO_efT; exact rfl) | exact AO.nil _ _ _ | (apply AOs_skip; (decide +kernel)) | (apply AOs_goZ; (iterate 3 exact rfl)) | exact AOs.nil | exact qY_ok rfl rfl | exact qY_ef rfl rfl | (apply AL_append_none ttok; (iterate 6 exact rfl)) | (apply AL_append_nil ttok; (iterate 6 exact rfl); (first | exact uniB_ok rfl | with_reducible assumption | decide +kernel | rotate_left); (first | exact List.cons_ne_nil _ _ | with_reducible assumption | decide +kernel | rotate_left); (first | with_reducible assumption | decide +kernel | rotate_left); (first | with_reducible assumption | decide +kernel | rotate_left); (iterate 3 exact rfl)))
      all_goals first | (first | rfl | (simp only [List.length_append, List.length_cons, List.length_nil, List.length_map, itEs_len]; done) | (simp only [List.length_append, List.length_cons, List.length_nil, List.length_map, itEs_len] at *; (try unfold maxLen); (try simp only [Nat.add_mul]); omega)) | skip
      refine AW_loopJ (fun f tm bx fr => ∃ (i c : Nat) (M : List E), f + i = l.length ∧ c = M.length ∧ M = ((c0 :: t0) ++ (([] : List UInt8) ++ puts (l.take i))).map E.byte ∧ tm = [(0, .sl (.own 0) M), (3, .ptr 0 0), (42, .sl .ext (itEs l)), (43, .int .i64 ((itEs l).length : Int)), (44, .int .i64 (i : Int))] ∧ bx = [itC (3) n ([] : List UInt8) l] ∧ fr = [⟨c, 1, 5⟩]) (l.length + 1) (Lands.mk' (m := l.length) (Nat.lt_succ_self _) ⟨0, ((c0 :: t0).map E.byte).length, (c0 :: t0).map E.byte, rfl, by simp only [List.length_append], by simp [puts], rfl, rfl, rfl⟩ ?_ rfl rfl rfl rfl rfl rfl) ?_
      · exact .cons rfl (.cons rfl (.cons rfl (.cons rfl (.cons rfl .nil))))
      rintro f tm bx fr ⟨i, c, M, hf, hc, hM, rfl, rfl, rfl⟩
      subst hc
      have hU := uniI l
      have hUM : Uni 1 M := by rw [hM]; exact uniB1 _
      have hMl : M.length = ((c0 :: t0) ++ (([] : List UInt8) ++ puts (l.take i))).length := by rw [hM]; simp only [List.length_append, List.length_map]
      rcases Nat.lt_or_ge i l.length with hlt | hge
      · have hdl : decide ((i : Int) < ((itEs l).length : Int)) = true := decide_eq_true (by omega)
        obtain ⟨⟨k1, n1, b2, l1⟩, hy⟩ : ∃ y, l[i]? = some y := ⟨_, List.getElem?_eq_getElem hlt⟩
        have hv : (itEs l)[((i : Nat) : Int).toNat]? = some (.agg [.int .i64 k1, .int .u64 (n1 : Int), .sl (b2.map E.byte), .sl (itEs l1)]) := by
          rw [Int.toNat_natCast, itEs_map, List.getElem?_map, hy]; rfl
        have hmem := List.mem_of_getElem? hy
        have hps := puts_take_succ hy
        have hpl := puts_take_le l (i + 1)
        have hps2 := congrArg List.length hps
        rw [List.length_append] at hps2
        have hc := av_putO _ (wfs_mem hws _ hmem) (okxs_mem hos _ hmem) M _ rfl hUM (by simp only [List.length_append] at hMl hlim; omega)
        have ei : IntKind.i64.wrap ((i : Int) + 1) = ((i + 1 : Nat) : Int) := by rw [IntWalk.i64_in _ (by omega)]; omega
        repeat' (first | rw [ei] | (apply AL_callT [] [0] (hc); kernel_rfl; (iterate 10 exact rfl)) | (apply AL_move; exact rfl; exact rfl) | (apply AL_assign; exact rfl; exact rfl) | (apply AL_bin; (iterate 5 exact rfl)) | (apply AL_loadn ttok; (iterate 7 exact rfl)) | (apply AL_store ttok; (iterate 8 exact rfl)) | refine AL_nil ?_ | refine AW_region ?_ | refine AW_seq' ?_ | (apply AW_condA; exact rfl; (first | with_reducible assumption | decide +kernel)) | refine then_norm ?_ | refine AW_block ?_ | (apply AL_eloadn ttok; (iterate 6 exact rfl)) | (apply AL_allocZ ttok; (iterate 4 exact rfl)) | refine AW_skip ?_ | (apply AL_idx ttok; (iterate 6 exact rfl); (first | with_reducible assumption | decide +kernel | exact Int.natCast_nonneg _ | (guard_target = (0:Int) ≤ (OfNat.ofNat _ : Int); decide) | rotate_left); (first | with_reducible assumption | decide +kernel | exact rfl); (first | exact uniB_ok rfl | with_reducible assumption | decide +kernel | rotate_left)))
        refine Lands.mk' (m := f - 1) (by omega) ⟨i + 1, M.length + (putI (.mk k1 n1 b2 l1)).length, M ++ (putI (.mk k1 n1 b2 l1)).map E.byte, by omega, by simp only [List.length_append, List.length_map], by rw [hM, hps]; simp, rfl, rfl, rfl⟩ ?_ rfl rfl rfl rfl rfl rfl
        exact .cons rfl (.cons rfl (.cons rfl (.cons rfl (.cons rfl .nil))))
      · have hdl : decide ((i : Int) < ((itEs l).length : Int)) = false := decide_eq_false (by omega)
        rw [List.take_of_length_le hge] at hM hMl
        repeat' (first | (apply AL_move; exact rfl; exact rfl) | (apply AL_assign; exact rfl; exact rfl) | (apply AL_bin; (iterate 5 exact rfl)) | refine AL_nil ?_ | refine AW_region ?_ | refine AW_seq' ?_ | (apply AW_condB; exact rfl; (first | with_reducible assumption | decide +kernel)) | refine then_norm ?_ | refine AW_exit ?_ | refine AW_ret ?_)
        all_goals (apply endT [] [0]; (repeat (first | exact ResL.nil | (apply ResL.cons; first | exact .tmp _ _ rfl | (apply res_n ttok; (iterate 6 exact rfl)) | (apply res_1 ttok; (iterate 5 exact rfl))))); (iterate 7 exact rfl))
        · rw [hM]; rfl
        · rfl
        · rw [hMl]; rfl
    · refine AC_of Tryd.func51 rfl Tryd.ntmps51 rfl rfl ?_
      repeat' (first | rw [eb] | (apply AL_callPw (hW); kernel_rfl; (iterate 4 exact rfl)) | (apply AL_move; exact rfl; exact rfl) | (apply AL_assign; exact rfl; exact rfl) | (apply AL_bin; (iterate 5 exact rfl)) | (apply AL_load1 ttok; (iterate 6 exact rfl)) | (apply AL_fieldAddr ttok; (iterate 7 exact rfl)) | (apply AL_boxZ; (iterate 5 exact rfl)) | (apply AL_convT ttok; (iterate 5 exact rfl)) | (apply AL_extract; (iterate 3 exact rfl)) | refine AL_nil ?_ | refine AW_region ?_ | refine AW_seq' ?_ | (apply AW_condA; exact rfl; (first | with_reducible assumption | decide +kernel)) | (apply AW_condB; exact rfl; (first | with_reducible assumption | decide +kernel)) | refine then_norm ?_ | refine AW_block ?_ | (apply AL_len ttok; (iterate 4 exact rfl)) | (apply AL_build ttok; (iterate 6 exact rfl)) | (apply AW_drawE 5 hmix; (decide +kernel); (kernel_rfl); (kernel_rfl); (kernel_rfl); exact rfl; exact rfl) | (apply AE_consZ; (iterate 4 exact rfl)) | exact AE.nil _ _ _ _ | (apply AEk_puT; exact rfl) | (apply AEk_efT; exact rfl) | (apply AOt_mk; exact rfl; exact rfl; (decide +kernel); exact rfl) | (apply AO_puT; exact rfl) | (apply AO_efT; exact rfl) | exact AO.nil _ _ _ | (apply AOs_skip; (decide +kernel)) | (apply AOs_goZ; (iterate 3 exact rfl)) | exact AOs.nil | exact qY_ok rfl rfl | exact qY_ef rfl rfl | (apply AL_append ttok; (iterate 6 exact rfl); (first | with_reducible assumption | decide +kernel | exact rfl | rotate_left); exact rfl; exact rfl; (first | exact uniB_ok rfl | with_reducible assumption | decide +kernel | rotate_left); (first | exact uniB_ok rfl | with_reducible assumption | decide +kernel | rotate_left); (first | exact List.cons_ne_nil _ _ | with_reducible assumption | decide +kernel | rotate_left); (first | with_reducible assumption | decide +kernel | rotate_left); (first | with_reducible assumption | decide +kernel | rotate_left); exact rfl; exact rfl) | (apply AL_append_nil ttok; (iterate 6 exact rfl); (first | exact uniB_ok rfl | with_reducible assumption | decide +kernel | rotate_left); (first | exact List.cons_ne_nil _ _ | with_reducible assumption | decide +kernel | rotate_left); (first | with_reducible assumption | decide +kernel | rotate_left); (first | with_reducible assumption | decide +kernel | rotate_left); (iterate 3 exact rfl)))
      all_goals first | (first | rfl | (simp only [List.length_append, List.length_cons, List.length_nil, List.length_map, itEs_len]; done) | (simp only [List.length_append, List.length_cons, List.length_nil, List.length_map, itEs_len] at *; (try unfold maxLen); (try simp only [Nat.add_mul]); omega)) | skip
      refine AW_loopJ (fun f tm bx fr => ∃ (i c : Nat) (M : List E), f + i = l.length ∧ c = M.length ∧ M = ((c0 :: t0) ++ ((c1 :: b1) ++ puts (l.take i))).map E.byte ∧ tm = [(0, .sl (.own 0) M), (3, .ptr 0 0), (42, .sl .ext (itEs l)), (43, .int .i64 ((itEs l).length : Int)), (44, .int .i64 (i : Int))] ∧ bx = [itC (3) n (c1 :: b1) l] ∧ fr = [⟨c, 1, 5⟩]) (l.length + 1) (Lands.mk' (m := l.length) (Nat.lt_succ_self _) ⟨0, ((c0 :: t0).map E.byte).length + ((c1 :: b1).map E.byte).length, ((c0 :: t0).map E.byte) ++ (c1 :: b1).map E.byte, rfl, by simp only [List.length_append], by simp [puts], rfl, rfl, rfl⟩ ?_ rfl rfl rfl rfl rfl rfl) ?_
      · exact .cons rfl (.cons rfl (.cons rfl (.cons rfl (.cons rfl .nil))))
      rintro f tm bx fr ⟨i, c, M, hf, hc, hM, rfl, rfl, rfl⟩
      subst hc
      have hU := uniI l
      have hUM : Uni 1 M := by rw [hM]; exact uniB1 _
      have hMl : M.length = ((c0 :: t0) ++ ((c1 :: b1) ++ puts (l.take i))).length := by rw [hM]; simp only [List.length_append, List.length_map]
      rcases Nat.lt_or_ge i l.length with hlt | hge
      · have hdl : decide ((i : Int) < ((itEs l).length : Int)) = true := decide_eq_true (by omega)
        obtain ⟨⟨k1, n1, b2, l1⟩, hy⟩ : ∃ y, l[i]? = some y := ⟨_, List.getElem?_eq_getElem hlt⟩
        have hv : (itEs l)[((i : Nat) : Int).toNat]? = some (.agg [.int .i64 k1, .int .u64 (n1 : Int), .sl (b2.map E.byte), .sl (itEs l1)]) := by
          rw [Int.toNat_natCast, itEs_map, List.getElem?_map, hy]; rfl
        have hmem := List.mem_of_getElem? hy
        have hps := puts_take_succ hy
        have hpl := puts_take_le l (i + 1)
        have hps2 := congrArg List.length hps
        rw [List.length_append] at hps2
        have hc := av_putO _ (wfs_mem hws _ hmem) (okxs_mem hos _ hmem) M _ rfl hUM (by simp only [List.length_append] at hMl hlim; omega)
        have ei : IntKind.i64.wrap ((i : Int) + 1) = ((i + 1 : Nat) : Int) := by rw [IntWalk.i64_in _ (by omega)]; omega
        repeat' (first | rw [ei] | (apply AL_callT [] [0] (hc); kernel_rfl; (iterate 10 exact rfl)) | (apply AL_move; exact rfl; exact rfl) | (apply AL_assign; exact rfl; exact rfl) | (apply AL_bin; (iterate 5 exact rfl)) | (apply AL_loadn ttok; (iterate 7 exact rfl)) | (apply AL_store ttok; (iterate 8 exact rfl)) | refine AL_nil ?_ | refine AW_region ?_ | refine AW_seq' ?_ | (apply AW_condA; exact rfl; (first | with_reducible assumption | decide +kernel)) | refine then_norm ?_ | refine AW_block ?_ | (apply AL_eloadn ttok; (iterate 6 exact rfl)) | (apply AL_allocZ ttok; (iterate 4 exact rfl)) | refine AW_skip ?_ | (apply AL_idx ttok; (iterate 6 exact rfl); (first | with_reducible assumption | decide +kernel | exact Int.natCast_nonneg _ | (guard_target = (0:Int) ≤ (OfNat.ofNat _ : Int); decide) | rotate_left); (first | with_reducible assumption | decide +kernel | exact rfl); (first | exact uniB_ok rfl | with_reducible assumption | decide +kernel | rotate_left)))
        refine Lands.mk' (m := f - 1) (by omega) ⟨i + 1, M.length + (putI (.mk k1 n1 b2 l1)).length, M ++ (putI (.mk k1 n1 b2 l1)).map E.byte, by omega, by simp only [List.length_append, List.length_map], by rw [hM, hps]; simp, rfl, rfl, rfl⟩ ?_ rfl rfl rfl rfl rfl rfl
        exact .cons rfl (.cons rfl (.cons rfl (.cons rfl (.cons rfl .nil))))
      · have hdl : decide ((i : Int) < ((itEs l).length : Int)) = false := decide_eq_false (by omega)
        rw [List.take_of_length_le hge] at hM hMl
        repeat' (first | (apply AL_move; exact rfl; exact rfl) | (apply AL_assign; exact rfl; exact rfl) | (apply AL_bin; (iterate 5 exact rfl)) | refine AL_nil ?_ | refine AW_region ?_ | refine AW_seq' ?_ | (apply AW_condB; exact rfl; (first | with_reducible assumption | decide +kernel)) | refine then_norm ?_ | refine AW_exit ?_ | refine AW_ret ?_)
        all_goals (apply endT [] [0]; (repeat (first | exact ResL.nil | (apply ResL.cons; first | exact .tmp _ _ rfl | (apply res_n ttok; (iterate 6 exact rfl)) | (apply res_1 ttok; (iterate 5 exact rfl))))); (iterate 7 exact rfl))
        · rw [hM]; rfl
        · rfl
        · rw [hMl]; rfl
  · rcases hbc with rfl | ⟨c1, b1, rfl⟩
    · refine AC_of Tryd.func51 rfl Tryd.ntmps51 rfl rfl ?_
      repeat' (first | rw [el] | (apply AL_callPw (hW); kernel_rfl; (iterate 4 exact rfl)) | (apply AL_move; exact rfl; exact rfl) | (apply AL_assign; exact rfl; exact rfl) | (apply AL_bin; (iterate 5 exact rfl)) | (apply AL_load1 ttok; (iterate 6 exact rfl)) | (apply AL_fieldAddr ttok; (iterate 7 exact rfl)) | (apply AL_boxZ; (iterate 5 exact rfl)) | (apply AL_convT ttok; (iterate 5 exact rfl)) | (apply AL_extract; (iterate 3 exact rfl)) | refine AL_nil ?_ | refine AW_region ?_ | refine AW_seq' ?_ | (apply AW_condA; exact rfl; (first | with_reducible assumption | decide +kernel)) | (apply AW_condB; exact rfl; (first | with_reducible assumption | decide +kernel)) | refine then_norm ?_ | refine AW_block ?_ | (apply AL_len ttok; (iterate 4 exact rfl)) | (apply AL_build ttok; (iterate 6 exact rfl)) | (apply AW_drawE 5 hmix; (decide +kernel); (kernel_rfl); (kernel_rfl); (kernel_rfl); exact rfl; exact rfl) | (apply AE_consZ; (iterate 4 exact rfl)) | exact AE.nil _ _ _ _ | (apply AEk_puT; exact rfl) | (apply AEk_efT; exact rfl) | (apply AOt_mk; exact rfl; exact rfl; (decide +kernel); exact rfl) | (apply AO_puT; exact rfl) | (apply AO_efT; exact rfl) | exact AO.nil _ _ _ | (apply AOs_skip; (decide +kernel)) | (apply AOs_goZ; (iterate 3 exact rfl)) | exact AOs.nil | exact qY_ok rfl rfl | exact qY_ef rfl rfl | (apply AL_append_none ttok; (iterate 6 exact rfl)) | (apply AL_append_nil ttok; (iterate 6 exact rfl); (first | exact uniB_ok rfl | with_reducible assumption | decide +kernel | rotate_left); (first | exact List.cons_ne_nil _ _ | with_reducible assumption | decide +kernel | rotate_left); (first | with_reducible assumption | decide +kernel | rotate_left); (first | with_reducible assumption | decide +kernel | rotate_left); (iterate 3 exact rfl)))
      all_goals first | (first | rfl | (simp only [List.length_append, List.length_cons, List.length_nil, List.length_map, itEs_len]; done) | (simp only [List.length_append, List.length_cons, List.length_nil, List.length_map, itEs_len] at *; (try unfold maxLen); (try simp only [Nat.add_mul]); omega)) | skip
      refine AW_loopJ (fun f tm bx fr => ∃ (i c : Nat) (M : List E), f + i = l.length ∧ c = M.length ∧ M = ((c0 :: t0) ++ (([] : List UInt8) ++ puts (l.take i))).map E.byte ∧ tm = [(0, .sl (.own 0) M), (3, .ptr 0 0), (42, .sl .ext (itEs l)), (43, .int .i64 ((itEs l).length : Int)), (44, .int .i64 (i : Int))] ∧ bx = [itC (4) n ([] : List UInt8) l] ∧ fr = [⟨c, 1, 5⟩]) (l.length + 1) (Lands.mk' (m := l.length) (Nat.lt_succ_self _) ⟨0, ((c0 :: t0).map E.byte).length, (c0 :: t0).map E.byte, rfl, by simp only [List.length_append], by simp [puts], rfl, rfl, rfl⟩ ?_ rfl rfl rfl rfl rfl rfl) ?_
      · exact .cons rfl (.cons rfl (.cons rfl (.cons rfl (.cons rfl .nil))))
      rintro f tm bx fr ⟨i, c, M, hf, hc, hM, rfl, rfl, rfl⟩
      subst hc
      have hU := uniI l
      have hUM : Uni 1 M := by rw [hM]; exact uniB1 _
      have hMl : M.length = ((c0 :: t0) ++ (([] : List UInt8) ++ puts (l.take i))).length := by rw [hM]; simp only [List.length_append, List.length_map]
      rcases Nat.lt_or_ge i l.length with hlt | hge
      · have hdl : decide ((i : Int) < ((itEs l).length : Int)) = true := decide_eq_true (by omega)
        obtain ⟨⟨k1, n1, b2, l1⟩, hy⟩ : ∃ y, l[i]? = some y := ⟨_, List.getElem?_eq_getElem hlt⟩
        have hv : (itEs l)[((i : Nat) : Int).toNat]? = some (.agg [.int .i64 k1, .int .u64 (n1 : Int), .sl (b2.map E.byte), .sl (itEs l1)]) := by
          rw [Int.toNat_natCast, itEs_map, List.getElem?_map, hy]; rfl
        have hmem := List.mem_of_getElem? hy
        have hps := puts_take_succ hy
        have hpl := puts_take_le l (i + 1)
        have hps2 := congrArg List.length hps
        rw [List.length_append] at hps2
        have hc := av_putO _ (wfs_mem hws _ hmem) (okxs_mem hos _ hmem) M _ rfl hUM (by simp only [List.length_append] at hMl hlim; omega)
        have ei : IntKind.i64.wrap ((i : Int) + 1) = ((i + 1 : Nat) : Int) := by rw [IntWalk.i64_in _ (by omega)]; omega
        repeat' (first | rw [ei] | (apply AL_callT [] [0] (hc); kernel_rfl; (iterate 10 exact rfl)) | (apply AL_move; exact rfl; exact rfl) | (apply AL_assign; exact rfl; exact rfl) | (apply AL_bin; (iterate 5 exact rfl)) | (apply AL_loadn ttok; (iterate 7 exact rfl)) | (apply AL_store ttok; (iterate 8 exact rfl)) | refine AL_nil ?_ | refine AW_region ?_ | refine AW_seq' ?_ | (apply AW_condA; exact rfl; (first | with_reducible assumption | decide +kernel)) | refine then_norm ?_ | refine AW_block ?_ | (apply AL_eloadn ttok; (iterate 6 exact rfl)) | (apply AL_allocZ ttok; (iterate 4 exact rfl)) | refine AW_skip ?_ | (apply AL_idx ttok; (iterate 6 exact rfl); (first | with_reducible assumption | decide +kernel | exact Int.natCast_nonneg _ | (guard_target = (0:Int) ≤ (OfNat.ofNat _ : Int); decide) | rotate_left); (first | with_reducible assumption | decide +kernel | exact rfl); (first | exact uniB_ok rfl | with_reducible assumption | decide +kernel | rotate_left)))
        refine Lands.mk' (m := f - 1) (by omega) ⟨i + 1, M.length + (putI (.mk k1 n1 b2 l1)).length, M ++ (putI (.mk k1 n1 b2 l1)).map E.byte, by omega, by simp only [List.length_append, List.length_map], by rw [hM, hps]; simp, rfl, rfl, rfl⟩ ?_ rfl rfl rfl rfl rfl rfl
        exact .cons rfl (.cons rfl (.cons rfl (.cons rfl (.cons rfl .nil))))
      · have hdl : decide ((i : Int) < ((itEs l).length : Int)) = false := decide_eq_false (by omega)
        rw [List.take_of_length_le hge] at hM hMl
        repeat' (first | (apply AL_move; exact rfl; exact rfl) | (apply AL_assign; exact rfl; exact rfl) | (apply AL_bin; (iterate 5 exact rfl)) | refine AL_nil ?_ | refine AW_region ?_ | refine AW_seq' ?_ | (apply AW_condB; exact rfl; (first | with_reducible assumption | decide +kernel)) | refine then_norm ?_ | refine AW_exit ?_ | refine AW_ret ?_)
        all_goals (apply endT [] [0]; (repeat (first | exact ResL.nil | (apply ResL.cons; first | exact .tmp _ _ rfl | (apply res_n ttok; (iterate 6 exact rfl)) | (apply res_1 ttok; (iterate 5 exact rfl))))); (iterate 7 exact rfl))
        · rw [hM]; rfl
        · rfl
        · rw [hMl]; rfl
    · refine AC_of Tryd.func51 rfl Tryd.ntmps51 rfl rfl ?_
      repeat' (first | rw [el] | (apply AL_callPw (hW); kernel_rfl; (iterate 4 exact rfl)) | (apply AL_move; exact rfl; exact rfl) | (apply AL_assign; exact rfl; exact rfl) | (apply AL_bin; (iterate 5 exact rfl)) | (apply AL_load1 ttok; (iterate 6 exact rfl)) | (apply AL_fieldAddr ttok; (iterate 7 exact rfl)) | (apply AL_boxZ; (iterate 5 exact rfl)) | (apply AL_convT ttok; (iterate 5 exact rfl)) | (apply AL_extract; (iterate 3 exact rfl)) | refine AL_nil ?_ | refine AW_region ?_ | refine AW_seq' ?_ | (apply AW_condA; exact rfl; (first | with_reducible assumption | decide +kernel)) | (apply AW_condB; exact rfl; (first | with_reducible assumption | decide +kernel)) | refine then_norm ?_ | refine AW_block ?_ | (apply AL_len ttok; (iterate 4 exact rfl)) | (apply AL_build ttok; (iterate 6 exact rfl)) | (apply AW_drawE 5 hmix; (decide +kernel); (kernel_rfl); (kernel_rfl); (kernel_rfl); exact rfl; exact rfl) | (apply AE_consZ; (iterate 4 exact rfl)) | exact AE.nil _ _ _ _ | (apply AEk_puT; exact rfl) | (apply AEk_efT; exact rfl) | (apply AOt_mk; exact rfl; exact rfl; (decide +kernel); exact rfl) | (apply AO_puT; exact rfl) | (apply AO_efT; exact rfl) | exact AO.nil _ _ _ | (apply AOs_skip; (decide +kernel)) | (apply AOs_goZ; (iterate 3 exact rfl)) | exact AOs.nil | exact qY_ok rfl rfl | exact qY_ef rfl rfl | (apply AL_append ttok; (iterate 6 exact rfl); (first | with_reducible assumption | decide +kernel | exact rfl | rotate_left); exact rfl; exact rfl; (first | exact uniB_ok rfl | with_reducible assumption | decide +kernel | rotate_left); (first | exact uniB_ok rfl | with_reducible assumption | decide +kernel | rotate_left); (first | exact List.cons_ne_nil _ _ | with_reducible assumption | decide +kernel | rotate_left); (first | with_reducible assumption | decide +kernel | rotate_left); (first | with_reducible assumption | decide +kernel | rotate_left); exact rfl; exact rfl) | (apply AL_append_nil ttok; (iterate 6 exact rfl); (first | exact uniB_ok rfl | with_reducible assumption | decide +kernel | rotate_left); (first | exact List.cons_ne_nil _ _ | with_reducible assumption | decide +kernel | rotate_left); (first | with_reducible assumption | decide +kernel | rotate_left); (first | with_reducible assumption | decide +kernel | rotate_left); (iterate 3 exact rfl)))
      all_goals first | (first | rfl | (simp only [List.length_append, List.length_cons, List.length_nil, List.length_map, itEs_len]; done) | (simp only [List.length_append, List.length_cons, List.length_nil, List.length_map, itEs_len] at *; (try unfold maxLen); (try simp only [Nat.add_mul]); omega)) | skip
      refine AW_loopJ (fun f tm bx fr => ∃ (i c : Nat) (M : List E), f + i = l.length ∧ c = M.length ∧ M = ((c0 :: t0) ++ ((c1 :: b1) ++ puts (l.take i))).map E.byte ∧ tm = [(0, .sl (.own 0) M), (3, .ptr 0 0), (42, .sl .ext (itEs l)), (43, .int .i64 ((itEs l).length : Int)), (44, .int .i64 (i : Int))] ∧ bx = [itC (4) n (c1 :: b1) l] ∧ fr = [⟨c, 1, 5⟩]) (l.length + 1) (Lands.mk' (m := l.length) (Nat.lt_succ_self _) ⟨0, ((c0 :: t0).map E.byte).length + ((c1 :: b1).map E.byte).length, ((c0 :: t0).map E.byte) ++ (c1 :: b1).map E.byte, rfl, by simp only [List.length_append], by simp [puts], rfl, rfl, rfl⟩ ?_ rfl rfl rfl rfl rfl rfl) ?_
      · exact .cons rfl (.cons rfl (.cons rfl (.cons rfl (.cons rfl .nil))))
      rintro f tm bx fr ⟨i, c, M, hf, hc, hM, rfl, rfl, rfl⟩
      subst hc
      have hU := uniI l
      have hUM : Uni 1 M := by rw [hM]; exact uniB1 _
      have hMl : M.length = ((c0 :: t0) ++ ((c1 :: b1) ++ puts (l.take i))).length := by rw [hM]; simp only [List.length_append, List.length_map]
      rcases Nat.lt_or_ge i l.length with hlt | hge
      · have hdl : decide ((i : Int) < ((itEs l).length : Int)) = true := decide_eq_true (by omega)
        obtain ⟨⟨k1, n1, b2, l1⟩, hy⟩ : ∃ y, l[i]? = some y := ⟨_, List.getElem?_eq_getElem hlt⟩
        have hv : (itEs l)[((i : Nat) : Int).toNat]? = some (.agg [.int .i64 k1, .int .u64 (n1 : Int), .sl (b2.map E.byte), .sl (itEs l1)]) := by
          rw [Int.toNat_natCast, itEs_map, List.getElem?_map, hy]; rfl
        have hmem := List.mem_of_getElem? hy
        have hps := puts_take_succ hy
        have hpl := puts_take_le l (i + 1)
        have hps2 := congrArg List.length hps
        rw [List.length_append] at hps2
        have hc := av_putO _ (wfs_mem hws _ hmem) (okxs_mem hos _ hmem) M _ rfl hUM (by simp only [List.length_append] at hMl hlim; omega)
        have ei : IntKind.i64.wrap ((i : Int) + 1) = ((i + 1 : Nat) : Int) := by rw [IntWalk.i64_in _ (by omega)]; omega
        repeat' (first | rw [ei] | (apply AL_callT [] [0] (hc); kernel_rfl; (iterate 10 exact rfl)) | (apply AL_move; exact rfl; exact rfl) | (apply AL_assign; exact rfl; exact rfl) | (apply AL_bin; (iterate 5 exact rfl)) | (apply AL_loadn ttok; (iterate 7 exact rfl)) | (apply AL_store ttok; (iterate 8 exact rfl)) | refine AL_nil ?_ | refine AW_region ?_ | refine AW_seq' ?_ | (apply AW_condA; exact rfl; (first | with_reducible assumption | decide +kernel)) | refine then_norm ?_ | refine AW_block ?_ | (apply AL_eloadn ttok; (iterate 6 exact rfl)) | (apply AL_allocZ ttok; (iterate 4 exact rfl)) | refine AW_skip ?_ | (apply AL_idx ttok; (iterate 6 exact rfl); (first | with_reducible assumption | decide +kernel | exact Int.natCast_nonneg _ | (guard_target = (0:Int) ≤ (OfNat.ofNat _ : Int); decide) | rotate_left); (first | with_reducible assumption | decide +kernel | exact rfl); (first | exact uniB_ok rfl | with_reducible assumption | decide +kernel | rotate_left)))
        refine Lands.mk' (m := f - 1) (by omega) ⟨i + 1, M.length + (putI (.mk k1 n1 b2 l1)).length, M ++ (putI (.mk k1 n1 b2 l1)).map E.byte, by omega, by simp only [List.length_append, List.length_map], by rw [hM, hps]; simp, rfl, rfl, rfl⟩ ?_ rfl rfl rfl rfl rfl rfl
        exact .cons rfl (.cons rfl (.cons rfl (.cons rfl (.cons rfl .nil))))
      · have hdl : decide ((i : Int) < ((itEs l).length : Int)) = false := decide_eq_false (by omega)
        rw [List.take_of_length_le hge] at hM hMl
        repeat' (first | (apply AL_move; exact rfl; exact rfl) | (apply AL_assign; exact rfl; exact rfl) | (apply AL_bin; (iterate 5 exact rfl)) | refine AL_nil ?_ | refine AW_region ?_ | refine AW_seq' ?_ | (apply AW_condB; exact rfl; (first | with_reducible assumption | decide +kernel)) | refine then_norm ?_ | refine AW_exit ?_ | refine AW_ret ?_)
        all_goals (apply endT [] [0]; (repeat (first | exact ResL.nil | (apply ResL.cons; first | exact .tmp _ _ rfl | (apply res_n ttok; (iterate 6 exact rfl)) | (apply res_1 ttok; (iterate 5 exact rfl))))); (iterate 7 exact rfl))
        · rw [hM]; rfl
        · rfl
        · rw [hMl]; rfl
  · rw [hh] at hW
    clear hh
    have q2 := hne2 k2
    have q3 := hne3 k3
    have q4 := hne4 k4
    rcases hbc with rfl | ⟨c1, b1, rfl⟩
    · refine AC_of Tryd.func51 rfl Tryd.ntmps51 rfl rfl ?_
      repeat' (first | (apply AL_callPw (hW); kernel_rfl; (iterate 4 exact rfl)) | (apply AL_move; exact rfl; exact rfl) | (apply AL_assign; exact rfl; exact rfl) | (apply AL_bin; (iterate 5 exact rfl)) | (apply AL_load1 ttok; (iterate 6 exact rfl)) | (apply AL_fieldAddr ttok; (iterate 7 exact rfl)) | (apply AL_boxZ; (iterate 5 exact rfl)) | (apply AL_extract; (iterate 3 exact rfl)) | refine AL_nil ?_ | refine AW_region ?_ | refine AW_seq' ?_ | (apply AW_condB; exact rfl; (first | with_reducible assumption | decide +kernel)) | refine then_norm ?_ | refine AW_block ?_ | (apply AL_len ttok; (iterate 4 exact rfl)) | (apply AL_build ttok; (iterate 6 exact rfl)) | (apply AW_drawE 5 hmix; (decide +kernel); (kernel_rfl); (kernel_rfl); (kernel_rfl); exact rfl; exact rfl) | (apply AE_consZ; (iterate 4 exact rfl)) | exact AE.nil _ _ _ _ | (apply AEk_puT; exact rfl) | (apply AEk_efT; exact rfl) | (apply AOt_mk; exact rfl; exact rfl; (decide +kernel); exact rfl) | (apply AO_puT; exact rfl) | (apply AO_efT; exact rfl) | exact AO.nil _ _ _ | (apply AOs_skip; (decide +kernel)) | (apply AOs_goZ; (iterate 3 exact rfl)) | exact AOs.nil | exact qY_ok rfl rfl | exact qY_ef rfl rfl | refine AW_skip ?_ | (apply AL_append_none ttok; (iterate 6 exact rfl)) | (apply AL_append_nil ttok; (iterate 6 exact rfl); (first | exact uniB_ok rfl | with_reducible assumption | decide +kernel | rotate_left); (first | exact List.cons_ne_nil _ _ | with_reducible assumption | decide +kernel | rotate_left); (first | with_reducible assumption | decide +kernel | rotate_left); (first | with_reducible assumption | decide +kernel | rotate_left); (iterate 3 exact rfl)))
      all_goals first | (first | rfl | (simp only [List.length_append, List.length_cons, List.length_nil, List.length_map, itEs_len]; done) | (simp only [List.length_append, List.length_cons, List.length_nil, List.length_map, itEs_len] at *; (try unfold maxLen); (try simp only [Nat.add_mul]); omega)) | skip
      refine AW_loopJ (fun f tm bx fr => ∃ (i c : Nat) (M : List E), f + i = l.length ∧ c = M.length ∧ M = ((c0 :: t0) ++ (([] : List UInt8) ++ puts (l.take i))).map E.byte ∧ tm = [(0, .sl (.own 0) M), (3, .ptr 0 0), (42, .sl .ext (itEs l)), (43, .int .i64 ((itEs l).length : Int)), (44, .int .i64 (i : Int))] ∧ bx = [itC (k) n ([] : List UInt8) l] ∧ fr = [⟨c, 1, 5⟩]) (l.length + 1) (Lands.mk' (m := l.length) (Nat.lt_succ_self _) ⟨0, ((c0 :: t0).map E.byte).length, (c0 :: t0).map E.byte, rfl, by simp only [List.length_append], by simp [puts], rfl, rfl, rfl⟩ ?_ rfl rfl rfl rfl rfl rfl) ?_
      · exact .cons rfl (.cons rfl (.cons rfl (.cons rfl (.cons rfl .nil))))
      rintro f tm bx fr ⟨i, c, M, hf, hc, hM, rfl, rfl, rfl⟩
      subst hc
      have hU := uniI l
      have hUM : Uni 1 M := by rw [hM]; exact uniB1 _
      have hMl : M.length = ((c0 :: t0) ++ (([] : List UInt8) ++ puts (l.take i))).length := by rw [hM]; simp only [List.length_append, List.length_map]
      rcases Nat.lt_or_ge i l.length with hlt | hge
      · have hdl : decide ((i : Int) < ((itEs l).length : Int)) = true := decide_eq_true (by omega)
        obtain ⟨⟨k1, n1, b2, l1⟩, hy⟩ : ∃ y, l[i]? = some y := ⟨_, List.getElem?_eq_getElem hlt⟩
        have hv : (itEs l)[((i : Nat) : Int).toNat]? = some (.agg [.int .i64 k1, .int .u64 (n1 : Int), .sl (b2.map E.byte), .sl (itEs l1)]) := by
          rw [Int.toNat_natCast, itEs_map, List.getElem?_map, hy]; rfl
        have hmem := List.mem_of_getElem? hy
        have hps := puts_take_succ hy
        have hpl := puts_take_le l (i + 1)
        have hps2 := congrArg List.length hps
        rw [List.length_append] at hps2
        have hc := av_putO _ (wfs_mem hws _ hmem) (okxs_mem hos _ hmem) M _ rfl hUM (by simp only [List.length_append] at hMl hlim; omega)
        have ei : IntKind.i64.wrap ((i : Int) + 1) = ((i + 1 : Nat) : Int) := by rw [IntWalk.i64_in _ (by omega)]; omega
        repeat' (first | rw [ei] | (apply AL_callT [] [0] (hc); kernel_rfl; (iterate 10 exact rfl)) | (apply AL_move; exact rfl; exact rfl) | (apply AL_assign; exact rfl; exact rfl) | (apply AL_bin; (iterate 5 exact rfl)) | (apply AL_loadn ttok; (iterate 7 exact rfl)) | (apply AL_store ttok; (iterate 8 exact rfl)) | refine AL_nil ?_ | refine AW_region ?_ | refine AW_seq' ?_ | (apply AW_condA; exact rfl; (first | with_reducible assumption | decide +kernel)) | refine then_norm ?_ | refine AW_block ?_ | (apply AL_eloadn ttok; (iterate 6 exact rfl)) | (apply AL_allocZ ttok; (iterate 4 exact rfl)) | refine AW_skip ?_ | (apply AL_idx ttok; (iterate 6 exact rfl); (first | with_reducible assumption | decide +kernel | exact Int.natCast_nonneg _ | (guard_target = (0:Int) ≤ (OfNat.ofNat _ : Int); decide) | rotate_left); (first | with_reducible assumption | decide +kernel | exact rfl); (first | exact uniB_ok rfl | with_reducible assumption | decide +kernel | rotate_left)))
        refine Lands.mk' (m := f - 1) (by omega) ⟨i + 1, M.length + (putI (.mk k1 n1 b2 l1)).length, M ++ (putI (.mk k1 n1 b2 l1)).map E.byte, by omega, by simp only [List.length_append, List.length_map], by rw [hM, hps]; simp, rfl, rfl, rfl⟩ ?_ rfl rfl rfl rfl rfl rfl
        exact .cons rfl (.cons rfl (.cons rfl (.cons rfl (.cons rfl .nil))))
      · have hdl : decide ((i : Int) < ((itEs l).length : Int)) = false := decide_eq_false (by omega)
        rw [List.take_of_length_le hge] at hM hMl
        repeat' (first | (apply AL_move; exact rfl; exact rfl) | (apply AL_assign; exact rfl; exact rfl) | (apply AL_bin; (iterate 5 exact rfl)) | refine AL_nil ?_ | refine AW_region ?_ | refine AW_seq' ?_ | (apply AW_condB; exact rfl; (first | with_reducible assumption | decide +kernel)) | refine then_norm ?_ | refine AW_exit ?_ | refine AW_ret ?_)
        all_goals (apply endT [] [0]; (repeat (first | exact ResL.nil | (apply ResL.cons; first | exact .tmp _ _ rfl | (apply res_n ttok; (iterate 6 exact rfl)) | (apply res_1 ttok; (iterate 5 exact rfl))))); (iterate 7 exact rfl))
        · rw [hM]; rfl
        · rfl
        · rw [hMl]; rfl
    · refine AC_of Tryd.func51 rfl Tryd.ntmps51 rfl rfl ?_
      repeat' (first | (apply AL_callPw (hW); kernel_rfl; (iterate 4 exact rfl)) | (apply AL_move; exact rfl; exact rfl) | (apply AL_assign; exact rfl; exact rfl) | (apply AL_bin; (iterate 5 exact rfl)) | (apply AL_load1 ttok; (iterate 6 exact rfl)) | (apply AL_fieldAddr ttok; (iterate 7 exact rfl)) | (apply AL_boxZ; (iterate 5 exact rfl)) | (apply AL_extract; (iterate 3 exact rfl)) | refine AL_nil ?_ | refine AW_region ?_ | refine AW_seq' ?_ | (apply AW_condB; exact rfl; (first | with_reducible assumption | decide +kernel)) | refine then_norm ?_ | refine AW_block ?_ | (apply AL_len ttok; (iterate 4 exact rfl)) | (apply AL_build ttok; (iterate 6 exact rfl)) | (apply AW_drawE 5 hmix; (decide +kernel); (kernel_rfl); (kernel_rfl); (kernel_rfl); exact rfl; exact rfl) | (apply AE_consZ; (iterate 4 exact rfl)) | exact AE.nil _ _ _ _ | (apply AEk_puT; exact rfl) | (apply AEk_efT; exact rfl) | (apply AOt_mk; exact rfl; exact rfl; (decide +kernel); exact rfl) | (apply AO_puT; exact rfl) | (apply AO_efT; exact rfl) | exact AO.nil _ _ _ | (apply AOs_skip; (decide +kernel)) | (apply AOs_goZ; (iterate 3 exact rfl)) | exact AOs.nil | exact qY_ok rfl rfl | exact qY_ef rfl rfl | refine AW_skip ?_ | (apply AL_append ttok; (iterate 6 exact rfl); (first | with_reducible assumption | decide +kernel | exact rfl | rotate_left); exact rfl; exact rfl; (first | exact uniB_ok rfl | with_reducible assumption | decide +kernel | rotate_left); (first | exact uniB_ok rfl | with_reducible assumption | decide +kernel | rotate_left); (first | exact List.cons_ne_nil _ _ | with_reducible assumption | decide +kernel | rotate_left); (first | with_reducible assumption | decide +kernel | rotate_left); (first | with_reducible assumption | decide +kernel | rotate_left); exact rfl; exact rfl) | (apply AL_append_nil ttok; (iterate 6 exact rfl); (first | exact uniB_ok rfl | with_reducible assumption | decide +kernel | rotate_left); (first | exact List.cons_ne_nil _ _ | with_reducible assumption | decide +kernel | rotate_left); (first | with_reducible assumption | decide +kernel | rotate_left); (first | with_reducible assumption | decide +kernel | rotate_left); (iterate 3 exact rfl)))
      all_goals first | (first | rfl | (simp only [List.length_append, List.length_cons, List.length_nil, List.length_map, itEs_len]; done) | (simp only [List.length_append, List.length_cons, List.length_nil, List.length_map, itEs_len] at *; (try unfold maxLen); (try simp only [Nat.add_mul]); omega)) | skip
      refine AW_loopJ (fun f tm bx fr => ∃ (i c : Nat) (M : List E), f + i = l.length ∧ c = M.length ∧ M = ((c0 :: t0) ++ ((c1 :: b1) ++ puts (l.take i))).map E.byte ∧ tm = [(0, .sl (.own 0) M), (3, .ptr 0 0), (42, .sl .ext (itEs l)), (43, .int .i64 ((itEs l).length : Int)), (44, .int .i64 (i : Int))] ∧ bx = [itC (k) n (c1 :: b1) l] ∧ fr = [⟨c, 1, 5⟩]) (l.length + 1) (Lands.mk' (m := l.length) (Nat.lt_succ_self _) ⟨0, ((c0 :: t0).map E.byte).length + ((c1 :: b1).map E.byte).length, ((c0 :: t0).map E.byte) ++ (c1 :: b1).map E.byte, rfl, by simp only [List.length_append], by simp [puts], rfl, rfl, rfl⟩ ?_ rfl rfl rfl rfl rfl rfl) ?_
      · exact .cons rfl (.cons rfl (.cons rfl (.cons rfl (.cons rfl .nil))))
      rintro f tm bx fr ⟨i, c, M, hf, hc, hM, rfl, rfl, rfl⟩
      subst hc
      have hU := uniI l
      have hUM : Uni 1 M := by rw [hM]; exact uniB1 _
      have hMl : M.length = ((c0 :: t0) ++ ((c1 :: b1) ++ puts (l.take i))).length := by rw [hM]; simp only [List.length_append, List.length_map]
      rcases Nat.lt_or_ge i l.length with hlt | hge
      · have hdl : decide ((i : Int) < ((itEs l).length : Int)) = true := decide_eq_true (by omega)
        obtain ⟨⟨k1, n1, b2, l1⟩, hy⟩ : ∃ y, l[i]? = some y := ⟨_, List.getElem?_eq_getElem hlt⟩
        have hv : (itEs l)[((i : Nat) : Int).toNat]? = some (.agg [.int .i64 k1, .int .u64 (n1 : Int), .sl (b2.map E.byte), .sl (itEs l1)]) := by
          rw [Int.toNat_natCast, itEs_map, List.getElem?_map, hy]; rfl
        have hmem := List.mem_of_getElem? hy
        have hps := puts_take_succ hy
        have hpl := puts_take_le l (i + 1)
        have hps2 := congrArg List.length hps
        rw [List.length_append] at hps2
        have hc := av_putO _ (wfs_mem hws _ hmem) (okxs_mem hos _ hmem) M _ rfl hUM (by simp only [List.length_append] at hMl hlim; omega)
        have ei : IntKind.i64.wrap ((i : Int) + 1) = ((i + 1 : Nat) : Int) := by rw [IntWalk.i64_in _ (by omega)]; omega
        repeat' (first | rw [ei] | (apply AL_callT [] [0] (hc); kernel_rfl; (iterate 10 exact rfl)) | (apply AL_move; exact rfl; exact rfl) | (apply AL_assign; exact rfl; exact rfl) | (apply AL_bin; (iterate 5 exact rfl)) | (apply AL_loadn ttok; (iterate 7 exact rfl)) | (apply AL_store ttok; (iterate 8 exact rfl)) | refine AL_nil ?_ | refine AW_region ?_ | refine AW_seq' ?_ | (apply AW_condA; exact rfl; (first | with_reducible assumption | decide +kernel)) | refine then_norm ?_ | refine AW_block ?_ | (apply AL_eloadn ttok; (iterate 6 exact rfl)) | (apply AL_allocZ ttok; (iterate 4 exact rfl)) | refine AW_skip ?_ | (apply AL_idx ttok; (iterate 6 exact rfl); (first | with_reducible assumption | decide +kernel | exact Int.natCast_nonneg _ | (guard_target = (0:Int) ≤ (OfNat.ofNat _ : Int); decide) | rotate_left); (first | with_reducible assumption | decide +kernel | exact rfl); (first | exact uniB_ok rfl | with_reducible assumption | decide +kernel | rotate_left)))
        refine Lands.mk' (m := f - 1) (by omega) ⟨i + 1, M.length + (putI (.mk k1 n1 b2 l1)).length, M ++ (putI (.mk k1 n1 b2 l1)).map E.byte, by omega, by simp only [List.length_append, List.length_map], by rw [hM, hps]; simp, rfl, rfl, rfl⟩ ?_ rfl rfl rfl rfl rfl rfl
        exact .cons rfl (.cons rfl (.cons rfl (.cons rfl (.cons rfl .nil))))
      · have hdl : decide ((i : Int) < ((itEs l).length : Int)) = false := decide_eq_false (by omega)
        rw [List.take_of_length_le hge] at hM hMl
        repeat' (first | (apply AL_move; exact rfl; exact rfl) | (apply AL_assign; exact rfl; exact rfl) | (apply AL_bin; (iterate 5 exact rfl)) | refine AL_nil ?_ | refine AW_region ?_ | refine AW_seq' ?_ | (apply AW_condB; exact rfl; (first | with_reducible assumption | decide +kernel)) | refine then_norm ?_ | refine AW_exit ?_ | refine AW_ret ?_)
        all_goals (apply endT [] [0]; (repeat (first | exact ResL.nil | (apply ResL.cons; first | exact .tmp _ _ rfl | (apply res_n ttok; (iterate 6 exact rfl)) | (apply res_1 ttok; (iterate 5 exact rfl))))); (iterate 7 exact rfl))
        · rw [hM]; rfl
        · rfl
        · rw [hMl]; rfl
theorem av_writeI [Known] [KnownU8] (x : It) (hw : wfI x) (hlim : (putI x).length ≤ 1099511627776) (hR : AP Tryd.prog 21 [itD x] (.bool (rightI x)) []) : AP Tryd.prog 16 [itD x] (.tup [byE (if rightI x then putI x else []), .int .i64 (if rightI x then 0 else 3)]) [] := by
  cases hr : rightI x with
  | false =>
    rw [hr] at hR
    obtain ⟨k, n, b, l⟩ := x
    refine AP.ofA ?_
    refine AC_of Tryd.func16 rfl Tryd.ntmps16 rfl rfl ?_
    repeat' (first | (apply AL_callPw (hR); kernel_rfl; (iterate 4 exact rfl)) | (apply AL_assign; exact rfl; exact rfl) | (apply AL_loadn ttok; (iterate 7 exact rfl)) | (apply AL_box; (iterate 5 exact rfl)) | (apply AL_not; exact rfl; exact rfl) | refine AL_nil ?_ | refine AW_region ?_ | refine AW_seq' ?_ | (apply AW_condA; exact rfl; (first | with_reducible assumption | decide +kernel)) | refine then_norm ?_ | refine AW_ret ?_ | refine then_ret ?_)
    all_goals (apply endQ []; (repeat (first | exact ResL.nil | (apply ResL.cons; first | exact .tmp _ _ rfl | (apply res_n ttok; (iterate 6 exact rfl)) | (apply res_1 ttok; (iterate 5 exact rfl))))); (iterate 4 exact rfl))
    all_goals rfl
  | true =>
    rw [hr] at hR
    have hp := av_putN x hw (right_okx hr) hlim
    obtain ⟨k, n, b, l⟩ := x
    refine AP.ofA ?_
    refine AC_of Tryd.func16 rfl Tryd.ntmps16 rfl rfl ?_
    repeat' (first | (apply AL_callPw (hR); kernel_rfl; (iterate 4 exact rfl)) | (apply AL_callT [] [] (hp); kernel_rfl; (iterate 10 exact rfl)) | (apply AL_assign; exact rfl; exact rfl) | (apply AL_loadn ttok; (iterate 7 exact rfl)) | (apply AL_box; (iterate 5 exact rfl)) | (apply AL_not; exact rfl; exact rfl) | refine AL_nil ?_ | refine AW_region ?_ | refine AW_seq' ?_ | (apply AW_condB; exact rfl; (first | with_reducible assumption | decide +kernel)) | refine then_norm ?_ | refine AW_ret ?_ | refine AW_skip ?_)
    all_goals (apply endQ []; (repeat (first | exact ResL.nil | (apply ResL.cons; first | exact .tmp _ _ rfl | (apply res_n ttok; (iterate 6 exact rfl)) | (apply res_1 ttok; (iterate 5 exact rfl))))); (iterate 4 exact rfl))
    all_goals rfl
end Go.Proofs.YtnihobjehelagaaDoor
end
/- Items: which are equal; what is shortest. -/
section
open Go.RowKit Go.Pl Go.Av
namespace Go.Proofs.YtnihobjehelagaaDoor
set_option linter.unusedVariables false
set_option linter.unusedSimpArgs false
set_option maxHeartbeats 4000000
theorem av_bEq [Known] (a b : List UInt8) : AP Tryd.prog 54 [byE a, byE b] (.bool (a == b)) [] := by
  refine AP.ofA ?_
  refine AC_of Tryd.func54 rfl Tryd.ntmps54 rfl rfl ?_
  repeat' (first | (apply AL_move; exact rfl; exact rfl) | (apply AL_assign; exact rfl; exact rfl) | refine AL_nil ?_ | refine AW_region ?_ | refine AW_seq' ?_ | refine then_norm ?_ | refine AW_ret ?_ | (apply AL_str; (iterate 5 exact rfl)) | (apply AL_b2s ttok; (iterate 9 exact rfl)))
  all_goals (apply endQ []; (repeat (first | exact ResL.nil | (apply ResL.cons; first | exact .tmp _ _ rfl | (apply res_n ttok; (iterate 6 exact rfl)) | (apply res_1 ttok; (iterate 5 exact rfl))))); (iterate 4 exact rfl))
  all_goals rfl
theorem beqs_len : ∀ {l l' : List It}, l.length ≠ l'.length → It.beqs l l' = false
  | [], [], h => by simp at h
  | [], _ :: _, _ => rfl
  | _ :: _, [], _ => rfl
  | x :: l, y :: l', h => by
    rw [It.beqs]
    cases It.beq x y
    · rfl
    · exact beqs_len (by simpa using h)
theorem av_eqFunc [Known] (l l' : List It) (hl : l.length ≤ 1099511627776) (hl' : l'.length ≤ 1099511627776) (ih : ∀ y ∈ l, ∀ y' ∈ l', AP Tryd.prog 27 [itD y, itD y'] (.bool (It.beq y y')) []) : AP Tryd.prog 61 [.sl .ext (itEs l), .sl .ext (itEs l'), .fn 27 []] (.bool (It.beqs l l')) [] := by
  have e1 := itEs_len l
  have e2 := itEs_len l'
  by_cases hne : l.length = l'.length
  · have t1 : (((itEs l).length : Int) != ((itEs l').length : Int)) = false := by rw [e1, e2, hne]; simp
    generalize hfin : It.beqs l l' = fin
    refine AP.ofA ?_
    refine AC_of Tryd.func61 rfl Tryd.ntmps61 rfl rfl ?_
    repeat' (first | (apply AL_move; exact rfl; exact rfl) | (apply AL_assign; exact rfl; exact rfl) | (apply AL_bin; (iterate 5 exact rfl)) | refine AL_nil ?_ | refine AW_region ?_ | refine AW_seq' ?_ | (apply AW_condB; exact rfl; (first | with_reducible assumption | decide +kernel)) | refine then_norm ?_ | refine AW_block ?_ | (apply AL_len ttok; (iterate 4 exact rfl)) | refine AW_skip ?_)
    refine AW_loopJ (fun f tm bx fr => ∃ i : Nat, f + i = l.length ∧ It.beqs (l.drop i) (l'.drop i) = fin ∧ tm = [(0, .sl .ext (itEs l)), (1, .sl .ext (itEs l')), (2, .fn 27 []), (6, .bool false), (15, .sl .ext (itEs l)), (16, .int .i64 ((itEs l).length : Int)), (17, .int .i64 (i : Int))] ∧ bx = [] ∧ fr = []) (l.length + 1) (Lands.mk' (m := l.length) (Nat.lt_succ_self _) ⟨0, rfl, hfin, rfl, rfl, rfl⟩ ?_ rfl rfl rfl rfl rfl rfl) ?_
    · exact .cons rfl (.cons rfl (.cons rfl (.cons rfl (.cons rfl (.cons rfl (.cons rfl .nil))))))
    rintro f tm bx fr ⟨i, hf, hfin, rfl, rfl, rfl⟩
    have hU := uniI l
    have hU' := uniI l'
    rcases Nat.lt_or_ge i l.length with hlt | hge
    · have hdl : decide ((i : Int) < ((itEs l).length : Int)) = true := decide_eq_true (by omega)
      obtain ⟨⟨k1, n1, b1, l1⟩, hy⟩ : ∃ y, l[i]? = some y := ⟨_, List.getElem?_eq_getElem hlt⟩
      obtain ⟨⟨k2, n2, b2, l2⟩, hy'⟩ : ∃ y, l'[i]? = some y := ⟨_, List.getElem?_eq_getElem (by omega)⟩
      have hv : (itEs l)[((i : Nat) : Int).toNat]? = some (.agg [.int .i64 k1, .int .u64 (n1 : Int), .sl (b1.map E.byte), .sl (itEs l1)]) := by
        rw [Int.toNat_natCast, itEs_map, List.getElem?_map, hy]; rfl
      have hv' : (itEs l')[((i : Nat) : Int).toNat]? = some (.agg [.int .i64 k2, .int .u64 (n2 : Int), .sl (b2.map E.byte), .sl (itEs l2)]) := by
        rw [Int.toNat_natCast, itEs_map, List.getElem?_map, hy']; rfl
      have hc := ih _ (List.mem_of_getElem? hy) _ (List.mem_of_getElem? hy')
      have hdr : l.drop i = It.mk k1 n1 b1 l1 :: l.drop (i + 1) := by
        rw [List.drop_eq_getElem_cons hlt]; congr 1
        exact (List.getElem?_eq_some_iff.1 hy).2
      have hdr' : l'.drop i = It.mk k2 n2 b2 l2 :: l'.drop (i + 1) := by
        rw [List.drop_eq_getElem_cons (by omega)]; congr 1
        exact (List.getElem?_eq_some_iff.1 hy').2
      rw [hdr, hdr', It.beqs] at hfin
      have ei : IntKind.i64.wrap ((i : Int) + 1) = ((i + 1 : Nat) : Int) := by rw [IntWalk.i64_in _ (by omega)]; omega
      cases hb : It.beq (.mk k1 n1 b1 l1) (.mk k2 n2 b2 l2) with
      | false =>
        rw [hb] at hfin hc
        subst hfin
        repeat' (first | (apply AL_callPv (hc); exact rfl; kernel_rfl; (iterate 3 exact rfl)) | (apply AL_move; exact rfl; exact rfl) | (apply AL_assign; exact rfl; exact rfl) | (apply AL_bin; (iterate 5 exact rfl)) | (apply AL_loadn ttok; (iterate 7 exact rfl)) | (apply AL_store ttok; (iterate 8 exact rfl)) | (apply AL_not; exact rfl; exact rfl) | refine AL_nil ?_ | refine AW_region ?_ | refine AW_seq' ?_ | (apply AW_condA; exact rfl; (first | with_reducible assumption | decide +kernel)) | refine then_norm ?_ | refine AW_block ?_ | refine AW_ret ?_ | refine then_ret ?_ | refine blk_ret ?_ | (apply AL_eloadn ttok; (iterate 6 exact rfl)) | (apply AL_alloc ttok; (iterate 4 exact rfl)) | refine AW_skip ?_ | (apply AL_idx ttok; (iterate 6 exact rfl); (first | with_reducible assumption | decide +kernel | exact Int.natCast_nonneg _ | (guard_target = (0:Int) ≤ (OfNat.ofNat _ : Int); decide) | rotate_left); (first | with_reducible assumption | decide +kernel | exact rfl); (first | exact uniB_ok rfl | with_reducible assumption | decide +kernel | rotate_left)))
        all_goals (apply endQ []; (repeat (first | exact ResL.nil | (apply ResL.cons; first | exact .tmp _ _ rfl | (apply res_n ttok; (iterate 6 exact rfl)) | (apply res_1 ttok; (iterate 5 exact rfl))))); (iterate 4 exact rfl))
        all_goals rfl
      | true =>
        rw [hb] at hfin hc
        repeat' (first | rw [ei] | (apply AL_callPv (hc); exact rfl; kernel_rfl; (iterate 3 exact rfl)) | (apply AL_move; exact rfl; exact rfl) | (apply AL_assign; exact rfl; exact rfl) | (apply AL_bin; (iterate 5 exact rfl)) | (apply AL_loadn ttok; (iterate 7 exact rfl)) | (apply AL_store ttok; (iterate 8 exact rfl)) | (apply AL_not; exact rfl; exact rfl) | refine AL_nil ?_ | refine AW_region ?_ | refine AW_seq' ?_ | (apply AW_condA; exact rfl; (first | with_reducible assumption | decide +kernel)) | (apply AW_condB; exact rfl; (first | with_reducible assumption | decide +kernel)) | refine then_norm ?_ | refine AW_block ?_ | (apply AL_eloadn ttok; (iterate 6 exact rfl)) | (apply AL_alloc ttok; (iterate 4 exact rfl)) | refine AW_skip ?_ | (apply AL_idx ttok; (iterate 6 exact rfl); (first | with_reducible assumption | decide +kernel | exact Int.natCast_nonneg _ | (guard_target = (0:Int) ≤ (OfNat.ofNat _ : Int); decide) | rotate_left); (first | with_reducible assumption | decide +kernel | exact rfl); (first | exact uniB_ok rfl | with_reducible assumption | decide +kernel | rotate_left)))
        refine Lands.mk' (m := f - 1) (by omega) ⟨i + 1, by omega, hfin, rfl, rfl, rfl⟩ ?_ rfl rfl rfl rfl rfl rfl
        exact .cons rfl (.cons rfl (.cons rfl (.cons rfl (.cons rfl (.cons rfl (.cons rfl .nil))))))
    · have hdl : decide ((i : Int) < ((itEs l).length : Int)) = false := decide_eq_false (by omega)
      rw [List.drop_eq_nil_of_le hge, List.drop_eq_nil_of_le (by omega)] at hfin
      have hfin : true = fin := hfin
      subst hfin
      repeat' (first | (apply AL_assign; exact rfl; exact rfl) | (apply AL_bin; (iterate 5 exact rfl)) | refine AL_nil ?_ | refine AW_region ?_ | refine AW_seq' ?_ | (apply AW_condB; exact rfl; (first | with_reducible assumption | decide +kernel)) | refine then_norm ?_ | refine AW_exit ?_ | refine AW_ret ?_)
      all_goals (apply endQ []; (repeat (first | exact ResL.nil | (apply ResL.cons; first | exact .tmp _ _ rfl | (apply res_n ttok; (iterate 6 exact rfl)) | (apply res_1 ttok; (iterate 5 exact rfl))))); (iterate 4 exact rfl))
      all_goals rfl
  · have t1 : (((itEs l).length : Int) != ((itEs l').length : Int)) = true := by rw [e1, e2]; simp; omega
    rw [beqs_len hne]
    refine AP.ofA ?_
    refine AC_of Tryd.func61 rfl Tryd.ntmps61 rfl rfl ?_
    repeat' (first | (apply AL_move; exact rfl; exact rfl) | (apply AL_assign; exact rfl; exact rfl) | (apply AL_bin; (iterate 5 exact rfl)) | refine AL_nil ?_ | refine AW_region ?_ | refine AW_seq' ?_ | (apply AW_condA; exact rfl; (first | with_reducible assumption | decide +kernel)) | refine then_norm ?_ | refine AW_ret ?_ | refine then_ret ?_ | (apply AL_len ttok; (iterate 4 exact rfl)))
    all_goals (apply endQ []; (repeat (first | exact ResL.nil | (apply ResL.cons; first | exact .tmp _ _ rfl | (apply res_n ttok; (iterate 6 exact rfl)) | (apply res_1 ttok; (iterate 5 exact rfl))))); (iterate 4 exact rfl))
    all_goals rfl
theorem nn_eq (n m : Nat) : ((n : Int) == (m : Int)) = (n == m) := by
  rw [Bool.eq_iff_iff, beq_iff_eq, beq_iff_eq]; omega
theorem rdE0 {s : List UInt8} {e : Nat} (h : rdS s = .error e) : e ≠ 0 := by
  cases s with
  | nil => simp only [rdS, Except.error.injEq] at h; omega
  | cons c r =>
    simp only [rdS] at h
    repeat' split at h
    all_goals (cases h; try omega)
theorem piece_err {p : Hd} {s : List UInt8} {e : Nat} (h : pieceS p s = .error e) : e ≠ 0 := by
  simp only [pieceS] at h
  repeat' split at h
  all_goals (cases h; try omega)
theorem str_err (m : Int) : ∀ (f : Nat) (acc s : List UInt8) (e : Nat), strS m f acc s = .error e → e ≠ 0
  | 0, _, _, e, h => by simp only [strS, Except.error.injEq] at h; omega
  | f + 1, acc, s, e, h => by
    rw [strS] at h
    cases hb : endB s <;> rw [hb] at h
    · cases hr : rdS s with
      | error c => rw [hr] at h; dsimp only at h; simp only [Except.error.injEq] at h; exact h ▸ rdE0 hr
      | ok y =>
        obtain ⟨p, r⟩ := y
        rw [hr] at h; dsimp only at h
        split at h
        · cases hp : pieceS p r with
          | error c => rw [hp] at h; dsimp only at h; simp only [Except.error.injEq] at h; exact h ▸ piece_err hp
          | ok z => rw [hp] at h; exact str_err m f _ _ e h
        · simp only [Except.error.injEq] at h; omega
    · exact nomatch h
theorem lstN_err {it : Nat → List UInt8 → Res (It × List UInt8 × Nat)} (hi : ∀ m s e, it m s = .error e → e ≠ 0) : ∀ (f : Nat) (acc : List It) (m : Nat) (s : List UInt8) (e : Nat), lstN it f acc m s = .error e → e ≠ 0
  | 0, _, _, _, _, h => nomatch h
  | f + 1, acc, m, s, e, h => by
    rw [lstN] at h
    cases hr : it m s with
    | error c => rw [hr] at h; dsimp only at h; simp only [Except.error.injEq] at h; exact h ▸ hi _ _ _ hr
    | ok y => obtain ⟨x, r, m'⟩ := y; rw [hr] at h; exact lstN_err hi f _ _ _ e h
theorem lstO_err {it : Nat → List UInt8 → Res (It × List UInt8 × Nat)} (hi : ∀ m s e, it m s = .error e → e ≠ 0) : ∀ (f : Nat) (acc : List It) (m : Nat) (s : List UInt8) (e : Nat), lstO it f acc m s = .error e → e ≠ 0
  | 0, _, _, _, e, h => by simp only [lstO, Except.error.injEq] at h; omega
  | f + 1, acc, m, s, e, h => by
    rw [lstO] at h
    cases hb : endB s <;> rw [hb] at h
    · cases hr : it m s with
      | error c => rw [hr] at h; dsimp only at h; simp only [Except.error.injEq] at h; exact h ▸ hi _ _ _ hr
      | ok y => obtain ⟨x, r, m'⟩ := y; rw [hr] at h; exact lstO_err hi f _ _ _ e h
    · exact nomatch h
theorem body_err {it : Nat → List UInt8 → Res (It × List UInt8 × Nat)} (hi : ∀ m s e, it m s = .error e → e ≠ 0) {p : Hd} {m : Nat} {r : List UInt8} {e : Nat} (h : bodyS it p m r = .error e) : e ≠ 0 := by
  have h1 : ∀ e, txtS p r = .error e → e ≠ 0 := by
    intro e h; simp only [txtS] at h
    split at h
    · exact str_err _ _ _ _ _ h
    · exact piece_err h
  have h2 : ∀ e, lisS it p m r = .error e → e ≠ 0 := by
    intro e h; simp only [lisS] at h
    split at h
    · exact lstO_err hi _ _ _ _ _ h
    · split at h
      · exact lstN_err hi _ _ _ _ _ h
      · cases h; omega
  simp only [bodyS] at h
  repeat' split at h
  all_goals first
    | (cases h; done)
    | (rename_i hq; cases h; exact h1 _ hq)
    | (rename_i hq; cases h; exact h2 _ hq)
theorem item_err : ∀ (d m : Nat) (s : List UInt8) (e : Nat), itemS d m s = .error e → e ≠ 0
  | 0, m, s, e, h => by
    rw [itemS] at h
    cases hr : rdS s with
    | error c => rw [hr] at h; dsimp only at h; simp only [Except.error.injEq] at h; exact h ▸ rdE0 hr
    | ok y =>
      obtain ⟨p, r⟩ := y
      rw [hr] at h; dsimp only at h
      split at h <;> (simp only [Except.error.injEq] at h; omega)
  | d + 1, m, s, e, h => by
    rw [itemS] at h
    cases hr : rdS s with
    | error c => rw [hr] at h; dsimp only at h; simp only [Except.error.injEq] at h; exact h ▸ rdE0 hr
    | ok y =>
      obtain ⟨p, r⟩ := y
      rw [hr] at h; dsimp only at h
      split at h
      · simp only [Except.error.injEq] at h; omega
      · split at h
        · simp only [Except.error.injEq] at h; omega
        · exact body_err (item_err d) h
theorem av_same [Known] : ∀ (x : It), wfI x → ∀ y : It, wfI y → AP Tryd.prog 27 [itD x, itD y] (.bool (It.beq x y)) [] := by
  refine It.ind fun k n b l ih hw y hw' => ?_
  obtain ⟨k', n', b', l'⟩ := y
  obtain ⟨_, _, hl, hws⟩ := hw
  obtain ⟨_, _, hl', hws'⟩ := hw'
  have hE := av_eqFunc l l' hl hl' fun y hy y' hy' => ih y hy (wfs_mem hws y hy) y' (wfs_mem hws' y' hy')
  have hB := av_bEq b b'
  have en := nn_eq n n'
  rw [It.beq]
  cases h1 : k == k' <;> cases h2 : n == n' <;> cases h3 : b == b'
  all_goals
    rw [h2] at en
    rw [h3] at hB
    refine AP.ofA ?_
    refine AC_of Tryd.func27 rfl Tryd.ntmps27 rfl rfl ?_
    repeat' (first | rw [en] | (apply AL_callPw (hB); kernel_rfl; (iterate 4 exact rfl)) | (apply AL_callPw (hE); kernel_rfl; (iterate 4 exact rfl)) | (apply AL_move; exact rfl; exact rfl) | (apply AL_assign; exact rfl; exact rfl) | (apply AL_bin; (iterate 5 exact rfl)) | (apply AL_load1 ttok; (iterate 6 exact rfl)) | (apply AL_fieldAddr ttok; (iterate 7 exact rfl)) | (apply AL_box; (iterate 5 exact rfl)) | refine AL_nil ?_ | (apply AL_guardT; (iterate 3 exact rfl); (first | with_reducible assumption | decide +kernel)) | (apply AL_guardFt; (iterate 3 exact rfl); (first | with_reducible assumption | decide +kernel)) | (apply AL_pickT; exact rfl; (first | with_reducible assumption | decide +kernel); exact rfl; exact rfl) | (apply AL_pickF; exact rfl; (first | with_reducible assumption | decide +kernel); exact rfl; exact rfl) | refine AW_region ?_ | refine AW_seq' ?_ | refine then_norm ?_ | refine AW_ret ?_)
    all_goals (apply endQ []; (repeat (first | exact ResL.nil | (apply ResL.cons; first | exact .tmp _ _ rfl | (apply res_n ttok; (iterate 6 exact rfl)) | (apply res_1 ttok; (iterate 5 exact rfl))))); (iterate 4 exact rfl))
    all_goals rfl
theorem av_shortestI [Known] [KnownU8] (b : List UInt8) (hb : b.length < 4294967296) : AP Tryd.prog 20 [byE b] (.bool (shortI b)) [] := by
  have hR := av_readC b 0 (by omega)
  have e : readI b 0 = match itemS 6 256 b with
      | .error e => (.mk 0 0 [] [], 0, e)
      | .ok (x, r, _) => (x, b.length - r.length, 0) := by rw [readI, if_neg (by omega)]; rfl
  rw [e] at hR
  unfold shortI
  cases hx : itemS 6 256 b with
  | error c =>
    rw [hx] at hR
    dsimp only
    have hc : ((c : Int) == 0) = false := by
      have h0 := item_err _ _ _ _ hx
      rw [← Bool.not_eq_true, beq_iff_eq]; omega
    replace hR : AP Tryd.prog _ _ (.tup [itD (.mk 0 0 [] []), .int .i64 0, .int .i64 (c : Int)]) [] := hR
    refine AP.ofA ?_
    refine AC_of Tryd.func20 rfl Tryd.ntmps20 rfl rfl ?_
    repeat' (first | rw [hc] | (apply AL_callPw (hR); kernel_rfl; (iterate 4 exact rfl)) | (apply AL_move; exact rfl; exact rfl) | (apply AL_assign; exact rfl; exact rfl) | (apply AL_bin; (iterate 5 exact rfl)) | (apply AL_store ttok; (iterate 8 exact rfl)) | (apply AL_extract; (iterate 3 exact rfl)) | refine AL_nil ?_ | (apply AL_guardFt; (iterate 3 exact rfl); (first | with_reducible assumption | decide +kernel)) | (apply AL_pickF; exact rfl; (first | with_reducible assumption | decide +kernel); exact rfl; exact rfl) | refine AW_region ?_ | refine AW_seq' ?_ | refine then_norm ?_ | refine AW_ret ?_ | (apply AL_alloc ttok; (iterate 4 exact rfl)))
    all_goals (apply endQ []; (repeat (first | exact ResL.nil | (apply ResL.cons; first | exact .tmp _ _ rfl | (apply res_n ttok; (iterate 6 exact rfl)) | (apply res_1 ttok; (iterate 5 exact rfl))))); (iterate 4 exact rfl))
    all_goals rfl
  | ok y =>
    obtain ⟨⟨k1, n1, b1, l1⟩, r, m1⟩ := y
    rw [hx] at hR
    replace hR : AP Tryd.prog _ _ (.tup [itD (.mk k1 n1 b1 l1), .int .i64 ((b.length - r.length : Nat) : Int), .int .i64 0]) [] := hR
    obtain ⟨hwk, hwf, pre, hpre, _, hlen⟩ := item_ok 6 (Nat.le_refl _) _ _ _ _ _ hx (by omega)
    have hle := hlen ⟨Nat.le_refl _, hb⟩
    have hpl := congrArg List.length hpre
    rw [List.length_append] at hpl
    have hP := av_putN (.mk k1 n1 b1 l1) hwf (walk_okx hwk) (by omega)
    have hB := av_bEq (putI (.mk k1 n1 b1 l1)) b
    have hn : (((b.length - r.length : Nat) : Int) == ((b.map E.byte).length : Int)) = r.isEmpty := by
      rw [List.length_map]
      cases r with
      | nil => simp
      | cons c r => simp at hpl ⊢; omega
    dsimp only
    cases hr : r.isEmpty
    all_goals
      rw [hr] at hn
      refine AP.ofA ?_
      refine AC_of Tryd.func20 rfl Tryd.ntmps20 rfl rfl ?_
      repeat' (first | rw [hn] | (apply AL_callPw (hR); kernel_rfl; (iterate 4 exact rfl)) | (apply AL_callT [] [] (hP); kernel_rfl; (iterate 10 exact rfl)) | (apply AL_callPw (hB); kernel_rfl; (iterate 4 exact rfl)) | (apply AL_move; exact rfl; exact rfl) | (apply AL_assign; exact rfl; exact rfl) | (apply AL_bin; (iterate 5 exact rfl)) | (apply AL_loadn ttok; (iterate 7 exact rfl)) | (apply AL_store ttok; (iterate 8 exact rfl)) | (apply AL_extract; (iterate 3 exact rfl)) | refine AL_nil ?_ | (apply AL_guardT; (iterate 3 exact rfl); (first | with_reducible assumption | decide +kernel)) | (apply AL_guardFt; (iterate 3 exact rfl); (first | with_reducible assumption | decide +kernel)) | (apply AL_pickT; exact rfl; (first | with_reducible assumption | decide +kernel); exact rfl; exact rfl) | (apply AL_pickF; exact rfl; (first | with_reducible assumption | decide +kernel); exact rfl; exact rfl) | refine AW_region ?_ | refine AW_seq' ?_ | refine then_norm ?_ | refine AW_ret ?_ | (apply AL_len ttok; (iterate 4 exact rfl)) | (apply AL_alloc ttok; (iterate 4 exact rfl)))
      all_goals (apply endQ []; (repeat (first | exact ResL.nil | (apply ResL.cons; first | exact .tmp _ _ rfl | (apply res_n ttok; (iterate 6 exact rfl)) | (apply res_1 ttok; (iterate 5 exact rfl))))); (iterate 4 exact rfl))
      all_goals rfl
end Go.Proofs.YtnihobjehelagaaDoor
end

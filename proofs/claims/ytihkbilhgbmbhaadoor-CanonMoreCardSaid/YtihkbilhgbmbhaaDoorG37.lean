/- Package canon: CanonMore, type h. -/
import Derived.Test.YtihkbilhgbmbhaaDoorG35
import Derived.Test.YtihkbilhgbmbhaaDoorG34
import Derived.Test.YtihkbilhgbmbhaaDoorG01
import Derived.Test.YtihkbilhgbmbhaaDoorG08
import Derived.Test.YtihkbilhgbmbhaaDoorProg
import Derived.Lib.LaidU8
import Derived.Test.YtihkbilhgbmbhaaDoorG11
import Derived.Test.YtihkbilhgbmbhaaDoorG36
section
open Go.RowKit Go.Pl Go.Av
namespace Go.Proofs.YtihkbilhgbmbhaaDoor
set_option linter.unusedVariables false
set_option linter.unusedSimpArgs false
set_option maxHeartbeats 4000000
theorem cm_hn [Known] [KnownU8] (ty num fl : Nat) (sum : Int) (data m : List UInt8) (cut : Int) (hA : AP Tryd.prog 30 [] (.bool true) []) (t1 : decide (((data.map E.byte).length : Int) > 400) = false) (t2 : decide (((m.map E.byte).length : Int) < 1) = false) (t3 : decide (((m.map E.byte).length : Int) > 100) = false) (hR : AP Tryd.prog 29 [.agg [.int .u64 (ty : Int), .int .u64 (num : Int), .int .u64 (fl : Int), .int .i64 sum, .sl .ext (data.map E.byte)]] (.bool true) []) (u6 : ((ty : Int) != 6) = true) (u7 : ((ty : Int) != 7) = true) (u10 : ((ty : Int) != 10) = false) (hX : AP Tryd.prog 29 [.agg [.int .u64 (ty : Int), .int .u64 (num : Int), .int .u64 (fl : Int), .int .i64 sum, .sl .ext (data.map E.byte ++ m.map E.byte)]] (.bool false) []) (hd1 : data.map E.byte ≠ []) (hm1 : m.map E.byte ≠ []) (hdl : (data.map E.byte).length ≤ 400) (hml : (m.map E.byte).length ≤ 100) (hU1 : Uni 1 (data.map E.byte)) (hU2 : Uni 1 (m.map E.byte)) (hU3 : Uni 1 (data.map E.byte ++ m.map E.byte)) (c1 : decide (cut ≥ 0) = false) (hlt : True) :
    AP Tryd.prog 8 [.agg [.int .u64 (ty : Int), .int .u64 (num : Int), .int .u64 (fl : Int), .int .i64 sum, .sl .ext (data.map E.byte)], .sl .ext (m.map E.byte), .int .i64 cut] (.bool true) [] := by
  refine AP.ofA ?_
  refine AC_of Tryd.func8 rfl Tryd.ntmps8 rfl rfl ?_
  repeat' (first | (apply AL_callPw (hA); kernel_rfl; (iterate 4 exact rfl)) | (apply AW_drawW 6 ttok hmix; (decide +kernel); (kernel_rfl); (kernel_rfl); (kernel_rfl); exact rfl; exact rfl) | exact AV.nil _ _ | (apply AV_al; exact rfl; exact rfl) | (apply AV_st; (iterate 4 exact rfl)) | (apply AV_pu; (iterate 4 exact rfl)) | (apply AWk_mk; (iterate 4 exact rfl)) | (apply AL_callPw (hR); kernel_rfl; (iterate 4 exact rfl)) | (apply AL_callPw (hX); kernel_rfl; (iterate 4 exact rfl)) | (apply AL_move; exact rfl; exact rfl) | (apply AL_assign; exact rfl; exact rfl) | (apply AL_bin; (iterate 5 exact rfl)) | (apply AL_load1 ttok; (iterate 6 exact rfl)) | (apply AL_loadn ttok; (iterate 7 exact rfl)) | (apply AL_fieldAddr ttok; (iterate 7 exact rfl)) | (apply AL_boxZ; (iterate 5 exact rfl)) | (apply AL_store ttok; (iterate 8 exact rfl)) | (apply AL_not; exact rfl; exact rfl) | refine AL_nil ?_ | (apply AL_guardT; (iterate 3 exact rfl); (first | with_reducible assumption | decide +kernel)) | (apply AL_guardFt; (iterate 3 exact rfl); (first | with_reducible assumption | decide +kernel)) | (apply AL_pickT; exact rfl; (first | with_reducible assumption | decide +kernel); exact rfl; exact rfl) | (apply AL_pickF; exact rfl; (first | with_reducible assumption | decide +kernel); exact rfl; exact rfl) | refine AW_region ?_ | refine AW_seq' ?_ | (apply AW_condB; exact rfl; (first | with_reducible assumption | decide +kernel)) | refine then_norm ?_ | refine AW_ret ?_ | (apply AL_len ttok; (iterate 4 exact rfl)) | (apply AL_bsZ ttok; (iterate 12 exact rfl)) | (apply AL_beq ttok; (iterate 6 exact rfl)) | (apply AW_drawE 16 hmix; (decide +kernel); (kernel_rfl); (kernel_rfl); (kernel_rfl); exact rfl; exact rfl) | (apply AE_consZ; (iterate 4 exact rfl)) | exact AE.nil _ _ _ _ | (apply AEk_puT; exact rfl) | (apply AOt_mk; exact rfl; exact rfl; (decide +kernel); exact rfl) | (apply AO_puT; exact rfl) | exact AO.nil _ _ _ | (apply AOs_skip; (decide +kernel)) | exact AOs.nil | exact qY_ok rfl rfl | refine AW_skip ?_ | (apply AL_append ttok; (iterate 6 exact rfl); (first | with_reducible assumption | decide +kernel | exact rfl | rotate_left); exact rfl; exact rfl; (first | exact uniB_ok rfl | with_reducible assumption | decide +kernel | rotate_left); (first | exact uniB_ok rfl | with_reducible assumption | decide +kernel | rotate_left); (first | exact List.cons_ne_nil _ _ | with_reducible assumption | decide +kernel | rotate_left); (first | with_reducible assumption | decide +kernel | rotate_left); (first | with_reducible assumption | decide +kernel | rotate_left); exact rfl; exact rfl))
  all_goals first | ((apply endQ []; (repeat (first | exact ResL.nil | (apply ResL.cons; first | exact .tmp _ _ rfl | (apply res_n ttok; (iterate 6 exact rfl)) | (apply res_1 ttok; (iterate 5 exact rfl))))); (iterate 4 exact rfl))) | skip
  all_goals first | rfl | (first | rfl | (simp only [List.length_append, List.length_cons, List.length_nil, List.length_map, itEs_len]; done) | (simp only [List.length_append, List.length_cons, List.length_nil, List.length_map, itEs_len] at *; (try unfold maxLen); (try simp only [Nat.add_mul]); omega)) | (rw [hlt]; done) | (rw [hlt]; rfl) | (simp only [hlt]; rfl) | (simp [hlt]; done) | (simp; done) | (simp; omega) | (simp; unfold maxLen; omega)
theorem cm_hg [Known] [KnownU8] (ty num fl : Nat) (sum : Int) (data m : List UInt8) (cut : Int) (hA : AP Tryd.prog 30 [] (.bool true) []) (t1 : decide (((data.map E.byte).length : Int) > 400) = false) (t2 : decide (((m.map E.byte).length : Int) < 1) = false) (t3 : decide (((m.map E.byte).length : Int) > 100) = false) (hR : AP Tryd.prog 29 [.agg [.int .u64 (ty : Int), .int .u64 (num : Int), .int .u64 (fl : Int), .int .i64 sum, .sl .ext (data.map E.byte)]] (.bool true) []) (u6 : ((ty : Int) != 6) = true) (u7 : ((ty : Int) != 7) = true) (u10 : ((ty : Int) != 10) = false) (hX : AP Tryd.prog 29 [.agg [.int .u64 (ty : Int), .int .u64 (num : Int), .int .u64 (fl : Int), .int .i64 sum, .sl .ext (data.map E.byte ++ m.map E.byte)]] (.bool false) []) (hd1 : data.map E.byte ≠ []) (hm1 : m.map E.byte ≠ []) (hdl : (data.map E.byte).length ≤ 400) (hml : (m.map E.byte).length ≤ 100) (hU1 : Uni 1 (data.map E.byte)) (hU2 : Uni 1 (m.map E.byte)) (hU3 : Uni 1 (data.map E.byte ++ m.map E.byte)) (c1 : decide (cut ≥ 0) = true) (c2 : decide (cut < ((data.map E.byte).length : Int)) = false) (hlt : True) :
    AP Tryd.prog 8 [.agg [.int .u64 (ty : Int), .int .u64 (num : Int), .int .u64 (fl : Int), .int .i64 sum, .sl .ext (data.map E.byte)], .sl .ext (m.map E.byte), .int .i64 cut] (.bool true) [] := by
  refine AP.ofA ?_
  refine AC_of Tryd.func8 rfl Tryd.ntmps8 rfl rfl ?_
  repeat' (first | (apply AL_callPw (hA); kernel_rfl; (iterate 4 exact rfl)) | (apply AW_drawW 6 ttok hmix; (decide +kernel); (kernel_rfl); (kernel_rfl); (kernel_rfl); exact rfl; exact rfl) | exact AV.nil _ _ | (apply AV_al; exact rfl; exact rfl) | (apply AV_st; (iterate 4 exact rfl)) | (apply AV_pu; (iterate 4 exact rfl)) | (apply AWk_mk; (iterate 4 exact rfl)) | (apply AL_callPw (hR); kernel_rfl; (iterate 4 exact rfl)) | (apply AL_callPw (hX); kernel_rfl; (iterate 4 exact rfl)) | (apply AL_move; exact rfl; exact rfl) | (apply AL_assign; exact rfl; exact rfl) | (apply AL_bin; (iterate 5 exact rfl)) | (apply AL_load1 ttok; (iterate 6 exact rfl)) | (apply AL_loadn ttok; (iterate 7 exact rfl)) | (apply AL_fieldAddr ttok; (iterate 7 exact rfl)) | (apply AL_boxZ; (iterate 5 exact rfl)) | (apply AL_store ttok; (iterate 8 exact rfl)) | (apply AL_not; exact rfl; exact rfl) | refine AL_nil ?_ | (apply AL_guardT; (iterate 3 exact rfl); (first | with_reducible assumption | decide +kernel)) | (apply AL_pickT; exact rfl; (first | with_reducible assumption | decide +kernel); exact rfl; exact rfl) | (apply AL_pickF; exact rfl; (first | with_reducible assumption | decide +kernel); exact rfl; exact rfl) | refine AW_region ?_ | refine AW_seq' ?_ | (apply AW_condB; exact rfl; (first | with_reducible assumption | decide +kernel)) | refine then_norm ?_ | refine AW_ret ?_ | (apply AL_len ttok; (iterate 4 exact rfl)) | (apply AL_bsZ ttok; (iterate 12 exact rfl)) | (apply AL_beq ttok; (iterate 6 exact rfl)) | (apply AW_drawE 16 hmix; (decide +kernel); (kernel_rfl); (kernel_rfl); (kernel_rfl); exact rfl; exact rfl) | (apply AE_consZ; (iterate 4 exact rfl)) | exact AE.nil _ _ _ _ | (apply AEk_puT; exact rfl) | (apply AOt_mk; exact rfl; exact rfl; (decide +kernel); exact rfl) | (apply AO_puT; exact rfl) | exact AO.nil _ _ _ | (apply AOs_skip; (decide +kernel)) | exact AOs.nil | exact qY_ok rfl rfl | refine AW_skip ?_ | (apply AL_append ttok; (iterate 6 exact rfl); (first | with_reducible assumption | decide +kernel | exact rfl | rotate_left); exact rfl; exact rfl; (first | exact uniB_ok rfl | with_reducible assumption | decide +kernel | rotate_left); (first | exact uniB_ok rfl | with_reducible assumption | decide +kernel | rotate_left); (first | exact List.cons_ne_nil _ _ | with_reducible assumption | decide +kernel | rotate_left); (first | with_reducible assumption | decide +kernel | rotate_left); (first | with_reducible assumption | decide +kernel | rotate_left); exact rfl; exact rfl))
  all_goals first | ((apply endQ []; (repeat (first | exact ResL.nil | (apply ResL.cons; first | exact .tmp _ _ rfl | (apply res_n ttok; (iterate 6 exact rfl)) | (apply res_1 ttok; (iterate 5 exact rfl))))); (iterate 4 exact rfl))) | skip
  all_goals first | rfl | (first | rfl | (simp only [List.length_append, List.length_cons, List.length_nil, List.length_map, itEs_len]; done) | (simp only [List.length_append, List.length_cons, List.length_nil, List.length_map, itEs_len] at *; (try unfold maxLen); (try simp only [Nat.add_mul]); omega)) | (rw [hlt]; done) | (rw [hlt]; rfl) | (simp only [hlt]; rfl) | (simp [hlt]; done) | (simp; done) | (simp; omega) | (simp; unfold maxLen; omega)
theorem cm_hc [Known] [KnownU8] (ty num fl : Nat) (sum : Int) (data m : List UInt8) (cut : Int) (hA : AP Tryd.prog 30 [] (.bool true) []) (t1 : decide (((data.map E.byte).length : Int) > 400) = false) (t2 : decide (((m.map E.byte).length : Int) < 1) = false) (t3 : decide (((m.map E.byte).length : Int) > 100) = false) (hR : AP Tryd.prog 29 [.agg [.int .u64 (ty : Int), .int .u64 (num : Int), .int .u64 (fl : Int), .int .i64 sum, .sl .ext (data.map E.byte)]] (.bool true) []) (u6 : ((ty : Int) != 6) = true) (u7 : ((ty : Int) != 7) = true) (u10 : ((ty : Int) != 10) = false) (hX : AP Tryd.prog 29 [.agg [.int .u64 (ty : Int), .int .u64 (num : Int), .int .u64 (fl : Int), .int .i64 sum, .sl .ext (data.map E.byte ++ m.map E.byte)]] (.bool false) []) (hd1 : data.map E.byte ≠ []) (hm1 : m.map E.byte ≠ []) (hdl : (data.map E.byte).length ≤ 400) (hml : (m.map E.byte).length ≤ 100) (hU1 : Uni 1 (data.map E.byte)) (hU2 : Uni 1 (m.map E.byte)) (hU3 : Uni 1 (data.map E.byte ++ m.map E.byte)) (c1 : decide (cut ≥ 0) = true) (c2 : decide (cut < ((data.map E.byte).length : Int)) = true) (h0 : 0 ≤ cut) (hle : cut.toNat ≤ data.length) (hY : AP Tryd.prog 29 [.agg [.int .u64 (ty : Int), .int .u64 (num : Int), .int .u64 (fl : Int), .int .i64 sum, .sl .ext ((data.take cut.toNat).map E.byte)]] (.bool false) []) (hlt : ((((data.take cut.toNat).map E.byte).length : Int) == ((data.map E.byte).length : Int)) = false) :
    AP Tryd.prog 8 [.agg [.int .u64 (ty : Int), .int .u64 (num : Int), .int .u64 (fl : Int), .int .i64 sum, .sl .ext (data.map E.byte)], .sl .ext (m.map E.byte), .int .i64 cut] (.bool true) [] := by
  refine AP.ofA ?_
  refine AC_of Tryd.func8 rfl Tryd.ntmps8 rfl rfl ?_
  repeat' (first | (apply AL_callPw (hA); kernel_rfl; (iterate 4 exact rfl)) | (apply AW_drawW 6 ttok hmix; (decide +kernel); (kernel_rfl); (kernel_rfl); (kernel_rfl); exact rfl; exact rfl) | exact AV.nil _ _ | (apply AV_al; exact rfl; exact rfl) | (apply AV_st; (iterate 4 exact rfl)) | (apply AV_pu; (iterate 4 exact rfl)) | (apply AWk_mk; (iterate 4 exact rfl)) | (apply AL_callPw (hR); kernel_rfl; (iterate 4 exact rfl)) | (apply AL_callPw (hX); kernel_rfl; (iterate 4 exact rfl)) | (apply AL_callPw (hY); kernel_rfl; (iterate 4 exact rfl)) | (apply AL_upto ttok; (iterate 8 exact rfl); (first | with_reducible assumption | exact Int.natCast_nonneg _ | exact (by decide)); (first | with_reducible assumption | decide | (simp only [List.length_cons, List.length_drop, List.length_take, List.length_append, Int.toNat_natCast] at *; omega)); (first | with_reducible assumption | exact rfl)) | (apply AL_move; exact rfl; exact rfl) | (apply AL_assign; exact rfl; exact rfl) | (apply AL_bin; (iterate 5 exact rfl)) | (apply AL_load1 ttok; (iterate 6 exact rfl)) | (apply AL_loadn ttok; (iterate 7 exact rfl)) | (apply AL_fieldAddr ttok; (iterate 7 exact rfl)) | (apply AL_boxZ; (iterate 5 exact rfl)) | (apply AL_store ttok; (iterate 8 exact rfl)) | (apply AL_not; exact rfl; exact rfl) | refine AL_nil ?_ | (apply AL_guardT; (iterate 3 exact rfl); (first | with_reducible assumption | decide +kernel)) | (apply AL_pickT; exact rfl; (first | with_reducible assumption | decide +kernel); exact rfl; exact rfl) | (apply AL_pickF; exact rfl; (first | with_reducible assumption | decide +kernel); exact rfl; exact rfl) | refine AW_region ?_ | refine AW_seq' ?_ | (apply AW_condA; exact rfl; (first | with_reducible assumption | decide +kernel)) | (apply AW_condB; exact rfl; (first | with_reducible assumption | decide +kernel)) | refine then_norm ?_ | refine AW_ret ?_ | (apply AL_len ttok; (iterate 4 exact rfl)) | (apply AL_bsZ ttok; (iterate 12 exact rfl)) | (apply AL_beq ttok; (iterate 6 exact rfl)) | (apply AW_drawE 16 hmix; (decide +kernel); (kernel_rfl); (kernel_rfl); (kernel_rfl); exact rfl; exact rfl) | (apply AE_consZ; (iterate 4 exact rfl)) | exact AE.nil _ _ _ _ | (apply AEk_puT; exact rfl) | (apply AOt_mk; exact rfl; exact rfl; (decide +kernel); exact rfl) | (apply AO_puT; exact rfl) | exact AO.nil _ _ _ | (apply AOs_skip; (decide +kernel)) | exact AOs.nil | exact qY_ok rfl rfl | refine AW_skip ?_ | (apply AL_append ttok; (iterate 6 exact rfl); (first | with_reducible assumption | decide +kernel | exact rfl | rotate_left); exact rfl; exact rfl; (first | exact uniB_ok rfl | with_reducible assumption | decide +kernel | rotate_left); (first | exact uniB_ok rfl | with_reducible assumption | decide +kernel | rotate_left); (first | exact List.cons_ne_nil _ _ | with_reducible assumption | decide +kernel | rotate_left); (first | with_reducible assumption | decide +kernel | rotate_left); (first | with_reducible assumption | decide +kernel | rotate_left); exact rfl; exact rfl))
  all_goals first | ((apply endQ []; (repeat (first | exact ResL.nil | (apply ResL.cons; first | exact .tmp _ _ rfl | (apply res_n ttok; (iterate 6 exact rfl)) | (apply res_1 ttok; (iterate 5 exact rfl))))); (iterate 4 exact rfl))) | skip
  all_goals first | rfl | (first | rfl | (simp only [List.length_append, List.length_cons, List.length_nil, List.length_map, itEs_len]; done) | (simp only [List.length_append, List.length_cons, List.length_nil, List.length_map, itEs_len] at *; (try unfold maxLen); (try simp only [Nat.add_mul]); omega)) | (rw [hlt]; done) | (rw [hlt]; rfl) | (simp only [hlt]; rfl) | (simp [hlt]; done) | (simp; done) | (simp; omega) | (simp; unfold maxLen; omega)
end Go.Proofs.YtihkbilhgbmbhaaDoor
end
/- CanonMore: the plain law. -/
section
open Go.RowKit Go.Pl Go.Av
namespace Go.Proofs.YtihkbilhgbmbhaaDoor
set_option linter.unusedVariables false
set_option linter.unusedSimpArgs false
/-- what is the shortest is an item's bytes -/
theorem short_is {d : List UInt8} (hd : d.length < 4294967296) (h : shortI d = true) : ∃ y, wfI y ∧ rightI y = true ∧ d = putI y := by
  rcases read_case d hd with ⟨e, _, _, h2⟩ | ⟨y, n, h1, hw, hr, _⟩
  · rw [h2] at h; cases h
  · refine ⟨y, hw, hr, ?_⟩
    have e : readI d 0 = match itemS 6 256 d with
        | .error e => (.mk 0 0 [] [], 0, e)
        | .ok (x, r, _) => (x, d.length - r.length, 0) := by rw [readI, if_neg (by omega)]; rfl
    unfold shortI at h
    rw [e] at h1
    cases hx : itemS 6 256 d with
    | error c => rw [hx] at h; cases h
    | ok q =>
      obtain ⟨x, r, m⟩ := q
      rw [hx] at h h1
      simp only [Bool.and_eq_true, beq_iff_eq, Prod.mk.injEq] at h h1
      rw [← h.2, h1.1]
theorem short_more {d m : List UInt8} (hd : d.length < 4294967296) (h : shortI d = true) (hm : m ≠ []) : shortI (d ++ m) = false := by
  obtain ⟨y, hw, hr, rfl⟩ := short_is hd h
  unfold shortI
  rw [read_put hw hr m]
  cases m with
  | nil => exact absurd rfl hm
  | cons c m => simp
theorem short_cut {d : List UInt8} (hd : d.length < 4294967296) (h : shortI d = true) {c : Nat} (hc : c < d.length) : shortI (d.take c) = false := by
  obtain ⟨y, hw, hr, rfl⟩ := short_is hd h
  have h2 := read_cut0 hw hr c hc
  rcases read_case ((putI y).take c) (by rw [List.length_take]; omega) with ⟨e, _, _, h3⟩ | ⟨z, n, h1, _⟩
  · exact h3
  · rw [h1] at h2; simp at h2
theorem data_short {ty : Nat} {d : List UInt8} (ht : ty = 6 ∨ ty = 7 ∨ ty = 10) (h : shortI d = false) : dataV ty d = false := by
  unfold dataV dataK
  rcases ht with rfl | rfl | rfl
  · simp [prevV, h]
  · simp [ageV, h]
  · simp [hopsV, h, hopsX]
theorem short_data {ty : Nat} {d : List UInt8} (ht : ty = 6 ∨ ty = 7 ∨ ty = 10) (h : dataV ty d = true) : shortI d = true := by
  cases hs : shortI d with
  | true => rfl
  | false => rw [data_short ht hs] at h; cases h
theorem right_no {b : BlkV} (h : dataV b.ty b.data = false) : bkRight b = false := by
  unfold bkRight
  rw [h]
  simp
/-- with anything behind it may not be -/
theorem more_no {b : BlkV} {m : List UInt8} (hr : bkRight b = true) (ht : b.ty = 6 ∨ b.ty = 7 ∨ b.ty = 10) (hd : b.data.length ≤ 400) (hm : m ≠ []) : bkRight { b with data := b.data ++ m } = false :=
  right_no (data_short ht (short_more (by omega) (short_data ht (bk_facts hr).2.2.2.2) hm))
theorem cut_none {b : BlkV} {c : Nat} (hr : bkRight b = true) (ht : b.ty = 6 ∨ b.ty = 7 ∨ b.ty = 10) (hd : b.data.length ≤ 400) (hc : c < b.data.length) : bkRight { b with data := b.data.take c } = false :=
  right_no (data_short ht (short_cut (by omega) (short_data ht (bk_facts hr).2.2.2.2) hc))
end Go.Proofs.YtihkbilhgbmbhaaDoor
end
/- What a row's tables tell of the world. -/
section
open Go.RowKit Go.Pl Go.Av Go.Lib
namespace Go.Proofs.YtihkbilhgbmbhaaDoor
set_option linter.unusedVariables false
set_option linter.unusedSimpArgs false
theorem dcsl_ints (k : IntKind) : ∀ zs : List Int, dcsl (zs.map fun z => .lit (.int k z)) = zs.map fun z => Value.int k z
  | [] => rfl
  | z :: zs => by rw [List.map_cons, List.map_cons, dcsl, dcsl_ints k zs]; rfl
theorem cells_at {P : Program} {W : World} {n : String} {g : Nat} {t : TypeId} {d : DataW Unit} (hg : P.globalNamed n = some g) (ht : (P.globals[g]?).map (·.type) = some t) (h : VarReads P W n d)
    (key : ∀ (fuel : Nat) (cs : List Value) (p : List MemPlace), DataW.trod (fun _ => ()) P W 0 (fun _ => true) false fuel t cs = some (d, p) → ∀ (j : Nat) (v : Value), (dcs d)[j]? = some v → cs[j]? = some v) :
    ∀ (j : Nat) (v : Value), (dcs d)[j]? = some v → (g0 W).C g j ∧ W.cell? ⟨g, j, none⟩ = some v := by
  obtain ⟨g', t', cs, fuel, p, h1, h2, h3, h4⟩ := h
  obtain rfl := Option.some.inj (hg.symm.trans h1)
  obtain rfl := Option.some.inj (ht.symm.trans h2)
  intro j v hv
  have hc := key fuel cs.toList p h4 j v hv
  have hcell : W.cell? ⟨g, j, none⟩ = some v := by
    rw [World.var?_cell hg h3 j, ← Array.getElem?_toList]; exact hc
  exact ⟨World.block_lt_of_cell? W _ hcell, hcell⟩
theorem ints_at {P : Program} {W : World} {t e : TypeId} {n : Nat} {k : IntKind} {d : DataW Unit} (zs : List Int) (hd : d = tabData k zs) (ht : P.underlying t = some (.array n e)) (he : P.underlying e = some (.int k)) (hce : P.cellsOf e = 1) (hct : P.cellsOf t = n) :
    ∀ (fuel : Nat) (cs : List Value) (p : List MemPlace), DataW.trod (fun _ => ()) P W 0 (fun _ => true) false fuel t cs = some (d, p) → ∀ (j : Nat) (v : Value), (dcs d)[j]? = some v → cs[j]? = some v := by
  subst hd
  intro fuel cs p h j v hv
  rw [cells_of_tab ht he hce hct h]
  rw [tabData, dcs, dcsl_ints] at hv
  exact hv
theorem rows_at {P : Program} {W : World} {t e : TypeId} {n : Nat} {k : IntKind} {d : DataW Unit} {fs : Array Field} (rows : List (List Int)) (hd : d = .agg (rows.map fun r => .agg (r.map fun z => .lit (.int k z)))) (hn : rows.length = n) (ht : P.underlying t = some (.array n e)) (he : P.underlying e = some (.struct fs))
    (hf : ∀ (i : Nat) (f : Field), fs[i]? = some f → P.underlying f.type = some (.int k) ∧ f.offset = i ∧ P.cellsOf f.type = 1) (hce : P.cellsOf e = fs.size) :
    ∀ (fuel : Nat) (cs : List Value) (p : List MemPlace), DataW.trod (fun _ => ()) P W 0 (fun _ => true) false fuel t cs = some (d, p) → ∀ (j : Nat) (v : Value), (dcs d)[j]? = some v → cs[j]? = some v := by
  subst hd
  intro fuel cs p h j v hv
  have key : ∀ i, i ≤ n → cs.take (i * fs.size) = dcsl ((rows.take i).map fun r => .agg (r.map fun z => .lit (.int k z))) := by
    intro i
    induction i with
    | zero => intro _; rw [Nat.zero_mul, List.take_zero, List.take_zero]; rfl
    | succ i ih =>
      intro hi
      obtain ⟨fuel', d', q, hdi, he'⟩ := array_elem ht h i (by omega)
      rw [List.getElem?_map, List.getElem?_eq_getElem (by omega : i < rows.length)] at hdi
      simp only [Option.map_some, Option.some.injEq] at hdi
      subst hdi
      rw [hce] at he'
      have hcs := ints_of_struct he hf hce he'
      rw [Nat.succ_mul, List.take_add, ih (by omega), hcs, List.take_succ_eq_append_getElem (by omega : i < rows.length), List.map_append]
      have app : ∀ (a b : List (DataW Unit)), dcsl (a ++ b) = dcsl a ++ dcsl b := fun a b => by
        induction a with
        | nil => rfl
        | cons x a ih => rw [List.cons_append, dcsl, dcsl, ih, List.append_assoc]
      rw [app, List.map_cons, List.map_nil, dcsl, dcs, dcsl_ints]
      simp [dcsl]
  have h2 := key n (Nat.le_refl _)
  rw [← hn, List.take_length] at h2
  rw [dcs, ← h2] at hv
  rw [List.getElem?_take] at hv
  split at hv
  · exact hv
  · cases hv
/-- the tables of unicode/utf8 -/
abbrev knownU8 : Known := ⟨[0, 1]⟩
theorem knownU8_ok : @KnownU8 knownU8 := @KnownU8.mk knownU8 (List.mem_cons_self ..) (List.mem_cons_of_mem _ (List.mem_cons_self ..))
def firstZ : List Int := Pinned.utf8FirstZ.map Int.ofNat
def acceptZ : List (List Int) := [[128, 191], [160, 191], [128, 159], [144, 191], [128, 143], [0, 0], [0, 0], [0, 0], [0, 0], [0, 0], [0, 0], [0, 0], [0, 0], [0, 0], [0, 0], [0, 0]]
theorem gls_u8 {W : World} {laid : List (String × DataW Unit)} (h1 : ("unicode/utf8.first", Rows.laid_unicode_utf8_first) ∈ laid) (h2 : ("unicode/utf8.acceptRanges", Rows.laid_unicode_utf8_acceptRanges) ∈ laid) (h : laidMet Tryd.prog laid W) : @Gls knownU8 (g0 W).C W := by
  have r1 := laidMet.reads h h1
  have r2 := laidMet.reads h h2
  have c1 := cells_at (P := Tryd.prog) (g := 0) (t := 175) (by kernel_rfl) (by kernel_rfl) r1 (ints_at firstZ (by kernel_rfl) (n := 256) (by kernel_rfl) Tryd.underlying5 (by kernel_rfl) (by kernel_rfl))
  have c2 := cells_at (P := Tryd.prog) (g := 1) (t := 178) (by kernel_rfl) (by kernel_rfl) r2 (rows_at acceptZ (by kernel_rfl) (n := 16) rfl Tryd.underlying178 Tryd.underlying177 (fun i f hf => by
    match i, hf with
    | 0, hf => simp at hf; subst hf; exact ⟨Tryd.underlying5, rfl, by kernel_rfl⟩
    | 1, hf => simp at hf; subst hf; exact ⟨Tryd.underlying5, rfl, by kernel_rfl⟩
    | i + 2, hf => simp at hf) (by kernel_rfl))
  refine ⟨fun k cs hk => ?_, fun k t hk => ?_⟩
  · obtain ⟨hk, hm⟩ := hk
    simp only [tabs, List.mem_cons, List.not_mem_nil, or_false, Prod.mk.injEq] at hm
    have hk : k ∈ [0, 1] := hk
    simp only [List.mem_cons, List.not_mem_nil, or_false] at hk
    clear r1 r2 h1 h2 h
    rcases hk with rfl | rfl
    all_goals repeat' (refine Or.elim hm (fun hm => ?_) (fun hm => ?_))
    all_goals first
      | (obtain ⟨h, rfl⟩ := hm; exact c1)
      | (obtain ⟨h, rfl⟩ := hm; exact c2)
      | (obtain ⟨h, _⟩ := hm; exact absurd h (by decide))
  · obtain ⟨hk, hm⟩ := hk
    have hk : k ∈ [0, 1] := hk
    simp only [List.mem_cons, List.not_mem_nil, or_false] at hk
    simp only [tabI, List.mem_cons, List.not_mem_nil, or_false, Prod.mk.injEq] at hm
    all_goals omega
end Go.Proofs.YtihkbilhgbmbhaaDoor
end
/- Bytes as an argument. -/
section
open Go.RowKit Go.Pl Go.Av
namespace Go.Proofs.YtihkbilhgbmbhaaDoor
set_option linter.unusedVariables false
set_option linter.unusedSimpArgs false
set_option maxHeartbeats 4000000
theorem bytes_V {W : World} {v : Value} {b : List UInt8} (h : Sl Rep.byte W (· < W.heap.size) v b) : V W (g0 W) [] (byE b) v := .sl .ext _ _ (ToE.byte.sl (C := (g0 W).C) (fun k hk o => hk) h) trivial
end Go.Proofs.YtihkbilhgbmbhaaDoor
end
/- Arguments: structs of any number of fields. -/
section
open Go.RowKit Go.Pl
namespace Go.Pl
set_option linter.unusedSimpArgs false
set_option linter.unusedVariables false
/-- the cells from a field on read as R -/
def OpensF {α : Type} (P : Program) (fs : Array Field) (i o : Nat) (R : Rep α) : Prop :=
  ∀ (H : Type) (enc : TypeId × Value → H) (W : World) (spare : Nat → Bool) (held : Bool) (n : Nat) (cs : List Value) (xs : List (DataW H × List MemPlace)), cs.length = o + R.n → xs.length = fs.size →
    (∀ (j : Nat) (f : Field), fs[j]? = some f → DataW.trod enc P W 0 spare held n f.type ((cs.drop f.offset).take (P.cellsOf f.type)) = xs[j]?) → ∃ x, R.ok W (· < W.heap.size) (cs.drop o) x
variable {P : Program} {t : TypeId} {fs : Array Field}
theorem opensF_at {α : Type} {R : Rep α} {i o : Nat} {f : Field} (hf : fs[i]? = some f) (ho : f.offset = o) (hc : P.cellsOf f.type = R.n) (h : Opens P f.type R) {H : Type} {enc : TypeId × Value → H} {W : World} {spare : Nat → Bool} {held : Bool} {n : Nat} {cs : List Value} {xs : List (DataW H × List MemPlace)} (hl : xs.length = fs.size)
    (hg : ∀ (j : Nat) (f : Field), fs[j]? = some f → DataW.trod enc P W 0 spare held n f.type ((cs.drop f.offset).take (P.cellsOf f.type)) = xs[j]?) : ∃ x, R.ok W (· < W.heap.size) ((cs.drop o).take R.n) x := by
  have e := hg i f hf
  rw [ho, hc] at e
  have hi : i < xs.length := by
    rw [hl]
    exact (Array.getElem?_eq_some_iff.1 hf).1
  exact h H enc W spare held n _ _ (e.trans (List.getElem?_eq_getElem hi))
theorem opensF_one {α : Type} {R : Rep α} {i o : Nat} {f : Field} (hf : fs[i]? = some f) (ho : f.offset = o) (hc : P.cellsOf f.type = R.n) (h : Opens P f.type R) : OpensF P fs i o R := by
  intro H enc W spare held n cs xs hcl hl hg
  obtain ⟨x, hx⟩ := opensF_at hf ho hc h hl hg
  rw [List.take_of_length_le (by rw [List.length_drop]; omega)] at hx
  exact ⟨x, hx⟩
theorem opensF_cons {α β : Type} {R : Rep α} {R' : Rep β} {i o : Nat} {f : Field} (hf : fs[i]? = some f) (ho : f.offset = o) (hc : P.cellsOf f.type = R.n) (h : Opens P f.type R) (h' : OpensF P fs (i + 1) (o + R.n) R') : OpensF P fs i o (R.prod R') := by
  intro H enc W spare held n cs xs hcl hl hg
  obtain ⟨x, hx⟩ := opensF_at hf ho hc h hl hg
  have hn : (R.prod R').n = R.n + R'.n := rfl
  obtain ⟨x', hx'⟩ := h' H enc W spare held n cs xs (by rw [hn] at hcl; omega) hl hg
  refine ⟨(x, x'), (cs.drop o).take R.n, (cs.drop o).drop R.n, (List.take_append_drop _ _).symm, hx, ?_⟩
  rw [List.drop_drop]
  exact hx'
theorem opens_struct {α : Type} {R : Rep α} (hs : P.underlying t = some (.struct fs)) (hc : P.cellsOf t = R.n) (h : OpensF P fs 0 0 R) : Opens P t R := by
  intro H enc W spare held fuel cs y hy
  obtain ⟨xs, n, _, _, hl, hxl, hg⟩ := DataW.trod_struct hs hy
  exact h H enc W spare held n cs xs (by omega) hxl hg
end Go.Pl
end
/- CanonMore: the law's walk, joined, and from the row's arguments. -/
section
open Go.RowKit Go.Pl Go.Av
namespace Go.Proofs.YtihkbilhgbmbhaaDoor
set_option linter.unusedVariables false
set_option linter.unusedSimpArgs false
set_option maxHeartbeats 4000000
theorem av_canonMore [Known] [KnownU8] (b : BlkV) (m : List UInt8) (cut : Int) : AP Tryd.prog 8 [.agg (bkC b), byE m, .int .i64 cut] (.bool true) [] := by
  have hA := av_alive7
  have hdl : (b.data.map E.byte).length = b.data.length := List.length_map ..
  have hml : (m.map E.byte).length = m.length := List.length_map ..
  rcases Nat.lt_or_ge 400 b.data.length with h1 | h1
  · exact cm_1 b.ty b.num b.fl b.sum b.data m cut hA (decide_eq_true (by omega))
  have t1 : decide (((b.data.map E.byte).length : Int) > 400) = false := decide_eq_false (by omega)
  rcases Nat.lt_or_ge m.length 1 with h2 | h2
  · exact cm_2 b.ty b.num b.fl b.sum b.data m cut hA t1 (decide_eq_true (by omega))
  have t2 : decide (((m.map E.byte).length : Int) < 1) = false := decide_eq_false (by omega)
  rcases Nat.lt_or_ge 100 m.length with h3 | h3
  · exact cm_3 b.ty b.num b.fl b.sum b.data m cut hA t1 t2 (decide_eq_true (by omega))
  have t3 : decide (((m.map E.byte).length : Int) > 100) = false := decide_eq_false (by omega)
  have hR := av_bRight b (by omega)
  cases hr : bkRight b with
  | false =>
    rw [hr] at hR
    exact cm_4 b.ty b.num b.fl b.sum b.data m cut hA t1 t2 t3 hR
  | true =>
  rw [hr] at hR
  by_cases ht : b.ty = 6 ∨ b.ty = 7 ∨ b.ty = 10
  case neg =>
    exact cm_5 b.ty b.num b.fl b.sum b.data m cut hA t1 t2 t3 hR (by simp; omega) (by simp; omega) (by simp; omega)
  have hmn : m ≠ [] := by rintro rfl; simp at h2
  have hX := av_bRight { b with data := b.data ++ m } (by simp; omega)
  rw [more_no hr ht (by omega) hmn] at hX
  have hX2 : AP Tryd.prog 29 [.agg [.int .u64 (b.ty : Int), .int .u64 (b.num : Int), .int .u64 (b.fl : Int), .int .i64 b.sum, .sl .ext (b.data.map E.byte ++ m.map E.byte)]] (.bool false) [] := by
    rw [← List.map_append]; exact hX
  have hsd := short_data ht (bk_facts hr).2.2.2.2
  obtain ⟨y, hyw, hyr, hye⟩ := short_is (by omega) hsd
  obtain ⟨c0, t0, hc0⟩ := put_ne y hyw hyr
  have hd1 : b.data.map E.byte ≠ [] := by rw [hye, hc0]; simp
  have hm1 : m.map E.byte ≠ [] := by simpa using hmn
  have hU1 := uniB1 b.data
  have hU2 := uniB1 m
  have hU3 : Uni 1 (b.data.map E.byte ++ m.map E.byte) := by rw [← List.map_append]; exact uniB1 _
  have q6 : ∀ k : Nat, b.ty = k → ((b.ty : Int) != (k : Int)) = false := fun k h => by rw [h]; simp
  have p6 : ∀ k : Nat, b.ty ≠ k → ((b.ty : Int) != (k : Int)) = true := fun k h => by simp; omega
  rcases Int.lt_or_le cut 0 with hc | hc
  · have c1 : decide (cut ≥ 0) = false := decide_eq_false (by omega)
    rcases ht with e | e | e
    · exact cm_6n b.ty b.num b.fl b.sum b.data m cut hA t1 t2 t3 hR (q6 6 e) hX2 hd1 hm1 (by omega) (by omega) hU1 hU2 hU3 c1 trivial
    · exact cm_7n b.ty b.num b.fl b.sum b.data m cut hA t1 t2 t3 hR (p6 6 (by omega)) (q6 7 e) hX2 hd1 hm1 (by omega) (by omega) hU1 hU2 hU3 c1 trivial
    · exact cm_hn b.ty b.num b.fl b.sum b.data m cut hA t1 t2 t3 hR (p6 6 (by omega)) (p6 7 (by omega)) (q6 10 e) hX2 hd1 hm1 (by omega) (by omega) hU1 hU2 hU3 c1 trivial
  have c1 : decide (cut ≥ 0) = true := decide_eq_true (by omega)
  rcases Int.lt_or_le cut b.data.length with hl | hl
  case inr =>
    have c2 : decide (cut < ((b.data.map E.byte).length : Int)) = false := decide_eq_false (by omega)
    rcases ht with e | e | e
    · exact cm_6g b.ty b.num b.fl b.sum b.data m cut hA t1 t2 t3 hR (q6 6 e) hX2 hd1 hm1 (by omega) (by omega) hU1 hU2 hU3 c1 c2 trivial
    · exact cm_7g b.ty b.num b.fl b.sum b.data m cut hA t1 t2 t3 hR (p6 6 (by omega)) (q6 7 e) hX2 hd1 hm1 (by omega) (by omega) hU1 hU2 hU3 c1 c2 trivial
    · exact cm_hg b.ty b.num b.fl b.sum b.data m cut hA t1 t2 t3 hR (p6 6 (by omega)) (p6 7 (by omega)) (q6 10 e) hX2 hd1 hm1 (by omega) (by omega) hU1 hU2 hU3 c1 c2 trivial
  have c2 : decide (cut < ((b.data.map E.byte).length : Int)) = true := decide_eq_true (by omega)
  have hY := av_bRight { b with data := b.data.take cut.toNat } (by rw [List.length_take]; omega)
  rw [cut_none hr ht (by omega) (by omega)] at hY
  have hlt : ((((b.data.take cut.toNat).map E.byte).length : Int) == ((b.data.map E.byte).length : Int)) = false := by
    rw [beq_eq_false_iff_ne, List.length_map, List.length_take, hdl]
    omega
  have hle : cut.toNat ≤ b.data.length := by omega
  rcases ht with e | e | e
  · exact cm_6c b.ty b.num b.fl b.sum b.data m cut hA t1 t2 t3 hR (q6 6 e) hX2 hd1 hm1 (by omega) (by omega) hU1 hU2 hU3 c1 c2 hc hle hY hlt
  · exact cm_7c b.ty b.num b.fl b.sum b.data m cut hA t1 t2 t3 hR (p6 6 (by omega)) (q6 7 e) hX2 hd1 hm1 (by omega) (by omega) hU1 hU2 hU3 c1 c2 hc hle hY hlt
  · exact cm_hc b.ty b.num b.fl b.sum b.data m cut hA t1 t2 t3 hR (p6 6 (by omega)) (p6 7 (by omega)) (q6 10 e) hX2 hd1 hm1 (by omega) (by omega) hU1 hU2 hU3 c1 c2 hc hle hY hlt
/-! ### a block as an argument -/
abbrev RB : Rep (Nat × Nat × Nat × Int × List UInt8) := Rep.u64.prod (Rep.u64.prod (Rep.u64.prod (Rep.i64.prod (Rep.slice Rep.byte (by decide)))))
theorem openB : Opens Tryd.prog 66 RB :=
  opens_struct Tryd.underlying66 (by kernel_rfl) (opensF_cons rfl rfl (by kernel_rfl) (opens_u64 Tryd.underlying22) (opensF_cons rfl rfl (by kernel_rfl) (opens_u64 Tryd.underlying22)
    (opensF_cons rfl rfl (by kernel_rfl) (opens_u64 Tryd.underlying22) (opensF_cons rfl rfl (by kernel_rfl) (opens_i64 Tryd.underlying3)
      (opensF_one rfl rfl (by kernel_rfl) (opens_slice (R := Rep.byte) (by decide) Tryd.underlying23 (by kernel_rfl) (opens_byte Tryd.underlying5)))))))
abbrev XB := Nat × Nat × Nat × Int × List UInt8
def XB.v (x : XB) : BlkV := ⟨x.1, x.2.1, x.2.2.1, x.2.2.2.1, x.2.2.2.2⟩
theorem bk_V [Known] {W : World} {cs : List Value} {x : XB} (h : RB.ok W (· < W.heap.size) cs x) : V W (g0 W) [] (.agg (bkC x.v)) (.agg cs.toArray) := by
  obtain ⟨ty, num, fl, sum, data⟩ := x
  have toE_b := ToE.u64.prod (ToE.u64.prod (ToE.u64.prod (ToE.i64.prod (ToE.byte.slice (by decide)))))
  exact ToE.agg toE_b (l := [.int .u64 (ty : Int), .int .u64 (num : Int), .int .u64 (fl : Int), .int .i64 sum, .sl (data.map E.byte)]) rfl h
theorem canonMore_walk (c0 : List Value) (v1 : Value) (a2 : Int) (x0 : XB) (x1 : List UInt8) (W : World) (h0 : RB.ok W (· < W.heap.size) c0 x0) (h1 : Sl Rep.byte W (· < W.heap.size) v1 x1) (h2 : -9223372036854775808 ≤ a2 ∧ a2 ≤ 9223372036854775807) (hl : laidMet Tryd.prog Rows.canonMoreRow.laid W) :
    Calls Tryd.prog 8 #[.agg c0.toArray, v1, .int .i64 a2] W fun e w' => e = .returned (.bool true) ∧ Below W.heap.size W w' := by
  have hg := gls_u8 (laid := Rows.canonMoreRow.laid) (by unfold Rows.canonMoreRow; repeat (first | exact List.mem_cons_self .. | apply List.mem_cons_of_mem)) (by unfold Rows.canonMoreRow; repeat (first | exact List.mem_cons_self .. | apply List.mem_cons_of_mem)) hl
  have h := @av_canonMore knownU8 knownU8_ok x0.v x1 a2
  refine @topG knownU8 Tryd.prog 8 _ (@AC.mono knownU8 _ _ _ _ _ _ _ h fun r b t h => h.1) W [.agg c0.toArray, v1, .int .i64 a2] hg rfl ?_
  intro j d v hd hv
  match j, hd, hv with
  | 0, hd, hv => cases hd; cases hv; exact @bk_V knownU8 _ _ _ h0
  | 1, hd, hv => cases hd; cases hv; exact bytes_V h1
  | 2, hd, hv => cases hd; cases hv; exact .int _ _
  | j + 3, hd, hv => cases hd
end Go.Proofs.YtihkbilhgbmbhaaDoor
end

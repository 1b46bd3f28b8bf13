/- A function that defers a call which recovers. -/
import Derived.Test.YtnihobjehelagaaDoorG10
import Derived.Recover
import Derived.Test.YtnihobjehelagaaDoorG11
import Derived.Test.YtnihobjehelagaaDoorG01
import Derived.Test.YtnihobjehelagaaDoorG07
import Derived.Laws.BitsAllLaws
section
open Go.RowKit Go.Pl
namespace Go.Av
set_option linter.unusedSimpArgs false
set_option linter.unusedVariables false
section
variable {P : Program} {Q : X → St → Prop} {n : Nat} {ee : Nat × Nat} {tm tm' : List (Nat × D)} {bx bx' : List (List D)} {fr fr' : List Fr} {b0 : Bs} {g : G} {w : World} {a : Act} {T : Tab}
variable {ops : Array Oper} {rest : List Oper} {t ty : Nat} {pos : String} {after : Array Edge}
/-! ### what an interface value holds -/
def zAgg (P : Program) (t : TypeId) : Option (List Value) := match P.info? t with
  | some i => match i.zero with
    | some (.agg cs) => some cs.toList
    | _ => none
  | none => none
theorem AL_taY [Known] [Dfr] (hT : chk P T = true) {x : Operand} {xt at_ : TypeId} {d : D} {ti : Ti} {fs : List Fd} (hx : ev tm x = .iface at_ d) (ht : tl T at_ = some ti) (hk : ti.kd = .struct fs) (htd : Nat.blt t n = true)
    (k : AL P ops rest ⟨n, (t, .tup [d, .bool true]) :: tm, bx, fr, ee⟩ Q) : AL P ops (⟨some t, .typeAssert x xt at_ true, ty, pos, after, none⟩ :: rest) ⟨n, tm, bx, fr, ee⟩ Q :=
  AL_val _ htd (fun g a w hi => by
    have h1 : V w g fr (ev tm x) (a.eval x) := hi.ev x
    rw [hx] at h1
    obtain ⟨fields, hu, _⟩ := (tl_ok hT ht).struct hk
    generalize hv : a.eval x = v at h1
    cases h1 with
    | iface _ _ u hu' =>
      refine ⟨.tuple #[u, .bool true], ?_, .tup _ [u, .bool true] rfl fun j d' v' hd' hv' => ?_⟩
      · simp [execOp, hv, Instr.typeAssert, Sem.run_bind, run_underlying hu]
      · match j with
        | 0 => simp at hd' hv'; subst hd' hv'; exact hu'
        | 1 => simp at hd' hv'; subst hd' hv'; exact .bool true
        | j + 2 => simp at hd') k
theorem AL_taN [Known] [Dfr] (hT : chk P T = true) {x : Operand} {xt at_ : TypeId} {cs : List Value} {ti : Ti} {fs : List Fd} (hx : ev tm x = .nili) (ht : tl T at_ = some ti) (hk : ti.kd = .struct fs) (hz : zAgg P at_ = some cs) (htd : Nat.blt t n = true)
    (k : AL P ops rest ⟨n, (t, .tup [.agg (cs.map const1), .bool false]) :: tm, bx, fr, ee⟩ Q) : AL P ops (⟨some t, .typeAssert x xt at_ true, ty, pos, after, none⟩ :: rest) ⟨n, tm, bx, fr, ee⟩ Q :=
  AL_val _ htd (fun g a w hi => by
    have h1 : V w g fr (ev tm x) (a.eval x) := hi.ev x
    rw [hx] at h1
    obtain ⟨fields, hu, _⟩ := (tl_ok hT ht).struct hk
    generalize hv : a.eval x = v at h1
    have hzv : (zeroValue at_).run P w = .ok (.agg cs.toArray) w := by
      unfold zAgg at hz
      cases hi' : P.info? at_ with
      | none => simp [hi'] at hz
      | some i =>
        simp only [hi'] at hz
        cases hz' : i.zero with
        | none => simp [hz'] at hz
        | some z =>
          simp only [hz'] at hz
          cases z with
          | agg c => simp at hz; subst hz; simp [zeroValue, typeInfo, Sem.run_bind, hi', hz']
          | _ => simp at hz
    cases h1 with
    | nili =>
      refine ⟨.tuple #[.agg cs.toArray, .bool false], ?_, .tup _ [.agg cs.toArray, .bool false] rfl fun j d' v' hd' hv' => ?_⟩
      · simp [execOp, hv, Instr.typeAssert, Sem.run_bind, run_underlying hu, hzv]
      · match j with
        | 0 =>
          simp at hd' hv'; subst hd' hv'
          refine .agg _ cs (by simp) fun j d v hd hv => ?_
          rw [List.getElem?_map, hv] at hd
          simp at hd
          exact hd ▸ const1_ok _ _ _ v
        | 1 => simp at hd' hv'; subst hd' hv'; exact .bool false
        | j + 2 => simp at hd') k
/-! ### the first region of a deferred call -/
theorem upon_S {o : Oper} {K K' : Act → World → Prop} {R R' : Exit → Act → World → Prop} {r : Result Next} (h : o.upon P a K R r) (hK : ∀ a w, K a w → K' a w) (hR : ∀ c w, R (.panic c) a w → R' (.panic c) a w) (hL : LetsOut R → False) : o.upon P a K' R' r := by
  cases r with
  | ok nx w' =>
    cases nx <;> simp only [Oper.upon] at h ⊢
    case value v => exact hK _ _ h
    case skip => exact hK _ _ h
    case defer d => exact hK _ _ h
    case enter f args =>
      refine Calls.mono h (fun e w'' he => ?_)
      cases e with
      | returned u => exact hK _ _ he
      | panicked c => exact hR _ _ he
      | outgrown => exact (hL he).elim
    case row row args => exact Rows.mono h fun u w'' he => hK _ _ he
  | halt x w' =>
    cases x <;> simp only [Oper.upon] at h ⊢
    case panic u => exact hR _ _ h
theorem opsS_of_list {ops : Array Oper} {cs : List Frame} {R : Exit → Act → World → Prop} {Q' : Exit → Act → List Frame → World → Prop} (hR : ∀ e a w, R e a w → Q' e a cs w) (hL : LetsOut R → False) :
    ∀ (l : List Oper) (k : Nat) (a : Act) (w : World), (∀ j, l[j]? = ops[k + j]?) → wpList P ops R l a w → wpOpsS P ops Q' (List.range' k l.length) a cs w
  | [], k, a, w, _, h => by
    simp only [List.length_nil, List.range'_zero, wpOpsS]
    exact hR _ _ _ h
  | o :: l, k, a, w, hl, h => by
    have h0 : ops[k]? = some o := by simpa using (hl 0).symm
    have ih := fun a w => opsS_of_list hR hL l (k + 1) a w (fun j => by have := hl (j + 1); simpa [Nat.add_assoc, Nat.add_comm 1 j] using this)
    rw [List.length_cons, List.range'_succ]
    simp only [wpOpsS, h0]
    unfold wpList at h
    by_cases hw : Region.wanted o (yielded ops a.tmps) = true
    · rw [if_pos hw] at h
      rw [if_pos hw]
      rcases h with h | ⟨_, hlo⟩
      · unfold Oper.wp at h
        split
        · rename_i w' hr
          rw [hr] at h
          exact h.elim
        · exact upon_S h (fun a w h => ih a w h) (fun c w h => hR _ _ _ h) hL
      · exact (hL hlo).elim
    · rw [if_neg hw] at h
      rw [if_neg hw]
      exact ih _ _ h
end
/-- the state in which a function begins -/
theorem inv_enter [Known] {n : Nat} {args : List D} {bx : List (List D)} {fr : List Fr} {g : G} {w : World} {vs : List Value} (hle : args.length ≤ n) (hm : Mem g bx fr w) (hlen : vs.length = args.length) (hv : ∀ (j : Nat) (d : D) (v : Value), args[j]? = some d → vs[j]? = some v → V w g fr d v) :
    Inv ⟨g, fr, w⟩ ⟨n, number 0 args, bx, fr, (bx.length, fr.length)⟩ g { tmps := vs.toArray ++ Array.replicate (n - vs.toArray.size) undef, defers := [] } w := by
  refine ⟨by simp; omega, rfl, hm, fun t => ?_, Evo.refl _, by rw [hm.bl]; exact Nat.le_refl _, Nat.le_refl _⟩
  rw [look_number]
  simp only [Nat.zero_le, if_true, Nat.sub_zero]
  cases ht : args[t]? with
  | none => exact .junk _
  | some d =>
    have hlt : t < args.length := (List.getElem?_eq_some_iff.1 ht).1
    refine hv t d _ ht ?_
    have hlt2 : t < vs.length := by omega
    simp [Array.getD_getElem?, Array.getElem?_append, hlt2]
/-- what a deferred function that recovers in its first operation leaves -/
theorem CD_of [Known] {P : Program} {f : FuncId} {fn : Func} {id n t0 : Nat} {o0 : Oper} {l : List Oper} {y : Code} {args : List D} {bx : List (List D)} {fr : List Fr} {u u' : FrameMode} {dv : D} {post : St → Prop}
    (hf : P.funcs[f]? = some fn) (hb : fn.body = some ((Code.region id (o0 :: l).toArray false).seq y)) (hn : fn.ntmps = n) (hr : fn.results = #[]) (hl : Nat.ble args.length n = true) (ht : Nat.blt t0 n = true)
    (ho : o0.dst = some t0) (hg : o0.guard = none) {w : World} (hop : ∀ ρ, (execOp ρ o0).run P w = .ok .recover w) {g : G} {vs : List Value} (hm : Mem g bx fr w) (hlen : vs.length = args.length) (hv : ∀ (j : Nat) (d : D) (v : Value), args[j]? = some d → vs[j]? = some v → V w g fr d v)
    (hrec : ∀ (c₀ : Frame) (cs : List Frame), c₀.mode = u → match recoverD (c₀ :: cs) with
      | some (v, cs') => V w g fr dv v ∧ cs' = { c₀ with mode := u' } :: cs
      | none => dv = .nili ∧ u' = u)
    (h1 : AL P (o0 :: l).toArray l ⟨n, (t0, dv) :: number 0 args, bx, fr, (bx.length, fr.length)⟩ (fun x S => x = .norm ∧ AW P y S (fun x S => x = .norm ∧ post S))) :
    CallsD P f vs.toArray u w fun e u2 w' => (∃ v, e = .returned v) ∧ u2 = u' ∧ ∃ S g', Mem g' S.bx S.fr w' ∧ Evo ⟨g, fr, w⟩ ⟨g', S.fr, w'⟩ ∧ post S := by
  refine callsD_of_wpS hf hb fun c₀ cs hc => ?_
  refine wpS_seq (wpS_region ?_)
  have hi0 := inv_enter (Nat.le_of_ble_eq_true hl) hm hlen hv
  rw [hn]
  generalize ha : ({ tmps := vs.toArray ++ Array.replicate (n - vs.toArray.size) undef, defers := [] } : Act) = a at hi0
  obtain ⟨v0, cs1, hcs1, hV0, hstep⟩ : ∃ (v0 : Value) (cs1 : List Frame), cs1 = { c₀ with mode := u' } :: cs ∧ V w g fr dv v0 ∧ ∀ Q', wpOpsS P (o0 :: l).toArray Q' (List.range' 1 l.length) (a.put o0.dst v0) cs1 w → wpOpsS P (o0 :: l).toArray Q' (List.range (o0 :: l).toArray.size) a (c₀ :: cs) w := by
    have h0 : ((o0 :: l).toArray)[0]? = some o0 := by simp
    have hw : Region.wanted o0 (yielded (o0 :: l).toArray a.tmps) = true := by simp [Region.wanted, hg]
    have hsz : List.range (o0 :: l).toArray.size = 0 :: List.range' 1 l.length := by
      rw [List.range_eq_range']; simp [List.range'_succ]
    have hre := hrec c₀ cs hc
    cases hrd : recoverD (c₀ :: cs) with
    | none =>
      rw [hrd] at hre
      obtain ⟨rfl, rfl⟩ := hre
      refine ⟨.nilIface, c₀ :: cs, by subst hc; rfl, .nili, fun Q' h => ?_⟩
      rw [hsz]
      simp only [wpOpsS, h0, if_pos hw, hop, hrd]
      exact h
    | some y =>
      obtain ⟨v, cs'⟩ := y
      rw [hrd] at hre
      refine ⟨v, cs', hre.2, hre.1, fun Q' h => ?_⟩
      rw [hsz]
      simp only [wpOpsS, h0, if_pos hw, hop, hrd]
      exact h
  refine hstep _ ?_
  have hi1 : Inv ⟨g, fr, w⟩ ⟨n, (t0, dv) :: number 0 args, bx, fr, (bx.length, fr.length)⟩ g (a.put o0.dst v0) w := by
    rw [ho]; exact hi0.put ht hV0
  refine opsS_of_list (R := conc ⟨g, fr, w⟩ (fun x S => x = .norm ∧ AW P y S (fun x S => x = .norm ∧ post S))) (fun e a' w' h => ?_) (fun ⟨_, _, h⟩ => h) l 1 _ _ (fun j => by simp [Nat.add_comm 1 j]) (h1.run _ _ _ _ hi1)
  cases e with
  | normal =>
    obtain ⟨S, g', hi, _, hy⟩ := h
    refine wpS_of_wp ?_
    refine wp_mono (hy.run _ _ _ _ hi) fun e a2 w2 hc2 => ?_
    cases e with
    | normal =>
      obtain ⟨S2, g2, hi2, _, hp⟩ := hc2
      refine ⟨hi2.defers, u', hcs1, .tuple #[], by simp [results, hr, Sem.run_bind], ⟨_, rfl⟩, rfl, S2, g2, hi2.mem, hi2.evo, hp⟩
    | panic c => obtain ⟨_, _, _, _, _, _, _, h, _⟩ := hc2; cases h
    | ret => obtain ⟨_, _, _, h, _⟩ := hc2; cases h
    | exit i => obtain ⟨_, _, _, h, _⟩ := hc2; cases h
    | goto i => obtain ⟨_, _, _, h, _⟩ := hc2; cases h
    | outgrown => exact hc2.elim
  | panic c => obtain ⟨_, _, _, _, _, _, _, h, _⟩ := h; cases h
  | ret => obtain ⟨_, _, _, h, _⟩ := h; cases h
  | exit i => obtain ⟨_, _, _, h, _⟩ := h; cases h
  | goto i => obtain ⟨_, _, _, h, _⟩ := h; cases h
  | outgrown => exact h.elim
/-- code, then code behind it -/
theorem wp_split [Known] [Dfr] {P : Program} {x y : Code} {S S1 : St} {R : Exit → Act → World → Prop} {b0 : Bs} {g : G} {a : Act} {w : World} (hi : Inv b0 S g a w) (h : AW P x S (fun X S' => X = .norm ∧ S' = S1))
    (k : ∀ g a w, Inv b0 S1 g a w → y.wp P R a w) : (x.seq y).wp P R a w := by
  refine wp_seq (wp_mono (h.run _ _ _ _ hi) fun e a' w' hc => ?_)
  cases e with
  | normal => obtain ⟨S', g', hi', _, rfl⟩ := hc; exact k _ _ _ hi'
  | panic c => obtain ⟨_, _, _, _, _, _, _, h, _⟩ := hc; cases h
  | ret => obtain ⟨_, _, _, h, _⟩ := hc; cases h
  | exit i => obtain ⟨_, _, _, h, _⟩ := hc; cases h
  | goto i => obtain ⟨_, _, _, h, _⟩ := hc; cases h
  | outgrown => exact hc.elim
/-- a closure made and deferred -/
theorem wp_deferR [Known] {P : Program} {R : Exit → Act → World → Prop} {id t fd : Nat} {caps : Array Operand} {ds : List D} {ats : Array TypeId} {ty1 ty2 : Nat} {pos1 pos2 : String} {af1 af2 : Array Edge} {n : Nat} {ee : Nat × Nat} {tm : List (Nat × D)} {bx : List (List D)} {fr : List Fr} {b0 : Bs} {g : G} {a : Act} {w : World} {y : Code}
    (hi : Inv b0 ⟨n, tm, bx, fr, ee⟩ g a w) (hds : caps.toList.map (ev tm) = ds) (htd : Nat.blt t n = true)
    (k : ∀ (cvs : List Value) (a' : Act), cvs.length = ds.length → (∀ (j : Nat) (d : D) (v : Value), ds[j]? = some d → cvs[j]? = some v → V w g fr d v) →
      @Inv _ ⟨[{ target := .fn (.func fd) cvs.toArray, args := #[] }]⟩ b0 ⟨n, (t, .fn fd ds) :: tm, bx, fr, ee⟩ g a' w → y.wp P R a' w) :
    ((Code.region id #[⟨some t, .makeFunc (.func fd) #[] caps, ty1, pos1, af1, none⟩, ⟨none, .defer { callee := .value (.tmp t), args := #[], argTypes := ats }, ty2, pos2, af2, none⟩] false).seq y).wp P R a w := by
  refine wp_seq ?_
  have hcv := evs hi caps
  generalize hcvs : caps.toList.map a.eval = cvs at hcv
  have hce : caps.map a.eval = cvs.toArray := by rw [← hcvs, ← Array.toList_map, Array.toArray_toList]
  have hV : V w g fr (.fn fd ds) (.func (.func fd) #[] cvs.toArray) := .fn fd ds cvs (by rw [← hds, ← hcvs]; simp) (by rw [← hds]; exact hcv)
  have hi1 := hi.put htd hV
  have hlt : t < a.tmps.size := by rw [hi.size]; simpa using htd
  have e1 : (execOp a.eval ⟨some t, .makeFunc (.func fd) #[] caps, ty1, pos1, af1, none⟩).run P w = .ok (.value (.func (.func fd) #[] cvs.toArray)) w := by
    simp [execOp, hce, Instr.makeFunc, Sem.run_bind]
  have e2 : (execOp (a.put (some t) (.func (.func fd) #[] cvs.toArray)).eval ⟨none, .defer { callee := .value (.tmp t), args := #[], argTypes := ats }, ty2, pos2, af2, none⟩).run P w = .ok (.defer { target := .fn (.func fd) cvs.toArray, args := #[] }) w := by
    simp [execOp, resolve, Act.eval, Act.put, hlt, Deferred.ofValue, Sem.run_bind]
  refine wp_region_lit ?_
  unfold wpList
  rw [if_pos (by simp [Region.wanted])]
  refine .inl ?_
  unfold Oper.wp
  rw [e1]
  show wpList _ _ _ _ _ _
  unfold wpList
  rw [if_pos (by simp [Region.wanted])]
  refine .inl ?_
  unfold Oper.wp
  rw [e2]
  rw [Oper.upon_defer]
  refine k cvs _ (by rw [← hds, ← hcvs]; simp) (by rw [← hds]; exact hcv) ?_
  refine @Inv.mk _ ⟨[{ target := .fn (.func fd) cvs.toArray, args := #[] }]⟩ _ _ _ _ _ ?_ ?_ hi1.mem (fun t' => ?_) hi1.evo hi1.bd
  · have := hi1.size; simpa [Act.put] using this
  · have := hi1.defers
    simp only [Act.put] at this ⊢
    rw [this]; rfl
  · have := hi1.tm t'; simpa [Act.put] using this
theorem Inv.parts [Known] [Dfr] {b : Bs} {S : St} {g : G} {a : Act} {w : World} (h : Inv b S g a w) : a.tmps.size = S.n ∧ Mem g S.bx S.fr w ∧ (∀ t, V w g S.fr (look S.tm t) (a.tmps.getD t undef)) ∧ Evo b ⟨g, S.fr, w⟩ := ⟨h.size, h.mem, h.tm, h.evo⟩
/-- the results of a function whose one deferred call recovers -/
theorem leaves_one [Known] {P : Program} {fn : Func} {rs : List ResultVar} (hr : fn.results = rs.toArray) {b : Bs} (hbρ : b.g.ρ = []) (hbf : b.fr = []) {S : St} {g : G} {a : Act} {w : World} {d : Deferred} (hi : @Inv _ ⟨[d]⟩ b S g a w) {bs : List Nat} (hbs : okSel bs S.bx.length)
    {fd : FuncId} {cvs : List Value} (hd : d = { target := .fn (.func fd) cvs.toArray, args := #[] }) (hfd : isFn P fd = true) {args : List D} (hlen : cvs.length = args.length) (hV : ∀ (j : Nat) (d : D) (v : Value), args[j]? = some d → cvs[j]? = some v → V w g S.fr d v)
    {u u' : FrameMode} (hu : u ≠ .run) (hset : settle u' = .returning) {bxs bxs' : List (List D)} (hsel : selB bs [] S.bx = bxs)
    (hC : ∀ (g : G) (w : World) (vs : List Value), Mem g bxs [] w → vs.length = (args.map (D.ren (idx bs) (idx []))).length → (∀ (j : Nat) (d : D) (v : Value), (args.map (D.ren (idx bs) (idx [])))[j]? = some d → vs[j]? = some v → V w g [] d v) →
      CallsD P fd vs.toArray u w fun e u2 w' => (∃ v, e = .returned v) ∧ u2 = u' ∧ ∃ g', Mem g' bxs' [] w' ∧ Evo ⟨g, [], w⟩ ⟨g', [], w'⟩)
    {tmR : List (Nat × D)} (htm : ∀ t, V w (g.sel bs []) [] (look tmR t) (a.tmps.getD t undef)) {ds : List D} (hres : ResL P ⟨S.n, tmR, bxs', [], (0, 0)⟩ rs ds) {R : Ending → World → Prop}
    (hR : ∀ g' w' v, Evo b ⟨g', [], w'⟩ → Mem g' [] [] w' → V w' g' [] ((ret1 ds).ren (idx []) (idx [])) v → R (.returned v) w') : Leaves P fn a.tmps R [d] u w := by
  subst hd
  obtain ⟨isz, hm, itm, iev⟩ := @Inv.parts _ ⟨[{ target := .fn (.func fd) cvs.toArray, args := #[] }]⟩ b S g a w hi
  refine leaves_cons (f := fd) (args := cvs.toArray) hu (by
    have := run_callFunc' hfd cvs.toArray w
    simpa [invoke] using this) ?_
  have hms := hm.sel hbs (okSel_nil _)
  rw [hsel] at hms
  have hsF : selF [] S.fr = [] := rfl
  rw [hsF] at hms
  refine (hC (g.sel bs []) w cvs hms (by simpa using hlen) (fun j d v hd hv => ?_)).mono fun e u2 w' ⟨⟨v, he⟩, hu2, g', hm', hev⟩ => ?_
  · rw [List.getElem?_map] at hd
    cases hj : args[j]? with
    | none => simp [hj] at hd
    | some d0 =>
      simp [hj] at hd; subst hd
      have := (hV j d0 v hj hv).sel hm hbs (okSel_nil _)
      rw [hsF] at this; exact this
  · subst he hu2
    show Leaves P fn a.tmps R [] (settle u2) w'
    rw [hset]
    have hevS : Evo b ⟨g.sel bs [], [], w⟩ := by
      have := iev.sel hm hbs (okSel_nil _) (fun i hi => by rw [hbρ] at hi; simp at hi) (fun i hi => by rw [hbf] at hi; simp at hi)
      rw [hsF] at this; exact this
    have hinv : @Inv _ ⟨a.defers⟩ b ⟨S.n, tmR, bxs', [], (0, 0)⟩ g' a w' := @Inv.mk _ ⟨a.defers⟩ _ _ _ _ _ isz rfl hm' (fun t => (htm t).evo hev) (hevS.trans hev) ⟨by rw [hbρ]; simp, by rw [hbf]; simp⟩
    obtain ⟨v, hrun, hv⟩ := @results_run _ ⟨a.defers⟩ _ _ _ _ _ _ hinv _ _ hr _ hres
    refine ⟨v, hrun, hR (g'.sel [] []) w' v ?_ ?_ ?_⟩
    · have := (hevS.trans hev).sel hm' (okSel_nil bxs'.length) (okSel_nil _) (fun i hi => by rw [hbρ] at hi; simp at hi) (fun i hi => by rw [hbf] at hi; simp at hi)
      exact this
    · exact hm'.sel (okSel_nil _) (okSel_nil _)
    · exact hv.sel hm' (okSel_nil _) (okSel_nil _)
/-- a call that panics: what the variables that it is not handed hold stays -/
theorem AL_callX2 [Known] [Dfr] {P : Program} {Q : X → St → Prop} {n : Nat} {ee : Nat × Nat} {tm : List (Nat × D)} {bx : List (List D)} {fr : List Fr} {ops : Array Oper} {rest : List Oper} {ty : Nat} {pos : String} {after : Array Edge} {f : FuncId} {ars : Array Operand} {ats : Array TypeId} {t : Option Nat} {cds : List D} {p p' : D} {bxs : List (List D)} (bs : List Nat) (hX : AX P f cds bxs p) (hf : isFn P f = true)
    (hc : D.wks ((ars.toList.map (ev tm)).map (D.ren (idx bs) (idx []))) = cds) (hb : selOk bs bx.length = true) (hbx : selB bs [] bx = bxs) (hle : Nat.ble bs.length bxs.length = true) (htd : (match t with | some t => Nat.blt t n | none => true) = true) (hp : nf (p.ren (upN bs bx.length) (upN [] fr.length)) = some p')
    (k : ∀ bx2 fr2, bxs.length ≤ bx2.length → Q (.pan p') ⟨n, tm, aftB bs [] bx fr.length bx2, fr2, ee⟩) : AL P ops (⟨t, .call { callee := .value (.func f), args := ars, argTypes := ats }, ty, pos, after, none⟩ :: rest) ⟨n, tm, bx, fr, ee⟩ Q := by
  refine AL_call bs [] hf (AC.unwk (hc ▸ hX)) rfl (selOk_ok hb) (okSel_nil _) hbx rfl htd (fun d bx' fr' h => ?_) fun d0 bx' fr' h => by cases h.1
  obtain ⟨h1, h2⟩ := h
  injection h1 with h1
  subst h1
  have hle := Nat.le_of_ble_eq_true hle
  refine ⟨by omega, ?_⟩
  have e := nf_eq hp
  subst e
  exact k _ _ h2
theorem wp_split2 [Known] [Dfr] {P : Program} {x y : Code} {S : St} {R : Exit → Act → World → Prop} {b0 : Bs} {g : G} {a : Act} {w : World} (n : Nat) (tm : List (Nat × D)) (bx : List (List D)) (fr : List Fr) (ee : Nat × Nat) (hi : Inv b0 S g a w)
    (h : AW P x S (fun X S' => X = .norm ∧ S'.n = n ∧ S'.bx = bx ∧ S'.fr = fr ∧ S'.e = ee ∧ Sub S'.tm tm)) (k : ∀ g a w, Inv b0 ⟨n, tm, bx, fr, ee⟩ g a w → y.wp P R a w) : (x.seq y).wp P R a w := by
  refine wp_seq (wp_mono (h.run _ _ _ _ hi) fun e a' w' hc => ?_)
  cases e with
  | normal =>
    obtain ⟨⟨n', tm', bx', fr', ee'⟩, g', hi', _, h1, h2, h3, h4, h5⟩ := hc
    dsimp only at h1 h2 h3 h4 h5
    subst h1 h2 h3 h4
    exact k _ _ _ (hi'.sub h5)
  | panic c => obtain ⟨_, _, _, _, _, _, _, h, _⟩ := hc; cases h
  | ret => obtain ⟨_, _, _, h, _⟩ := hc; cases h
  | exit i => obtain ⟨_, _, _, h, _⟩ := hc; cases h
  | goto i => obtain ⟨_, _, _, h, _⟩ := hc; cases h
  | outgrown => exact hc.elim
theorem Inv.dl [Known] [Dfr] {b : Bs} {S : St} {g : G} {a : Act} {w : World} (h : Inv b S g a w) : a.defers = Dfr.l := h.defers
theorem Inv.rebase [Known] [Dfr] {b : Bs} {n : Nat} {tm : List (Nat × D)} {bx : List (List D)} {fr : List Fr} {ee : Nat × Nat} {g : G} {a : Act} {w : World} (h : Inv b ⟨n, tm, bx, fr, ee⟩ g a w) (p q : Nat) (hp : bx.length = p) (hq : fr.length = q) : Inv ⟨g, fr, w⟩ ⟨n, tm, bx, fr, (p, q)⟩ g a w :=
  ⟨h.size, h.defers, h.mem, h.tm, Evo.refl _, by show g.ρ.length ≤ p; rw [h.mem.bl]; exact Nat.le_of_eq hp, Nat.le_of_eq hq⟩
theorem Inv.base [Known] [Dfr] {b b1 : Bs} {S : St} {g : G} {a : Act} {w : World} (h : Inv b1 S g a w) (he : Evo b b1) (hρ : b.g.ρ = []) (hf : b.fr = []) : Inv b S g a w :=
  ⟨h.size, h.defers, h.mem, h.tm, he.trans h.evo, by rw [hρ]; simp, by rw [hf]; simp⟩
/-- a run under deferred calls -/
theorem AW_runD [Known] {P : Program} {c : Code} {S : St} {Q : X → St → Prop} {b : Bs} {g : G} {a : Act} {w : World} {R : Exit → Act → World → Prop} (df : List Deferred) (h : @AW _ ⟨df⟩ P c S Q) (hi : @Inv _ ⟨df⟩ b S g a w)
    (k1 : ∀ S g a w, @Inv _ ⟨df⟩ b S g a w → a.defers = df → Q .ret S → R .ret a w) (k2 : ∀ S g a w v d, @Inv _ ⟨df⟩ b S g a w → a.defers = df → V w g S.fr d v → Q (.pan d) S → R (.panic [{ v, recovered := false }]) a w)
    (k3 : ∀ S, Q .norm S → False) (k4 : ∀ S i, Q (.exit i) S → False) (k5 : ∀ S i, Q (.goto i) S → False) : c.wp P R a w := by
  refine wp_mono (@AW.run _ ⟨df⟩ P c S Q h b g a w hi) fun e a' w' hc => ?_
  cases e with
  | normal => obtain ⟨S', g', hi', h⟩ := hc; exact (k3 _ h).elim
  | ret => obtain ⟨S', g', hi', h⟩ := hc; exact k1 _ _ _ _ hi' (@Inv.dl _ ⟨df⟩ _ _ _ _ _ hi') h
  | exit i => obtain ⟨S', g', hi', h⟩ := hc; exact (k4 _ _ h).elim
  | goto i => obtain ⟨S', g', hi', h⟩ := hc; exact (k5 _ _ h).elim
  | panic c => obtain ⟨S', g', v, d, hi', rfl, hv, h⟩ := hc; exact k2 _ _ _ _ v d hi' (@Inv.dl _ ⟨df⟩ _ _ _ _ _ hi') hv h
  | outgrown => exact hc.elim
end Go.Av
end
/- Package request: which requests may be. -/
section
open Go.RowKit Go.Pl Go.Av
namespace Go.Proofs.YtnihobjehelagaaDoor
set_option linter.unusedVariables false
set_option linter.unusedSimpArgs false
set_option maxHeartbeats 4000000
structure RqV where
  id : Nat
  kd : Int
  ep : EidV
  ds : EidV
  pol : Int
  num : Int
  tik : Int
  pay : List UInt8
  life : Nat
  tok : Nat
  on : Bool
abbrev rqC (x : RqV) : List D := [.int .u64 (x.id : Int), .int .i64 x.kd, .bool x.ep.i, .int .u64 (x.ep.n : Int), .int .u64 (x.ep.s : Int), .str x.ep.h, .str x.ep.d, .bool x.ds.i, .int .u64 (x.ds.n : Int), .int .u64 (x.ds.s : Int), .str x.ds.h, .str x.ds.d, .int .i64 x.pol, .int .i64 x.num, .int .i64 x.tik, byE x.pay, .int .u64 (x.life : Int), .int .u64 (x.tok : Int), .bool x.on]
/-- a name that is one -/
def isNm (x : EidV) : Bool := eRight x && !(isZ x)
theorem av_isName [Known] (x : EidV) : AP Tryd.prog 115 [.agg (eC x)] (.bool (isNm x)) [] := by
  have hR := av_eRight x
  unfold isNm
  cases hr : eRight x with
  | false =>
    rw [hr] at hR
    refine AP.ofA ?_
    refine AC_of Tryd.func115 rfl Tryd.ntmps115 rfl rfl ?_
    repeat' (first | (apply AL_callPw (hR); kernel_rfl; (iterate 4 exact rfl)) | (apply AL_move; exact rfl; exact rfl) | (apply AL_assign; exact rfl; exact rfl) | (apply AL_loadn ttok; (iterate 7 exact rfl)) | (apply AL_box; (iterate 5 exact rfl)) | refine AL_nil ?_ | (apply AL_guardFt; (iterate 3 exact rfl); (first | with_reducible assumption | decide +kernel)) | (apply AL_pickF; exact rfl; (first | with_reducible assumption | decide +kernel); exact rfl; exact rfl) | refine AW_region ?_ | refine AW_seq' ?_ | refine then_norm ?_ | refine AW_ret ?_)
    all_goals (apply endQ []; (repeat (first | exact ResL.nil | (apply ResL.cons; first | exact .tmp _ _ rfl | (apply res_n ttok; (iterate 6 exact rfl)) | (apply res_1 ttok; (iterate 5 exact rfl))))); (iterate 4 exact rfl))
    all_goals rfl
  | true =>
    rw [hr] at hR
    refine AP.ofA ?_
    refine AC_of Tryd.func115 rfl Tryd.ntmps115 rfl rfl ?_
    repeat' (first | (apply AL_callPw (hR); kernel_rfl; (iterate 4 exact rfl)) | (apply AL_move; exact rfl; exact rfl) | (apply AL_assign; exact rfl; exact rfl) | (apply AL_loadn ttok; (iterate 7 exact rfl)) | (apply AL_box; (iterate 5 exact rfl)) | refine AL_nil ?_ | (apply AL_guardT; (iterate 3 exact rfl); (first | with_reducible assumption | decide +kernel)) | (apply AL_pickT; exact rfl; (first | with_reducible assumption | decide +kernel); exact rfl; exact rfl) | refine AW_region ?_ | refine AW_seq' ?_ | refine then_norm ?_ | refine AW_ret ?_ | (apply AL_build ttok; (iterate 6 exact rfl)) | (apply AL_eqS ttok; (iterate 4 exact rfl); (kernel_rfl); (kernel_rfl); (iterate 3 exact rfl)))
    all_goals (apply endQ []; (repeat (first | exact ResL.nil | (apply ResL.cons; first | exact .tmp _ _ rfl | (apply res_n ttok; (iterate 6 exact rfl)) | (apply res_1 ttok; (iterate 5 exact rfl))))); (iterate 4 exact rfl))
    all_goals rfl
def rqSame (a b : RqV) : Bool := ((a.id : Int) == (b.id : Int)) && ((a.kd == b.kd) && (eqE a.ep b.ep && (eqE a.ds b.ds && ((a.pol == b.pol) && ((a.num == b.num) && ((a.tik == b.tik) && ((a.pay == b.pay) && (((a.life : Int) == (b.life : Int)) && (((a.tok : Int) == (b.tok : Int)) && (a.on == b.on))))))))))
theorem av_rqSame [Known] (a b : RqV) : AP Tryd.prog 48 [.agg (rqC a), .agg (rqC b)] (.bool (rqSame a b)) [] := by
  have hB := av_bEq a.pay b.pay
  unfold rqSame eqE
  refine AP.ofA ?_
  refine AC_of Tryd.func48 rfl Tryd.ntmps48 rfl rfl ?_
  repeat' (first | (apply AL_callPw (hB); kernel_rfl; (iterate 4 exact rfl)) | (apply AL_move; exact rfl; exact rfl) | (apply AL_assign; exact rfl; exact rfl) | (apply AL_bin; (iterate 5 exact rfl)) | (apply AL_load1 ttok; (iterate 6 exact rfl)) | (apply AL_loadn ttok; (iterate 7 exact rfl)) | (apply AL_fieldAddr ttok; (iterate 7 exact rfl)) | (apply AL_box; (iterate 5 exact rfl)) | refine AL_nil ?_ | (apply AL_guardT; (iterate 3 exact rfl); (first | with_reducible assumption | (guard_target =ₛ true = true; rfl) | (guard_target =ₛ false = false; rfl) | (guard_target =ₛ (!true) = false; rfl) | (guard_target =ₛ (!false) = true; rfl))) | (apply AL_guardFt; (iterate 3 exact rfl); (first | with_reducible assumption | (guard_target =ₛ true = true; rfl) | (guard_target =ₛ false = false; rfl) | (guard_target =ₛ (!true) = false; rfl) | (guard_target =ₛ (!false) = true; rfl))) | (apply AL_guardS; exact rfl; exact rfl; all_goals intro hb) | (apply AL_pickT; exact rfl; (first | with_reducible assumption | (guard_target =ₛ true = true; rfl) | (guard_target =ₛ false = false; rfl) | (guard_target =ₛ (!true) = false; rfl) | (guard_target =ₛ (!false) = true; rfl)); exact rfl; exact rfl) | (apply AL_pickF; exact rfl; (first | with_reducible assumption | (guard_target =ₛ true = true; rfl) | (guard_target =ₛ false = false; rfl) | (guard_target =ₛ (!true) = false; rfl) | (guard_target =ₛ (!false) = true; rfl)); exact rfl; exact rfl) | refine AW_region ?_ | refine AW_seq' ?_ | refine then_norm ?_ | refine AW_ret ?_ | (apply AL_beq ttok; (iterate 6 exact rfl)) | (apply AL_eqS ttok; (iterate 4 exact rfl); (kernel_rfl); (kernel_rfl); (iterate 3 exact rfl)))
  all_goals (apply endQ []; (repeat (first | exact ResL.nil | (apply ResL.cons; first | exact .tmp _ _ rfl | (apply res_n ttok; (iterate 6 exact rfl)) | (apply res_1 ttok; (iterate 5 exact rfl))))); (iterate 4 exact rfl))
  all_goals first | rfl | (simp only [*, Bool.true_and, Bool.false_and]; done)
theorem kcase (k : Int) : k = 1 ∨ k = 2 ∨ k = 3 ∨ k = 4 ∨ k = 5 ∨ k = 6 ∨ k = 7 ∨ k = 8 ∨ k = 9 ∨ k = 10 ∨ k = 11 ∨ k = 12 ∨ ((k == 1) = false ∧ (k == 2) = false ∧ (k == 3) = false ∧ (k == 4) = false ∧ (k == 5) = false ∧ (k == 6) = false ∧ (k == 7) = false ∧ (k == 8) = false ∧ (k == 9) = false ∧ (k == 10) = false ∧ (k == 11) = false ∧ (k == 12) = false) := by
  simp only [beq_eq_false_iff_ne]; omega
/-- a request with just an ID and a kind -/
abbrev rqZ (x : RqV) : RqV := ⟨x.id, x.kd, eidZ, eidZ, 0, 0, 0, [], 0, 0, false⟩
def rqOwn (x : RqV) : RqV :=
  if x.kd == 1 || x.kd == 3 then { rqZ x with ep := x.ep, pol := x.pol }
  else if x.kd == 2 || x.kd == 6 then { rqZ x with ep := x.ep }
  else if x.kd == 4 then { rqZ x with ep := x.ep, ds := x.ds, pay := x.pay, life := x.life, on := x.on }
  else if x.kd == 5 || (x.kd == 8 || x.kd == 9) then { rqZ x with num := x.num }
  else if x.kd == 7 then { rqZ x with ep := x.ep, tik := x.tik }
  else if x.kd == 10 then { rqZ x with on := x.on }
  else if x.kd == 12 then { rqZ x with tok := x.tok }
  else rqZ x
def rqParts (x : RqV) : Bool :=
  if x.kd == 1 || x.kd == 3 then isNm x.ep && (decide (x.pol ≥ 0) && decide (x.pol ≤ 2))
  else if x.kd == 2 || x.kd == 6 then isNm x.ep
  else if x.kd == 4 then isNm x.ep && (isNm x.ds && (decide ((x.pay.length : Int) ≤ 200) && (decide ((x.life : Int) ≥ 1) && decide ((x.life : Int) ≤ 1099511627776))))
  else if x.kd == 5 || (x.kd == 8 || x.kd == 9) then decide (x.num ≥ 1) && decide (x.num ≤ 1099511627776)
  else if x.kd == 7 then isNm x.ep && (decide (x.tik ≥ 1) && decide (x.tik ≤ 1000))
  else if x.kd == 12 then decide ((x.tok : Int) ≥ 1) && decide ((x.tok : Int) ≤ 2147483648)
  else x.kd == 10 || x.kd == 11
end Go.Proofs.YtnihobjehelagaaDoor
end
/- Arguments: structs of any number of fields. -/
section
open Go.RowKit Go.Pl
namespace Go.Pl
set_option linter.unusedSimpArgs false
set_option linter.unusedVariables false
/-- the cells from a field on read as R -/
def OpensF {α : Type} (P : Program) (fs : Array Field) (i o : Nat) (R : Rep α) : Prop :=
  ∀ (H : Type) (enc : TypeId × Value → H) (W : World) (spare : Nat → Bool) (held : Bool) (n : Nat) (cs : List Value) (xs : List (DataW H × List MemPlace)), cs.length = o + R.n → xs.length = fs.size →
    (∀ (j : Nat) (f : Field), fs[j]? = some f → DataW.trod enc P W 0 spare held n f.type ((cs.drop f.offset).take (P.cellsOf f.type)) = xs[j]?) → ∃ x, R.ok W (· < W.heap.size) (cs.drop o) x
variable {P : Program} {t : TypeId} {fs : Array Field}
theorem opensF_at {α : Type} {R : Rep α} {i o : Nat} {f : Field} (hf : fs[i]? = some f) (ho : f.offset = o) (hc : P.cellsOf f.type = R.n) (h : Opens P f.type R) {H : Type} {enc : TypeId × Value → H} {W : World} {spare : Nat → Bool} {held : Bool} {n : Nat} {cs : List Value} {xs : List (DataW H × List MemPlace)} (hl : xs.length = fs.size)
    (hg : ∀ (j : Nat) (f : Field), fs[j]? = some f → DataW.trod enc P W 0 spare held n f.type ((cs.drop f.offset).take (P.cellsOf f.type)) = xs[j]?) : ∃ x, R.ok W (· < W.heap.size) ((cs.drop o).take R.n) x := by
  have e := hg i f hf
  rw [ho, hc] at e
  have hi : i < xs.length := by
    rw [hl]
    exact (Array.getElem?_eq_some_iff.1 hf).1
  exact h H enc W spare held n _ _ (e.trans (List.getElem?_eq_getElem hi))
theorem opensF_one {α : Type} {R : Rep α} {i o : Nat} {f : Field} (hf : fs[i]? = some f) (ho : f.offset = o) (hc : P.cellsOf f.type = R.n) (h : Opens P f.type R) : OpensF P fs i o R := by
  intro H enc W spare held n cs xs hcl hl hg
  obtain ⟨x, hx⟩ := opensF_at hf ho hc h hl hg
  rw [List.take_of_length_le (by rw [List.length_drop]; omega)] at hx
  exact ⟨x, hx⟩
theorem opensF_cons {α β : Type} {R : Rep α} {R' : Rep β} {i o : Nat} {f : Field} (hf : fs[i]? = some f) (ho : f.offset = o) (hc : P.cellsOf f.type = R.n) (h : Opens P f.type R) (h' : OpensF P fs (i + 1) (o + R.n) R') : OpensF P fs i o (R.prod R') := by
  intro H enc W spare held n cs xs hcl hl hg
  obtain ⟨x, hx⟩ := opensF_at hf ho hc h hl hg
  have hn : (R.prod R').n = R.n + R'.n := rfl
  obtain ⟨x', hx'⟩ := h' H enc W spare held n cs xs (by rw [hn] at hcl; omega) hl hg
  refine ⟨(x, x'), (cs.drop o).take R.n, (cs.drop o).drop R.n, (List.take_append_drop _ _).symm, hx, ?_⟩
  rw [List.drop_drop]
  exact hx'
theorem opens_struct {α : Type} {R : Rep α} (hs : P.underlying t = some (.struct fs)) (hc : P.cellsOf t = R.n) (h : OpensF P fs 0 0 R) : Opens P t R := by
  intro H enc W spare held fuel cs y hy
  obtain ⟨xs, n, _, _, hl, hxl, hg⟩ := DataW.trod_struct hs hy
  exact h H enc W spare held n cs xs (by omega) hxl hg
end Go.Pl
end
/- A request as an argument. -/
section
open Go.RowKit Go.Pl Go.Av
namespace Go.Proofs.YtnihobjehelagaaDoor
set_option linter.unusedVariables false
set_option linter.unusedSimpArgs false
set_option maxHeartbeats 4000000
abbrev RQ : Rep (Nat × Int × XE × XE × Int × Int × Int × List UInt8 × Nat × Nat × Bool) :=
  Rep.u64.prod (Rep.i64.prod (RE.prod (RE.prod (Rep.i64.prod (Rep.i64.prod (Rep.i64.prod ((Rep.slice Rep.byte (by decide)).prod (Rep.u64.prod (Rep.u64.prod Rep.bool)))))))))
theorem openBy : Opens Tryd.prog 23 (Rep.slice Rep.byte (by decide)) := opens_slice (R := Rep.byte) (by decide) Tryd.underlying23 (by kernel_rfl) (opens_byte Tryd.underlying5)
theorem openQ : Opens Tryd.prog 79 RQ :=
  opens_struct Tryd.underlying79 (by kernel_rfl) (opensF_cons rfl rfl (by kernel_rfl) (opens_u64 Tryd.underlying22) (opensF_cons rfl rfl (by kernel_rfl) (opens_i64 Tryd.underlying3)
    (opensF_cons rfl rfl (by kernel_rfl) openE (opensF_cons rfl rfl (by kernel_rfl) openE (opensF_cons rfl rfl (by kernel_rfl) (opens_i64 Tryd.underlying3) (opensF_cons rfl rfl (by kernel_rfl) (opens_i64 Tryd.underlying3) (opensF_cons rfl rfl (by kernel_rfl) (opens_i64 Tryd.underlying3)
      (opensF_cons rfl rfl (by kernel_rfl) openBy (opensF_cons rfl rfl (by kernel_rfl) (opens_u64 Tryd.underlying22) (opensF_cons rfl rfl (by kernel_rfl) (opens_u64 Tryd.underlying22) (opensF_one rfl rfl (by kernel_rfl) (opens_bool Tryd.underlying4))))))))))))
abbrev XQ := Nat × Int × XE × XE × Int × Int × Int × List UInt8 × Nat × Nat × Bool
def XQ.v (x : XQ) : RqV := ⟨x.1, x.2.1, x.2.2.1.v, x.2.2.2.1.v, x.2.2.2.2.1, x.2.2.2.2.2.1, x.2.2.2.2.2.2.1, x.2.2.2.2.2.2.2.1, x.2.2.2.2.2.2.2.2.1, x.2.2.2.2.2.2.2.2.2.1, x.2.2.2.2.2.2.2.2.2.2⟩
theorem rq_V [Known] {W : World} {cs : List Value} {x : XQ} (h : RQ.ok W (· < W.heap.size) cs x) : V W (g0 W) [] (.agg (rqC x.v)) (.agg cs.toArray) := by
  obtain ⟨id, kd, ⟨ei, en, es, eh, ed⟩, ⟨di, dn, dq, dh, dd⟩, pol, num, tik, pay, life, tok, on⟩ := x
  have toE_rq := ToE.u64.prod (ToE.i64.prod (toE_eid.prod (toE_eid.prod (ToE.i64.prod (ToE.i64.prod (ToE.i64.prod ((ToE.byte.slice (by decide)).prod (ToE.u64.prod (ToE.u64.prod ToE.bool)))))))))
  exact ToE.agg toE_rq (l := [.int .u64 (id : Int), .int .i64 kd, .bool ei, .int .u64 (en : Int), .int .u64 (es : Int), .str eh, .str ed, .bool di, .int .u64 (dn : Int), .int .u64 (dq : Int), .str dh, .str dd, .int .i64 pol, .int .i64 num, .int .i64 tik, .sl (pay.map E.byte), .int .u64 (life : Int), .int .u64 (tok : Int), .bool on]) rfl h
end Go.Proofs.YtnihobjehelagaaDoor
end
/- Bytes as an argument. -/
section
open Go.RowKit Go.Pl Go.Av
namespace Go.Proofs.YtnihobjehelagaaDoor
set_option linter.unusedVariables false
set_option linter.unusedSimpArgs false
set_option maxHeartbeats 4000000
theorem bytes_V {W : World} {v : Value} {b : List UInt8} (h : Sl Rep.byte W (· < W.heap.size) v b) : V W (g0 W) [] (byE b) v := .sl .ext _ _ (ToE.byte.sl (C := (g0 W).C) (fun k hk o => hk) h) trivial
end Go.Proofs.YtnihobjehelagaaDoor
end
/- Package fields: numbers as bytes, plain. -/
section
open Go.RowKit Go.Pl Go.Av
namespace Go.Proofs.YtnihobjehelagaaDoor
set_option linter.unusedVariables false
set_option linter.unusedSimpArgs false
/-- a number's bytes: seven bits each, the lowest first -/
def vnF : Nat → Nat → List UInt8
  | 0, n => [UInt8.ofNat n]
  | f + 1, n => if n > 127 then UInt8.ofNat (n % 128 + 128) :: vnF f (n / 128) else [UInt8.ofNat n]
def vn (n : Nat) : List UInt8 := vnF 9 n
theorem vnF_len : ∀ f n, (vnF f n).length ≤ f + 1 ∧ 0 < (vnF f n).length
  | 0, n => by simp [vnF]
  | f + 1, n => by
    rw [vnF]
    split
    · have := vnF_len f (n / 128); simp; omega
    · simp
/-- the number at the beginning, the fault, and what is left -/
def rnF : List UInt8 → Nat → Nat → Nat × Nat × List UInt8
  | [], _, _ => (0, 8, [])
  | c :: r, i, a => if i = 10 ∨ (i = 9 ∧ c.toNat > 1) ∨ (c.toNat = 0 ∧ i > 0) then (0, 3, r)
    else if c.toNat < 128 then (a + c.toNat % 128 * 2 ^ (7 * i), 0, r) else rnF r (i + 1) (a + c.toNat % 128 * 2 ^ (7 * i))
theorem rnF_vn : ∀ (f n i a : Nat) (r : List UInt8), i + f = 9 → n * 2 ^ (7 * i) < 18446744073709551616 → (i > 0 → n > 0) → rnF (vnF f n ++ r) i a = (a + n * 2 ^ (7 * i), 0, r)
  | 0, n, i, a, r, hi, hn, hp => by
    obtain rfl : i = 9 := by omega
    have h2 : n < 2 := by
      have : n * 9223372036854775808 < 18446744073709551616 := hn
      omega
    have hp := hp (by omega)
    obtain rfl : n = 1 := by omega
    rw [vnF, List.cons_append, List.nil_append, rnF, if_neg (by decide), if_pos (by decide)]
    rfl
  | f + 1, n, i, a, r, hi, hn, hp => by
    rw [vnF]
    by_cases h : n > 127
    · rw [if_pos h, List.cons_append, rnF]
      have hc : (UInt8.ofNat (n % 128 + 128)).toNat = n % 128 + 128 := by rw [UInt8.toNat_ofNat']; omega
      rw [hc, if_neg (by omega), if_neg (by omega)]
      have hpow : 2 ^ (7 * (i + 1)) = 128 * 2 ^ (7 * i) := by rw [Nat.mul_add, Nat.pow_add, Nat.mul_comm]
      have hle : n / 128 * 2 ^ (7 * (i + 1)) ≤ n * 2 ^ (7 * i) := by
        rw [hpow, ← Nat.mul_assoc]
        exact Nat.mul_le_mul_right _ (by omega)
      rw [rnF_vn f (n / 128) (i + 1) _ r (by omega) (by omega) (by omega)]
      congr 1
      rw [hpow, Nat.add_assoc, show (n % 128 + 128) % 128 = n % 128 by omega, ← Nat.mul_assoc, ← Nat.add_mul, show n % 128 + n / 128 * 128 = n by omega]
    · rw [if_neg h, List.cons_append, List.nil_append, rnF]
      have hc : (UInt8.ofNat n).toNat = n := by rw [UInt8.toNat_ofNat']; omega
      rw [hc, if_neg (by omega), if_pos (by omega), Nat.mod_eq_of_lt (by omega)]
/-- what is read is what stands ahead of the rest -/
theorem rnF_len : ∀ (b : List UInt8) (i a : Nat), (rnF b i a).2.2.length ≤ b.length
  | [], _, _ => by simp [rnF]
  | c :: r, i, a => by
    rw [rnF]
    split
    · simp
    · split
      · simp
      · have := rnF_len r (i + 1) (a + c.toNat % 128 * 2 ^ (7 * i)); simp; omega
theorem rnF_lt : ∀ (b : List UInt8) (i a : Nat), a < 2 ^ (7 * i) → i ≤ 10 → (rnF b i a).1 < 18446744073709551616
  | [], _, _, _, _ => by simp [rnF]
  | c :: r, i, a, ha, hi => by
    rw [rnF]
    split
    · simp
    · rename_i h
      have hc := c.toNat_lt
      have hpow : 2 ^ (7 * (i + 1)) = 128 * 2 ^ (7 * i) := by rw [Nat.mul_add, Nat.pow_add, Nat.mul_comm]
      have h1 : a + c.toNat % 128 * 2 ^ (7 * i) < 2 ^ (7 * (i + 1)) := by
        rw [hpow]
        have : c.toNat % 128 * 2 ^ (7 * i) ≤ 127 * 2 ^ (7 * i) := Nat.mul_le_mul_right _ (by omega)
        omega
      have h9 : i ≤ 9 := by omega
      split
      · rcases Nat.lt_or_ge i 9 with h8 | h8
        · have : 2 ^ (7 * (i + 1)) ≤ 2 ^ 63 := Nat.pow_le_pow_right (by decide) (by omega)
          show a + c.toNat % 128 * 2 ^ (7 * i) < _
          omega
        · obtain rfl : i = 9 := by omega
          have hc1 : c.toNat ≤ 1 := by omega
          have h2 : a < 9223372036854775808 := ha
          show a + c.toNat % 128 * 9223372036854775808 < _
          have : c.toNat % 128 ≤ 1 := by omega
          omega
      · exact rnF_lt r (i + 1) _ h1 (by omega)
theorem or_sum (a x k : Nat) (ha : a < 2 ^ k) : a ||| x * 2 ^ k = a + x * 2 ^ k := by
  rw [Nat.or_comm, Nat.mul_comm, ← Nat.two_pow_add_eq_or_of_lt ha x]; omega
theorem and127 : ∀ n : Nat, n < 256 → n &&& 127 = n % 128 := by decide +kernel
theorem and128 : ∀ n : Nat, n < 256 → (n &&& 128 == 0) = decide (n < 128) := by decide +kernel
theorem or128 : ∀ n : Nat, n < 256 → n ||| 128 = n % 128 + 128 := by decide +kernel
theorem u8_127 (c : UInt8) : bits .and .u8 (c.toNat : Int) 127 = ((c.toNat % 128 : Nat) : Int) := by
  rw [← and127 _ c.toNat_lt]
  exact u8_and_nat _ 127 c.toNat_lt (by decide)
theorem u8_128 (c : UInt8) : bits .and .u8 (c.toNat : Int) 128 = ((c.toNat &&& 128 : Nat) : Int) := u8_and_nat _ 128 c.toNat_lt (by decide)
theorem t_128 (c : UInt8) : ((bits .and .u8 (c.toNat : Int) 128) == 0) = decide (c.toNat < 128) := by
  rw [u8_128, ← and128 _ c.toNat_lt, Bool.eq_iff_iff, beq_iff_eq, beq_iff_eq]
  omega
theorem w_low (n : Nat) : IntKind.u8.wrap (n : Int) = ((n % 256 : Nat) : Int) := by rw [IntKind.wrap_u8]; omega
theorem w_or (n : Nat) : bits .or .u8 (IntKind.u8.wrap (n : Int)) 128 = ((UInt8.ofNat (n % 128 + 128)).toNat : Int) := by
  have hc : (UInt8.ofNat (n % 128 + 128)).toNat = n % 128 + 128 := by rw [UInt8.toNat_ofNat']; omega
  rw [w_low, hc]
  have := u8_or_nat (n % 256) 128 (by omega) (by decide)
  rw [or128 _ (by omega), show n % 256 % 128 = n % 128 by omega] at this
  exact this
theorem shr7 (n : Nat) : (n : Int).fdiv (2 ^ min (Int.toNat 7) IntKind.u64.bits) = ((n / 128 : Nat) : Int) := by
  have e : (2 ^ min (Int.toNat 7) IntKind.u64.bits : Int) = 128 := by decide
  rw [e, Int.fdiv_eq_ediv_of_nonneg _ (by omega)]
  omega
theorem r_or {a i : Nat} (c : UInt8) (ha : a < 2 ^ (7 * i)) (hi : i ≤ 9) (h9 : i = 9 → c.toNat ≤ 1) : bits .or .u64 (a : Int) (IntKind.u64.wrap (IntKind.u64.wrap ((c.toNat % 128 : Nat) : Int) * 2 ^ min (IntKind.i64.wrap (7 * (i : Int))).toNat IntKind.u64.bits)) = ((a + c.toNat % 128 * 2 ^ (7 * i) : Nat) : Int) := by
  have e0 : IntKind.i64.wrap (7 * (i : Int)) = ((7 * i : Nat) : Int) := by rw [IntWalk.i64_in _ (by omega)]; omega
  have e1 : min (7 * i) IntKind.u64.bits = 7 * i := Nat.min_eq_left (by show 7 * i ≤ 64; omega)
  have e2 : IntKind.u64.wrap ((c.toNat % 128 : Nat) : Int) = ((c.toNat % 128 : Nat) : Int) := IntWalk.u64_in _ (by omega)
  have e3 : (((c.toNat % 128 : Nat) : Int) * 2 ^ (7 * i)) = ((c.toNat % 128 * 2 ^ (7 * i) : Nat) : Int) := by simp
  have hlt : c.toNat % 128 * 2 ^ (7 * i) < 18446744073709551616 ∧ a < 18446744073709551616 := by
    rcases Nat.lt_or_ge i 9 with h8 | h8
    · have h1 : 2 ^ (7 * i) ≤ 2 ^ 56 := Nat.pow_le_pow_right (by decide) (by omega)
      have h2 : c.toNat % 128 * 2 ^ (7 * i) ≤ 127 * 2 ^ 56 := Nat.mul_le_mul (by omega) h1
      omega
    · obtain rfl : i = 9 := by omega
      have := h9 rfl
      have h2 : a < 9223372036854775808 := ha
      constructor
      · show c.toNat % 128 * 9223372036854775808 < _
        have : c.toNat % 128 ≤ 1 := by omega
        omega
      · omega
  rw [e0, Int.toNat_natCast, e1, e2, e3, IntWalk.u64_in _ (by omega), u64_or_nat _ _ hlt.2 hlt.1, or_sum _ _ _ ha]
end Go.Proofs.YtnihobjehelagaaDoor
end

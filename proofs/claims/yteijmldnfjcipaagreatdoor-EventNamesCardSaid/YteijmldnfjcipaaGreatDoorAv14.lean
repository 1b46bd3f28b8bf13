/- Structs compared, said of abstract states. -/
import Derived.Test.YteijmldnfjcipaaGreatDoorAv13
open Go.RowKit Go.Pl
namespace Go.Av
set_option linter.unusedSimpArgs false
set_option linter.unusedVariables false
/-- one cell against another -/
def eq1 : ZK → D → D → Option Bool
  | .b, .bool a, .bool b => some (a == b)
  | .i k, .int k1 a, .int k2 b => if k1 = k then if k2 = k then some (a == b) else none else none
  | .s, .str a, .str b => some (a == b)
  | _, _, _ => none
def eqL : List ZK → List D → List D → Option Bool
  | [], [], [] => some true
  | k :: ks, a :: l, b :: l' => match eq1 k a b, eqL ks l l' with
    | some p, some q => some (p && q)
    | _, _ => none
  | _, _, _ => none
/-- which cells a type's values have, if they are compared cell by cell -/
def kgo (P : Program) (kd : TypeId → Option (List ZK)) : List ZK → List Field → Option (List ZK)
  | acc, [] => some acc
  | acc, f :: fs => if f.name ≠ "_" ∧ f.offset = acc.length then match kd f.type with
      | some ks => if tSize P f.type = some ks.length then kgo P kd (acc ++ ks) fs else none
      | none => none
    else none
def kinds (P : Program) : Nat → TypeId → Option (List ZK)
  | 0, _ => none
  | d + 1, t => match P.underlying t with
    | some .bool => some [.b]
    | some (.int k) => some [.i k]
    | some .string => some [.s]
    | some (.struct fs) => if P.stoodInHeld t = true then none else kgo P (kinds P d) [] fs.toList
    | _ => none
theorem kgo_pre {P : Program} {kd : TypeId → Option (List ZK)} : ∀ {fs : List Field} {acc full : List ZK}, kgo P kd acc fs = some full → ∃ rest, full = acc ++ rest
  | [], acc, full, h => ⟨[], by simp [kgo] at h; simp [h]⟩
  | f :: fs, acc, full, h => by
    simp only [kgo] at h
    split at h
    · cases hk : kd f.type with
      | none => simp [hk] at h
      | some ks =>
        simp only [hk] at h
        split at h
        · obtain ⟨rest, hr⟩ := kgo_pre h
          exact ⟨ks ++ rest, by rw [hr, List.append_assoc]⟩
        · cases h
    · cases h
theorem eqL_app : ∀ {ks ks' : List ZK} {a b : List D} {r : Bool}, eqL (ks ++ ks') a b = some r → ∃ p q, eqL ks (a.take ks.length) (b.take ks.length) = some p ∧ eqL ks' (a.drop ks.length) (b.drop ks.length) = some q ∧ r = (p && q)
  | [], ks', a, b, r, h => ⟨true, r, by simp [eqL], by simpa using h, by simp⟩
  | k :: ks, ks', x :: a, y :: b, r, h => by
    simp only [List.cons_append, eqL] at h
    cases h1 : eq1 k x y with
    | none => simp [h1] at h
    | some p =>
      cases h2 : eqL (ks ++ ks') a b with
      | none => simp [h1, h2] at h
      | some q =>
        simp [h1, h2] at h
        subst h
        obtain ⟨p', q', e1, e2, e3⟩ := eqL_app h2
        exact ⟨p && p', q', by simp [eqL, h1, e1], by simpa using e2, by rw [e3, Bool.and_assoc]⟩
  | k :: ks, ks', [], b, r, h => by simp [eqL] at h
  | k :: ks, ks', x :: a, [], r, h => by simp [eqL] at h
theorem eqL_len : ∀ {ks : List ZK} {a b : List D} {r : Bool}, eqL ks a b = some r → a.length = ks.length ∧ b.length = ks.length
  | [], [], [], r, h => ⟨rfl, rfl⟩
  | k :: ks, x :: a, y :: b, r, h => by
    simp only [eqL] at h
    cases h1 : eq1 k x y with
    | none => simp [h1] at h
    | some p =>
      cases h2 : eqL ks a b with
      | none => simp [h1, h2] at h
      | some q =>
        obtain ⟨h3, h4⟩ := eqL_len h2
        exact ⟨by simp [h3], by simp [h4]⟩
  | [], _ :: _, _, r, h => by simp [eqL] at h
  | [], [], _ :: _, r, h => by simp [eqL] at h
  | k :: ks, [], b, r, h => by simp [eqL] at h
  | k :: ks, x :: a, [], r, h => by simp [eqL] at h
section
variable {P : Program} {Q : X → St → Prop} {n : Nat} {ee : Nat × Nat} {tm : List (Nat × D)} {bx bx' : List (List D)} {fr fr' : List Fr} {b0 : Bs} {g : G} {w : World} {a : Act} {T : Tab}
variable {ops : Array Oper} {rest : List Oper} {t ty : Nat} {pos : String} {after : Array Edge}
/-- cells that hold so -/
def Holds (w : World) (g : G) (fr : List Fr) (l : List D) (vs : List Value) : Prop := vs.length = l.length ∧ ∀ (j : Nat) (d : D) (v : Value), l[j]? = some d → vs[j]? = some v → V w g fr d v
theorem Holds.sub {l : List D} {vs : List Value} (h : Holds w g fr l vs) (o k : Nat) : Holds w g fr ((l.drop o).take k) ((vs.drop o).take k) := by
  refine ⟨by simp [h.1], fun j d v hd hv => ?_⟩
  have hd' : j < k ∧ l[o + j]? = some d := by simpa [List.getElem?_take] using hd
  have hv' : j < k ∧ vs[o + j]? = some v := by simpa [List.getElem?_take] using hv
  exact h.2 _ d v hd'.2 hv'.2
theorem run_kinds : ∀ (d : Nat) (t : TypeId) (dd : Nat) (ks : List ZK) (l l' : List D) (vs vs' : List Value) (x y : Value) (r : Bool), kinds P d t = some ks → d ≤ dd → Holds w g fr l vs → Holds w g fr l' vs' → eqL ks l l' = some r →
    (tAgg P t = some true → x = .agg vs.toArray ∧ y = .agg vs'.toArray) → (tAgg P t = some false → vs = [x] ∧ vs' = [y]) → (Op.equalIn dd t x y).run P w = .ok r w := by
  intro d
  induction d with
  | zero => intro t dd ks l l' vs vs' x y r h; simp [kinds] at h
  | succ d ih =>
    intro t dd ks l l' vs vs' x y r h hdd hl hl' he hA hS
    obtain ⟨dd, rfl⟩ : ∃ k, dd = k + 1 := ⟨dd - 1, by omega⟩
    have sc : ∀ k, ks = [k] → tAgg P t = some false → ∃ p q, V w g fr p x ∧ V w g fr q y ∧ eq1 k p q = some r := fun k hk hAf => by
      subst hk
      obtain ⟨rfl, rfl⟩ := hS hAf
      obtain ⟨h1, h2⟩ := eqL_len he
      match l, l', h1, h2 with
      | [p], [q], _, _ =>
        refine ⟨p, q, hl.2 0 p x rfl rfl, hl'.2 0 q y rfl rfl, ?_⟩
        cases h5 : eq1 k p q with
        | none => simp [eqL, h5] at he
        | some b => simp [eqL, h5] at he; rw [he]
    unfold kinds at h
    cases hu : P.underlying t with
    | none => simp [hu] at h
    | some u =>
      cases u <;> simp [hu] at h
      case bool =>
        obtain ⟨p, q, hp, hq, he⟩ := sc .b h.symm (by simp [Go.Av.tAgg, hu])
        cases p <;> cases q <;> simp [eq1] at he
        cases hp; cases hq; subst he
        exact run_equalIn_bool w dd t _ _ hu
      case int k =>
        obtain ⟨p, q, hp, hq, he⟩ := sc (.i k) h.symm (by simp [Go.Av.tAgg, hu])
        cases p <;> cases q <;> simp [eq1] at he
        obtain ⟨rfl, rfl, he⟩ := he
        cases hp; cases hq; subst he
        exact run_equalIn_int w dd t _ _ _ _ hu
      case string =>
        obtain ⟨p, q, hp, hq, he⟩ := sc .s h.symm (by simp [Go.Av.tAgg, hu])
        cases p <;> cases q <;> simp [eq1] at he
        have h1 := hp.str_inv.1
        have h2 := hq.str_inv.1
        subst h1 h2 he
        rw [run_equalIn_string w dd t _ _ hu, ba_toList, ba_toList]
      case struct fs =>
        obtain ⟨hst, h⟩ := h
        obtain ⟨rfl, rfl⟩ := hA (by simp [Go.Av.tAgg, hu])
        have hfs : P.fieldsOf t = fs := by simp [Program.fieldsOf, hu]
        rw [run_equalIn_struct w dd t _ _ (by rw [hfs]; exact hu) hst, hfs]
        -- field by field
        obtain ⟨hL, hL'⟩ := eqL_len he
        have key : ∀ (fl : List Field) (acc : List ZK) (r : Bool), kgo P (kinds P d) acc fl = some ks → eqL (ks.drop acc.length) (l.drop acc.length) (l'.drop acc.length) = some r → (Op.eqFields dd vs.toArray vs'.toArray fl).run P w = .ok r w := by
          intro fl
          induction fl with
          | nil =>
            intro acc r h he
            simp [kgo] at h
            subst h
            have : eqL [] (l.drop acc.length) (l'.drop acc.length) = some r := by simpa using he
            obtain ⟨h1, h2⟩ := eqL_len this
            have e1 : l.drop acc.length = [] := List.eq_nil_of_length_eq_zero h1
            have e2 : l'.drop acc.length = [] := List.eq_nil_of_length_eq_zero h2
            rw [e1, e2] at this
            simp [eqL] at this
            subst this
            rfl
          | cons f fl ihf =>
            intro acc r h he
            simp only [kgo] at h
            split at h
            · rename_i hn
              cases hk : kinds P d f.type with
              | none => simp [hk] at h
              | some kf =>
                simp only [hk] at h
                split at h
                · rename_i hsz
                  obtain ⟨rest, hr⟩ := kgo_pre h
                  have hd : ks.drop acc.length = kf ++ rest := by rw [hr]; simp
                  rw [hd] at he
                  obtain ⟨p, q, e1, e2, e3⟩ := eqL_app he
                  obtain ⟨q1, q2⟩ := eqL_len e1
                  have hks : ks.length = acc.length + kf.length + rest.length := by rw [hr]; simp; omega
                  have hlen : acc.length + kf.length ≤ l.length := by omega
                  have hlen' : acc.length + kf.length ≤ l'.length := by omega
                  have hvl := hl.1
                  have hvl' := hl'.1
                  -- the parts
                  have hpart : ∃ x y, (part f.type vs.toArray f.offset).run P w = .ok x w ∧ (part f.type vs'.toArray f.offset).run P w = .ok y w ∧ (tAgg P f.type = some true → x = .agg ((vs.drop acc.length).take kf.length).toArray ∧ y = .agg ((vs'.drop acc.length).take kf.length).toArray) ∧ (tAgg P f.type = some false → (vs.drop acc.length).take kf.length = [x] ∧ (vs'.drop acc.length).take kf.length = [y]) := by
                    cases hag : tAgg P f.type with
                    | none =>
                      exfalso
                      cases d with
                      | zero => simp [kinds] at hk
                      | succ d =>
                        unfold kinds at hk
                        unfold Go.Av.tAgg at hag
                        cases hu2 : P.underlying f.type with
                        | none => simp [hu2] at hk
                        | some u2 => cases u2 <;> simp [hu2] at hag
                    | some b =>
                      rw [hn.2]
                      cases b with
                      | true =>
                        refine ⟨.agg (vs.toArray.extract acc.length (acc.length + kf.length)), .agg (vs'.toArray.extract acc.length (acc.length + kf.length)), by simp [part, Sem.run_bind, run_isAgg hag, run_sizeOf hsz], by simp [part, Sem.run_bind, run_isAgg hag, run_sizeOf hsz], fun _ => ⟨?_, ?_⟩, fun h => by cases h⟩
                        · congr 1; apply Array.ext'; simp [List.drop_take, Nat.add_sub_cancel_left]
                        · congr 1; apply Array.ext'; simp [List.drop_take, Nat.add_sub_cancel_left]
                      | false =>
                        have hk1 : kf.length = 1 := by
                          cases d with
                          | zero => simp [kinds] at hk
                          | succ d =>
                            unfold kinds at hk
                            unfold Go.Av.tAgg at hag
                            cases hu2 : P.underlying f.type with
                            | none => simp [hu2] at hk
                            | some u2 => cases u2 <;> simp [hu2] at hag hk <;> subst hk <;> rfl
                        have h1 : acc.length < vs.length := by omega
                        have h2 : acc.length < vs'.length := by omega
                        refine ⟨vs[acc.length], vs'[acc.length], by simp [part, Sem.run_bind, run_isAgg hag, h1], by simp [part, Sem.run_bind, run_isAgg hag, h2], (fun h => by cases h), fun _ => ⟨?_, ?_⟩⟩
                        · rw [hk1, List.drop_eq_getElem_cons h1]; rfl
                        · rw [hk1, List.drop_eq_getElem_cons h2]; rfl
                  obtain ⟨x, y, p1, p2, p3, p4⟩ := hpart
                  have hrec := ih f.type dd kf _ _ _ _ x y p hk (by omega) (hl.sub acc.length kf.length) (hl'.sub acc.length kf.length) e1 p3 p4
                  have hnext := ihf (acc ++ kf) q h (by
                    rw [List.length_append, ← List.drop_drop, hd, ← List.drop_drop, ← List.drop_drop]
                    simpa using e2)
                  simp only [Op.eqFields, Sem.run_bind, Sem.run_ite, if_pos hn.1, p1, p2, Result.andThen_ok, hrec]
                  subst e3
                  cases p with
                  | true => simpa using hnext
                  | false => simp
                · cases h
            · cases h
        exact key fs.toList [] r h (by simpa using he)
theorem AL_eqS {op : BinOp} {x y : Operand} {xt yt : Nat} {l l' : List D} {ti : Ti} {d : D} {r : Bool} (hT : chk P T = true) (hx : ev tm x = .agg l) (hy : ev tm y = .agg l') (ht : tl T xt = some ti) (ha : ti.kd.agg = true) (hk : kinds P 9 xt = some ti.zero) (hg : P.eqGuardType P.depth xt = false) (he : eqL ti.zero l l' = some r)
    (hd : (match op with | .eql => some (D.bool r) | .neq => some (D.bool (!r)) | _ => none) = some d) (htd : Nat.blt t n = true)
    (k : AL P ops rest ⟨n, (t, d) :: tm, bx, fr, ee⟩ Q) : AL P ops (⟨some t, .binOp op xt x y yt, ty, pos, after, none⟩ :: rest) ⟨n, tm, bx, fr, ee⟩ Q :=
  AL_val _ htd (fun g a w hi => by
    have h1 : V w g fr (ev tm x) (a.eval x) := hi.ev x
    rw [hx] at h1
    have h2 : V w g fr (ev tm y) (a.eval y) := hi.ev y
    rw [hy] at h2
    obtain ⟨vs, v1, v2, v3⟩ := agg_inv h1
    obtain ⟨vs', u1, u2, u3⟩ := agg_inv h2
    have hrun : (Op.equal xt (.agg vs.toArray) (.agg vs'.toArray)).run P w = .ok r w :=
      run_kinds 9 xt 10000 ti.zero l l' vs vs' _ _ r hk (by omega) ⟨v2, v3⟩ ⟨u2, u3⟩ he (fun _ => ⟨rfl, rfl⟩) (fun h => by rw [(tl_ok hT ht).tAgg, ha] at h; cases h)
    have hguard := fun op => run_eqGuard_agg (P := P) w op xt x y vs.toArray vs'.toArray hg
    cases op <;> simp at hd <;> subst hd
    · exact ⟨.bool r, by simp [execOp, v1, u1, binOp, Sem.run_bind, hguard, hrun], .bool _⟩
    · exact ⟨.bool (!r), by simp [execOp, v1, u1, binOp, Sem.run_bind, hguard, hrun], .bool _⟩) k
end
end Go.Av

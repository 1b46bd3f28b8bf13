/- What is sent on, plain: its previous name, its payload, what it has left. -/
import Derived.Test.YtfkmicjlaedlkaaGreatDoorG30
set_option linter.unusedVariables false
set_option linter.unusedSimpArgs false
section
open Go.RowKit Go.Pl Go.Av
namespace Go.Proofs.YtfkmicjlaedlkaaGreatDoor
theorem prev_put {self : EidV} (h : eRight self = true) : (prevV (putI (itemE self))).1 = self := by
 unfold prevV
 dsimp only
 rw [read_put00 (wf_itemE h) (right_itemE h)]
 dsimp only
 rw [readV_itemE h (right_itemE h)]
theorem sent_prev {b out : BunV} {self : EidV} {since now : Nat} (h : Sent b out self since now) : ∃ c, out.bl.find? (isTy 6) = some c /\ askV c 6 = 0 /\ (prevV c.data).1 = self := by
 have hall := (fit_right_all (Bool.and_eq_true_iff.1 h.right).1).2
 cases hf : b.bl.find? (isTy 6) with
 | some c =>
  have hm := List.mem_of_find?_eq_some hf
  have ht := isTy_eq (List.find?_some hf)
  have e : out.bl.find? (isTy 6) = some (chB self (IntKind.u64.wrap ((now : Int) - (since : Int))) c) := by
   rw [h.bl]
   unfold onPre
   rw [hf]
   show (b.bl.map _).find? _ = _
   rw [find_map h.ch, hf]
   rfl
  refine ⟨_, e, ask_0 (sent_right h hm) ((ch_ty (h.ch c hm)).trans ht), ?_⟩
  rcases ch_cases (h.ch c hm) with ⟨_, _, h1⟩ | ⟨e, _⟩ | ⟨e, _⟩ | ⟨e, _⟩
  ·rw [h1]; exact prev_put h.er
  ·omega
  ·omega
  ·exact (e ht).elim
 | none =>
  have hb : out.bl = preH b self :: b.bl.map (chB self (IntKind.u64.wrap ((now : Int) - (since : Int)))) := by
   rw [h.bl]
   unfold onPre
   rw [hf]
   rfl
  have hr := hall (preH b self) (by rw [hb]; exact List.mem_cons_self ..)
  have hp : preH b self = ⟨6, numH b.bl, 0, 0, putI (itemE self)⟩ := by
   unfold preH at hr ⊢
   rw [h.er] at hr ⊢
   rcases of_err (kind := 6) (number := numH b.bl) (sum := 0) (x := if true = true then itemE self else .mk 0 0 [] []) (e := if true = true then 0 else 3) with h1 | h1
   ·obtain ⟨_, _, _, hp⟩ := of_data (p := (ofV 6 (numH b.bl) 0 (if true = true then itemE self else .mk 0 0 [] []) (if true = true then 0 else 3)).1) (Prod.ext rfl h1)
    rw [hp]; rfl
   ·rw [h1] at hr
    exact absurd hr (by decide)
  refine ⟨preH b self, ?_, ask_0 hr (by rw [hp]), by rw [hp]; exact prev_put h.er⟩
  rw [hb, List.find?_cons, show isTy 6 (preH b self) = true from by rw [hp]; rfl]
theorem sent_pay {b out : BunV} {self : EidV} {since now : Nat} (h : Sent b out self since now) : payV out = payV b := by
 have hfit := (Bool.and_eq_true_iff.1 h.was).1
 unfold fitV at hfit
 rw [List.getLast?_eq_getElem?] at hfit
 unfold payV
 cases hl : b.bl[b.bl.length - 1]? with
 | none => rw [hl] at hfit; cases hfit
 | some c =>
  rw [hl] at hfit
  simp only [Bool.and_eq_true, beq_iff_eq] at hfit
  have hty : c.ty = 1 := hfit.2.1
  have hlt := (List.getElem?_eq_some_iff.1 hl).1
  have hm := List.mem_of_getElem? hl
  have hch : chB self (IntKind.u64.wrap ((now : Int) - (since : Int))) c = c := by
   rcases ch_cases (h.ch c hm) with ⟨e, _⟩ | ⟨e, _⟩ | ⟨e, _⟩ | ⟨_, _, _, e⟩
   ·omega
   ·omega
   ·omega
   ·exact e
  have e : out.bl[out.bl.length - 1]? = some c := by
   rw [h.bl, List.length_append, List.length_map, List.getElem?_append_right (by omega), show (onPre b self).length + b.bl.length - 1 - (onPre b self).length = b.bl.length - 1 from by omega, List.getElem?_map, hl]
   exact congrArg some hch
  rw [e]
theorem sent_left {b out : BunV} {self : EidV} {since now : Nat} (h : Sent b out self since now) (hc : b.p.t ≠ 0 \/ (b.bl.find? (isTy 7)).isSome = true) :
  leftN out.p.t out.p.life (ageH out + (now - now)) now = leftN b.p.t b.p.life (ageH b + (now - since)) now := by
 rw [h.p]
 unfold leftN
 by_cases ht : 0 < b.p.t
 ·rw [if_pos ht, if_pos ht]
 ·rw [if_neg ht, if_neg ht]
  have h3 := (sent_age h).2
  rw [h3]
  unfold ageH
  cases hf : b.bl.find? (isTy 7) with
  | none => rw [hf] at hc; simp at hc; omega
  | some c => show _ - (ageB c + (now - since) + (now - now)) = _ - (ageB c + (now - since)); omega
end Go.Proofs.YtfkmicjlaedlkaaGreatDoor
end
section
open Go.RowKit Go.Pl Go.Av
namespace Go.Proofs.YtfkmicjlaedlkaaGreatDoor
set_option maxHeartbeats 4000000
abbrev hB (fl : Nat) (sum : Int) (di : Bool) (dn ds : Nat) (dh dd : List UInt8) (ri : Bool) (rn rs : Nat) (rh rd : List UInt8) (xi : Bool) (xn xs : Nat) (xh xd : List UInt8) (t q life : Nat) (bl : List E) : D := .agg [.int .u64 (fl : Int), .int .i64 sum, .bool di, .int .u64 (dn : Int), .int .u64 (ds : Int), .str dh, .str dd, .bool ri, .int .u64 (rn : Int), .int .u64 (rs : Int), .str rh, .str rd, .bool xi, .int .u64 (xn : Int), .int .u64 (xs : Int), .str xh, .str xd, .int .u64 (t : Int), .int .u64 (q : Int), .int .u64 (life : Int), .sl .ext bl]
end Go.Proofs.YtfkmicjlaedlkaaGreatDoor
end

/- More words: what an append leaves of other slices. -/
import Derived.Test.YtpkgdlhiblgdnaaBase
open Go.RowKit
namespace Go.Pl
theorem App.sl_keep {α β : Type} {R : Rep α} {R2 : Rep β} {base : Nat} {e : TypeId} {S S2 : Nat → Prop} {w w' : World} {v v' x : Value} {l : List α} {l2 : List β} (h : App R base e S w v l v' w') (hs : Sl R2 w S2 x l2)
    (hlt : ∀ k, S2 k → k < w.heap.size) (hne : ∀ g, v.ownBlock = some g → ¬ S2 g) : Sl R2 w' S2 x l2 :=
  hs.frame fun k hk => h.grown.block k (hlt k hk) fun e => hne k e.symm hk
theorem Own.slB {w : World} {base B : Nat} {e : TypeId} {S : Nat → Prop} {v : Value} {l : List UInt8} (h : Own Rep.byte w base e S v l) (hB : w.heap.size ≤ B) : SlB w (fun k => base ≤ k ∧ k < B) v l :=
  (h.flat (S' := fun _ => False) fun _ _ h => h).sl (fun _ h => h.elim) fun g hg => ⟨(h.block g hg).1, Nat.lt_of_lt_of_le (h.block g hg).2 hB⟩
theorem SlB.take {w : World} {S : Nat → Prop} {A : Option Addr} {n c : Nat} {l : List UInt8} (h : SlB w S (.slice A n c) l) (k : Nat) (hk : k ≤ l.length) : SlB w S (.slice A k c) (l.take k) := by
  obtain ⟨A', c', e, h1, h2, hh⟩ := h.form
  injection e with e1 e2 e3
  subst e1 e3
  refine SlB.mk (by rw [List.length_take]; omega) (by rw [List.length_take]; omega) h2 fun hn => ?_
  obtain ⟨g, off, hA, hS, hc⟩ := hh (by rintro rfl; simp at hn)
  refine ⟨g, off, hA, hS, fun j hj => ?_⟩
  rw [List.length_take] at hj
  rw [hc j (by omega)]
  simp
/-! ### a drawn region whose operations read old memory, and call what only makes memory -/
/-- a world that differs from w in new blocks alone -/
structure ExtW (w : World) where
  val : World
  ext : Below w.heap.size w val
instance ExtW.inst (w : World) : Nonempty (ExtW w) := ⟨⟨w, Below.refl _ _⟩⟩
theorem ExtW.cell {w : World} (x : ExtW w) (g o : Nat) (h : g < w.heap.size) : x.val.cell? ⟨g, o, none⟩ = w.cell? ⟨g, o, none⟩ := x.ext.cell (p := ⟨g, o, none⟩) h
theorem ExtW.heap {w : World} (x : ExtW w) (k : Nat) (h : k < w.heap.size) : x.val.heap[k]? = w.heap[k]? := x.ext.block k h
/-- one walk in the text's order serves; w: the world ahead of the region -/
theorem wp_region_ext {P : Program} {id : Nat} {Q : Exit → Act → World → Prop} {a : Act} {w : World} {l : List Oper} (hm : P.follows .mixedOrders = true) (hB : Region.lexB .any l.toArray = true)
    (h : wpQuiet P l.toArray (fun w' => ∃ x : ExtW w, w' = x.val) (fun a' => ∀ w', (∃ x : ExtW w, w' = x.val) → Q .normal a' w') l a) : (Code.region id l.toArray true).wp P Q a w :=
  wp_region_quiet (C := fun w' => ∃ x : ExtW w, w' = x.val) hm hB ⟨⟨_, (Below.refl _ w).drew⟩, rfl⟩ (by simpa using h)
/-- a contract at a world of the class -/
theorem Calls.ext_of {P : Program} {f : FuncId} {args : Array Value} {w : World} {x : ExtW w} {v : Value} (h : Calls P f args x.val fun e w' => e = .returned v ∧ Below x.val.heap.size x.val w') :
    Calls P f args x.val fun e w'' => e = .returned v ∧ ∃ y : ExtW w, w'' = y.val :=
  h.mono fun _ w' ⟨he, hb⟩ => ⟨he, ⟨w', x.ext.trans (hb.mono x.ext.size)⟩, rfl⟩
theorem Sl.ext {α : Type} {R : Rep α} {w : World} {v : Value} {l : List α} (h : Sl R w (· < w.heap.size) v l) (x : ExtW w) : Sl R x.val (· < w.heap.size) v l := h.frame fun k hk => x.heap k hk
end Go.Pl

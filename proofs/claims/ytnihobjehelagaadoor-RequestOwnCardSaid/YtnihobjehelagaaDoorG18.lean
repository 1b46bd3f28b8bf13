/- RequestOwn: the walk, from the row's arguments. -/
import Derived.Test.YtnihobjehelagaaDoorG17
section
open Go.RowKit Go.Pl Go.Av
namespace Go.Proofs.YtnihobjehelagaaDoor
set_option linter.unusedVariables false
abbrev RQ : Rep (Nat × Int × XE × XE × Int × Int × Int × List UInt8 × Nat × Nat × Bool) :=
  Rep.u64.prod (Rep.i64.prod (RE.prod (RE.prod (Rep.i64.prod (Rep.i64.prod (Rep.i64.prod ((Rep.slice Rep.byte (by decide)).prod (Rep.u64.prod (Rep.u64.prod Rep.bool)))))))))
theorem openBy : Opens Tryd.prog 23 (Rep.slice Rep.byte (by decide)) := opens_slice (R := Rep.byte) (by decide) Tryd.underlying23 (by kernel_rfl) (opens_byte Tryd.underlying5)
theorem openQ : Opens Tryd.prog 79 RQ :=
  opens_struct Tryd.underlying79 (by kernel_rfl) (opensF_cons rfl rfl (by kernel_rfl) (opens_u64 Tryd.underlying22) (opensF_cons rfl rfl (by kernel_rfl) (opens_i64 Tryd.underlying3)
    (opensF_cons rfl rfl (by kernel_rfl) openE (opensF_cons rfl rfl (by kernel_rfl) openE (opensF_cons rfl rfl (by kernel_rfl) (opens_i64 Tryd.underlying3) (opensF_cons rfl rfl (by kernel_rfl) (opens_i64 Tryd.underlying3) (opensF_cons rfl rfl (by kernel_rfl) (opens_i64 Tryd.underlying3)
      (opensF_cons rfl rfl (by kernel_rfl) openBy (opensF_cons rfl rfl (by kernel_rfl) (opens_u64 Tryd.underlying22) (opensF_cons rfl rfl (by kernel_rfl) (opens_u64 Tryd.underlying22) (opensF_one rfl rfl (by kernel_rfl) (opens_bool Tryd.underlying4))))))))))))
abbrev XQ := Nat × Int × XE × XE × Int × Int × Int × List UInt8 × Nat × Nat × Bool
def XQ.v (x : XQ) : RqV := ⟨x.1, x.2.1, x.2.2.1.v, x.2.2.2.1.v, x.2.2.2.2.1, x.2.2.2.2.2.1, x.2.2.2.2.2.2.1, x.2.2.2.2.2.2.2.1, x.2.2.2.2.2.2.2.2.1, x.2.2.2.2.2.2.2.2.2.1, x.2.2.2.2.2.2.2.2.2.2⟩
theorem rq_V [Known] {W : World} {cs : List Value} {x : XQ} (h : RQ.ok W (· < W.heap.size) cs x) : V W (g0 W) [] (.agg (rqC x.v)) (.agg cs.toArray) := by
  obtain ⟨id, kd, ⟨ei, en, es, eh, ed⟩, ⟨di, dn, dq, dh, dd⟩, pol, num, tik, pay, life, tok, on⟩ := x
  have toE_rq := ToE.u64.prod (ToE.i64.prod (toE_eid.prod (toE_eid.prod (ToE.i64.prod (ToE.i64.prod (ToE.i64.prod ((ToE.byte.slice (by decide)).prod (ToE.u64.prod (ToE.u64.prod ToE.bool)))))))))
  exact ToE.agg toE_rq (l := [.int .u64 (id : Int), .int .i64 kd, .bool ei, .int .u64 (en : Int), .int .u64 (es : Int), .str eh, .str ed, .bool di, .int .u64 (dn : Int), .int .u64 (dq : Int), .str dh, .str dd, .int .i64 pol, .int .i64 num, .int .i64 tik, .sl (pay.map E.byte), .int .u64 (life : Int), .int .u64 (tok : Int), .bool on]) rfl h
theorem requestOwn_walk (c0 : List Value) (x0 : XQ) (W : World) (h0 : RQ.ok W (· < W.heap.size) c0 x0) (hl : laidMet Tryd.prog Rows.requestOwnRow.laid W) :
    Calls Tryd.prog 13 #[.agg c0.toArray] W fun e w' => e = .returned (.bool true) ∧ Below W.heap.size W w' := by
  refine @topG known0 Tryd.prog 13 _ (@AC.mono known0 _ _ _ _ _ _ _ (@av_requestOwn known0 x0.v) fun r b t h => h.1) W [.agg c0.toArray] (gls0 W) rfl ?_
  intro j d v hd hv
  match j, hd, hv with
  | 0, hd, hv => cases hd; cases hv; exact @rq_V known0 _ _ _ h0
  | j + 1, hd, hv => cases hd
end Go.Proofs.YtnihobjehelagaaDoor
end

/- The document's answers for requests: which may be, and a request's bytes, joined. -/
import Derived.Test.YtchlgagdbflkmaaGreatDoorL27
import Derived.Test.YtchlgagdbflkmaaGreatDoorL28
import Derived.Test.YtchlgagdbflkmaaGreatDoorL29
import Derived.Test.YtchlgagdbflkmaaGreatDoorL26
import Derived.Test.YtchlgagdbflkmaaGreatDoorL23
import Derived.Test.YtchlgagdbflkmaaGreatDoorL12
import Derived.Test.YtchlgagdbflkmaaGreatDoorL25
import Derived.Lib.ItoaNum
import Derived.Test.YtchlgagdbflkmaaGreatDoorL16
import Derived.Test.YtchlgagdbflkmaaGreatDoorL17
set_option linter.unusedVariables false
set_option linter.unusedSimpArgs false
section
open Go.RowKit Go.Pl Go.Av
namespace Go.Proofs.YtchlgagdbflkmaaGreatDoor
set_option maxHeartbeats 4000000
theorem YB [Known](x:RqV)(hx:Fit x.ep)(hy:Fit x.ds):AP Tryz.prog 82 [.agg (rqC x)] (.bool (ZI x)) []:=by
 obtain⟨id,kd,ep,ds,pol,num,tik,pay,life,tok,on⟩:=x
 dsimp only at hx hy
 have hP:=WD kd
 have hK:=Qf ep hx
 have hL:=Qf ds hy
 have hW:=IJ id 1099511627776
 by_cases hk:kd=1\/kd=2\/kd=3\/kd=4\/kd=5\/kd=6\/kd=7\/kd=8\/kd=9\/kd=10\/kd=11\/kd=12
 ·rw[<- Xw _ hk]
  have tq:(VM kd==[63])=false:=by rcases hk with rfl|rfl|rfl|rfl|rfl|rfl|rfl|rfl|rfl|rfl|rfl|rfl<;>rfl
  have hl:(VM kd).length<=10:=by rcases hk with rfl|rfl|rfl|rfl|rfl|rfl|rfl|rfl|rfl|rfl|rfl|rfl<;>decide
  have ha:=fun c=>TD (VM kd) c (by omega)
  have he:=ha 101
  have hd:=ha 100
  have hp:=ha 112
  have hn:=ha 110
  have ht:=ha 116
  have hf:=ha 108
  have hq:=ha 107
  have hb:=ha 98
  have ho:=ha 111
  unfold rfF
  dsimp only at *
  clear hk hl ha hx hy
  generalize VM kd=p at *
  generalize p.contains 101=fe at *
  generalize p.contains 100=fd at *
  generalize p.contains 112=fp at *
  generalize p.contains 110=fn at *
  generalize p.contains 116=ft at *
  generalize p.contains 108=fl at *
  generalize p.contains 107=fk at *
  generalize p.contains 98=fb at *
  generalize p.contains 111=fo at *
  obtain⟨ei,en,es,eh,ed⟩:=ep
  obtain⟨di,dn,dq,dh,dd⟩:=ds
  generalize W5 _=k1 at hK ⊢
  generalize W5 _=k2 at hL ⊢
  have hW2:AP Tryz.prog 110 [.int .u64 (id:Int),.int .u64 1099511627776] (.bool (decide ((id:Int) ≥ 1)&&decide ((id:Int)<=1099511627776))) []:=hW
  clear hW
  cases hw:(decide ((id:Int) ≥ 1)&&decide ((id:Int)<=1099511627776)) with
  | false=>
   rw[hw]at hW2
   exact MG id kd ei en es eh ed di dn dq dh dd pol num tik pay life tok on p _ (by unfold rfR;rw[hw];rfl) hP tq hW2
  | true=>
   rw[hw]at hW2
   rcases MF (!(fn==decide (num>0))) (decide (num>1099511627776)) (!(ft==decide (tik>0))) (decide (tik>1000)) (!(fl==decide ((life:Int)>0))) (decide ((life:Int)>1099511627776)) (!(fk==decide ((tok:Int)>0))) (decide ((tok:Int)>2147483648)) with h|h|h|h|h|h|h|h|h
   ·exact GJ id kd ei en es eh ed di dn dq dh dd pol num tik pay life tok on p fe fd fp fn ft fl fk fb fo k1 k2 hP tq hW2 hw he hd hp hn ht hf hq hb ho hK hL (.inl h)
   ·exact GJ id kd ei en es eh ed di dn dq dh dd pol num tik pay life tok on p fe fd fp fn ft fl fk fb fo k1 k2 hP tq hW2 hw he hd hp hn ht hf hq hb ho hK hL (.inr (.inl h))
   ·exact GJ id kd ei en es eh ed di dn dq dh dd pol num tik pay life tok on p fe fd fp fn ft fl fk fb fo k1 k2 hP tq hW2 hw he hd hp hn ht hf hq hb ho hK hL (.inr (.inr h))
   ·exact GK id kd ei en es eh ed di dn dq dh dd pol num tik pay life tok on p fe fd fp fn ft fl fk fb fo k1 k2 hP tq hW2 hw he hd hp hn ht hf hq hb ho hK hL (.inl h)
   ·exact GK id kd ei en es eh ed di dn dq dh dd pol num tik pay life tok on p fe fd fp fn ft fl fk fb fo k1 k2 hP tq hW2 hw he hd hp hn ht hf hq hb ho hK hL (.inr (.inl h))
   ·exact GK id kd ei en es eh ed di dn dq dh dd pol num tik pay life tok on p fe fd fp fn ft fl fk fb fo k1 k2 hP tq hW2 hw he hd hp hn ht hf hq hb ho hK hL (.inr (.inr h))
   ·exact GL id kd ei en es eh ed di dn dq dh dd pol num tik pay life tok on p fe fd fp fn ft fl fk fb fo k1 k2 hP tq hW2 hw he hd hp hn ht hf hq hb ho hK hL (.inl h)
   ·exact GL id kd ei en es eh ed di dn dq dh dd pol num tik pay life tok on p fe fd fp fn ft fl fk fb fo k1 k2 hP tq hW2 hw he hd hp hn ht hf hq hb ho hK hL (.inr (.inl h))
   ·exact GL id kd ei en es eh ed di dn dq dh dd pol num tik pay life tok on p fe fd fp fn ft fl fk fb fo k1 k2 hP tq hW2 hw he hd hp hn ht hf hq hb ho hK hL (.inr (.inr h))
 ·have e:VM kd=[63]:=by
   rcases Xe kd with h|h|h|h|h|h|h|h|h|h|h|h|⟨k1,k2,k3,k4,k5,k6,k7,k8,k9,k10,k11,k12⟩
   all_goals first|(exact absurd h (fun h=>hk (by omega)))|skip
   unfold VM
   simp only[k1,k2,k3,k4,k5,k6,k7,k8,k9,k10,k11,k12,Bool.or_self,Bool.false_eq_true,if_false]
  rw[e]at hP
  obtain⟨ei,en,es,eh,ed⟩:=ep
  obtain⟨di,dn,dq,dh,dd⟩:=ds
  refine NA id kd ei en es eh ed di dn dq dh dd pol num tik pay life tok on _ ?_ hP
  cases hr:ZI _ with
  | false=>rfl
  | true=>exact absurd (Uk hr) hk
theorem MH [Known](id:Nat)(kd:Int)(ei:Bool)(en es:Nat)(eh ed:List UInt8)(di:Bool)(dn dq:Nat)(dh dd:List UInt8)(pol num tik:Int)(pay:List UInt8)(life tok:Nat)(on:Bool)(t:List UInt8)(ht:t.length<=1000)(hT:AP Tryz.prog 118 [.agg [.bool ei,.int .u64 (en:Int),.int .u64 (es:Int),.str eh,.str ed]] (.str t) []):AP Tryz.prog 115 [.agg [.int .u64 (id:Int),.int .i64 kd,.bool ei,.int .u64 (en:Int),.int .u64 (es:Int),.str eh,.str ed,.bool di,.int .u64 (dn:Int),.int .u64 (dq:Int),.str dh,.str dd,.int .i64 pol,.int .i64 num,.int .i64 tik,.sl .ext (pay.map E.byte),.int .u64 (life:Int),.int .u64 (tok:Int),.bool on],.int .u8 101] (byE (vn t.length++t)) []:=by
 have hX:=QD t (by omega)
 refine AP.ofA (Zp Tryz.func115 Z Tryz.ntmps115 Z Z ?_)
 repeat'(first|(apply Zc (hT);kernel_rfl;(iterate 4 exact Z))|(apply Zc (hX);kernel_rfl;(iterate 4 exact Z))|refine Ot Zb Z Z Z Z Z Z Z Z ?_|(apply Zl Zb;exact Z)|(apply Zj Zb;exact Z)|(apply Zf;exact Z;(first|with_reducible assumption|decide +kernel|(solve|simp only[bn]))))
 all_goals exact Qe
theorem MI [Known](id:Nat)(kd:Int)(ei:Bool)(en es:Nat)(eh ed:List UInt8)(di:Bool)(dn dq:Nat)(dh dd:List UInt8)(pol num tik:Int)(pay:List UInt8)(life tok:Nat)(on:Bool)(t:List UInt8)(ht:t.length<=1000)(hT:AP Tryz.prog 118 [.agg [.bool di,.int .u64 (dn:Int),.int .u64 (dq:Int),.str dh,.str dd]] (.str t) []):AP Tryz.prog 115 [.agg [.int .u64 (id:Int),.int .i64 kd,.bool ei,.int .u64 (en:Int),.int .u64 (es:Int),.str eh,.str ed,.bool di,.int .u64 (dn:Int),.int .u64 (dq:Int),.str dh,.str dd,.int .i64 pol,.int .i64 num,.int .i64 tik,.sl .ext (pay.map E.byte),.int .u64 (life:Int),.int .u64 (tok:Int),.bool on],.int .u8 100] (byE (vn t.length++t)) []:=by
 have hX:=QD t (by omega)
 refine AP.ofA (Zp Tryz.func115 Z Tryz.ntmps115 Z Z ?_)
 repeat'(first|(apply Zc (hT);kernel_rfl;(iterate 4 exact Z))|(apply Zc (hX);kernel_rfl;(iterate 4 exact Z))|refine Ot Zb Z Z Z Z Z Z Z Z ?_|(apply Zl Zb;exact Z)|(apply Zj Zb;exact Z)|(apply Zf;exact Z;(first|with_reducible assumption|decide +kernel|(solve|simp only[bn])))|(apply Zg;exact Z;(first|with_reducible assumption|decide +kernel|(solve|simp only[bn]))))
 all_goals exact Qe
theorem MJ [Known](id:Nat)(kd:Int)(ei:Bool)(en es:Nat)(eh ed:List UInt8)(di:Bool)(dn dq:Nat)(dh dd:List UInt8)(pol num tik:Int)(pay:List UInt8)(life tok:Nat)(on:Bool)(ht:pay.length<=1000):AP Tryz.prog 115 [.agg [.int .u64 (id:Int),.int .i64 kd,.bool ei,.int .u64 (en:Int),.int .u64 (es:Int),.str eh,.str ed,.bool di,.int .u64 (dn:Int),.int .u64 (dq:Int),.str dh,.str dd,.int .i64 pol,.int .i64 num,.int .i64 tik,.sl .ext (pay.map E.byte),.int .u64 (life:Int),.int .u64 (tok:Int),.bool on],.int .u8 98] (byE (vn pay.length++pay)) []:=by
 have hX:=QD pay (by omega)
 refine AP.ofA (Zp Tryz.func115 Z Tryz.ntmps115 Z Z ?_)
 repeat'(first|(apply Zc (hX);kernel_rfl;(iterate 4 exact Z))|(apply Zl Zb;exact Z)|(apply Zj Zb;exact Z)|(apply Zf;exact Z;(first|with_reducible assumption|decide +kernel|(solve|simp only[bn])))|(apply Zg;exact Z;(first|with_reducible assumption|decide +kernel|(solve|simp only[bn]))))
 all_goals exact Qe
theorem MK [Known](id:Nat)(kd:Int)(ei:Bool)(en es:Nat)(eh ed:List UInt8)(di:Bool)(dn dq:Nat)(dh dd:List UInt8)(pol num tik:Int)(pay:List UInt8)(life tok:Nat)(on:Bool)(m:Nat)(hm:pol=(m:Int))(hl:m<=1099511627776):AP Tryz.prog 115 [.agg [.int .u64 (id:Int),.int .i64 kd,.bool ei,.int .u64 (en:Int),.int .u64 (es:Int),.str eh,.str ed,.bool di,.int .u64 (dn:Int),.int .u64 (dq:Int),.str dh,.str dd,.int .i64 pol,.int .i64 num,.int .i64 tik,.sl .ext (pay.map E.byte),.int .u64 (life:Int),.int .u64 (tok:Int),.bool on],.int .u8 112] (byE (vn m)) []:=by
 subst hm
 have hX:=WH m (by omega)
 have e1:IntKind.u64.wrap (m:Int)=(m:Int):=IntWalk.u64_in _ (by omega)
 refine AP.ofA (Zp Tryz.func115 Z Tryz.ntmps115 Z Z ?_)
 repeat'(first|rw[e1]|(apply Zc (hX);kernel_rfl;(iterate 4 exact Z))|(apply Zl Zb;exact Z)|(apply Zj Zb;exact Z)|(apply Zf;exact Z;(first|with_reducible assumption|decide +kernel|(solve|simp only[bn])))|(apply Zg;exact Z;(first|with_reducible assumption|decide +kernel|(solve|simp only[bn]))))
 all_goals exact Qe
theorem ML [Known](id:Nat)(kd:Int)(ei:Bool)(en es:Nat)(eh ed:List UInt8)(di:Bool)(dn dq:Nat)(dh dd:List UInt8)(pol num tik:Int)(pay:List UInt8)(life tok:Nat)(on:Bool)(m:Nat)(hm:num=(m:Int))(hl:m<=1099511627776):AP Tryz.prog 115 [.agg [.int .u64 (id:Int),.int .i64 kd,.bool ei,.int .u64 (en:Int),.int .u64 (es:Int),.str eh,.str ed,.bool di,.int .u64 (dn:Int),.int .u64 (dq:Int),.str dh,.str dd,.int .i64 pol,.int .i64 num,.int .i64 tik,.sl .ext (pay.map E.byte),.int .u64 (life:Int),.int .u64 (tok:Int),.bool on],.int .u8 110] (byE (vn m)) []:=by
 subst hm
 have hX:=WH m (by omega)
 have e1:IntKind.u64.wrap (m:Int)=(m:Int):=IntWalk.u64_in _ (by omega)
 refine AP.ofA (Zp Tryz.func115 Z Tryz.ntmps115 Z Z ?_)
 repeat'(first|rw[e1]|(apply Zc (hX);kernel_rfl;(iterate 4 exact Z))|(apply Zl Zb;exact Z)|(apply Zj Zb;exact Z)|(apply Zf;exact Z;(first|with_reducible assumption|decide +kernel|(solve|simp only[bn])))|(apply Zg;exact Z;(first|with_reducible assumption|decide +kernel|(solve|simp only[bn]))))
 all_goals exact Qe
theorem MM [Known](id:Nat)(kd:Int)(ei:Bool)(en es:Nat)(eh ed:List UInt8)(di:Bool)(dn dq:Nat)(dh dd:List UInt8)(pol num tik:Int)(pay:List UInt8)(life tok:Nat)(on:Bool)(m:Nat)(hm:tik=(m:Int))(hl:m<=1099511627776):AP Tryz.prog 115 [.agg [.int .u64 (id:Int),.int .i64 kd,.bool ei,.int .u64 (en:Int),.int .u64 (es:Int),.str eh,.str ed,.bool di,.int .u64 (dn:Int),.int .u64 (dq:Int),.str dh,.str dd,.int .i64 pol,.int .i64 num,.int .i64 tik,.sl .ext (pay.map E.byte),.int .u64 (life:Int),.int .u64 (tok:Int),.bool on],.int .u8 116] (byE (vn m)) []:=by
 subst hm
 have hX:=WH m (by omega)
 have e1:IntKind.u64.wrap (m:Int)=(m:Int):=IntWalk.u64_in _ (by omega)
 refine AP.ofA (Zp Tryz.func115 Z Tryz.ntmps115 Z Z ?_)
 repeat'(first|rw[e1]|(apply Zc (hX);kernel_rfl;(iterate 4 exact Z))|(apply Zl Zb;exact Z)|(apply Zj Zb;exact Z)|(apply Zf;exact Z;(first|with_reducible assumption|decide +kernel|(solve|simp only[bn])))|(apply Zg;exact Z;(first|with_reducible assumption|decide +kernel|(solve|simp only[bn]))))
 all_goals exact Qe
theorem MN [Known](id:Nat)(kd:Int)(ei:Bool)(en es:Nat)(eh ed:List UInt8)(di:Bool)(dn dq:Nat)(dh dd:List UInt8)(pol num tik:Int)(pay:List UInt8)(life tok:Nat)(on:Bool)(hl:life<18446744073709551616):AP Tryz.prog 115 [.agg [.int .u64 (id:Int),.int .i64 kd,.bool ei,.int .u64 (en:Int),.int .u64 (es:Int),.str eh,.str ed,.bool di,.int .u64 (dn:Int),.int .u64 (dq:Int),.str dh,.str dd,.int .i64 pol,.int .i64 num,.int .i64 tik,.sl .ext (pay.map E.byte),.int .u64 (life:Int),.int .u64 (tok:Int),.bool on],.int .u8 108] (byE (vn life)) []:=by
 have hX:=WH life hl
 refine AP.ofA (Zp Tryz.func115 Z Tryz.ntmps115 Z Z ?_)
 repeat'(first|(apply Zc (hX);kernel_rfl;(iterate 4 exact Z))|(apply Zl Zb;exact Z)|(apply Zj Zb;exact Z)|(apply Zf;exact Z;(first|with_reducible assumption|decide +kernel|(solve|simp only[bn])))|(apply Zg;exact Z;(first|with_reducible assumption|decide +kernel|(solve|simp only[bn]))))
 all_goals exact Qe
theorem MO [Known](id:Nat)(kd:Int)(ei:Bool)(en es:Nat)(eh ed:List UInt8)(di:Bool)(dn dq:Nat)(dh dd:List UInt8)(pol num tik:Int)(pay:List UInt8)(life tok:Nat)(on:Bool)(hl:tok<18446744073709551616):AP Tryz.prog 115 [.agg [.int .u64 (id:Int),.int .i64 kd,.bool ei,.int .u64 (en:Int),.int .u64 (es:Int),.str eh,.str ed,.bool di,.int .u64 (dn:Int),.int .u64 (dq:Int),.str dh,.str dd,.int .i64 pol,.int .i64 num,.int .i64 tik,.sl .ext (pay.map E.byte),.int .u64 (life:Int),.int .u64 (tok:Int),.bool on],.int .u8 107] (byE (vn tok)) []:=by
 have hX:=WH tok hl
 refine AP.ofA (Zp Tryz.func115 Z Tryz.ntmps115 Z Z ?_)
 repeat'(first|(apply Zc (hX);kernel_rfl;(iterate 4 exact Z))|(apply Zl Zb;exact Z)|(apply Zj Zb;exact Z)|(apply Zf;exact Z;(first|with_reducible assumption|decide +kernel|(solve|simp only[bn])))|(apply Zg;exact Z;(first|with_reducible assumption|decide +kernel|(solve|simp only[bn]))))
 all_goals exact Qe
theorem MP [Known](id:Nat)(kd:Int)(ei:Bool)(en es:Nat)(eh ed:List UInt8)(di:Bool)(dn dq:Nat)(dh dd:List UInt8)(pol num tik:Int)(pay:List UInt8)(life tok:Nat)(on:Bool):AP Tryz.prog 115 [.agg [.int .u64 (id:Int),.int .i64 kd,.bool ei,.int .u64 (en:Int),.int .u64 (es:Int),.str eh,.str ed,.bool di,.int .u64 (dn:Int),.int .u64 (dq:Int),.str dh,.str dd,.int .i64 pol,.int .i64 num,.int .i64 tik,.sl .ext (pay.map E.byte),.int .u64 (life:Int),.int .u64 (tok:Int),.bool on],.int .u8 111] (byE (vn on.toNat)) []:=by
 have h0:=WH 0 (by omega)
 have h1:=WH 1 (by omega)
 cases on
 all_goals
  refine AP.ofA (Zp Tryz.func115 Z Tryz.ntmps115 Z Z ?_)
  repeat'(first|(apply Zc (h0);kernel_rfl;(iterate 4 exact Z))|(apply Zc (h1);kernel_rfl;(iterate 4 exact Z))|(apply Zl Zb;exact Z)|(apply Zj Zb;exact Z)|(apply Zf;exact Z;(first|with_reducible assumption|decide +kernel|(solve|simp only[bn])))|(apply Zg;exact Z;(first|with_reducible assumption|decide +kernel|(solve|simp only[bn]))))
  all_goals exact Qe
theorem K9 [Known](id:Nat)(kn:Nat)(ei:Bool)(en es:Nat)(eh ed:List UInt8)(di:Bool)(dn dq:Nat)(dh dd:List UInt8)(pol num tik:Int)(pay:List UInt8)(life tok:Nat)(on:Bool)(p:List UInt8)(prt:UInt8->List UInt8)(hid:id<18446744073709551616)(hk:kn<1000)(hpl:p.length<=10)
  (hP:AP Tryz.prog 93 [.int .i64 (kn:Int)] (.str p) [])
  (hpt:∀ c ∈ p,AP Tryz.prog 115 [.agg [.int .u64 (id:Int),.int .i64 (kn:Int),.bool ei,.int .u64 (en:Int),.int .u64 (es:Int),.str eh,.str ed,.bool di,.int .u64 (dn:Int),.int .u64 (dq:Int),.str dh,.str dd,.int .i64 pol,.int .i64 num,.int .i64 tik,.sl .ext (pay.map E.byte),.int .u64 (life:Int),.int .u64 (tok:Int),.bool on],.int .u8 (c.toNat:Int)] (byE (prt c)) [])
  (hne:∀ c ∈ p,prt c ≠ []/\(prt c).length<=1000) :
  AP Tryz.prog 88 [.agg [.int .u64 (id:Int),.int .i64 (kn:Int),.bool ei,.int .u64 (en:Int),.int .u64 (es:Int),.str eh,.str ed,.bool di,.int .u64 (dn:Int),.int .u64 (dq:Int),.str dh,.str dd,.int .i64 pol,.int .i64 num,.int .i64 tik,.sl .ext (pay.map E.byte),.int .u64 (life:Int),.int .u64 (tok:Int),.bool on]] (byE (vn id++vn kn++p.flatMap prt)) []:=by
 have hN:=Jx id hid
 have hM:=WH kn (by omega)
 have e1:IntKind.u64.wrap (kn:Int)=(kn:Int):=IntWalk.u64_in _ (by omega)
 have hU1:=YD (vn id)
 have hU2:=YD (vn kn)
 have v1:(vn id).length<=10:=(W1 9 id).1
 have v2:(vn kn).length<=10:=(W1 9 kn).1
 have hl1:((vn id).map E.byte).length=(vn id).length:=List.length_map ..
 have hl2:((vn kn).map E.byte).length=(vn kn).length:=List.length_map ..
 have hne2:(vn kn).map E.byte ≠ []:=by
  intro h
  have:=congrArg List.length h
  rw[hl2]at this
  have w2:0<(vn kn).length:=(W1 9 kn).2
  simp only[List.length_nil]at this
  omega
 refine AP.ofA (Zp Tryz.func88 Z Tryz.ntmps88 Z Z ?_)
 repeat'(first|rw[e1]|(apply Zm [] [] (hN);kernel_rfl;(iterate 10 exact Z))|(apply Zc (hM);kernel_rfl;(iterate 4 exact Z))|(apply Zc (hP);kernel_rfl;(iterate 4 exact Z))|(apply Zl Zb;exact Z)|(apply Zj Zb;exact Z)|(apply ZJ Zb;(iterate 6 exact Z);(first|with_reducible assumption|decide +kernel|exact Z|rotate_left);exact Z;exact Z;(first|exact Zk rfl|with_reducible assumption|decide +kernel|rotate_left);(first|exact Zk rfl|with_reducible assumption|decide +kernel|rotate_left);(first|exact Qt|rotate_left);(first|exact Qt|rotate_left);(first|exact Qt|rotate_left);exact Z;exact Z))
 all_goals first|exact hl1.symm|(rw[hl1,hl2];unfold maxLen;omega)|(rw[hl1,hl2];show(_+_)*1<=_;omega)|skip
 refine Yr (fun k tm bx fr=>∃(i c:Nat) (M:List UInt8) (K:List E),k+i=p.length/\K=M.map E.byte/\c=K.length/\M=vn id++vn kn++(p.take i).flatMap prt/\M.length<=100+1000*i/\tm=[(1,.ptr 0 0),(2,.sl .nil []),(3,.sl (.own 0) K),(4,.str p),(5,.int .i64 (i:Int))]/\bx=[[.int .u64 (id:Int),.int .i64 (kn:Int),.bool ei,.int .u64 (en:Int),.int .u64 (es:Int),.str eh,.str ed,.bool di,.int .u64 (dn:Int),.int .u64 (dq:Int),.str dh,.str dd,.int .i64 pol,.int .i64 num,.int .i64 tik,.sl .ext (pay.map E.byte),.int .u64 (life:Int),.int .u64 (tok:Int),.bool on]]/\fr=[⟨c,1,5⟩]) (p.length+1) (Lands.mk' (m:=p.length) (Nat.lt_succ_self _) ⟨0,((vn id).map E.byte).length+((vn kn).map E.byte).length,vn id++vn kn,(vn id).map E.byte++(vn kn).map E.byte,rfl,by simp,by simp,by simp,by rw[List.length_append];omega,rfl,rfl,rfl⟩ ?_ rfl rfl rfl rfl rfl rfl) ?_
 ·exact .cons rfl (.cons rfl (.cons rfl (.cons rfl (.cons rfl .nil))))
 rintro k tm bx fr ⟨i,c,M,K,hk2,hK,hc,hM,hMl,rfl,rfl,rfl⟩
 have hU:Uni 1 K:=hK ▸ YD M
 have hKl:K.length=M.length:=by rw[hK,List.length_map]
 subst hc
 rcases Nat.lt_or_ge i p.length with hlt|hge
 ·have t1:decide ((i:Int)<(p.length:Int))=true:=decide_eq_true (by omega)
  obtain⟨d,hd⟩:∃ d,p[i]?=some d:=⟨_,List.getElem?_eq_getElem hlt⟩
  have hidx:p[((i:Nat):Int).toNat]?=some d:=by simpa using hd
  have ei2:IntKind.i64.wrap ((i:Int)+1)=((i+1:Nat):Int):=by rw[IntWalk.i64_in _ (by omega)];omega
  have hX:=hpt d (List.mem_of_getElem? hd)
  obtain⟨hn1,hn2⟩:=hne d (List.mem_of_getElem? hd)
  have hM2:M++prt d=vn id++vn kn++(p.take (i+1)).flatMap prt:=by
   rw[hM,List.take_add_one,hd];simp
  generalize prt d=b at *
  have hb:b.map E.byte ≠ []:=by
   intro h
   exact hn1 (List.map_eq_nil_iff.1 h)
  have hUb:=YD b
  have hbl:(b.map E.byte).length=b.length:=List.length_map ..
  repeat'(first|rw[ei2]|(apply Zc (hX);kernel_rfl;(iterate 4 exact Z))|refine Yo Zb Z Z Z Z Z (Int.natCast_nonneg _) hidx ?_|(apply Zl Zb;exact Z)|(apply Zj Zb;exact Z)|(apply Zt Zb;exact Z)|(apply Zf;exact Z;(first|with_reducible assumption|decide +kernel|(solve|simp only[bn])))|refine ZG Zb Z Z Z Z ?_|(apply Za 6 Ze;decide +kernel;kernel_rfl;kernel_rfl;kernel_rfl;exact Z;exact Z)|(apply Zv;(iterate 4 exact Z))|exact AE.nil _ _ _ _|(apply ZB;exact Z)|(apply ZD;exact Z;exact Z;decide +kernel;exact Z)|(apply ZE;exact Z)|exact AO.nil _ _ _|(apply Zu;(decide +kernel))|exact AOs.nil|exact ZR rfl rfl|(apply ZJ Zb;(iterate 6 exact Z);(first|with_reducible assumption|decide +kernel|exact Z|rotate_left);exact Z;exact Z;(first|exact Zk rfl|with_reducible assumption|decide +kernel|rotate_left);(first|exact Zk rfl|with_reducible assumption|decide +kernel|rotate_left);(first|exact Qt|rotate_left);(first|exact Qt|rotate_left);(first|exact Qt|rotate_left);exact Z;exact Z))
  all_goals first|exact hb|rfl|(rw[hbl,hKl];unfold maxLen;omega)|(rw[hbl,hKl];show(_+_)*1<=_;omega)|skip
  refine Lands.mk' (m:=k-1) (by omega) ⟨i+1,K.length+(b.map E.byte).length,M++b,K++b.map E.byte,by omega,by rw[hK,List.map_append],by rw[List.length_append],hM2,by rw[List.length_append];omega,rfl,rfl,rfl⟩ ?_ rfl rfl rfl rfl rfl rfl
  exact .cons rfl (.cons rfl (.cons rfl (.cons rfl (.cons rfl .nil))))
 ·have t1:decide ((i:Int)<(p.length:Int))=false:=decide_eq_false (by omega)
  rw[List.take_of_length_le hge]at hM
  repeat'(first|(apply Zl Zb;exact Z)|(apply Zj Zb;exact Z)|(apply Zt Zb;exact Z)|(apply Zg;exact Z;(first|with_reducible assumption|decide +kernel|(solve|simp only[bn])))|refine ZG Zb Z Z Z Z ?_)
  all_goals(apply Zw [];(apply Zd Zb;exact Z);(iterate 4 exact Z))
  all_goals first|rfl|(rw[hK,hM])
theorem GM {n:Nat}(h:0<n/10):Lib.decDigits n=Lib.decDigits (n/10)++[UInt8.ofNat (48+n % 10)]:=by
 rw[Lib.decDigits,dif_neg (by omega)]
theorem Oa {n:Nat}(h:n/10=0):Lib.decDigits n=[UInt8.ofNat (48+n % 10)]:=by
 rw[Lib.decDigits,dif_pos (by omega),Nat.mod_eq_of_lt (by omega)]
theorem GN {k:Nat}(h:k<10):(UInt8.ofNat (48+k)).toNat=48+k:=by
 rw[UInt8.toNat_ofNat'];omega
theorem OO:∀(k u:Nat),u<10 ^ (k+1)->(Lib.decDigits u).length<=k+1
 | 0,u,h=>by rw[Lib.decDigits,dif_pos (by simpa using h)];simp
 | k+1,u,h=>by
  rw[Lib.decDigits]
  by_cases h1:u<10
  ·rw[dif_pos h1];simp
  ·rw[dif_neg h1,List.length_append]
   have:=OO k (u/10) (by rw[Nat.pow_succ]at h;omega)
   simp;omega
theorem X7 [Known](N:Nat)(hN:N<18446744073709551616):AP Tryz.prog 137 [.int .u64 (N:Int)] (.str (Lib.decDigits N)) []:=by
 refine AP.ofA (Zp Tryz.func137 Z Tryz.ntmps137 Z Z ?_)
 repeat'(first|(apply Zj Zb;exact Z))
 refine Yr (fun k tm bx fr=>∃(n:Nat) (out:List UInt8),k=n+(if out=[] then 1 else 0)/\n<=N/\((out=[]/\n=N)\/(out ≠ []/\(if n=0 then out=Lib.decDigits N else Lib.decDigits n++out=Lib.decDigits N)))/\tm=[(0,.int .u64 (n:Int)),(2,.str []),(3,.str out)]/\bx=[]/\fr=[]) (N+2) (Lands.mk' (m:=N+1) (by omega) ⟨N,[],by simp,Nat.le_refl _,.inl ⟨rfl,rfl⟩,rfl,rfl,rfl⟩ ?_ rfl rfl rfl rfl rfl rfl) ?_
 ·exact .cons rfl (.cons rfl (.cons rfl .nil))
 rintro k tm bx fr ⟨n,out,hk,hn,hI,rfl,rfl,rfl⟩
 have hol:out.length<=20:=by
  have hd:=OO 19 N (by omega)
  rcases hI with⟨rfl,_⟩ | ⟨_,h⟩
  ·simp
  ·split at h
   ·rw[h];exact hd
   ·rw[<- h,List.length_append]at hd;omega
 have e0:IntKind.u8.wrap (IntKind.u64.wrap (48+((n:Int)).tmod 10))=((UInt8.ofNat (48+n % 10)).toNat:Int):=by
  have hm:((n:Int)).tmod 10=((n % 10:Nat):Int):=by rw[Int.tmod_eq_emod_of_nonneg (by omega)];omega
  rw[hm,IntWalk.u64_in _ (by omega),GN (by omega),IntWalk.u8_in _ (by omega)];omega
 have e1:((n:Int)).tdiv 10=((n/10:Nat):Int):=by rw[Int.tdiv_eq_ediv_of_nonneg (by omega)];omega
 have e2:IntKind.u64.wrap ((n/10:Nat):Int)=((n/10:Nat):Int):=IntWalk.u64_in _ (by omega)
 have l1:[UInt8.ofNat (48+n % 10)].length+out.length<=maxLen:=by simp;unfold maxLen;omega
 have hgo:((out=[]/\n=N)\/(out ≠ []/\0<n/\Lib.decDigits n++out=Lib.decDigits N))->(if n/10=0 then [UInt8.ofNat (48+n % 10)]++out=Lib.decDigits N else Lib.decDigits (n/10)++([UInt8.ofNat (48+n % 10)]++out)=Lib.decDigits N):=fun h=>by
  have hh:Lib.decDigits n++out=Lib.decDigits N:=by
   rcases h with⟨rfl,rfl⟩ | ⟨_,_,h⟩
   ·simp
   ·exact h
  split
  ·rename_i h1;rw[<- hh,Oa h1]
  ·rename_i h1;rw[<- hh,GM (n:=n) (by omega),List.append_assoc]
 rcases Nat.eq_zero_or_pos n with h0|h0
 ·subst h0
  have t1:decide (((0:Nat):Int)>0)=false:=by decide
  cases out with
  | nil=>
   repeat'(first|rw[e0]|rw[e2]|rw[e1]|refine Z0 Zb Z (show _=[UInt8.ofNat (48+0 % 10)].map E.byte from rfl) Z Z Z Z Z Z Z ?_|refine QW Z Z l1 Z ?_|(apply Zl Zb;exact Z)|(apply Zj Zb;exact Z)|(apply Zt Zb;exact Z)|refine Zi Z Z Z Qt ?_|refine Zn Z Qt Z Z ?_|refine Zf Z Qt ?_|refine ZU ?_|refine V1 Zb Z Z Z Z Z Z Z Z Z Z Z Z ?_|(apply WB;exact Z;exact Z;(first|exact Qt|rotate_left);exact Z)|(apply YK;exact Z;exact Z;(first|exact Qt|rotate_left);exact Z))
   refine Lands.mk' (m:=0) (by simp at hk;omega) ⟨0,[UInt8.ofNat (48+0 % 10)]++[],by simp,by omega,.inr ⟨by simp,?_⟩,rfl,rfl,rfl⟩ ?_ rfl rfl rfl rfl rfl rfl
   ·rw[if_pos rfl]
    rcases hI with⟨_,rfl⟩ | ⟨h,_⟩
    ·rw[Oa (by omega)];rfl
    ·exact absurd rfl h
   ·exact .cons rfl (.cons rfl (.cons rfl .nil))
  | cons c r=>
   have t2:(c::r==[])=false:=by simp
   have hR:c::r=Lib.decDigits N:=by
    rcases hI with⟨h,_⟩ | ⟨_,h⟩
    ·cases h
    ·exact h
   repeat'(first|(apply Zl Zb;exact Z)|(apply Zj Zb;exact Z)|(apply Zt Zb;exact Z)|refine Zi Z Z Z Qt ?_|refine Zn Z Qt Z Z ?_|refine Zg Z Qt ?_)
   all_goals(apply Zw [];(apply Zd Zb;exact Z);(iterate 4 exact Z))
   all_goals first|rfl|(rw[hR];done)|(rw[<- hR];rfl)
 ·have t1:decide ((n:Int)>0)=true:=decide_eq_true (by omega)
  have hx:=hgo (by
   rcases hI with h|⟨h,h2⟩
   ·exact .inl h
   ·rw[if_neg (by omega)]at h2;exact .inr ⟨h,h0,h2⟩)
  repeat'(first|rw[e0]|rw[e2]|rw[e1]|refine Z0 Zb Z (show _=[UInt8.ofNat (48+n % 10)].map E.byte from rfl) Z Z Z Z Z Z Z ?_|refine QW Z Z l1 Z ?_|(apply Zl Zb;exact Z)|(apply Zj Zb;exact Z)|(apply Zt Zb;exact Z)|refine Zq Z Z Z Qt ?_|refine Zo Z Qt Z Z ?_|refine Zf Z Qt ?_|refine ZU ?_|refine V1 Zb Z Z Z Z Z Z Z Z Z Z Z Z ?_|(apply WB;exact Z;exact Z;(first|exact Qt|rotate_left);exact Z)|(apply YK;exact Z;exact Z;(first|exact Qt|rotate_left);exact Z))
  refine Lands.mk' (m:=n/10) (by omega) ⟨n/10,[UInt8.ofNat (48+n % 10)]++out,by simp,by omega,.inr ⟨by simp,hx⟩,rfl,rfl,rfl⟩ ?_ rfl rfl rfl rfl rfl rfl
  exact .cons rfl (.cons rfl (.cons rfl .nil))
def isD (c:UInt8):Bool:=decide ((c.toNat:Int) ≥ 48)&&decide ((c.toNat:Int)<=57)
def Wv:Nat->Nat->List UInt8->Nat × Nat
 | 0,a,_=>(a,0)
 | f+1,a,[]=>(a,0)
 | f+1,a,c::r=>if isD c then((Wv f (10*a+(c.toNat-48)) r).1,(Wv f (10*a+(c.toNat-48)) r).2+1) else(a,0)
theorem J0 {c:UInt8}:isD c=true ↔ 48<=c.toNat/\c.toNat<=57:=by
 simp only[isD,Bool.and_eq_true,decide_eq_true_eq];omega
theorem Ob:∀(l r:List UInt8) (f a:Nat),l.all isD=true->l.length<=f->Wv f a (l++r)=((Wv (f-l.length) (l.foldl (fun a c=>10*a+(c.toNat-48)) a) r).1,(Wv (f-l.length) (l.foldl (fun a c=>10*a+(c.toNat-48)) a) r).2+l.length)
 | [],r,f,a,_,_=>by simp
 | c::l,r,0,a,_,h=>by simp at h
 | c::l,r,f+1,a,ha,h=>by
  rw[List.all_cons,Bool.and_eq_true]at ha
  rw[List.cons_append,Wv,if_pos ha.1,Ob l r f _ ha.2 (by simpa using h),List.foldl_cons]
  simp[Nat.add_assoc]
theorem HH (u:Nat):(Lib.decDigits u).all isD=true:=List.all_eq_true.2 fun c hc=>J0.2 (XZ u c hc)
theorem GO:∀ u:Nat,(Lib.decDigits u).foldl (fun a c=>10*a+(c.toNat-48)) 0=u:=by
 intro u
 induction u using Nat.strongRecOn with
 | _ u ih=>
  rw[Lib.decDigits]
  by_cases h:u<10
  ·rw[dif_pos h,List.foldl_cons,List.foldl_nil,QB h];omega
  ·rw[dif_neg h,List.foldl_append,ih (u/10) (by omega),List.foldl_cons,List.foldl_nil,QB (by omega)];omega
theorem Oc {u:Nat}(hu:u<=4294967295)(r:List UInt8)(hr:∀ c t,r=c::t->isD c=false):Wv 11 0 (Lib.decDigits u++r)=(u,(Lib.decDigits u).length):=by
 have hl:=OO 9 u (by omega)
 rw[Ob _ _ _ _ (HH u) (by omega),GO]
 have e:∀ f,Wv f u r=(u,0):=fun f=>by
  match f,r,hr with
  | 0,r,_=>rfl
  | f+1,[],_=>rfl
  | f+1,c::t,hr=>rw[Wv,hr c t rfl];rfl
 rw[e]
 simp
def JN (r:List UInt8):EidV:=⟨true,(Wv 11 0 r).1,if 4+(Wv 11 0 r).2<4+r.length then(Wv 11 0 (r.drop ((Wv 11 0 r).2+1))).1 else 0,[],[]⟩
theorem J1:ZC Zx=V3:=by decide
theorem QZ {y:EidV}(h:ZY y=true)(hz:isZ y=false):(y.i=true/\ZC y=WQ++(Lib.decDigits y.n++46::Lib.decDigits y.s)/\y.n<=4294967295/\y.s<=4294967295/\y.h=[]/\y.d=[])\/(y.i=false/\ZC y=[100,116,110,58,47,47]++(y.h++47::y.d)/\y.n=0/\y.s=0/\y.h ≠ []/\(47:UInt8) ∉ y.h):=by
 cases hi:y.i with
 | true=>
  obtain⟨b1,b2,b3,b4,b5⟩:=VG h hz hi
  refine .inl ⟨rfl,?_,b1,b2,b3,b4⟩
  unfold ZC
  rw[hz,if_neg (by simp),hi,if_pos rfl]
  simp[WQ]
 | false=>
  obtain⟨b1,b2,b3,b4,b5,b6,b7⟩:=VH h hz hi
  refine .inr ⟨rfl,?_,b1,b2,fun e=>(by rw[e]at b3;simp at b3),Xn b6 (by decide)⟩
  unfold ZC
  rw[hz,if_neg (by simp),hi,if_neg (by simp)]
  simp[QS]
theorem GP {r:List UInt8}(h:(ZW (WQ++r)).2=true):JN r=(ZW (WQ++r)).1:=by
 obtain⟨h1,h2⟩:=VI h
 generalize (ZW (WQ++r)).1=y at *
 cases hz:isZ y with
 | true=>rw[VT.1 hz,J1]at h2;exact absurd h2 (by simp[V3,WQ])
 | false=>
  rcases QZ h1 hz with⟨hi,ht,b1,b2,b3,b4⟩ | ⟨hi,ht,b⟩
  ·rw[ht]at h2
   have hr:r=Lib.decDigits y.n++46::Lib.decDigits y.s:=(List.append_cancel_left h2).symm
   have e1:=Oc b1 (46::Lib.decDigits y.s) (fun c t hc=>by cases hc;decide)
   have e2:=Oc b2 [] (fun c t hc=>by cases hc)
   rw[List.append_nil]at e2
   unfold JN
   rw[hr,e1]
   have e3:(Lib.decDigits y.n++46::Lib.decDigits y.s).drop ((Lib.decDigits y.n).length+1)=Lib.decDigits y.s:=by
    rw[List.drop_append,List.drop_of_length_le (by omega)];simp
   dsimp only
   rw[e3,e2,if_pos (by simp)]
   obtain⟨i,n,s,hh,dd⟩:=y
   simp only at hi b3 b4
   rw[hi,b3,b4]
  ·rw[ht]at h2;exact absurd h2 (by simp[WQ])
theorem GQ {h d:List UInt8}(hn:(47:UInt8) ∉ h)(hp:(ZW ([100,116,110,58,47,47]++(h++47::d))).2=true):(⟨false,0,0,h,d⟩:EidV)=(ZW ([100,116,110,58,47,47]++(h++47::d))).1:=by
 obtain⟨h1,h2⟩:=VI hp
 generalize (ZW ([100,116,110,58,47,47]++(h++47::d))).1=y at *
 cases hz:isZ y with
 | true=>rw[VT.1 hz,J1]at h2;exact absurd h2 (by simp[V3])
 | false=>
  rcases QZ h1 hz with⟨hi,ht,b⟩ | ⟨hi,ht,b1,b2,b3,b4⟩
  ·rw[ht]at h2;exact absurd h2 (by simp[WQ])
  ·rw[ht]at h2
   have e:=List.append_cancel_left h2
   have e1:=UB (b:=y.d) b4
   rw[e,UB hn]at e1
   obtain⟨i,n,s,hh,dd⟩:=y
   simp only[Prod.mk.injEq,and_true]at e1
   simp only at hi b1 b2
   rw[e1.1,e1.2,hi,b1,b2]
theorem Od {s:List UInt8}(h0:s ≠ V3)(h1:∀ r,r ≠ []->s ≠ WQ++r)(h2:∀ h d,(47:UInt8) ∉ h->s ≠ [100,116,110,58,47,47]++(h++47::d)):(ZW s).2=false:=by
 cases hp:(ZW s).2 with
 | false=>rfl
 | true=>
  obtain⟨k1,k2⟩:=VI hp
  generalize (ZW s).1=y at *
  cases hz:isZ y with
  | true=>rw[VT.1 hz,J1]at k2;exact absurd k2.symm h0
  | false=>
   rcases QZ k1 hz with⟨hi,ht,b⟩ | ⟨hi,ht,b1,b2,b3,b4⟩
   ·exact absurd (k2.symm.trans ht) (h1 _ (by intro e;have:=congrArg List.length e;simp at this))
   ·exact absurd (k2.symm.trans ht) (h2 _ _ b4)
abbrev Q0 (s:List UInt8):D:=.tup [.agg (eC (match(ZW s).2 with|true=>(ZW s).1|false=>Zx)),.bool (ZW s).2]
theorem UF {s:List UInt8}(h:(ZW s).2=false):Q0 s=.tup [.agg (eC Zx),.bool false]:=by unfold Q0;rw[h]
theorem Q1 {s:List UInt8}{y:EidV}(h:ZW s=(y,true)):Q0 s=.tup [.agg (eC y),.bool true]:=by unfold Q0;rw[h]
theorem TE {s:List UInt8}{c:EidV}(h0:s ≠ V3)(hc:(ZW s).2=true->c=(ZW s).1)(hk:decide (W5 c<1)=true):(ZW s).2=false:=by
 cases hp:(ZW s).2 with
 | false=>rfl
 | true=>
  obtain⟨k1,k2⟩:=VI hp
  rw[<- hc hp]at k1 k2
  rw[Qc,k1]at hk
  simp only[Bool.not_true,Bool.false_or]at hk
  rw[VT.1 hk,J1]at k2
  exact absurd k2.symm h0
theorem TF {s:List UInt8}{c:EidV}(hc:(ZW s).2=true->c=(ZW s).1)(ht:(ZC c != s)=true):(ZW s).2=false:=by
 cases hp:(ZW s).2 with
 | false=>rfl
 | true=>
  obtain⟨k1,k2⟩:=VI hp
  rw[<- hc hp]at k2
  rw[bne_iff_ne]at ht
  exact absurd k2 ht
theorem TG {s:List UInt8}{c:EidV}(hk:decide (W5 c<1)=false)(ht:(ZC c != s)=false):ZW s=(c,true):=by
 rw[Qc]at hk
 simp only[Bool.or_eq_false_iff,Bool.not_eq_false']at hk
 have e:ZC c=s:=by simpa using ht
 rw[<- e,Xo hk.1]
theorem X8 {x:EidV}(h:ZY x=true):Fit x:=by
 cases hz:isZ x with
 | true=>rw[VT.1 hz];exact⟨by decide,by decide⟩
 | false=>
  cases hi:x.i with
  | true=>
   obtain⟨_,_,h1,h2,_⟩:=VG h hz hi
   unfold Fit;rw[h1,h2];exact⟨by decide,by decide⟩
  | false=>
   obtain⟨_,_,_,h1,h2,_⟩:=VH h hz hi
   exact⟨by omega,by omega⟩
theorem TH {x:EidV}(h:isZ x=true):W5 x=0:=by rw[VT.1 h];decide
theorem TI {x:EidV}(h:ZY x=true)(hi:x.i=true):W5 x=1:=by unfold W5;rw[hi,h];rfl
theorem TJ {x:EidV}(h:ZY x=true)(hz:isZ x=false)(hi:x.i=false):W5 x=2:=by unfold W5;rw[hi,hz,h];rfl
theorem V9 [Known](x:EidV)(h:ZY x=true):AP Tryz.prog 118 [.agg (eC x)] (.str (ZC x)) []:=by
 have hK:=Qf x (X8 h)
 unfold ZC
 cases hz:isZ x with
 | true=>
  rw[TH hz]at hK
  rw[if_pos rfl]
  refine AP.ofA (Zp Tryz.func118 Z Tryz.ntmps118 Z Z ?_)
  repeat'(first|(apply Zc (hK);kernel_rfl;(iterate 4 exact Z))|(apply Zl Zb;exact Z)|(apply Zj Zb;exact Z)|(apply Zt Zb;exact Z)|refine Zf Z Qt ?_)
  all_goals exact Qe
 | false=>
  rw[if_neg (by simp)]
  cases hi:x.i with
  | true=>
   obtain⟨b1,b2,_⟩:=VG h hz hi
   rw[TI h hi]at hK
   rw[if_pos rfl]
   have d1:=U5 x.n (by omega)
   have d2:=U5 x.s (by omega)
   have hD1:=X7 x.n (by omega)
   have hD2:=X7 x.s (by omega)
   have l1:[(105:UInt8),112,110,58].length+(Lib.decDigits x.n).length<=maxLen:=by simp;unfold maxLen;omega
   have l2:([(105:UInt8),112,110,58]++Lib.decDigits x.n).length + [(46:UInt8)].length<=maxLen:=by simp;unfold maxLen;omega
   have l3:([(105:UInt8),112,110,58]++Lib.decDigits x.n++[46]).length+(Lib.decDigits x.s).length<=maxLen:=by simp;unfold maxLen;omega
   refine AP.ofA (Zp Tryz.func118 Z Tryz.ntmps118 Z Z ?_)
   repeat'(first|(apply Zc (hK);kernel_rfl;(iterate 4 exact Z))|(apply Zc (hD1);kernel_rfl;(iterate 4 exact Z))|(apply Zc (hD2);kernel_rfl;(iterate 4 exact Z))|(apply QW;exact Z;exact Z;(first|exact l1|exact l2|exact l3);exact Z)|(apply Zl Zb;exact Z)|(apply Zj Zb;exact Z)|refine Zf Z Qt ?_|refine Zg Z Qt ?_|(apply Z5 8 Ze;decide +kernel;kernel_rfl;kernel_rfl;exact Z;exact Z)|(apply Yp;(iterate 3 exact Z))|refine AD.nil _|exact Yv rfl)
   all_goals exact Qe
  | false=>
   obtain⟨_,_,_,b1,b2,_⟩:=VH h hz hi
   rw[TJ h hz hi]at hK
   rw[if_neg (by simp)]
   have l1:[(100:UInt8),116,110,58,47,47].length+x.h.length<=maxLen:=by simp;unfold maxLen;omega
   have l2:([(100:UInt8),116,110,58,47,47]++x.h).length + [(47:UInt8)].length<=maxLen:=by simp;unfold maxLen;omega
   have l3:([(100:UInt8),116,110,58,47,47]++x.h++[47]).length+x.d.length<=maxLen:=by simp;unfold maxLen;omega
   refine AP.ofA (Zp Tryz.func118 Z Tryz.ntmps118 Z Z ?_)
   repeat'(first|(apply Zc (hK);kernel_rfl;(iterate 4 exact Z))|(apply QW;exact Z;exact Z;(first|exact l1|exact l2|exact l3);exact Z)|(apply Zl Zb;exact Z)|(apply Zj Zb;exact Z)|refine Zg Z Qt ?_)
   all_goals exact Qe
theorem Xx {x:RqV}(h:ZI x=true):(1<=x.id/\x.id<=1099511627776)/\(0<=x.pol/\x.pol<=2)/\(0<=x.num/\x.num<=1099511627776)/\(0<=x.tik/\x.tik<=1000)/\x.life<=1099511627776/\x.tok<=2147483648/\x.pay.length<=200:=by
 rw[<- Xw x (Uk h)]at h
 unfold rfF rfR at h
 simp only[Bool.and_eq_true,Bool.not_eq_true',Bool.or_eq_false_iff,decide_eq_true_eq,decide_eq_false_iff_not]at h
 omega
theorem Ii {x:RqV}(h:ZI x=true):ZY x.ep=true/\ZY x.ds=true:=by
 have e0:ZY Zx=true:=by decide
 have hz:∀ y,isZ y=true->ZY y=true:=fun y hy=>by rw[VT.1 hy];exact e0
 rw[<- Xw x (Uk h)]at h
 unfold rfF rfR at h
 rw[Qc,Qc]at h
 have h1:=hz x.ep
 have h2:=hz x.ds
 cases a1:ZY x.ep<;>cases a2:ZY x.ds<;>cases b1:isZ x.ep<;>cases b2:isZ x.ds<;>simp_all
def OP (x:RqV)(c:UInt8):List UInt8:=
 if c==101 then vn (ZC x.ep).length++ZC x.ep else if c==100 then vn (ZC x.ds).length++ZC x.ds else if c==98 then vn x.pay.length++x.pay
 else if c==112 then vn x.pol.toNat else if c==110 then vn x.num.toNat else if c==116 then vn x.tik.toNat else if c==108 then vn x.life else if c==107 then vn x.tok else vn x.on.toNat
theorem TK {x:RqV}(h:ZI x=true):ZQ x=vn x.id++vn x.kd.toNat++(VM x.kd).flatMap (OP x):=by
 unfold ZQ Ve VM
 rcases Uk h with e|e|e|e|e|e|e|e|e|e|e|e<;>rw[e]
 all_goals
  simp only[Int.reduceBEq,Bool.true_or,Bool.or_true,Bool.or_self,Bool.or_false,Bool.false_or,if_true,if_false,Bool.false_eq_true,List.flatMap_cons,List.flatMap_nil,List.append_nil,List.append_assoc]
  try rfl
  try simp[OP]
theorem HI {k:Int}(hk:k=1\/k=2\/k=3\/k=4\/k=5\/k=6\/k=7\/k=8\/k=9\/k=10\/k=11\/k=12):(VM k).length<=10/\∀ c ∈ VM k,c=101\/c=100\/c=98\/c=112\/c=110\/c=116\/c=108\/c=107\/c=111:=by
 rcases hk with rfl|rfl|rfl|rfl|rfl|rfl|rfl|rfl|rfl|rfl|rfl|rfl<;>decide
theorem TL [Known](x:RqV)(h:ZI x=true)(c:UInt8)(hc:c=101\/c=100\/c=98\/c=112\/c=110\/c=116\/c=108\/c=107\/c=111):AP Tryz.prog 115 [.agg (rqC x),.int .u8 (c.toNat:Int)] (byE (OP x c)) []:=by
 obtain⟨⟨f1,f2⟩,⟨f3,f4⟩,⟨f5,f6⟩,⟨f7,f8⟩,f9,f10,f11⟩:=Xx h
 obtain⟨g1,g2⟩:=Ii h
 have t1:=V9 x.ep g1
 have t2:=V9 x.ds g2
 have l1:=Ws g1
 have l2:=Ws g2
 clear h g1 g2
 obtain⟨id,kd,⟨ei,en,es,eh,ed⟩,⟨di,dn,dq,dh,dd⟩,pol,num,tik,pay,life,tok,on⟩:=x
 dsimp only at *
 rcases hc with rfl|rfl|rfl|rfl|rfl|rfl|rfl|rfl|rfl
 ·exact MH id kd ei en es eh ed di dn dq dh dd pol num tik pay life tok on _ (by dsimp only;omega) t1
 ·exact MI id kd ei en es eh ed di dn dq dh dd pol num tik pay life tok on _ (by dsimp only;omega) t2
 ·exact MJ id kd ei en es eh ed di dn dq dh dd pol num tik pay life tok on (by omega)
 ·exact MK id kd ei en es eh ed di dn dq dh dd pol num tik pay life tok on pol.toNat (by omega) (by omega)
 ·exact ML id kd ei en es eh ed di dn dq dh dd pol num tik pay life tok on num.toNat (by omega) (by omega)
 ·exact MM id kd ei en es eh ed di dn dq dh dd pol num tik pay life tok on tik.toNat (by omega) (by omega)
 ·exact MN id kd ei en es eh ed di dn dq dh dd pol num tik pay life tok on (by omega)
 ·exact MO id kd ei en es eh ed di dn dq dh dd pol num tik pay life tok on (by omega)
 ·exact MP id kd ei en es eh ed di dn dq dh dd pol num tik pay life tok on
theorem HJ {x:RqV}(h:ZI x=true)(c:UInt8):OP x c ≠ []/\(OP x c).length<=1000:=by
 obtain⟨g1,g2⟩:=Ii h
 have l1:=Ws g1
 have l2:=Ws g2
 have l3:x.pay.length<=200:=(Xx h).2.2.2.2.2.2
 have hv:∀(n:Nat) (r:List UInt8),r.length<=200->vn n++r ≠ []/\(vn n++r).length<=1000:=fun n r hr=>by
  obtain⟨a,b⟩:=W1 9 n
  have a':(vn n).length<=10:=a
  have b':0<(vn n).length:=b
  refine⟨?_,by rw[List.length_append];omega⟩
  intro e
  have:=congrArg List.length e
  rw[List.length_append,List.length_nil]at this
  omega
 have hv0:∀ n:Nat,vn n ≠ []/\(vn n).length<=1000:=fun n=>by have:=hv n [] (by simp);rwa [List.append_nil]at this
 unfold OP
 repeat' split
 all_goals first|exact hv0 _|exact hv _ _ (by omega)
theorem YM [Known](x:RqV)(h:ZI x=true):AP Tryz.prog 88 [.agg (rqC x)] (byE (ZQ x)) []:=by
 have hk:=Uk h
 obtain⟨hl,hc⟩:=HI hk
 have hp:=WD x.kd
 have ha:=fun c hcc=>TL x h c (hc c hcc)
 have hn:=fun c (_:c ∈ VM x.kd)=>HJ h c
 have hi:=(Xx h).1.2
 obtain⟨kn,hkn,hkl⟩:∃ kn:Nat,x.kd=(kn:Int)/\kn<1000:=⟨x.kd.toNat,by omega,by omega⟩
 rw[TK h]
 rw[hkn]at hp
 rw[show x.kd.toNat=kn by omega]
 generalize OP x=prt at *
 rw[hkn]at ha hn hl ⊢
 generalize VM (kn:Int)=p at *
 clear h hk hc
 obtain⟨id,kd,⟨ei,en,es,eh,ed⟩,⟨di,dn,dq,dh,dd⟩,pol,num,tik,pay,life,tok,on⟩:=x
 dsimp only at *
 subst hkn
 exact K9 id kn ei en es eh ed di dn dq dh dd pol num tik pay life tok on p prt (by omega) hkl hl hp ha hn
end Go.Proofs.YtchlgagdbflkmaaGreatDoor
end

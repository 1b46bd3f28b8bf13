/- Package strings: a prefix cut off; a text cut at a byte. -/
import Derived.Test.YtkdpfkjlheajhaaGreatDoorC14
import Derived.Test.YtkdpfkjlheajhaaGreatDoorC07
import Derived.LaidEql
import Derived.Test.YtkdpfkjlheajhaaGreatDoorC11
import Derived.Test.YtkdpfkjlheajhaaGreatDoorC10
import Derived.Test.YtkdpfkjlheajhaaGreatDoorC12
set_option linter.unusedVariables false
set_option linter.unusedSimpArgs false
section
open Go.RowKit Go.Pl Go.Av
namespace Go.Proofs.YtkdpfkjlheajhaaGreatDoor
set_option maxHeartbeats 4000000
theorem Qr [Known](s p:List UInt8)(hs:s.length<=4611686018427387904)(hp:p.length<=4611686018427387904):AP Tryz.prog 156 [.str s,.str p] (.bool (s.take p.length==p)) []:=by
 by_cases h:p.length<=s.length
 ·have t1:decide ((s.length:Int) ≥ (p.length:Int))=true:=decide_eq_true (by omega)
  have hq:((p.length:Nat):Int).toNat<=s.length:=by rw[Int.toNat_natCast];exact h
  have hs2:(s.take ((p.length:Nat):Int).toNat).drop 0=s.take p.length:=by rw[Int.toNat_natCast,List.drop_zero]
  generalize s.take p.length=s2 at *
  refine AP.ofA (Zm Tryz.func156 Z Tryz.ntmps156 Z Z ?_)
  repeat'(first|refine W8 Za Z Z Z Z (.dft _) (.lit _ _ _ _ rfl (Int.natCast_nonneg _)) (Nat.zero_le _) hq hs2 ?_|(apply Zj Za;exact Z)|(apply Zg Za;exact Z)|refine Zi Z Z Z Qt ?_|refine Zk Z Qt Z Z ?_|refine WE Za Z Z Z Z ?_)
  all_goals exact Qe
 ·have t1:decide ((s.length:Int) ≥ (p.length:Int))=false:=decide_eq_false (by omega)
  have e:(s.take p.length==p)=false:=by
   rw[beq_eq_false_iff_ne]
   intro e
   have:=congrArg List.length e
   rw[List.length_take]at this
   omega
  rw[e]
  refine AP.ofA (Zm Tryz.func156 Z Tryz.ntmps156 Z Z ?_)
  repeat'(first|(apply Zj Za;exact Z)|(apply Zg Za;exact Z)|refine Zr Z Z Z Qt ?_|refine Zl Z Qt Z Z ?_|refine WE Za Z Z Z Z ?_)
  all_goals exact Qe
theorem J0 [Known](p r:List UInt8)(hs:(p++r).length<=4611686018427387904):AP Tryz.prog 126 [.str (p++r),.str p] (.tup [.str r,.bool true]) []:=by
 have hH:=Qr (p++r) p hs (by rw[List.length_append]at hs;omega)
 rw[List.take_left,beq_self_eq_true]at hH
 have hq:((p.length:Nat):Int).toNat<=(p++r).length:=by rw[Int.toNat_natCast,List.length_append];omega
 have hs2:((p++r).take (p++r).length).drop ((p.length:Nat):Int).toNat=r:=by rw[Int.toNat_natCast,List.take_length,List.drop_left]
 have hC:AP Tryz.prog 137 [.str (p++r),.str p] (.tup [.str r,.bool true]) []:=by
  generalize p++r=s at *
  refine AP.ofA (Zm Tryz.func137 Z Tryz.ntmps137 Z Z ?_)
  repeat'(first|(apply Zc (hH);kernel_rfl;(iterate 4 exact Z))|refine W8 Za Z Z Z Z (.lit _ _ _ _ rfl (Int.natCast_nonneg _)) (.dft _) hq (Nat.le_refl _) hs2 ?_|(apply Zj Za;exact Z)|(apply Zg Za;exact Z)|(apply Zq Za;exact Z)|refine Ze Z Qt ?_|refine WE Za Z Z Z Z ?_)
  all_goals exact Qe
 refine AP.ofA (Zm Tryz.func126 Z Tryz.ntmps126 Z Z ?_)
 repeat'(first|(apply Zc (hC);kernel_rfl;(iterate 4 exact Z))|(apply Zj Za;exact Z)|(apply Zg Za;exact Z))
 all_goals exact Qe
theorem J1 [Known](s p:List UInt8)(hs:s.length<=4611686018427387904)(hp:p.length<=4611686018427387904)(h:(s.take p.length==p)=false):AP Tryz.prog 126 [.str s,.str p] (.tup [.str s,.bool false]) []:=by
 have hH:=Qr s p hs hp
 rw[h]at hH
 have hC:AP Tryz.prog 137 [.str s,.str p] (.tup [.str s,.bool false]) []:=by
  refine AP.ofA (Zm Tryz.func137 Z Tryz.ntmps137 Z Z ?_)
  repeat'(first|(apply Zc (hH);kernel_rfl;(iterate 4 exact Z))|(apply Zj Za;exact Z)|(apply Zg Za;exact Z)|(apply Zq Za;exact Z)|refine Zf Z Qt ?_)
  all_goals exact Qe
 refine AP.ofA (Zm Tryz.func126 Z Tryz.ntmps126 Z Z ?_)
 repeat'(first|(apply Zc (hC);kernel_rfl;(iterate 4 exact Z))|(apply Zj Za;exact Z)|(apply Zg Za;exact Z))
 all_goals exact Qe
theorem X0 (s p:List UInt8):(∃ r,s=p++r)\/(s.take p.length==p)=false:=by
 cases h:s.take p.length==p with
 | true=>
  refine .inl ⟨s.drop p.length,?_⟩
  have:=beq_iff_eq.1 h
  conv=>lhs;rw[<- List.take_append_drop p.length s,this]
 | false=>exact .inr rfl
theorem KQ:∀ {l:List UInt8} {c:UInt8},c ∉ l->Lib.indexByte l c = -1
 | [],_,_=>rfl
 | x::l,c,h=>by
  have h1:¬ x=c:=fun e=>h (by rw[e];exact List.mem_cons_self ..)
  have h2:=KQ (l:=l) (c:=c) fun hm=>h (List.mem_cons_of_mem _ hm)
  simp[Lib.indexByte,h1,h2]
theorem Xv:∀ {a b:List UInt8} {c:UInt8},c ∉ a->Lib.indexByte (a++c::b) c=(a.length:Int)
 | [],b,c,_=>by simp[Lib.indexByte]
 | x::a,b,c,h=>by
  have h1:¬ x=c:=fun e=>h (by rw[e];exact List.mem_cons_self ..)
  have h2:=Xv (a:=a) (b:=b) (c:=c) fun hm=>h (List.mem_cons_of_mem _ hm)
  rw[List.cons_append]
  simp only[Lib.indexByte,h2,List.length_cons,beq_iff_eq,h1,if_false]
  (repeat' split)<;>omega
theorem Qs [Known](s:List UInt8)(c:UInt8):AP Tryz.prog 186 [.str s,.str [c]] (.int .i64 (Lib.indexByte s c)) []:=by
 have hI:=It s (c.toNat:Int)
 have e:((c.toNat:Int)).toNat.toUInt8=c:=by rw[Int.toNat_natCast];simp
 rw[e]at hI
 have t0:((([c]:List UInt8).length:Int)==0)=false:=rfl
 have t1:((([c]:List UInt8).length:Int)==1)=true:=rfl
 by_cases hs:[c]=s
 ·subst hs
  have t2:([c]==[c])=true:=by simp
  have e0:Lib.indexByte [c] c=0:=by simp[Lib.indexByte]
  rw[e0]
  refine AP.ofA (Zm Tryz.func186 Z Tryz.ntmps186 Z Z ?_)
  repeat'(first|(apply Zj Za;exact Z)|(apply Zg Za;exact Z)|(apply Zq Za;exact Z)|refine Zi Z Z Z Qt ?_|refine Zl Z Qt Z Z ?_|refine Zf Z Qt ?_|refine WE Za Z Z Z Z ?_)
  all_goals exact Qe
 ·have t2:([c]==s)=false:=by simpa using hs
  refine AP.ofA (Zm Tryz.func186 Z Tryz.ntmps186 Z Z ?_)
  repeat'(first|(apply Zc (hI);kernel_rfl;(iterate 4 exact Z))|refine Of Za Z Z Z Z Z Qd Z ?_|(apply Zj Za;exact Z)|(apply Zg Za;exact Z)|(apply Zq Za;exact Z)|refine Zi Z Z Z Qt ?_|refine Zl Z Qt Z Z ?_|refine Zf Z Qt ?_|refine Ze Z Qt ?_|refine WE Za Z Z Z Z ?_)
  all_goals exact Qe
theorem OD [Known](s:List UInt8)(c:UInt8)(h:c ∉ s):AP Tryz.prog 138 [.str s,.str [c]] (.tup [.str s,.str [],.bool false]) []:=by
 have hI:=Qs s c
 rw[KQ h]at hI
 have hC:AP Tryz.prog 157 [.str s,.str [c]] (.tup [.str s,.str [],.bool false]) []:=by
  refine AP.ofA (Zm Tryz.func157 Z Tryz.ntmps157 Z Z ?_)
  repeat'(first|(apply Zc (hI);kernel_rfl;(iterate 4 exact Z))|(apply Zj Za;exact Z)|(apply Zg Za;exact Z)|refine Ze Z Qt ?_)
  all_goals exact Qe
 refine AP.ofA (Zm Tryz.func138 Z Tryz.ntmps138 Z Z ?_)
 repeat'(first|(apply Zc (hC);kernel_rfl;(iterate 4 exact Z))|(apply Zj Za;exact Z)|(apply Zg Za;exact Z))
 all_goals exact Qe
theorem OE [Known](a b:List UInt8)(c:UInt8)(h:c ∉ a)(hl:(a++c::b).length<=4611686018427387904):AP Tryz.prog 138 [.str (a++c::b),.str [c]] (.tup [.str a,.str b,.bool true]) []:=by
 have hI:=Qs (a++c::b) c
 rw[Xv h]at hI
 have hal:a.length+1<=(a++c::b).length:=by rw[List.length_append,List.length_cons];omega
 have t1:decide ((a.length:Int) ≥ 0)=true:=decide_eq_true (by omega)
 have e1:IntKind.i64.wrap ((a.length:Int)+(([c]:List UInt8).length:Int))=((a.length+1:Nat):Int):=by
  rw[IntWalk.i64_in _ (by simp;omega)];simp
 have q1:((a.length:Nat):Int).toNat<=(a++c::b).length:=by rw[Int.toNat_natCast];omega
 have q2:((a.length+1:Nat):Int).toNat<=(a++c::b).length:=by rw[Int.toNat_natCast];omega
 have s1:((a++c::b).take ((a.length:Nat):Int).toNat).drop 0=a:=by rw[Int.toNat_natCast,List.drop_zero,List.take_left]
 have s2:((a++c::b).take (a++c::b).length).drop ((a.length+1:Nat):Int).toNat=b:=by
  rw[Int.toNat_natCast,List.take_length,show a.length+1=(a++[c]).length by simp,show a++c::b=(a++[c])++b by simp,List.drop_left]
 have hC:AP Tryz.prog 157 [.str (a++c::b),.str [c]] (.tup [.str a,.str b,.bool true]) []:=by
  generalize a++c::b=s at *
  refine AP.ofA (Zm Tryz.func157 Z Tryz.ntmps157 Z Z ?_)
  repeat'(first|rw[e1]|(apply Zc (hI);kernel_rfl;(iterate 4 exact Z))|refine W8 Za Z Z Z Z (.dft _) (.lit _ _ _ _ rfl (Int.natCast_nonneg _)) (Nat.zero_le _) q1 s1 ?_|refine W8 Za Z Z Z Z (.lit _ _ _ _ rfl (Int.natCast_nonneg _)) (.dft _) q2 (Nat.le_refl _) s2 ?_|(apply Zj Za;exact Z)|(apply Zg Za;exact Z)|refine Zf Z Qt ?_|refine WE Za Z Z Z Z ?_|(apply Zx 10 Z9;decide +kernel;kernel_rfl;kernel_rfl;kernel_rfl;exact Z;exact Z)|(apply ZB;(iterate 4 exact Z))|exact AE.nil _ _ _ _|(apply ZF;exact Z)|(apply ZN;exact Z;exact Z;decide +kernel;exact Z)|(apply ZP;exact Z)|exact AO.nil _ _ _|(apply ZA;(decide +kernel))|exact AOs.nil|exact ZY rfl rfl)
  all_goals exact Qe
 refine AP.ofA (Zm Tryz.func138 Z Tryz.ntmps138 Z Z ?_)
 repeat'(first|(apply Zc (hC);kernel_rfl;(iterate 4 exact Z))|(apply Zj Za;exact Z)|(apply Zg Za;exact Z))
 all_goals exact Qe
theorem Qu (c:UInt8):∀ s:List UInt8,(c ∉ s)\/∃ a b,s=a++c::b/\c ∉ a
 | []=>.inl (by simp)
 | x::s=>by
  by_cases e:x=c
  ·subst e;exact .inr ⟨[],s,rfl,by simp⟩
  ·rcases Qu c s with h|⟨a,b,rfl,h⟩
   ·refine .inl fun hm=>?_
    rcases List.mem_cons.1 hm with h2|h2
    ·exact e h2.symm
    ·exact h h2
   ·refine .inr ⟨x::a,b,rfl,fun hm=>?_⟩
    rcases List.mem_cons.1 hm with h2|h2
    ·exact e h2.symm
    ·exact h h2
end Go.Proofs.YtkdpfkjlheajhaaGreatDoor
end
section
open Go.RowKit Go.Pl
namespace Go.Av
section
variable {P:Program} {Q:X->St->Prop} {n:Nat} {ee:Nat × Nat} {tm:List (Nat × D)} {bx:List (List D)} {fr:List Fr}
variable {ops:Array Oper} {rest:List Oper} {t ty:Nat} {pos:String} {after:Array Edge}
theorem Vo {ti:TypeId}{w:World}{ms:Array (String × TypeId)}(tp:TypeId)(v:Value)(hi:P.underlying ti=some (.interface ms)):(Op.equal ti (.iface tp v) .nilIface).run P w=.ok false w:=by
 have h:∀ d:Nat,(Op.equalIn (d+1) ti (.iface tp v) .nilIface).run P w=.ok false w:=fun d=>by simp[Op.equalIn,run_underlying hi]
 simp only[Op.equal]
 exact h _
theorem UN [Known][Dfr]{op:BinOp}{x:Operand}{xt yt:Nat}{d d0:D}{t0:TypeId}(hx:ev tm x=.iface t0 d0)(hu:P.underlying xt=some (.interface (P.methodsAt xt)))(hd:(match op with | .eql=>some (D.bool false) | .neq=>some (D.bool true)|_=>none)=some d)(htd:Nat.blt t n=true)
  (k:AL P ops rest ⟨n,(t,d)::tm,bx,fr,ee⟩ Q):AL P ops (⟨some t,.binOp op xt x (.const .nilIface) yt,ty,pos,after,none⟩::rest) ⟨n,tm,bx,fr,ee⟩ Q:=
 ZJ _ htd (fun g a w hi=>by
  have h1:V w g fr (ev tm x) (a.eval x):=hi.ev x
  rw[hx]at h1
  obtain⟨v,h1⟩:∃ v,a.eval x=.iface t0 v:=by
   generalize a.eval x=v at h1
   cases h1 with|iface _ _ v _=>exact⟨v,rfl⟩
  have h2:a.eval (.const .nilIface)=.nilIface:=rfl
  have hrun:(Op.equal xt (.iface t0 v) .nilIface).run P w=.ok false w:=Vo t0 v hu
  cases op<;>simp at hd<;>subst hd<;>first|exact⟨.bool false,by simp[execOp,h1,h2,eqGuard,binOp,Sem.run_bind,hrun],.bool _⟩ | exact⟨.bool true,by simp[execOp,h1,h2,eqGuard,binOp,Sem.run_bind,hrun],.bool _⟩) k
end
end Go.Av
end
section
open Go.RowKit Go.Pl Go.Av
namespace Go.Proofs.YtkdpfkjlheajhaaGreatDoor
set_option maxHeartbeats 4000000
theorem Jq (c:UInt8):∀ s:List UInt8,(Ys c s).1.length<=s.length/\(Ys c s).2.1.length<=s.length
 | []=>⟨Nat.le_refl _,Nat.le_refl _⟩
 | x::s=>by
  rw[Ys]
  have:=Jq c s
  split
  ·simp
  ·simp;omega
theorem UO (p s:List UInt8):(YM p s).1.length<=s.length:=by
 unfold YM
 split
 ·simp
 ·exact Nat.le_refl _
theorem KR [Known](s:List UInt8)(c:UInt8)(hl:s.length<=4611686018427387904):AP Tryz.prog 138 [.str s,.str [c]] (.tup [.str (Ys c s).1,.str (Ys c s).2.1,.bool (Ys c s).2.2]) []:=by
 rcases Qu c s with h|⟨a,b,rfl,h⟩
 ·rw[Xu h];exact OD s c h
 ·rw[Jn h];exact OE a b c h hl
theorem V5 [Known](s p:List UInt8)(hs:s.length<=4611686018427387904)(hp:p.length<=4611686018427387904):AP Tryz.prog 126 [.str s,.str p] (.tup [.str (YM p s).1,.bool (YM p s).2]) []:=by
 rcases X0 s p with⟨r,rfl⟩ | h
 ·rw[KN];exact J0 p r hs
 ·rw[OC h];exact J1 s p hs hp h
theorem IZ [Known](s:List UInt8)(hs:s.length<=140737488351232):AP Tryz.prog 128 [.str s] (.tup [.agg (eC (ppV s).1),.bool (ppV s).2]) []:=by
 have hP:=V5 s [47,47] (by omega) (by decide)
 have hl:=UO [47,47] s
 unfold ppV
 dsimp only
 generalize (YM [47,47] s).1=r at *
 generalize (YM [47,47] s).2=ok at *
 have hC:=KR r 47 (by omega)
 generalize (Ys 47 r).1=a at *
 generalize (Ys 47 r).2.1=b at *
 generalize (Ys 47 r).2.2=k at *
 have hR:=W9 ⟨false,0,0,a,b⟩
 generalize Yd ⟨false,0,0,a,b⟩=R at *
 replace hR:AP Tryz.prog _ [.agg [.bool false,.int .u64 0,.int .u64 0,.str a,.str b]] (.bool R) []:=hR
 show AP Tryz.prog _ _ (.tup [.agg [.bool false,.int .u64 0,.int .u64 0,.str a,.str b],_]) _
 obtain⟨ne,h1⟩:∃ ne,(a != [])=ne:=⟨_,rfl⟩
 rw[h1]
 cases ok with
 | false=>
  refine AP.ofA (Zm Tryz.func128 Z Tryz.ntmps128 Z Z ?_)
  repeat'(first|(apply Zc (hP);kernel_rfl;(iterate 4 exact Z))|(apply Zc (hC);kernel_rfl;(iterate 4 exact Z))|(apply Zj Za;exact Z)|(apply Zg Za;exact Z)|refine Zr Z Z Z Qt ?_|refine Zl Z Qt Z Z ?_|(apply Zx 14 Z9;decide +kernel;kernel_rfl;kernel_rfl;kernel_rfl;exact Z;exact Z)|(apply ZB;(iterate 4 exact Z))|exact AE.nil _ _ _ _|(apply ZF;exact Z)|(apply Wf;exact Z)|(apply ZN;exact Z;exact Z;decide +kernel;exact Z)|(apply ZP;exact Z)|(apply W1;exact Z)|exact AO.nil _ _ _|(apply ZA;(decide +kernel))|(apply ZO;(iterate 3 exact Z))|exact AOs.nil|exact ZY rfl rfl|exact Wp rfl)
  all_goals exact Qe
 | true=>
  cases k with
  | false=>
   refine AP.ofA (Zm Tryz.func128 Z Tryz.ntmps128 Z Z ?_)
   repeat'(first|(apply Zc (hP);kernel_rfl;(iterate 4 exact Z))|(apply Zc (hC);kernel_rfl;(iterate 4 exact Z))|(apply Zj Za;exact Z)|(apply Zg Za;exact Z)|refine Zi Z Z Z Qt ?_|refine Zr Z Z Z Qt ?_|refine Zk Z Qt Z Z ?_|refine Zl Z Qt Z Z ?_|(apply Zx 14 Z9;decide +kernel;kernel_rfl;kernel_rfl;kernel_rfl;exact Z;exact Z)|(apply ZB;(iterate 4 exact Z))|exact AE.nil _ _ _ _|(apply ZF;exact Z)|(apply Wf;exact Z)|(apply ZN;exact Z;exact Z;decide +kernel;exact Z)|(apply ZP;exact Z)|(apply W1;exact Z)|exact AO.nil _ _ _|(apply ZA;(decide +kernel))|(apply ZO;(iterate 3 exact Z))|exact AOs.nil|exact ZY rfl rfl|exact Wp rfl)
   all_goals exact Qe
  | true=>
   cases ne<;>cases R
   all_goals
    refine AP.ofA (Zm Tryz.func128 Z Tryz.ntmps128 Z Z ?_)
    repeat'(first|rw[h1]|(apply Zc (hP);kernel_rfl;(iterate 4 exact Z))|(apply Zc (hC);kernel_rfl;(iterate 4 exact Z))|(apply Zc (hR);kernel_rfl;(iterate 4 exact Z))|(apply Zj Za;exact Z)|(apply Zg Za;exact Z)|refine Zi Z Z Z Qt ?_|refine Zr Z Z Z Qt ?_|refine Zk Z Qt Z Z ?_|refine Zl Z Qt Z Z ?_|(apply Zx 14 Z9;decide +kernel;kernel_rfl;kernel_rfl;kernel_rfl;exact Z;exact Z)|(apply ZB;(iterate 4 exact Z))|exact AE.nil _ _ _ _|(apply ZF;exact Z)|(apply Wf;exact Z)|(apply ZN;exact Z;exact Z;decide +kernel;exact Z)|(apply ZP;exact Z)|(apply W1;exact Z)|exact AO.nil _ _ _|(apply ZA;(decide +kernel))|(apply ZO;(iterate 3 exact Z))|exact AOs.nil|exact ZY rfl rfl|exact Wp rfl)
    all_goals exact Qe
theorem OF {x:RqV}(h:ZQ x=true):x.kd=1\/x.kd=2\/x.kd=3\/x.kd=4\/x.kd=5\/x.kd=6\/x.kd=7\/x.kd=8\/x.kd=9\/x.kd=10\/x.kd=11\/x.kd=12:=by
 rcases Xr x.kd with h1|h1|h1|h1|h1|h1|h1|h1|h1|h1|h1|h1|⟨n1,n2,n3,n4,n5,n6,n7,n8,n9,n10,n11,n12⟩
 all_goals first|(simp[h1];done)|skip
 exfalso
 unfold ZQ WJ at h
 simp[n1,n2,n3,n4,n5,n6,n7,n8,n9,n10,n11,n12]at h
abbrev rdD (s:Nat × List UInt8):List (List D):=[[.int .i64 (s.1:Int),.bool true,byE s.2]]
theorem Yy [Known](b:List UInt8)(hb:b.length<=1000000):AQ Tryz.prog 68 [byE b] [] (.ptr 0 0) (rdD (0,b)):=by
 have hC:=Ww b (by omega)
 refine AQ.weak (Zm Tryz.func68 Z Tryz.ntmps68 Z Z ?_)
 repeat'(first|(apply Zc (hC);kernel_rfl;(iterate 4 exact Z))|(apply Zj Za;exact Z)|(apply Zg Za;exact Z))
 all_goals(apply Zu [0];(apply Zd Za;exact Z);(iterate 4 exact Z))
 all_goals rfl
theorem QN [Known](s:Nat × List UInt8):AQ Tryz.prog 96 [.ptr 0 0] (rdD s) (.bool ((s.1:Int)==0)) (rdD s):=by
 obtain⟨e,b⟩:=s
 refine AQ.weak (Zm Tryz.func96 Z Tryz.ntmps96 Z Z ?_)
 repeat'(first|(apply Zj Za;exact Z)|(apply Zg Za;exact Z)|refine Zi Z Z Z Qt ?_|refine Zk Z Qt Z Z ?_)
 all_goals(apply Zu [0];(apply Zd Za;exact Z);(iterate 4 exact Z))
 all_goals rfl
def Vr (f:Nat)(s:Nat × List UInt8):Nat × List UInt8:=match(s.1:Int)==0 with|true=>(f,s.2)|false=>s
theorem Us [Known](s:Nat × List UInt8)(f:Nat):AQ Tryz.prog 97 [.ptr 0 0,.int .i64 (f:Int)] (rdD s) (.tup []) (rdD (Vr f s)):=by
 obtain⟨e,b⟩:=s
 unfold Vr
 cases t:(e:Int)==0
 all_goals
  dsimp only
  refine AQ.weak (Zm Tryz.func97 Z Tryz.ntmps97 Z Z ?_)
  repeat'(first|(apply Zg Za;exact Z)|refine Zf Z Qt ?_|refine Ze Z Qt ?_)
  all_goals refine ON [0] ResL.nil Z Z Z Z ?_ ?_
  all_goals rfl
def Zt (s:Nat × List UInt8):Nat × Nat × List UInt8:=match(s.1:Int)==0 with|true=>rnF s.2 0 0|false=>(0,s)
theorem Ya [Known](s:Nat × List UInt8)(hb:s.2.length<=1000000):AQ Tryz.prog 69 [.ptr 0 0] (rdD s) (.int .u64 ((Zt s).1:Int)) (rdD (Zt s).2):=by
 obtain⟨e,b⟩:=s
 have hF:=QN (e,b)
 unfold Zt
 cases t:(e:Int)==0 with
 | false=>
  dsimp only at hF ⊢
  rw[t]at hF
  refine AQ.weak (Zm Tryz.func69 Z Tryz.ntmps69 Z Z ?_)
  repeat'(first|(apply Zg Za;exact Z))
  refine Z4 (fun k tm bx fr=>tm=[(0,.ptr 0 0),(2,.int .u64 0),(3,.int .u64 0),(4,.int .i64 0)]/\bx=rdD (e,b)/\fr=[]) 1 (Lands.mk' (m:=0) (by omega) ⟨rfl,rfl,rfl⟩ ?_ rfl rfl rfl rfl rfl rfl) ?_
  ·exact .cons rfl (.cons rfl (.cons rfl (.cons rfl .nil)))
  rintro k tm bx fr ⟨rfl,rfl,rfl⟩
  repeat'(first|(apply Zh [0] (hF);kernel_rfl;(iterate 7 exact Z))|(apply Zj Za;exact Z)|(apply Zg Za;exact Z)|(apply Zq Za;exact Z)|refine Ze Z Qt ?_)
  all_goals(apply Zu [0];(apply Zd Za;exact Z);(iterate 4 exact Z))
  all_goals rfl
 | true=>
  dsimp only
  obtain rfl:e=0:=by simpa using t
  clear hF t
  generalize hR:rnF b 0 0=R
  obtain⟨R1,R2,R3⟩:=R
  dsimp only at hb ⊢
  refine AQ.weak (Zm Tryz.func69 Z Tryz.ntmps69 Z Z ?_)
  repeat'(first|(apply Zg Za;exact Z))
  refine Z4 (fun k tm bx fr=>∃(i a:Nat) (q:List UInt8),k=q.length/\q.length<=1000000/\a<2 ^ (7*i)/\i<=10/\rnF q i a=(R1,R2,R3)/\tm=[(0,.ptr 0 0),(2,.int .u64 0),(3,.int .u64 (a:Int)),(4,.int .i64 (i:Int))]/\bx=[[.int .i64 0,.bool true,byE q]]/\fr=[]) (b.length+1) (Lands.mk' (m:=b.length) (by omega) ⟨0,0,b,rfl,hb,by decide,by omega,hR,rfl,rfl,rfl⟩ ?_ rfl rfl rfl rfl rfl rfl) ?_
  ·exact .cons rfl (.cons rfl (.cons rfl (.cons rfl .nil)))
  rintro k tm bx fr ⟨i,a,q,hk,hq,ha,hi,hr,rfl,rfl,rfl⟩
  have hF:=QN (0,q)
  replace hF:AQ Tryz.prog _ [.ptr 0 0] [[.int .i64 0,.bool true,byE q]] (.bool true) [[.int .i64 0,.bool true,byE q]]:=hF
  cases q with
  | nil=>
   have hX:=Us (0,[]) 8
   replace hX:AQ Tryz.prog _ [.ptr 0 0,.int .i64 8] [[.int .i64 0,.bool true,.sl .ext []]] (.tup []) [[.int .i64 8,.bool true,.sl .ext []]]:=hX
   rw[rnF]at hr
   cases hr
   repeat'(first|(apply Zh [0] (hF);kernel_rfl;(iterate 7 exact Z))|(apply Zh [0] (hX);kernel_rfl;(iterate 7 exact Z))|(apply Zj Za;exact Z)|(apply Zg Za;exact Z)|(apply Zq Za;exact Z)|refine Zf Z Qt ?_|refine Zp Za Z Z Z Z ?_)
   all_goals(apply Zu [0];(apply Zd Za;exact Z);(iterate 4 exact Z))
   all_goals rfl
  | cons c r=>
   have hX:=Us (0,r) 3
   replace hX:AQ Tryz.prog _ [.ptr 0 0,.int .i64 3] [[.int .i64 0,.bool true,byE r]] (.tup []) [[.int .i64 3,.bool true,byE r]]:=hX
   have hU:=ZV (c::r)
   have tL:((((c::r).map E.byte).length:Int)==0)=false:=by simp;omega
   have hdr:(c::r).drop (Int.toNat 1)=r:=rfl
   have e7:IntKind.i64.wrap ((i:Int)*7)=((7*i:Nat):Int):=by rw[IntWalk.i64_in _ (by omega)];omega
   have ei:IntKind.i64.wrap ((i:Int)+1)=((i+1:Nat):Int):=by rw[IntWalk.i64_in _ (by omega)];omega
   rw[rnF]at hr
   by_cases hbad:i=10\/(i=9/\c.toNat>1)\/(c.toNat=0/\i>0)
   ·rw[if_pos hbad]at hr
    cases hr
    by_cases h10:i=10
    ·have z1:((i:Int)==10)=true:=by simp;omega
     repeat'(first|(apply Zh [0] (hF);kernel_rfl;(iterate 7 exact Z))|(apply Zh [0] (hX);kernel_rfl;(iterate 7 exact Z))|(apply Y9 Za;(iterate 8 exact Z);exact Qb;(first|with_reducible assumption|decide|(simp only[List.length_cons,List.length_drop,List.length_take,List.length_append,Int.toNat_natCast]at *;omega));(first|with_reducible assumption|exact Z))|(apply Zj Za;exact Z)|(apply Zg Za;exact Z)|(apply Zq Za;exact Z)|refine Zz Z Z Z Qt ?_|refine U4 Z Z Z ?_|refine Zk Z Qt Z Z ?_|refine Zf Z Qt ?_|refine Ze Z Qt ?_|refine Zp Za Z Z Z Z ?_|(apply Zv Za;(iterate 6 exact Z);(first|exact Qt|rotate_left);(first|with_reducible assumption|decide +kernel|exact Z);(first|exact Zn rfl|with_reducible assumption|decide +kernel|rotate_left)))
     all_goals(apply Zu [0];(apply Zd Za;exact Z);(iterate 4 exact Z))
     all_goals rfl
    ·have z1:((i:Int)==10)=false:=by simp;omega
     by_cases h9:i=9/\c.toNat>1
     ·have z2:(((7*i:Nat):Int)==63)=true:=by simp;omega
      have z3:decide ((c.toNat:Int)>1)=true:=decide_eq_true (by omega)
      repeat'(first|rw[e7]|(apply Zh [0] (hF);kernel_rfl;(iterate 7 exact Z))|(apply Zh [0] (hX);kernel_rfl;(iterate 7 exact Z))|(apply Y9 Za;(iterate 8 exact Z);exact Qb;(first|with_reducible assumption|decide|(simp only[List.length_cons,List.length_drop,List.length_take,List.length_append,Int.toNat_natCast]at *;omega));(first|with_reducible assumption|exact Z))|(apply Zj Za;exact Z)|(apply Zg Za;exact Z)|(apply Zq Za;exact Z)|refine Zi Z Z Z Qt ?_|refine Zz Z Z Z Qt ?_|refine U4 Z Z Z ?_|refine Zk Z Qt Z Z ?_|refine Zl Z Qt Z Z ?_|refine Zf Z Qt ?_|refine Ze Z Qt ?_|refine Zp Za Z Z Z Z ?_|(apply Zv Za;(iterate 6 exact Z);(first|exact Qt|rotate_left);(first|with_reducible assumption|decide +kernel|exact Z);(first|exact Zn rfl|with_reducible assumption|decide +kernel|rotate_left)))
      all_goals(apply Zu [0];(apply Zd Za;exact Z);(iterate 4 exact Z))
      all_goals rfl
     ·have h0:c.toNat=0/\i>0:=by omega
      have z4:((c.toNat:Int)==0)=true:=by simp;omega
      have z5:decide ((i:Int)>0)=true:=decide_eq_true (by omega)
      by_cases h99:i=9
      ·have z2:(((7*i:Nat):Int)==63)=true:=by simp;omega
       have z3:decide ((c.toNat:Int)>1)=false:=decide_eq_false (by omega)
       repeat'(first|rw[e7]|(apply Zh [0] (hF);kernel_rfl;(iterate 7 exact Z))|(apply Zh [0] (hX);kernel_rfl;(iterate 7 exact Z))|(apply Y9 Za;(iterate 8 exact Z);exact Qb;(first|with_reducible assumption|decide|(simp only[List.length_cons,List.length_drop,List.length_take,List.length_append,Int.toNat_natCast]at *;omega));(first|with_reducible assumption|exact Z))|(apply Zj Za;exact Z)|(apply Zg Za;exact Z)|(apply Zq Za;exact Z)|refine Zi Z Z Z Qt ?_|refine Zk Z Qt Z Z ?_|refine Zl Z Qt Z Z ?_|refine Zf Z Qt ?_|refine Ze Z Qt ?_|refine Zp Za Z Z Z Z ?_|(apply Zv Za;(iterate 6 exact Z);(first|exact Qt|rotate_left);(first|with_reducible assumption|decide +kernel|exact Z);(first|exact Zn rfl|with_reducible assumption|decide +kernel|rotate_left)))
       all_goals(apply Zu [0];(apply Zd Za;exact Z);(iterate 4 exact Z))
       all_goals rfl
      ·have z2:(((7*i:Nat):Int)==63)=false:=by simp;omega
       repeat'(first|rw[e7]|(apply Zh [0] (hF);kernel_rfl;(iterate 7 exact Z))|(apply Zh [0] (hX);kernel_rfl;(iterate 7 exact Z))|(apply Y9 Za;(iterate 8 exact Z);exact Qb;(first|with_reducible assumption|decide|(simp only[List.length_cons,List.length_drop,List.length_take,List.length_append,Int.toNat_natCast]at *;omega));(first|with_reducible assumption|exact Z))|(apply Zj Za;exact Z)|(apply Zg Za;exact Z)|(apply Zq Za;exact Z)|refine Zi Z Z Z Qt ?_|refine Zr Z Z Z Qt ?_|refine Zk Z Qt Z Z ?_|refine Zl Z Qt Z Z ?_|refine Zf Z Qt ?_|refine Ze Z Qt ?_|refine Zp Za Z Z Z Z ?_|(apply Zv Za;(iterate 6 exact Z);(first|exact Qt|rotate_left);(first|with_reducible assumption|decide +kernel|exact Z);(first|exact Zn rfl|with_reducible assumption|decide +kernel|rotate_left)))
       all_goals(apply Zu [0];(apply Zd Za;exact Z);(iterate 4 exact Z))
       all_goals rfl
   ·rw[if_neg hbad]at hr
    have z1:((i:Int)==10)=false:=by simp;omega
    have eor:=GL (a:=a) (i:=i) c ha (by omega) (by omega)
    have e127:=Im c
    have h0s:0<=IntKind.i64.wrap (7*(i:Int)):=by rw[IntWalk.i64_in _ (by omega)];omega
    have e128:=IS c
    have ha2:a+c.toNat % 128*2 ^ (7*i)<2 ^ (7*(i+1)):=by
     have hpow:2 ^ (7*(i+1))=128*2 ^ (7*i):=by rw[Nat.mul_add,Nat.pow_add,Nat.mul_comm]
     rw[hpow]
     have:c.toNat % 128*2 ^ (7*i)<=127*2 ^ (7*i):=Nat.mul_le_mul_right _ (by omega)
     omega
    generalize a+c.toNat % 128*2 ^ (7*i)=a2 at *
    by_cases h128:c.toNat<128
    ·rw[if_pos h128]at hr
     cases hr
     have z6:((bits .and .u8 (c.toNat:Int) 128)==0)=true:=by rw[e128];exact decide_eq_true h128
     by_cases h9:i=9
     ·have z2:(((7*i:Nat):Int)==63)=true:=by simp;omega
      have z3:decide ((c.toNat:Int)>1)=false:=decide_eq_false (by omega)
      have z4:((c.toNat:Int)==0)=false:=by simp;omega
      repeat'(first|rw[e7]|rw[e127]|rw[eor]|(apply Zh [0] (hF);kernel_rfl;(iterate 7 exact Z))|(apply Y9 Za;(iterate 8 exact Z);exact Qb;(first|with_reducible assumption|decide|(simp only[List.length_cons,List.length_drop,List.length_take,List.length_append,Int.toNat_natCast]at *;omega));(first|with_reducible assumption|exact Z))|(apply Zj Za;exact Z)|(apply Zg Za;exact Z)|(apply Zq Za;exact Z)|refine Zi Z Z Z Qt ?_|refine Zr Z Z Z Qt ?_|refine Zk Z Qt Z Z ?_|refine Zl Z Qt Z Z ?_|refine Zf Z Qt ?_|refine Ze Z Qt ?_|refine Zp Za Z Z Z Z ?_|(apply Zv Za;(iterate 6 exact Z);(first|exact Qt|rotate_left);(first|with_reducible assumption|decide +kernel|exact Z);(first|exact Zn rfl|with_reducible assumption|decide +kernel|rotate_left))|(apply Wd;exact Z;exact Z;(first|exact Qt|rotate_left);exact Z))
      all_goals(apply Zu [0];(apply Zd Za;exact Z);(iterate 4 exact Z))
      all_goals rfl
     ·have z2:(((7*i:Nat):Int)==63)=false:=by simp;omega
      by_cases h0:c.toNat=0
      ·have z4:((c.toNat:Int)==0)=true:=by simp;omega
       have z5:decide ((i:Int)>0)=false:=decide_eq_false (by omega)
       repeat'(first|rw[e7]|rw[e127]|rw[eor]|(apply Zh [0] (hF);kernel_rfl;(iterate 7 exact Z))|(apply Y9 Za;(iterate 8 exact Z);exact Qb;(first|with_reducible assumption|decide|(simp only[List.length_cons,List.length_drop,List.length_take,List.length_append,Int.toNat_natCast]at *;omega));(first|with_reducible assumption|exact Z))|(apply Zj Za;exact Z)|(apply Zg Za;exact Z)|(apply Zq Za;exact Z)|refine Zi Z Z Z Qt ?_|refine Zr Z Z Z Qt ?_|refine Zk Z Qt Z Z ?_|refine Zl Z Qt Z Z ?_|refine Zf Z Qt ?_|refine Ze Z Qt ?_|refine Zp Za Z Z Z Z ?_|(apply Zv Za;(iterate 6 exact Z);(first|exact Qt|rotate_left);(first|with_reducible assumption|decide +kernel|exact Z);(first|exact Zn rfl|with_reducible assumption|decide +kernel|rotate_left))|(apply Wd;exact Z;exact Z;(first|exact Qt|rotate_left);exact Z))
       all_goals(apply Zu [0];(apply Zd Za;exact Z);(iterate 4 exact Z))
       all_goals rfl
      ·have z4:((c.toNat:Int)==0)=false:=by simp;omega
       repeat'(first|rw[e7]|rw[e127]|rw[eor]|(apply Zh [0] (hF);kernel_rfl;(iterate 7 exact Z))|(apply Y9 Za;(iterate 8 exact Z);exact Qb;(first|with_reducible assumption|decide|(simp only[List.length_cons,List.length_drop,List.length_take,List.length_append,Int.toNat_natCast]at *;omega));(first|with_reducible assumption|exact Z))|(apply Zj Za;exact Z)|(apply Zg Za;exact Z)|(apply Zq Za;exact Z)|refine Zi Z Z Z Qt ?_|refine Zr Z Z Z Qt ?_|refine Zl Z Qt Z Z ?_|refine Zf Z Qt ?_|refine Ze Z Qt ?_|refine Zp Za Z Z Z Z ?_|(apply Zv Za;(iterate 6 exact Z);(first|exact Qt|rotate_left);(first|with_reducible assumption|decide +kernel|exact Z);(first|exact Zn rfl|with_reducible assumption|decide +kernel|rotate_left))|(apply Wd;exact Z;exact Z;(first|exact Qt|rotate_left);exact Z))
       all_goals(apply Zu [0];(apply Zd Za;exact Z);(iterate 4 exact Z))
       all_goals rfl
    ·rw[if_neg h128]at hr
     have z6:((bits .and .u8 (c.toNat:Int) 128)==0)=false:=by rw[e128];exact decide_eq_false h128
     have z4:((c.toNat:Int)==0)=false:=by simp;omega
     by_cases h9:i=9
     ·exfalso;omega
     ·have z2:(((7*i:Nat):Int)==63)=false:=by simp;omega
      repeat'(first|rw[e7]|rw[e127]|rw[eor]|rw[ei]|(apply Zh [0] (hF);kernel_rfl;(iterate 7 exact Z))|(apply Y9 Za;(iterate 8 exact Z);exact Qb;(first|with_reducible assumption|decide|(simp only[List.length_cons,List.length_drop,List.length_take,List.length_append,Int.toNat_natCast]at *;omega));(first|with_reducible assumption|exact Z))|(apply Zj Za;exact Z)|(apply Zg Za;exact Z)|(apply Zq Za;exact Z)|refine Zi Z Z Z Qt ?_|refine Zr Z Z Z Qt ?_|refine Zl Z Qt Z Z ?_|refine Zf Z Qt ?_|refine Ze Z Qt ?_|refine Zp Za Z Z Z Z ?_|(apply Zv Za;(iterate 6 exact Z);(first|exact Qt|rotate_left);(first|with_reducible assumption|decide +kernel|exact Z);(first|exact Zn rfl|with_reducible assumption|decide +kernel|rotate_left))|(apply Wd;exact Z;exact Z;(first|exact Qt|rotate_left);exact Z))
      refine Lands.mk' (m:=r.length) (by rw[hk];simp) ⟨i+1,a2,r,rfl,by simp at hq;omega,ha2,by omega,hr,rfl,rfl,rfl⟩ ?_ rfl rfl rfl rfl rfl rfl
      exact .cons rfl (.cons rfl (.cons rfl (.cons rfl .nil)))
end Go.Proofs.YtkdpfkjlheajhaaGreatDoor
end

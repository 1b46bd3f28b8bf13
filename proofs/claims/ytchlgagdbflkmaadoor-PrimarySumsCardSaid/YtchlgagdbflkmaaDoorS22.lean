/- Package ident: numbers, and a maker of numbers. -/
import Derived.Test.YtchlgagdbflkmaaDoorS16
import Derived.Test.YtchlgagdbflkmaaDoorS01
import Derived.Test.YtchlgagdbflkmaaDoorS07
import Derived.Test.YtchlgagdbflkmaaDoorProg
import Derived.Test.YtchlgagdbflkmaaDoorS21
import Derived.Test.YtchlgagdbflkmaaDoorS09
import Derived.Lib.Strings
import Derived.Lib.Slices
import Derived.Lib.Walk
import Derived.Lib.Bytealg
import Derived.Test.YtchlgagdbflkmaaDoorS08
import Derived.LaidEql
import Derived.Test.YtchlgagdbflkmaaDoorS12
import Derived.Test.YtchlgagdbflkmaaDoorS15
import Derived.Test.YtchlgagdbflkmaaDoorS20
set_option linter.unusedVariables false
set_option linter.unusedSimpArgs false
section
open Go.RowKit Go.Pl Go.Av
namespace Go.Proofs.YtchlgagdbflkmaaDoor
set_option maxHeartbeats 1000000
abbrev iC (x:EidV)(t q:Nat):List D:=[.bool x.i,.int .u64 (x.n:Int),.int .u64 (x.s:Int),.str x.h,.str x.d,.int .u64 (t:Int),.int .u64 (q:Int)]
def Y5 (x:EidV)(t q:Nat):Bool:=Ye x&&decide ((t:Int)<=1099511627776)&&decide ((q:Int)<=1099511627776)
theorem Jf [Known](x:EidV)(t q:Nat):AP Tryd.prog 36 [.agg (iC x t q)] (.bool (Y5 x t q)) []:=by
 refine AP.ofA (Zm Tryd.func36 Z Tryd.ntmps36 Z Z ?_)
 repeat'(first|refine Zb (Wu x) Qk Z Z Z Z ?_|refine Zj Za Z ?_|refine Zg Za Z ?_|(apply Zi;(iterate 3 exact Z);(first|with_reducible assumption|(solve|simp only[bn])))|(apply ZE;(iterate 3 exact Z);(first|with_reducible assumption|(solve|simp only[bn])))|(apply WP;exact Z;exact Z;all_goals intro hb)|(apply Zp;exact Z;(first|with_reducible assumption|(solve|simp only[bn]));exact Z;exact Z)|(apply Zk;exact Z;(first|with_reducible assumption|(solve|simp only[bn]));exact Z;exact Z))
 all_goals(apply Zu [];(apply Zc Za;exact Z);(iterate 4 exact Z))
 all_goals first|rfl|(unfold Y5;simp only[*];done)|(unfold Y5;simp only[*];simp only[Bool.and_true,Bool.true_and,Bool.and_false,Bool.false_and];done)
end Go.Proofs.YtchlgagdbflkmaaDoor
end
section
open Go.RowKit Go.Pl
namespace Go.Pl
variable {P:Program} {t:TypeId}
abbrev RE:Rep (Bool × Nat × Nat × List UInt8 × List UInt8):=Rep.bool.prod (Rep.u64.prod (Rep.u64.prod (Rep.str.prod Rep.str)))
abbrev RI:Rep ((Bool × Nat × Nat × List UInt8 × List UInt8) × Nat × Nat):=RE.prod (Rep.u64.prod Rep.u64)
end Go.Pl
end
section
open Go.RowKit Go.Pl
namespace Go.Proofs.YtchlgagdbflkmaaDoor
end Go.Proofs.YtchlgagdbflkmaaDoor
end
section
open Go.RowKit Go.Pl Go.Av
namespace Go.Proofs.YtchlgagdbflkmaaDoor
set_option maxHeartbeats 4000000
abbrev XE:=Bool × Nat × Nat × List UInt8 × List UInt8
def XE.v (x:XE):EidV:=⟨x.1,x.2.1,x.2.2.1,x.2.2.2.1,x.2.2.2.2⟩
structure PriV where
 fl:Nat
 sum:Int
 dest:EidV
 rep:EidV
 src:EidV
 t:Nat
 q:Nat
 life:Nat
abbrev prC (p:PriV):List D:=[.int .u64 (p.fl:Int),.int .i64 p.sum,.bool p.dest.i,.int .u64 (p.dest.n:Int),.int .u64 (p.dest.s:Int),.str p.dest.h,.str p.dest.d,.bool p.rep.i,.int .u64 (p.rep.n:Int),.int .u64 (p.rep.s:Int),.str p.rep.h,.str p.rep.d,.bool p.src.i,.int .u64 (p.src.n:Int),.int .u64 (p.src.s:Int),.str p.src.h,.str p.src.d,.int .u64 (p.t:Int),.int .u64 (p.q:Int),.int .u64 (p.life:Int)]
def Wl (p:PriV):Bool:=(bits .andNot .u64 (p.fl:Int) 409638==0)&&(decide (p.sum ≥ 0)&&(decide (p.sum<=2)&&(Ye p.dest&&(Ye p.rep&&(Y5 p.src p.t p.q&&decide ((p.life:Int)<=1099511627776))))))
theorem UC [Known](p:PriV):AP Tryd.prog 21 [.agg (prC p)] (.bool (Wl p)) []:=by
 have hD:=Wu p.dest
 have hR:=Wu p.rep
 have hI:=Jf p.src p.t p.q
 unfold Wl
 generalize Ye p.dest=e1 at *
 generalize Ye p.rep=e2 at *
 generalize Y5 p.src p.t p.q=e3 at *
 obtain⟨fl,sum,⟨di,dn,ds,dh,dd⟩,⟨ri,rn,rs,rh,rd⟩,⟨xi,xn,xs,xh,xd⟩,t,q,life⟩:=p
 dsimp only at *
 cases t1:(bits .andNot .u64 (fl:Int) 409638==0) with
 | false=>
  refine AP.ofA (Zm Tryd.func21 Z Tryd.ntmps21 Z Z ?_)
  repeat'(first|refine Zj Za Z ?_|refine Zg Za Z ?_|refine ZE Z Z Z Qt ?_|refine Zk Z Qt Z Z ?_)
  all_goals exact Qe
 | true=>
 cases t2:decide (sum ≥ 0) with
 | false=>
  refine AP.ofA (Zm Tryd.func21 Z Tryd.ntmps21 Z Z ?_)
  repeat'(first|refine Zj Za Z ?_|refine Zg Za Z ?_|refine Zi Z Z Z Qt ?_|refine ZE Z Z Z Qt ?_|refine Zp Z Qt Z Z ?_|refine Zk Z Qt Z Z ?_)
  all_goals exact Qe
 | true=>
 cases t3:decide (sum<=2) with
 | false=>
  refine AP.ofA (Zm Tryd.func21 Z Tryd.ntmps21 Z Z ?_)
  repeat'(first|refine Zj Za Z ?_|refine Zg Za Z ?_|refine Zi Z Z Z Qt ?_|refine ZE Z Z Z Qt ?_|refine Zp Z Qt Z Z ?_|refine Zk Z Qt Z Z ?_)
  all_goals exact Qe
 | true=>
 cases e1
 ·refine AP.ofA ?_
  refine Zm Tryd.func21 rfl Tryd.ntmps21 rfl rfl ?_
  repeat'(first|refine Zb hD Qk Z Z Z Z ?_|refine Zj Za Z ?_|refine Zg Za Z ?_|refine Zi Z Z Z Qt ?_|refine ZE Z Z Z Qt ?_|refine Zp Z Qt Z Z ?_|refine Zk Z Qt Z Z ?_)
  all_goals exact Qe
 cases e2
 ·refine AP.ofA ?_
  refine Zm Tryd.func21 rfl Tryd.ntmps21 rfl rfl ?_
  repeat'(first|refine Zb hD Qk Z Z Z Z ?_|refine Zb hR Qk Z Z Z Z ?_|refine Zj Za Z ?_|refine Zg Za Z ?_|refine Zi Z Z Z Qt ?_|refine ZE Z Z Z Qt ?_|refine Zp Z Qt Z Z ?_|refine Zk Z Qt Z Z ?_)
  all_goals exact Qe
 cases e3
 ·refine AP.ofA ?_
  refine Zm Tryd.func21 rfl Tryd.ntmps21 rfl rfl ?_
  repeat'(first|refine Zb hD Qk Z Z Z Z ?_|refine Zb hR Qk Z Z Z Z ?_|refine Zb hI Qk Z Z Z Z ?_|refine Zj Za Z ?_|refine Zg Za Z ?_|refine Zi Z Z Z Qt ?_|refine ZE Z Z Z Qt ?_|refine Zp Z Qt Z Z ?_|refine Zk Z Qt Z Z ?_)
  all_goals exact Qe
 refine AP.ofA (Zm Tryd.func21 Z Tryd.ntmps21 Z Z ?_)
 repeat'(first|refine Zb hD Qk Z Z Z Z ?_|refine Zb hR Qk Z Z Z Z ?_|refine Zb hI Qk Z Z Z Z ?_|refine Zj Za Z ?_|refine Zg Za Z ?_|refine Zi Z Z Z Qt ?_|refine Zp Z Qt Z Z ?_)
 all_goals exact Qe
abbrev nmE (n:Nat):E:=.agg [.int .i64 0,.int .u64 (n:Int),.sl [],.sl []]
def WT (c:UInt8):List UInt8->List UInt8 × List UInt8 × Bool
 | []=>([],[],false)
 | x::s=>if x=c then([],s,true) else(x::(WT c s).1,(WT c s).2.1,(WT c s).2.2)
theorem KC {c:UInt8}:∀ {s:List UInt8},c ∉ s->WT c s=(s,[],false)
 | [],_=>rfl
 | x::s,h=>by
  have h1:¬ x=c:=fun e=>h (by rw[e];exact List.mem_cons_self ..)
  have h2:=KC (c:=c) (s:=s) fun hm=>h (List.mem_cons_of_mem _ hm)
  rw[WT,if_neg h1,h2]
theorem Xv {c:UInt8}:∀ {a b:List UInt8},c ∉ a->WT c (a++c::b)=(a,b,true)
 | [],b,_=>by rw[List.nil_append,WT,if_pos rfl]
 | x::a,b,h=>by
  have h1:¬ x=c:=fun e=>h (by rw[e];exact List.mem_cons_self ..)
  have h2:=Xv (c:=c) (a:=a) (b:=b) fun hm=>h (List.mem_cons_of_mem _ hm)
  rw[List.cons_append,WT,if_neg h1,h2]
def Vv (p s:List UInt8):List UInt8 × Bool:=if s.take p.length==p then(s.drop p.length,true) else(s,false)
theorem Iq (p r:List UInt8):Vv p (p++r)=(r,true):=by
 unfold Vv
 rw[List.take_left,beq_self_eq_true,if_pos rfl,List.drop_left]
theorem Gl {p s:List UInt8}(h:(s.take p.length==p)=false):Vv p s=(s,false):=by
 unfold Vv;rw[h];rfl
def ppV (s:List UInt8):EidV × Bool:=
 (⟨false,0,0,(WT 47 (Vv [47,47] s).1).1,(WT 47 (Vv [47,47] s).1).2.1⟩,(Vv [47,47] s).2&&((WT 47 (Vv [47,47] s).1).2.2&&((WT 47 (Vv [47,47] s).1).1 != []&&Ye ⟨false,0,0,(WT 47 (Vv [47,47] s).1).1,(WT 47 (Vv [47,47] s).1).2.1⟩)))
set_option maxRecDepth 100000 in
theorem Ir (s:ByteArray)(c:Int)(w:World):Calls Tryd.prog 60 #[.string s,.int .u8 c] w fun e w'=>e=.returned (.int .i64 (Lib.indexByte s.data.toList c.toNat.toUInt8))/\w'=w:=by
 go_enter Tryd.func60,Tryd.ntmps60
 go_wp2
 rw[run_callFunc_extern Tryd.func64 (by kernel_rfl) (by kernel_rfl) (by kernel_rfl) (e:=Extern.BytealgIndexByte.indexByte) (by kernel_rfl),Lib.run_indexByteString]
 simp only[Result.andThen]
 rw[Oper.upon_value]
 go_wp2
 go_ret
 exact⟨rfl,rfl⟩
theorem G9 [Known](s:List UInt8)(c:Int):AP Tryd.prog 60 [.str s,.int .u8 c] (.int .i64 (Lib.indexByte s c.toNat.toUInt8)) []:=by
 refine⟨fun g w vs hmem hl hv=>?_⟩
 obtain⟨v0,v1,rfl⟩:∃ v0 v1,vs=[v0,v1]:=by
  match vs,hl with
  | [v0,v1],_=>exact⟨v0,v1,rfl⟩
 have h0:=(hv 0 _ _ rfl rfl).str_inv.1
 have h1:=(hv 1 _ _ rfl rfl).int_inv
 subst h0 h1
 exact(Ir ⟨s.toArray⟩ c w).mono fun e w' ⟨he,hb⟩=>JX hmem (hb ▸ Below.refl _ _) he (.int _ _)
theorem Jg [Known](s p:List UInt8)(hs:s.length<=4611686018427387904)(hp:p.length<=4611686018427387904):AP Tryd.prog 57 [.str s,.str p] (.bool (s.take p.length==p)) []:=by
 by_cases h:p.length<=s.length
 ·have t1:decide ((s.length:Int) ≥ (p.length:Int))=true:=decide_eq_true (by omega)
  have hq:((p.length:Nat):Int).toNat<=s.length:=by rw[Int.toNat_natCast];exact h
  have hs2:(s.take ((p.length:Nat):Int).toNat).drop 0=s.take p.length:=by rw[Int.toNat_natCast,List.drop_zero]
  generalize s.take p.length=s2 at *
  refine AP.ofA (Zm Tryd.func57 Z Tryd.ntmps57 Z Z ?_)
  repeat'(first|refine VH Za Z Z Z Z (.dft _) (.lit _ _ _ _ rfl (Int.natCast_nonneg _)) (Nat.zero_le _) hq hs2 ?_|refine Zj Za Z ?_|refine Zg Za Z ?_|refine Zi Z Z Z Qt ?_|refine Zp Z Qt Z Z ?_|refine WY Za Z Z Z Z ?_)
  all_goals exact Qe
 ·have t1:decide ((s.length:Int) ≥ (p.length:Int))=false:=decide_eq_false (by omega)
  have e:(s.take p.length==p)=false:=by
   rw[beq_eq_false_iff_ne]
   intro e
   have:=congrArg List.length e
   rw[List.length_take]at this
   omega
  rw[e]
  refine AP.ofA (Zm Tryd.func57 Z Tryd.ntmps57 Z Z ?_)
  repeat'(first|refine Zj Za Z ?_|refine Zg Za Z ?_|refine ZE Z Z Z Qt ?_|refine Zk Z Qt Z Z ?_|refine WY Za Z Z Z Z ?_)
  all_goals exact Qe
theorem X5 [Known](p r:List UInt8)(hs:(p++r).length<=4611686018427387904):AP Tryd.prog 45 [.str (p++r),.str p] (.tup [.str r,.bool true]) []:=by
 have hH:=Jg (p++r) p hs (by rw[List.length_append]at hs;omega)
 rw[List.take_left,beq_self_eq_true]at hH
 have hq:((p.length:Nat):Int).toNat<=(p++r).length:=by rw[Int.toNat_natCast,List.length_append];omega
 have hs2:((p++r).take (p++r).length).drop ((p.length:Nat):Int).toNat=r:=by rw[Int.toNat_natCast,List.take_length,List.drop_left]
 have hC:AP Tryd.prog 50 [.str (p++r),.str p] (.tup [.str r,.bool true]) []:=by
  generalize p++r=s at *
  refine AP.ofA (Zm Tryd.func50 Z Tryd.ntmps50 Z Z ?_)
  repeat'(first|refine Zb hH Qk Z Z Z Z ?_|refine VH Za Z Z Z Z (.lit _ _ _ _ rfl (Int.natCast_nonneg _)) (.dft _) hq (Nat.le_refl _) hs2 ?_|refine Zj Za Z ?_|refine Zg Za Z ?_|refine Zv Za Z ?_|refine Ze Z Qt ?_|refine WY Za Z Z Z Z ?_)
  all_goals exact Qe
 refine AP.ofA (Zm Tryd.func45 Z Tryd.ntmps45 Z Z ?_)
 repeat'(first|refine Zb hC Qk Z Z Z Z ?_|refine Zj Za Z ?_|refine Zg Za Z ?_)
 all_goals exact Qe
theorem X6 [Known](s p:List UInt8)(hs:s.length<=4611686018427387904)(hp:p.length<=4611686018427387904)(h:(s.take p.length==p)=false):AP Tryd.prog 45 [.str s,.str p] (.tup [.str s,.bool false]) []:=by
 have hH:=Jg s p hs hp
 rw[h]at hH
 have hC:AP Tryd.prog 50 [.str s,.str p] (.tup [.str s,.bool false]) []:=by
  refine AP.ofA (Zm Tryd.func50 Z Tryd.ntmps50 Z Z ?_)
  repeat'(first|refine Zb hH Qk Z Z Z Z ?_|refine Zj Za Z ?_|refine Zg Za Z ?_|refine Zv Za Z ?_|refine Zd Z Qt ?_)
  all_goals exact Qe
 refine AP.ofA (Zm Tryd.func45 Z Tryd.ntmps45 Z Z ?_)
 repeat'(first|refine Zb hC Qk Z Z Z Z ?_|refine Zj Za Z ?_|refine Zg Za Z ?_)
 all_goals exact Qe
theorem Oe (s p:List UInt8):(∃ r,s=p++r)\/(s.take p.length==p)=false:=by
 cases h:s.take p.length==p with
 | true=>
  refine .inl ⟨s.drop p.length,?_⟩
  have:=beq_iff_eq.1 h
  conv=>lhs;rw[<- List.take_append_drop p.length s,this]
 | false=>exact .inr rfl
theorem Is:∀ {l:List UInt8} {c:UInt8},c ∉ l->Lib.indexByte l c = -1
 | [],_,_=>rfl
 | x::l,c,h=>by
  have h1:¬ x=c:=fun e=>h (by rw[e];exact List.mem_cons_self ..)
  have h2:=Is (l:=l) (c:=c) fun hm=>h (List.mem_cons_of_mem _ hm)
  simp[Lib.indexByte,h1,h2]
theorem KD:∀ {a b:List UInt8} {c:UInt8},c ∉ a->Lib.indexByte (a++c::b) c=(a.length:Int)
 | [],b,c,_=>by simp[Lib.indexByte]
 | x::a,b,c,h=>by
  have h1:¬ x=c:=fun e=>h (by rw[e];exact List.mem_cons_self ..)
  have h2:=KD (a:=a) (b:=b) (c:=c) fun hm=>h (List.mem_cons_of_mem _ hm)
  rw[List.cons_append]
  simp only[Lib.indexByte,h2,List.length_cons,beq_iff_eq,h1,if_false]
  (repeat' split)<;>omega
theorem Jh [Known](s:List UInt8)(c:UInt8):AP Tryd.prog 58 [.str s,.str [c]] (.int .i64 (Lib.indexByte s c)) []:=by
 have hI:=G9 s (c.toNat:Int)
 have e:((c.toNat:Int)).toNat.toUInt8=c:=by rw[Int.toNat_natCast];simp
 rw[e]at hI
 have t0:((([c]:List UInt8).length:Int)==0)=false:=rfl
 have t1:((([c]:List UInt8).length:Int)==1)=true:=rfl
 by_cases hs:[c]=s
 ·subst hs
  have t2:([c]==[c])=true:=by simp
  have e0:Lib.indexByte [c] c=0:=by simp[Lib.indexByte]
  rw[e0]
  refine AP.ofA (Zm Tryd.func58 Z Tryd.ntmps58 Z Z ?_)
  repeat'(first|refine Zj Za Z ?_|refine Zg Za Z ?_|refine Zv Za Z ?_|refine Zi Z Z Z Qt ?_|refine Zk Z Qt Z Z ?_|refine Zd Z Qt ?_|refine WY Za Z Z Z Z ?_)
  all_goals exact Qe
 ·have t2:([c]==s)=false:=by simpa using hs
  refine AP.ofA (Zm Tryd.func58 Z Tryd.ntmps58 Z Z ?_)
  repeat'(first|refine Zb hI Qk Z Z Z Z ?_|refine IU Za Z Z Z Z Z Qd Z ?_|refine Zj Za Z ?_|refine Zg Za Z ?_|refine Zv Za Z ?_|refine Zi Z Z Z Qt ?_|refine Zk Z Qt Z Z ?_|refine Zd Z Qt ?_|refine Ze Z Qt ?_|refine WY Za Z Z Z Z ?_)
  all_goals exact Qe
theorem Gm [Known](s:List UInt8)(c:UInt8)(h:c ∉ s):AP Tryd.prog 46 [.str s,.str [c]] (.tup [.str s,.str [],.bool false]) []:=by
 have hI:=Jh s c
 rw[Is h]at hI
 have hC:AP Tryd.prog 51 [.str s,.str [c]] (.tup [.str s,.str [],.bool false]) []:=by
  refine AP.ofA (Zm Tryd.func51 Z Tryd.ntmps51 Z Z ?_)
  repeat'(first|refine Zb hI Qk Z Z Z Z ?_|refine Zj Za Z ?_|refine Zg Za Z ?_|refine Ze Z Qt ?_)
  all_goals exact Qe
 refine AP.ofA (Zm Tryd.func46 Z Tryd.ntmps46 Z Z ?_)
 repeat'(first|refine Zb hC Qk Z Z Z Z ?_|refine Zj Za Z ?_|refine Zg Za Z ?_)
 all_goals exact Qe
theorem Gn [Known](a b:List UInt8)(c:UInt8)(h:c ∉ a)(hl:(a++c::b).length<=4611686018427387904):AP Tryd.prog 46 [.str (a++c::b),.str [c]] (.tup [.str a,.str b,.bool true]) []:=by
 have hI:=Jh (a++c::b) c
 rw[KD h]at hI
 have hal:a.length+1<=(a++c::b).length:=by rw[List.length_append,List.length_cons];omega
 have t1:decide ((a.length:Int) ≥ 0)=true:=decide_eq_true (by omega)
 have e1:IntKind.i64.wrap ((a.length:Int)+(([c]:List UInt8).length:Int))=((a.length+1:Nat):Int):=by
  rw[IntWalk.i64_in _ (by simp;omega)];simp
 have q1:((a.length:Nat):Int).toNat<=(a++c::b).length:=by rw[Int.toNat_natCast];omega
 have q2:((a.length+1:Nat):Int).toNat<=(a++c::b).length:=by rw[Int.toNat_natCast];omega
 have s1:((a++c::b).take ((a.length:Nat):Int).toNat).drop 0=a:=by rw[Int.toNat_natCast,List.drop_zero,List.take_left]
 have s2:((a++c::b).take (a++c::b).length).drop ((a.length+1:Nat):Int).toNat=b:=by
  rw[Int.toNat_natCast,List.take_length,show a.length+1=(a++[c]).length by simp,show a++c::b=(a++[c])++b by simp,List.drop_left]
 have hC:AP Tryd.prog 51 [.str (a++c::b),.str [c]] (.tup [.str a,.str b,.bool true]) []:=by
  generalize a++c::b=s at *
  refine AP.ofA (Zm Tryd.func51 Z Tryd.ntmps51 Z Z ?_)
  repeat'(first|rw[e1]|refine Zb hI Qk Z Z Z Z ?_|refine VH Za Z Z Z Z (.dft _) (.lit _ _ _ _ rfl (Int.natCast_nonneg _)) (Nat.zero_le _) q1 s1 ?_|refine VH Za Z Z Z Z (.lit _ _ _ _ rfl (Int.natCast_nonneg _)) (.dft _) q2 (Nat.le_refl _) s2 ?_|refine Zj Za Z ?_|refine Zg Za Z ?_|refine Zd Z Qt ?_|refine WY Za Z Z Z Z ?_|(apply Zo 10 ZG;decide +kernel;kernel_rfl;kernel_rfl;kernel_rfl;exact Z;exact Z)|(apply Zr;(iterate 4 exact Z))|exact AE.nil _ _ _ _|(apply Zt;exact Z)|(apply Zx;exact Z;exact Z;decide +kernel;exact Z)|(apply Zz;exact Z)|exact AO.nil _ _ _|(apply Zq;(decide +kernel))|exact AOs.nil|exact ZM rfl rfl)
  all_goals exact Qe
 refine AP.ofA (Zm Tryd.func46 Z Tryd.ntmps46 Z Z ?_)
 repeat'(first|refine Zb hC Qk Z Z Z Z ?_|refine Zj Za Z ?_|refine Zg Za Z ?_)
 all_goals exact Qe
theorem Ji (c:UInt8):∀ s:List UInt8,(c ∉ s)\/∃ a b,s=a++c::b/\c ∉ a
 | []=>.inl (by simp)
 | x::s=>by
  by_cases e:x=c
  ·subst e;exact .inr ⟨[],s,rfl,by simp⟩
  ·rcases Ji c s with h|⟨a,b,rfl,h⟩
   ·refine .inl fun hm=>?_
    rcases List.mem_cons.1 hm with h2|h2
    ·exact e h2.symm
    ·exact h h2
   ·refine .inr ⟨x::a,b,rfl,fun hm=>?_⟩
    rcases List.mem_cons.1 hm with h2|h2
    ·exact e h2.symm
    ·exact h h2
end Go.Proofs.YtchlgagdbflkmaaDoor
end
section
open Go.RowKit Go.Pl
namespace Go.Av
section
variable {P:Program} {Q:X->St->Prop} {n:Nat} {ee:Nat × Nat} {tm:List (Nat × D)} {bx:List (List D)} {fr:List Fr}
variable {ops:Array Oper} {rest:List Oper} {t ty:Nat} {pos:String} {after:Array Edge}
end
end Go.Av
end
section
open Go.RowKit Go.Pl Go.Av
namespace Go.Proofs.YtchlgagdbflkmaaDoor
set_option maxHeartbeats 4000000
theorem Iu (p s:List UInt8):(Vv p s).1.length<=s.length:=by
 unfold Vv
 split
 ·simp
 ·exact Nat.le_refl _
theorem Ha [Known](s:List UInt8)(c:UInt8)(hl:s.length<=4611686018427387904):AP Tryd.prog 46 [.str s,.str [c]] (.tup [.str (WT c s).1,.str (WT c s).2.1,.bool (WT c s).2.2]) []:=by
 rcases Ji c s with h|⟨a,b,rfl,h⟩
 ·rw[KC h];exact Gm s c h
 ·rw[Xv h];exact Gn a b c h hl
theorem Of [Known](s p:List UInt8)(hs:s.length<=4611686018427387904)(hp:p.length<=4611686018427387904):AP Tryd.prog 45 [.str s,.str p] (.tup [.str (Vv p s).1,.bool (Vv p s).2]) []:=by
 rcases Oe s p with⟨r,rfl⟩ | h
 ·rw[Iq];exact X5 p r hs
 ·rw[Gl h];exact X6 s p hs hp h
theorem HA [Known](s:List UInt8)(hs:s.length<=140737488351232):AP Tryd.prog 39 [.str s] (.tup [.agg (eC (ppV s).1),.bool (ppV s).2]) []:=by
 have hP:=Of s [47,47] (by omega) (by decide)
 have hl:=Iu [47,47] s
 unfold ppV
 dsimp only
 generalize (Vv [47,47] s).1=r at *
 generalize (Vv [47,47] s).2=ok at *
 have hC:=Ha r 47 (by omega)
 generalize (WT 47 r).1=a at *
 generalize (WT 47 r).2.1=b at *
 generalize (WT 47 r).2.2=k at *
 have hR:=Wu ⟨false,0,0,a,b⟩
 generalize Ye ⟨false,0,0,a,b⟩=R at *
 replace hR:AP Tryd.prog _ [.agg [.bool false,.int .u64 0,.int .u64 0,.str a,.str b]] (.bool R) []:=hR
 show AP Tryd.prog _ _ (.tup [.agg [.bool false,.int .u64 0,.int .u64 0,.str a,.str b],_]) _
 obtain⟨ne,h1⟩:∃ ne,(a != [])=ne:=⟨_,rfl⟩
 rw[h1]
 cases ok with
 | false=>
  refine AP.ofA (Zm Tryd.func39 Z Tryd.ntmps39 Z Z ?_)
  repeat'(first|refine Zb hP Qk Z Z Z Z ?_|refine Zb hC Qk Z Z Z Z ?_|refine Zj Za Z ?_|refine Zg Za Z ?_|refine ZE Z Z Z Qt ?_|refine Zk Z Qt Z Z ?_|(apply Zo 14 ZG;decide +kernel;kernel_rfl;kernel_rfl;kernel_rfl;exact Z;exact Z)|(apply Zr;(iterate 4 exact Z))|exact AE.nil _ _ _ _|(apply Zt;exact Z)|(apply VV;exact Z)|(apply Zx;exact Z;exact Z;decide +kernel;exact Z)|(apply Zz;exact Z)|(apply Qh;exact Z)|exact AO.nil _ _ _|(apply Zq;(decide +kernel))|(apply ZY;(iterate 3 exact Z))|exact AOs.nil|exact ZM rfl rfl|exact Ux rfl)
  all_goals exact Qe
 | true=>
  cases k with
  | false=>
   refine AP.ofA (Zm Tryd.func39 Z Tryd.ntmps39 Z Z ?_)
   repeat'(first|refine Zb hP Qk Z Z Z Z ?_|refine Zb hC Qk Z Z Z Z ?_|refine Zj Za Z ?_|refine Zg Za Z ?_|refine Zi Z Z Z Qt ?_|refine ZE Z Z Z Qt ?_|refine Zp Z Qt Z Z ?_|refine Zk Z Qt Z Z ?_|(apply Zo 14 ZG;decide +kernel;kernel_rfl;kernel_rfl;kernel_rfl;exact Z;exact Z)|(apply Zr;(iterate 4 exact Z))|exact AE.nil _ _ _ _|(apply Zt;exact Z)|(apply VV;exact Z)|(apply Zx;exact Z;exact Z;decide +kernel;exact Z)|(apply Zz;exact Z)|(apply Qh;exact Z)|exact AO.nil _ _ _|(apply Zq;(decide +kernel))|(apply ZY;(iterate 3 exact Z))|exact AOs.nil|exact ZM rfl rfl|exact Ux rfl)
   all_goals exact Qe
  | true=>
   cases ne<;>cases R
   all_goals
    refine AP.ofA (Zm Tryd.func39 Z Tryd.ntmps39 Z Z ?_)
    repeat'(first|rw[h1]|refine Zb hP Qk Z Z Z Z ?_|refine Zb hC Qk Z Z Z Z ?_|refine Zb hR Qk Z Z Z Z ?_|refine Zj Za Z ?_|refine Zg Za Z ?_|refine Zi Z Z Z Qt ?_|refine ZE Z Z Z Qt ?_|refine Zp Z Qt Z Z ?_|refine Zk Z Qt Z Z ?_|(apply Zo 14 ZG;decide +kernel;kernel_rfl;kernel_rfl;kernel_rfl;exact Z;exact Z)|(apply Zr;(iterate 4 exact Z))|exact AE.nil _ _ _ _|(apply Zt;exact Z)|(apply VV;exact Z)|(apply Zx;exact Z;exact Z;decide +kernel;exact Z)|(apply Zz;exact Z)|(apply Qh;exact Z)|exact AO.nil _ _ _|(apply Zq;(decide +kernel))|(apply ZY;(iterate 3 exact Z))|exact AOs.nil|exact ZM rfl rfl|exact Ux rfl)
    all_goals exact Qe
def WH (m:Nat)(x:It):Bool:=It.beq x (.mk 0 m [] [])
def UU:It->Option (Nat × Nat)
 | .mk k _ _ [y0,y1]=>if k=4 then(match WH y0.n y0&&WH y1.n y1 with|true=>some (y0.n,y1.n)|false=>none) else none
 | _=>none
def HB:Option (Nat × Nat)->D
 | some (a,b)=>.tup [.sl .ext [.int .u64 (a:Int),.int .u64 (b:Int)],.bool true]
 | none=>.tup [.sl .ext [],.bool false]
theorem WB [Known](x:It)(hw:wfI x)(m:Nat)(hm:m<18446744073709551616):AP Tryd.prog 18 [itD x,.agg [.int .i64 0,.int .u64 (m:Int),.sl .ext [],.sl .ext []]] (.bool (WH m x)) []:=
 Ue x hw (.mk 0 m [] []) (by simp[wfI,wfs];omega)
theorem W9 [Known](n:Nat):AP Tryd.prog 6 [.int .u64 (n:Int)] (.agg [.int .i64 0,.int .u64 (n:Int),.sl .ext [],.sl .ext []]) []:=Yy n
theorem Gp [Known](x:It)(hw:wfI x):AP Tryd.prog 40 [itD x,.int .i64 2] (HB (UU x)) []:=by
 obtain⟨k,n,b,l⟩:=x
 obtain⟨_,_,_,hws⟩:=hw
 by_cases hk:k=4
 case neg=>
  have t1:(k != 4)=true:=by simpa using hk
  have e:UU (.mk k n b l)=none:=by unfold UU;split<;>simp_all
  rw[e]
  refine AP.ofA (Zm Tryd.func40 Z Tryd.ntmps40 Z Z ?_)
  repeat'(first|refine Zj Za Z ?_|refine Zg Za Z ?_|refine Zv Za Z ?_|refine Zw Z Z Z Qt ?_|refine Zp Z Qt Z Z ?_|refine Zd Z Qt ?_)
  all_goals exact Qe
 subst hk
 have t1:((4:Int) != 4)=false:=rfl
 by_cases hl:l.length=2
 case neg=>
  have t2:(((Zh l).length:Int) != 2)=true:=by rw[Zl];simp;omega
  have e:UU (.mk 4 n b l)=none:=by unfold UU;split<;>simp_all
  rw[e]
  refine AP.ofA (Zm Tryd.func40 Z Tryd.ntmps40 Z Z ?_)
  repeat'(first|refine Zj Za Z ?_|refine Zg Za Z ?_|refine Zv Za Z ?_|refine Zi Z Z Z Qt ?_|refine Zk Z Qt Z Z ?_|refine Zd Z Qt ?_|refine Zn Za Z Z Z Z ?_)
  all_goals exact Qe
 match l,hl with
 | [⟨k0,n0,b0,l0⟩,⟨k1,n1,b1,l1⟩],_=>
  have hU:=Yb [It.mk k0 n0 b0 l0,It.mk k1 n1 b1 l1]
  obtain⟨hw0,hw1,_⟩:=hws
  have m0:n0<18446744073709551616:=hw0.1
  have m1:n1<18446744073709551616:=hw1.1
  have h0:=WB _ hw0 n0 m0
  have h1:=WB _ hw1 n1 m1
  have a0:=W9 n0
  have a1:=W9 n1
  unfold UU
  simp only[It.n,if_true]
  have t2:(((Zh [It.mk k0 n0 b0 l0,It.mk k1 n1 b1 l1]).length:Int) != 2)=false:=rfl
  have t3:decide ((0:Int)<((Zh [It.mk k0 n0 b0 l0,It.mk k1 n1 b1 l1]).length:Int))=true:=rfl
  have t4:decide ((IntKind.i64.wrap (0+1):Int)<((Zh [It.mk k0 n0 b0 l0,It.mk k1 n1 b1 l1]).length:Int))=true:=rfl
  have t5:decide ((IntKind.i64.wrap (IntKind.i64.wrap (0+1)+1):Int)<((Zh [It.mk k0 n0 b0 l0,It.mk k1 n1 b1 l1]).length:Int))=false:=rfl
  have hv0:(Zh [It.mk k0 n0 b0 l0,It.mk k1 n1 b1 l1])[Int.toNat 0]?=some (.agg [.int .i64 k0,.int .u64 (n0:Int),.sl (b0.map E.byte),.sl (Zh l0)]):=rfl
  cases c0:WH n0 (.mk k0 n0 b0 l0) with
  | false=>
   rw[c0]at h0
   refine AP.ofA (Zm Tryd.func40 Z Tryd.ntmps40 Z Z ?_)
   repeat'(first|refine Zb h0 Qk Z Z Z Z ?_|refine Zb a0 Qk Z Z Z Z ?_|refine V9 70 ?_|refine U1 ?_|refine Zj Za Z ?_|refine Zg Za Z ?_|refine Zv Za Z ?_|refine Zi Z Z Z Qt ?_|refine Zk Z Qt Z Z ?_|refine Zd Z Qt ?_|refine Ze Z Qt ?_|refine V2 ?_|refine Zn Za Z Z Z Z ?_|(apply Zo 4 ZG;decide +kernel;kernel_rfl;kernel_rfl;kernel_rfl;exact Z;exact Z)|(apply Zr;(iterate 4 exact Z))|exact AE.nil _ _ _ _|(apply Zt;exact Z)|(apply Zx;exact Z;exact Z;decide +kernel;exact Z)|(apply Zz;exact Z)|exact AO.nil _ _ _|(apply Zq;(decide +kernel))|exact AOs.nil|exact ZM rfl rfl|(apply Zs Za;(iterate 6 exact Z);(first|exact Qt|rotate_left);(first|with_reducible assumption|decide +kernel|exact Z);(first|exact Zf rfl|with_reducible assumption|decide +kernel|rotate_left)))
   all_goals exact Qe
  | true=>
   rw[c0]at h0
   cases c1:WH n1 (.mk k1 n1 b1 l1) with
   | false=>
    rw[c1]at h1
    refine AP.ofA (Zm Tryd.func40 Z Tryd.ntmps40 Z Z ?_)
    repeat'(first|refine Zb h0 Qk Z Z Z Z ?_|refine Zb a0 Qk Z Z Z Z ?_|refine Zb h1 Qk Z Z Z Z ?_|refine Zb a1 Qk Z Z Z Z ?_|refine V9 70 ?_|refine U1 ?_|refine YN Za Z Z Z Z Z Z (Zf rfl) (List.cons_ne_nil _ _) Z Qd Qd Z Z Z ?_|refine Zj Za Z ?_|refine Zg Za Z ?_|refine Zv Za Z ?_|refine Zi Z Z Z Qt ?_|refine Zk Z Qt Z Z ?_|refine Zd Z Qt ?_|refine Ze Z Qt ?_|refine V2 ?_|refine Zn Za Z Z Z Z ?_|refine Yd Za Z Z Z Z Z Z Z Z Z Z Z Z ?_|(apply Zo 4 ZG;decide +kernel;kernel_rfl;kernel_rfl;kernel_rfl;exact Z;exact Z)|(apply Zr;(iterate 4 exact Z))|exact AE.nil _ _ _ _|(apply Zt;exact Z)|(apply Zx;exact Z;exact Z;decide +kernel;exact Z)|(apply Zz;exact Z)|exact AO.nil _ _ _|(apply Zq;(decide +kernel))|exact AOs.nil|exact ZM rfl rfl|(apply Zs Za;(iterate 6 exact Z);(first|exact Qt|rotate_left);(first|with_reducible assumption|decide +kernel|exact Z);(first|exact Zf rfl|with_reducible assumption|decide +kernel|rotate_left)))
    all_goals exact Qe
   | true=>
    rw[c1]at h1
    refine AP.ofA (Zm Tryd.func40 Z Tryd.ntmps40 Z Z ?_)
    repeat'(first|refine Zb h0 Qk Z Z Z Z ?_|refine Zb a0 Qk Z Z Z Z ?_|refine Zb h1 Qk Z Z Z Z ?_|refine Zb a1 Qk Z Z Z Z ?_|refine V9 70 ?_|refine U1 ?_|refine XU Za Z Z Z Z Z Z Z Z Z Z Z (Zf rfl) (Zf rfl) (List.cons_ne_nil _ _) Qd Qd Z Z ?_|refine YN Za Z Z Z Z Z Z (Zf rfl) (List.cons_ne_nil _ _) Z Qd Qd Z Z Z ?_|refine Zj Za Z ?_|refine Zg Za Z ?_|refine Zv Za Z ?_|refine Zi Z Z Z Qt ?_|refine Zk Z Qt Z Z ?_|refine Zd Z Qt ?_|refine Ze Z Qt ?_|refine Zn Za Z Z Z Z ?_|refine Yd Za Z Z Z Z Z Z Z Z Z Z Z Z ?_|(apply Zo 4 ZG;decide +kernel;kernel_rfl;kernel_rfl;kernel_rfl;exact Z;exact Z)|(apply Zr;(iterate 4 exact Z))|exact AE.nil _ _ _ _|(apply Zt;exact Z)|(apply Zx;exact Z;exact Z;decide +kernel;exact Z)|(apply Zz;exact Z)|exact AO.nil _ _ _|(apply Zq;(decide +kernel))|exact AOs.nil|exact ZM rfl rfl|(apply Zs Za;(iterate 6 exact Z);(first|exact Qt|rotate_left);(first|with_reducible assumption|decide +kernel|exact Z);(first|exact Zf rfl|with_reducible assumption|decide +kernel|rotate_left)))
    all_goals exact Qe
end Go.Proofs.YtchlgagdbflkmaaDoor
end

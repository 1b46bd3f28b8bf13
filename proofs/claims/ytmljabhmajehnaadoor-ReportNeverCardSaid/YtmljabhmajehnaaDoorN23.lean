/- Items: their bytes. -/
import Derived.Test.YtmljabhmajehnaaDoorN12
import Derived.Test.YtmljabhmajehnaaDoorN19
import Derived.Test.YtmljabhmajehnaaDoorN13
import Derived.Test.YtmljabhmajehnaaDoorN22
import Derived.Test.YtmljabhmajehnaaDoorN16
set_option linter.unusedVariables false
set_option linter.unusedSimpArgs false
section
open Go.RowKit Go.Pl Go.Av
namespace Go.Proofs.YtmljabhmajehnaaDoor
set_option maxHeartbeats 4000000
mutual
def okx:It->Prop
 | .mk k _ _ l=>(0<=k/\k<=7)/\T3 l
def T3:List It->Prop
 | []=>True
 | x::l=>okx x/\T3 l
end
theorem Uq:∀ {l:List It},T3 l->∀ y ∈ l,okx y
 | x::l,⟨h1,h2⟩,y,hy=>by
  rcases List.mem_cons.1 hy with rfl|hy
  ·exact h1
  ·exact Uq h2 y hy
mutual
theorem JN:∀ {x:It} {d m m':Nat},YS x d m=some m'->okx x
 | .mk k n b l,d,m,m',h=>by
  obtain⟨_,_,h3,h4⟩:=VL h
  exact⟨Jf h3,XD h4⟩
theorem XD:∀ {l:List It} {d m m':Nat},Ym l d m=some m'->T3 l
 | [],d,m,m',h=>trivial
 | x::l,d,m,m',h=>by
  obtain⟨m1,h1,h2⟩:=WM h
  exact⟨JN h1,XD h2⟩
end
theorem XF {x:It}(h:ZI x=true):okx x:=by
 unfold ZI at h
 cases hw:YS x 1 256 with
 | none=>rw[hw]at h;cases h
 | some m=>exact JN hw
theorem Q0 (h:Hd):∃ c t,ZQ h=c::t:=by
 unfold ZQ
 split
 ·exact⟨_,_,rfl⟩
 ·exact⟨_,_,rfl⟩
theorem WD {l:List It}{i:Nat}{y:It}(hy:l[i]?=some y):ZJ (l.take (i+1))=ZJ (l.take i)++ZG y:=by
 rw[List.take_add_one,hy,Un]
 simp[ZJ]
theorem W8 (l:List It)(i:Nat):(ZJ (l.take i)).length<=(ZJ l).length:=by
 have h:=congrArg List.length (Un (l.take i) (l.drop i))
 rw[List.take_append_drop,List.length_append]at h
 omega
theorem IN [Known]:∀(x:It),wfI x->okx x->∀(L:List E) (c:Nat),c=L.length->Uni 1 L->L.length+(ZG x).length<=140737488353280->AT Tryd.prog 46 [.sl (.own 0) L,itD x] [] [⟨c,1,5⟩] (.sl (.own 0) (L++(ZG x).map E.byte)) [] [⟨c+(ZG x).length,1,5⟩]:=by
 refine It.ind fun k n b l ih hw ho L c hc hUL hlim=>?_
 subst hc
 obtain⟨hn,hb,hl,hws⟩:=hw
 obtain⟨hk7,hos⟩:=ho
 have hlen:=Zw l
 have hr:ZV (k,(It.mk k n b l).hn,false)=true:=by simp[ZV];exact hk7
 have hhn:(It.mk k n b l).hn<18446744073709551616:=by simp only[It.hn];(repeat' split)<;>omega
 have hput:ZG (.mk k n b l)=ZQ (k,(It.mk k n b l).hn,false)++(b++ZJ l):=by rw[ZG,if_pos hr]
 rw[hput]at hlim ⊢
 have hW:=K5 (k,(It.mk k n b l).hn,false) hhn
 rw[if_pos hr,if_pos hr]at hW
 obtain⟨c0,t0,hcw⟩:=Q0 (k,(It.mk k n b l).hn,false)
 rw[hcw]at hW hlim ⊢
 have hU0:=YK (c0::t0)
 have hU1:=YK b
 have hU01:Uni 1 (L++(c0::t0).map E.byte):=hUL.append hU0
 have eb:IntKind.u64.wrap (((b.map E.byte).length:Nat):Int)=((b.length:Nat):Int):=by rw[List.length_map,IntKind.wrap_u64];omega
 have el:IntKind.u64.wrap (((Zz l).length:Nat):Int)=((l.length:Nat):Int):=by rw[hlen,IntKind.wrap_u64];omega
 have hS:∀(i:Nat),IntKind.i64.wrap ((i:Int)+1)=((i+1:Nat):Int)\/2199023255488<i:=fun i=>by
  rcases Nat.lt_or_ge 2199023255488 i with h|h
  ·exact .inr h
  ·left;rw[IntWalk.i64_in _ (by omega)];omega
 have hkc:(k=2/\(It.mk k n b l).hn=b.length)\/(k=3/\(It.mk k n b l).hn=b.length)\/(k=4/\(It.mk k n b l).hn=l.length)\/(k ≠ 2/\k ≠ 3/\k ≠ 4/\(It.mk k n b l).hn=n):=by
  by_cases h2:k=2
  ·subst h2;exact .inl ⟨rfl,rfl⟩
  by_cases h3:k=3
  ·subst h3;exact .inr (.inl ⟨rfl,rfl⟩)
  by_cases h4:k=4
  ·subst h4;exact .inr (.inr (.inl ⟨rfl,rfl⟩))
  ·exact .inr (.inr (.inr ⟨h2,h3,h4,by simp[It.hn,h2,h3,h4]⟩))
 clear hhn hr hcw hput
 generalize (It.mk k n b l).hn=hn0 at hkc hW
 have hbc:b=[]\/∃ c1 b1,b=c1::b1:=by cases b<;>simp
 have hne2:k ≠ 2->(k==2)=false:=fun h=>by simpa using h
 have hne3:k ≠ 3->(k==3)=false:=fun h=>by simpa using h
 have hne4:k ≠ 4->(k==4)=false:=fun h=>by simpa using h
 have hq:((k==2)=true/\hn0=b.length)\/((k==2)=false/\(k==3)=true/\hn0=b.length)\/((k==2)=false/\(k==3)=false/\(k==4)=true/\hn0=l.length)\/((k==2)=false/\(k==3)=false/\(k==4)=false/\hn0=n):=by
  rcases hkc with⟨e,h⟩ | ⟨e,h⟩ | ⟨e,h⟩ | ⟨k2,k3,k4,h⟩
  ·exact .inl ⟨by rw[e];rfl,h⟩
  ·exact .inr (.inl ⟨by rw[e];rfl,by rw[e];rfl,h⟩)
  ·exact .inr (.inr (.inl ⟨by rw[e];rfl,by rw[e];rfl,by rw[e];rfl,h⟩))
  ·exact .inr (.inr (.inr ⟨hne2 k2,hne3 k3,hne4 k4,h⟩))
 clear hkc
 rcases hbc with rfl|⟨c1,b1,rfl⟩
 ·rcases hq with⟨q2,hh⟩ | ⟨q2,q3,hh⟩ | ⟨q2,q3,q4,hh⟩ | ⟨q2,q3,q4,hh⟩
  all_goals
   rw[hh]at hW
   clear hh
   refine Zl Tryd.func46 rfl Tryd.ntmps46 rfl rfl ?_
   repeat'(first|rw[eb]|rw[el]|(apply Zb (hW);kernel_rfl;(iterate 4 exact Z))|(apply Zg Za;exact Z)|(apply Zf Za;exact Z)|(apply Zs Za;exact Z)|refine Zd Z Qt ?_|refine Zh Z Qt ?_|refine Zn Za Z Z Z Z ?_|(apply Zm 5 ZF;decide +kernel;kernel_rfl;kernel_rfl;kernel_rfl;exact Z;exact Z)|(apply Zq;(iterate 4 exact Z))|exact AE.nil _ _ _ _|(apply Zu;exact Z)|(apply Ye;exact Z)|(apply ZB;exact Z;exact Z;decide +kernel;exact Z)|(apply ZC;exact Z)|(apply YF;exact Z)|exact AO.nil _ _ _|(apply Zp;(decide +kernel))|(apply Z1;(iterate 3 exact Z))|exact AOs.nil|exact ZH rfl rfl|exact Y4 rfl rfl|refine Y6 Za Z Z Z Z Z Z ?_|(apply ZY Za;(iterate 6 exact Z);(first|with_reducible assumption|decide +kernel|exact Z|rotate_left);exact Z;exact Z;(first|exact Zj rfl|with_reducible assumption|decide +kernel|rotate_left);(first|exact Zj rfl|with_reducible assumption|decide +kernel|rotate_left);(first|exact Qt|rotate_left);(first|exact Qt|rotate_left);(first|exact Qt|rotate_left);exact Z;exact Z))
   all_goals first|(first|rfl|(simp only[List.length_append,List.length_cons,List.length_nil,List.length_map,Zw];done)|(simp only[List.length_append,List.length_cons,List.length_nil,List.length_map,Zw]at *;(try unfold maxLen);(try simp only[Nat.add_mul]);omega))|skip
   refine Z4 (fun f tm bx fr=>∃(i c:Nat) (M:List E),f+i=l.length/\c=M.length/\M=L++((c0::t0)++(([]:List UInt8)++ZJ (l.take i))).map E.byte/\tm=[(0,.sl (.own 0) M),(3,.ptr 0 0),(42,.sl .ext (Zz l)),(43,.int .i64 ((Zz l).length:Int)),(44,.int .i64 (i:Int))]/\bx=[itC k n ([]:List UInt8) l]/\fr=[⟨c,1,5⟩]) (l.length+1) (Lands.mk' (m:=l.length) (Nat.lt_succ_self _) ⟨0,L.length+((c0::t0).map E.byte).length,L++(c0::t0).map E.byte,rfl,by simp only[List.length_append],by simp[ZJ],rfl,rfl,rfl⟩ ?_ rfl rfl rfl rfl rfl rfl) ?_
   ·exact .cons rfl (.cons rfl (.cons rfl (.cons rfl (.cons rfl .nil))))
   rintro f tm bx fr ⟨i,c,M,hf,hc,hM,rfl,rfl,rfl⟩
   subst hc
   have hU:=Y2 l
   have hUM:Uni 1 M:=by rw[hM];exact hUL.append (YK _)
   have hMl:M.length=L.length+((c0::t0)++(([]:List UInt8)++ZJ (l.take i))).length:=by rw[hM];simp only[List.length_append,List.length_map]
   rcases Nat.lt_or_ge i l.length with hlt|hge
   ·have hdl:decide ((i:Int)<((Zz l).length:Int))=true:=decide_eq_true (by omega)
    obtain⟨⟨k1,n1,b2,l1⟩,hy⟩:∃ y,l[i]?=some y:=⟨_,List.getElem?_eq_getElem hlt⟩
    have hv:(Zz l)[((i:Nat):Int).toNat]?=some (.agg [.int .i64 k1,.int .u64 (n1:Int),.sl (b2.map E.byte),.sl (Zz l1)]):=by
     rw[Int.toNat_natCast,Yi,List.getElem?_map,hy];rfl
    have hmem:=List.mem_of_getElem? hy
    have hps:=WD hy
    have hpl:=W8 l (i+1)
    have hps2:=congrArg List.length hps
    rw[List.length_append]at hps2
    have hc:=ih _ hmem (Wa hws _ hmem) (Uq hos _ hmem) M _ rfl hUM (by simp only[List.length_append]at hMl hlim;omega)
    have ei:IntKind.i64.wrap ((i:Int)+1)=((i+1:Nat):Int):=by rw[IntWalk.i64_in _ (by omega)];omega
    repeat'(first|rw[ei]|(apply Yo [] [0] (hc);kernel_rfl;(iterate 10 exact Z))|(apply Zg Za;exact Z)|(apply Zf Za;exact Z)|refine Zd Z Qt ?_|(apply Zx Za;(iterate 6 exact Z);(first|exact Qt|rotate_left);(first|with_reducible assumption|decide +kernel|exact Z);(first|exact Zj rfl|with_reducible assumption|decide +kernel|rotate_left)))
    refine Lands.mk' (m:=f-1) (by omega) ⟨i+1,M.length+(ZG (.mk k1 n1 b2 l1)).length,M++(ZG (.mk k1 n1 b2 l1)).map E.byte,by omega,by simp only[List.length_append,List.length_map],by rw[hM,hps];simp,rfl,rfl,rfl⟩ ?_ rfl rfl rfl rfl rfl rfl
    exact .cons rfl (.cons rfl (.cons rfl (.cons rfl (.cons rfl .nil))))
   ·have hdl:decide ((i:Int)<((Zz l).length:Int))=false:=decide_eq_false (by omega)
    rw[List.take_of_length_le hge]at hM hMl
    repeat'(first|(apply Zf Za;exact Z)|refine Zh Z Qt ?_)
    all_goals(apply X3 [] [0];(apply Zc Za;exact Z);(iterate 7 exact Z))
    ·rw[hM];rfl
    ·rfl
    ·rw[hMl];rfl
 ·rcases hq with⟨q2,hh⟩ | ⟨q2,q3,hh⟩ | ⟨q2,q3,q4,hh⟩ | ⟨q2,q3,q4,hh⟩
  all_goals
   rw[hh]at hW
   clear hh
   refine Zl Tryd.func46 rfl Tryd.ntmps46 rfl rfl ?_
   repeat'(first|rw[eb]|rw[el]|(apply Zb (hW);kernel_rfl;(iterate 4 exact Z))|(apply Zg Za;exact Z)|(apply Zf Za;exact Z)|(apply Zs Za;exact Z)|refine Zd Z Qt ?_|refine Zh Z Qt ?_|refine Zn Za Z Z Z Z ?_|(apply Zm 5 ZF;decide +kernel;kernel_rfl;kernel_rfl;kernel_rfl;exact Z;exact Z)|(apply Zq;(iterate 4 exact Z))|exact AE.nil _ _ _ _|(apply Zu;exact Z)|(apply Ye;exact Z)|(apply ZB;exact Z;exact Z;decide +kernel;exact Z)|(apply ZC;exact Z)|(apply YF;exact Z)|exact AO.nil _ _ _|(apply Zp;(decide +kernel))|(apply Z1;(iterate 3 exact Z))|exact AOs.nil|exact ZH rfl rfl|exact Y4 rfl rfl|(apply ZY Za;(iterate 6 exact Z);(first|with_reducible assumption|decide +kernel|exact Z|rotate_left);exact Z;exact Z;(first|exact Zj rfl|with_reducible assumption|decide +kernel|rotate_left);(first|exact Zj rfl|with_reducible assumption|decide +kernel|rotate_left);(first|exact Qt|rotate_left);(first|exact Qt|rotate_left);(first|exact Qt|rotate_left);exact Z;exact Z))
   all_goals first|(first|rfl|(simp only[List.length_append,List.length_cons,List.length_nil,List.length_map,Zw];done)|(simp only[List.length_append,List.length_cons,List.length_nil,List.length_map,Zw]at *;(try unfold maxLen);(try simp only[Nat.add_mul]);omega))|skip
   refine Z4 (fun f tm bx fr=>∃(i c:Nat) (M:List E),f+i=l.length/\c=M.length/\M=L++((c0::t0)++((c1::b1)++ZJ (l.take i))).map E.byte/\tm=[(0,.sl (.own 0) M),(3,.ptr 0 0),(42,.sl .ext (Zz l)),(43,.int .i64 ((Zz l).length:Int)),(44,.int .i64 (i:Int))]/\bx=[itC k n (c1::b1) l]/\fr=[⟨c,1,5⟩]) (l.length+1) (Lands.mk' (m:=l.length) (Nat.lt_succ_self _) ⟨0,(L++(c0::t0).map E.byte).length+((c1::b1).map E.byte).length,(L++(c0::t0).map E.byte)++(c1::b1).map E.byte,rfl,by simp only[List.length_append],by simp[ZJ],rfl,rfl,rfl⟩ ?_ rfl rfl rfl rfl rfl rfl) ?_
   ·exact .cons rfl (.cons rfl (.cons rfl (.cons rfl (.cons rfl .nil))))
   rintro f tm bx fr ⟨i,c,M,hf,hc,hM,rfl,rfl,rfl⟩
   subst hc
   have hU:=Y2 l
   have hUM:Uni 1 M:=by rw[hM];exact hUL.append (YK _)
   have hMl:M.length=L.length+((c0::t0)++((c1::b1)++ZJ (l.take i))).length:=by rw[hM];simp only[List.length_append,List.length_map]
   rcases Nat.lt_or_ge i l.length with hlt|hge
   ·have hdl:decide ((i:Int)<((Zz l).length:Int))=true:=decide_eq_true (by omega)
    obtain⟨⟨k1,n1,b2,l1⟩,hy⟩:∃ y,l[i]?=some y:=⟨_,List.getElem?_eq_getElem hlt⟩
    have hv:(Zz l)[((i:Nat):Int).toNat]?=some (.agg [.int .i64 k1,.int .u64 (n1:Int),.sl (b2.map E.byte),.sl (Zz l1)]):=by
     rw[Int.toNat_natCast,Yi,List.getElem?_map,hy];rfl
    have hmem:=List.mem_of_getElem? hy
    have hps:=WD hy
    have hpl:=W8 l (i+1)
    have hps2:=congrArg List.length hps
    rw[List.length_append]at hps2
    have hc:=ih _ hmem (Wa hws _ hmem) (Uq hos _ hmem) M _ rfl hUM (by simp only[List.length_append]at hMl hlim;omega)
    have ei:IntKind.i64.wrap ((i:Int)+1)=((i+1:Nat):Int):=by rw[IntWalk.i64_in _ (by omega)];omega
    repeat'(first|rw[ei]|(apply Yo [] [0] (hc);kernel_rfl;(iterate 10 exact Z))|(apply Zg Za;exact Z)|(apply Zf Za;exact Z)|refine Zd Z Qt ?_|(apply Zx Za;(iterate 6 exact Z);(first|exact Qt|rotate_left);(first|with_reducible assumption|decide +kernel|exact Z);(first|exact Zj rfl|with_reducible assumption|decide +kernel|rotate_left)))
    refine Lands.mk' (m:=f-1) (by omega) ⟨i+1,M.length+(ZG (.mk k1 n1 b2 l1)).length,M++(ZG (.mk k1 n1 b2 l1)).map E.byte,by omega,by simp only[List.length_append,List.length_map],by rw[hM,hps];simp,rfl,rfl,rfl⟩ ?_ rfl rfl rfl rfl rfl rfl
    exact .cons rfl (.cons rfl (.cons rfl (.cons rfl (.cons rfl .nil))))
   ·have hdl:decide ((i:Int)<((Zz l).length:Int))=false:=decide_eq_false (by omega)
    rw[List.take_of_length_le hge]at hM hMl
    repeat'(first|(apply Zf Za;exact Z)|refine Zh Z Qt ?_)
    all_goals(apply X3 [] [0];(apply Zc Za;exact Z);(iterate 7 exact Z))
    ·rw[hM];rfl
    ·rfl
    ·rw[hMl];rfl
theorem Kb [Known](x:It)(hw:wfI x)(ho:okx x)(hlim:(ZG x).length<=140737488353280):AT Tryd.prog 46 [.sl .nil [],itD x] [] [] (.sl (.own 0) ((ZG x).map E.byte)) [] [⟨(ZG x).length,1,5⟩]:=by
 obtain⟨k,n,b,l⟩:=x
 obtain⟨hn,hb,hl,hws⟩:=hw
 obtain⟨hk7,hos⟩:=ho
 have hlen:=Zw l
 have hr:ZV (k,(It.mk k n b l).hn,false)=true:=by simp[ZV];exact hk7
 have hhn:(It.mk k n b l).hn<18446744073709551616:=by simp only[It.hn];(repeat' split)<;>omega
 have hput:ZG (.mk k n b l)=ZQ (k,(It.mk k n b l).hn,false)++(b++ZJ l):=by rw[ZG,if_pos hr]
 rw[hput]at hlim ⊢
 have hW:=K5 (k,(It.mk k n b l).hn,false) hhn
 rw[if_pos hr,if_pos hr]at hW
 obtain⟨c0,t0,hcw⟩:=Q0 (k,(It.mk k n b l).hn,false)
 rw[hcw]at hW hlim ⊢
 have hU0:=YK (c0::t0)
 have hU1:=YK b
 have eb:IntKind.u64.wrap (((b.map E.byte).length:Nat):Int)=((b.length:Nat):Int):=by rw[List.length_map,IntKind.wrap_u64];omega
 have el:IntKind.u64.wrap (((Zz l).length:Nat):Int)=((l.length:Nat):Int):=by rw[hlen,IntKind.wrap_u64];omega
 have hS:∀(i:Nat),IntKind.i64.wrap ((i:Int)+1)=((i+1:Nat):Int)\/2199023255488<i:=fun i=>by
  rcases Nat.lt_or_ge 2199023255488 i with h|h
  ·exact .inr h
  ·left;rw[IntWalk.i64_in _ (by omega)];omega
 have hkc:(k=2/\(It.mk k n b l).hn=b.length)\/(k=3/\(It.mk k n b l).hn=b.length)\/(k=4/\(It.mk k n b l).hn=l.length)\/(k ≠ 2/\k ≠ 3/\k ≠ 4/\(It.mk k n b l).hn=n):=by
  by_cases h2:k=2
  ·subst h2;exact .inl ⟨rfl,rfl⟩
  by_cases h3:k=3
  ·subst h3;exact .inr (.inl ⟨rfl,rfl⟩)
  by_cases h4:k=4
  ·subst h4;exact .inr (.inr (.inl ⟨rfl,rfl⟩))
  ·exact .inr (.inr (.inr ⟨h2,h3,h4,by simp[It.hn,h2,h3,h4]⟩))
 clear hhn hr hcw hput
 generalize (It.mk k n b l).hn=hn0 at hkc hW
 have hbc:b=[]\/∃ c1 b1,b=c1::b1:=by cases b<;>simp
 have hne2:k ≠ 2->(k==2)=false:=fun h=>by simpa using h
 have hne3:k ≠ 3->(k==3)=false:=fun h=>by simpa using h
 have hne4:k ≠ 4->(k==4)=false:=fun h=>by simpa using h
 have hq:((k==2)=true/\hn0=b.length)\/((k==2)=false/\(k==3)=true/\hn0=b.length)\/((k==2)=false/\(k==3)=false/\(k==4)=true/\hn0=l.length)\/((k==2)=false/\(k==3)=false/\(k==4)=false/\hn0=n):=by
  rcases hkc with⟨e,h⟩ | ⟨e,h⟩ | ⟨e,h⟩ | ⟨k2,k3,k4,h⟩
  ·exact .inl ⟨by rw[e];rfl,h⟩
  ·exact .inr (.inl ⟨by rw[e];rfl,by rw[e];rfl,h⟩)
  ·exact .inr (.inr (.inl ⟨by rw[e];rfl,by rw[e];rfl,by rw[e];rfl,h⟩))
  ·exact .inr (.inr (.inr ⟨hne2 k2,hne3 k3,hne4 k4,h⟩))
 clear hkc
 rcases hbc with rfl|⟨c1,b1,rfl⟩
 ·rcases hq with⟨q2,hh⟩ | ⟨q2,q3,hh⟩ | ⟨q2,q3,q4,hh⟩ | ⟨q2,q3,q4,hh⟩
  all_goals
   rw[hh]at hW
   clear hh
   refine Zl Tryd.func46 rfl Tryd.ntmps46 rfl rfl ?_
   repeat'(first|rw[eb]|rw[el]|(apply Zb (hW);kernel_rfl;(iterate 4 exact Z))|(apply Zg Za;exact Z)|(apply Zf Za;exact Z)|(apply Zs Za;exact Z)|refine Zd Z Qt ?_|refine Zh Z Qt ?_|refine Zn Za Z Z Z Z ?_|(apply Zm 5 ZF;decide +kernel;kernel_rfl;kernel_rfl;kernel_rfl;exact Z;exact Z)|(apply Zq;(iterate 4 exact Z))|exact AE.nil _ _ _ _|(apply Zu;exact Z)|(apply Ye;exact Z)|(apply ZB;exact Z;exact Z;decide +kernel;exact Z)|(apply ZC;exact Z)|(apply YF;exact Z)|exact AO.nil _ _ _|(apply Zp;(decide +kernel))|(apply Z1;(iterate 3 exact Z))|exact AOs.nil|exact ZH rfl rfl|exact Y4 rfl rfl|refine Y6 Za Z Z Z Z Z Z ?_|(apply Wh Za;(iterate 6 exact Z);(first|exact Zj rfl|with_reducible assumption|decide +kernel|rotate_left);(first|exact Qt|rotate_left);(first|exact Qt|rotate_left);(first|exact Qt|rotate_left);(iterate 3 exact Z)))
   all_goals first|(first|rfl|(simp only[List.length_append,List.length_cons,List.length_nil,List.length_map,Zw];done)|(simp only[List.length_append,List.length_cons,List.length_nil,List.length_map,Zw]at *;(try unfold maxLen);(try simp only[Nat.add_mul]);omega))|skip
   refine Z4 (fun f tm bx fr=>∃(i c:Nat) (M:List E),f+i=l.length/\c=M.length/\M=((c0::t0)++(([]:List UInt8)++ZJ (l.take i))).map E.byte/\tm=[(0,.sl (.own 0) M),(3,.ptr 0 0),(42,.sl .ext (Zz l)),(43,.int .i64 ((Zz l).length:Int)),(44,.int .i64 (i:Int))]/\bx=[itC k n ([]:List UInt8) l]/\fr=[⟨c,1,5⟩]) (l.length+1) (Lands.mk' (m:=l.length) (Nat.lt_succ_self _) ⟨0,((c0::t0).map E.byte).length,(c0::t0).map E.byte,rfl,by simp only[List.length_append],by simp[ZJ],rfl,rfl,rfl⟩ ?_ rfl rfl rfl rfl rfl rfl) ?_
   ·exact .cons rfl (.cons rfl (.cons rfl (.cons rfl (.cons rfl .nil))))
   rintro f tm bx fr ⟨i,c,M,hf,hc,hM,rfl,rfl,rfl⟩
   subst hc
   have hU:=Y2 l
   have hUM:Uni 1 M:=by rw[hM];exact YK _
   have hMl:M.length=((c0::t0)++(([]:List UInt8)++ZJ (l.take i))).length:=by rw[hM];simp only[List.length_append,List.length_map]
   rcases Nat.lt_or_ge i l.length with hlt|hge
   ·have hdl:decide ((i:Int)<((Zz l).length:Int))=true:=decide_eq_true (by omega)
    obtain⟨⟨k1,n1,b2,l1⟩,hy⟩:∃ y,l[i]?=some y:=⟨_,List.getElem?_eq_getElem hlt⟩
    have hv:(Zz l)[((i:Nat):Int).toNat]?=some (.agg [.int .i64 k1,.int .u64 (n1:Int),.sl (b2.map E.byte),.sl (Zz l1)]):=by
     rw[Int.toNat_natCast,Yi,List.getElem?_map,hy];rfl
    have hmem:=List.mem_of_getElem? hy
    have hps:=WD hy
    have hpl:=W8 l (i+1)
    have hps2:=congrArg List.length hps
    rw[List.length_append]at hps2
    have hc:=IN _ (Wa hws _ hmem) (Uq hos _ hmem) M _ rfl hUM (by simp only[List.length_append]at hMl hlim;omega)
    have ei:IntKind.i64.wrap ((i:Int)+1)=((i+1:Nat):Int):=by rw[IntWalk.i64_in _ (by omega)];omega
    repeat'(first|rw[ei]|(apply Yo [] [0] (hc);kernel_rfl;(iterate 10 exact Z))|(apply Zg Za;exact Z)|(apply Zf Za;exact Z)|refine Zd Z Qt ?_|(apply Zx Za;(iterate 6 exact Z);(first|exact Qt|rotate_left);(first|with_reducible assumption|decide +kernel|exact Z);(first|exact Zj rfl|with_reducible assumption|decide +kernel|rotate_left)))
    refine Lands.mk' (m:=f-1) (by omega) ⟨i+1,M.length+(ZG (.mk k1 n1 b2 l1)).length,M++(ZG (.mk k1 n1 b2 l1)).map E.byte,by omega,by simp only[List.length_append,List.length_map],by rw[hM,hps];simp,rfl,rfl,rfl⟩ ?_ rfl rfl rfl rfl rfl rfl
    exact .cons rfl (.cons rfl (.cons rfl (.cons rfl (.cons rfl .nil))))
   ·have hdl:decide ((i:Int)<((Zz l).length:Int))=false:=decide_eq_false (by omega)
    rw[List.take_of_length_le hge]at hM hMl
    repeat'(first|(apply Zf Za;exact Z)|refine Zh Z Qt ?_)
    all_goals(apply X3 [] [0];(apply Zc Za;exact Z);(iterate 7 exact Z))
    ·rw[hM];rfl
    ·rfl
    ·rw[hMl];rfl
 ·rcases hq with⟨q2,hh⟩ | ⟨q2,q3,hh⟩ | ⟨q2,q3,q4,hh⟩ | ⟨q2,q3,q4,hh⟩
  all_goals
   rw[hh]at hW
   clear hh
   refine Zl Tryd.func46 rfl Tryd.ntmps46 rfl rfl ?_
   repeat'(first|rw[eb]|rw[el]|(apply Zb (hW);kernel_rfl;(iterate 4 exact Z))|(apply Zg Za;exact Z)|(apply Zf Za;exact Z)|(apply Zs Za;exact Z)|refine Zd Z Qt ?_|refine Zh Z Qt ?_|refine Zn Za Z Z Z Z ?_|(apply Zm 5 ZF;decide +kernel;kernel_rfl;kernel_rfl;kernel_rfl;exact Z;exact Z)|(apply Zq;(iterate 4 exact Z))|exact AE.nil _ _ _ _|(apply Zu;exact Z)|(apply Ye;exact Z)|(apply ZB;exact Z;exact Z;decide +kernel;exact Z)|(apply ZC;exact Z)|(apply YF;exact Z)|exact AO.nil _ _ _|(apply Zp;(decide +kernel))|(apply Z1;(iterate 3 exact Z))|exact AOs.nil|exact ZH rfl rfl|exact Y4 rfl rfl|(apply ZY Za;(iterate 6 exact Z);(first|with_reducible assumption|decide +kernel|exact Z|rotate_left);exact Z;exact Z;(first|exact Zj rfl|with_reducible assumption|decide +kernel|rotate_left);(first|exact Zj rfl|with_reducible assumption|decide +kernel|rotate_left);(first|exact Qt|rotate_left);(first|exact Qt|rotate_left);(first|exact Qt|rotate_left);exact Z;exact Z)|(apply Wh Za;(iterate 6 exact Z);(first|exact Zj rfl|with_reducible assumption|decide +kernel|rotate_left);(first|exact Qt|rotate_left);(first|exact Qt|rotate_left);(first|exact Qt|rotate_left);(iterate 3 exact Z)))
   all_goals first|(first|rfl|(simp only[List.length_append,List.length_cons,List.length_nil,List.length_map,Zw];done)|(simp only[List.length_append,List.length_cons,List.length_nil,List.length_map,Zw]at *;(try unfold maxLen);(try simp only[Nat.add_mul]);omega))|skip
   refine Z4 (fun f tm bx fr=>∃(i c:Nat) (M:List E),f+i=l.length/\c=M.length/\M=((c0::t0)++((c1::b1)++ZJ (l.take i))).map E.byte/\tm=[(0,.sl (.own 0) M),(3,.ptr 0 0),(42,.sl .ext (Zz l)),(43,.int .i64 ((Zz l).length:Int)),(44,.int .i64 (i:Int))]/\bx=[itC k n (c1::b1) l]/\fr=[⟨c,1,5⟩]) (l.length+1) (Lands.mk' (m:=l.length) (Nat.lt_succ_self _) ⟨0,((c0::t0).map E.byte).length+((c1::b1).map E.byte).length,((c0::t0).map E.byte)++(c1::b1).map E.byte,rfl,by simp only[List.length_append],by simp[ZJ],rfl,rfl,rfl⟩ ?_ rfl rfl rfl rfl rfl rfl) ?_
   ·exact .cons rfl (.cons rfl (.cons rfl (.cons rfl (.cons rfl .nil))))
   rintro f tm bx fr ⟨i,c,M,hf,hc,hM,rfl,rfl,rfl⟩
   subst hc
   have hU:=Y2 l
   have hUM:Uni 1 M:=by rw[hM];exact YK _
   have hMl:M.length=((c0::t0)++((c1::b1)++ZJ (l.take i))).length:=by rw[hM];simp only[List.length_append,List.length_map]
   rcases Nat.lt_or_ge i l.length with hlt|hge
   ·have hdl:decide ((i:Int)<((Zz l).length:Int))=true:=decide_eq_true (by omega)
    obtain⟨⟨k1,n1,b2,l1⟩,hy⟩:∃ y,l[i]?=some y:=⟨_,List.getElem?_eq_getElem hlt⟩
    have hv:(Zz l)[((i:Nat):Int).toNat]?=some (.agg [.int .i64 k1,.int .u64 (n1:Int),.sl (b2.map E.byte),.sl (Zz l1)]):=by
     rw[Int.toNat_natCast,Yi,List.getElem?_map,hy];rfl
    have hmem:=List.mem_of_getElem? hy
    have hps:=WD hy
    have hpl:=W8 l (i+1)
    have hps2:=congrArg List.length hps
    rw[List.length_append]at hps2
    have hc:=IN _ (Wa hws _ hmem) (Uq hos _ hmem) M _ rfl hUM (by simp only[List.length_append]at hMl hlim;omega)
    have ei:IntKind.i64.wrap ((i:Int)+1)=((i+1:Nat):Int):=by rw[IntWalk.i64_in _ (by omega)];omega
    repeat'(first|rw[ei]|(apply Yo [] [0] (hc);kernel_rfl;(iterate 10 exact Z))|(apply Zg Za;exact Z)|(apply Zf Za;exact Z)|refine Zd Z Qt ?_|(apply Zx Za;(iterate 6 exact Z);(first|exact Qt|rotate_left);(first|with_reducible assumption|decide +kernel|exact Z);(first|exact Zj rfl|with_reducible assumption|decide +kernel|rotate_left)))
    refine Lands.mk' (m:=f-1) (by omega) ⟨i+1,M.length+(ZG (.mk k1 n1 b2 l1)).length,M++(ZG (.mk k1 n1 b2 l1)).map E.byte,by omega,by simp only[List.length_append,List.length_map],by rw[hM,hps];simp,rfl,rfl,rfl⟩ ?_ rfl rfl rfl rfl rfl rfl
    exact .cons rfl (.cons rfl (.cons rfl (.cons rfl (.cons rfl .nil))))
   ·have hdl:decide ((i:Int)<((Zz l).length:Int))=false:=decide_eq_false (by omega)
    rw[List.take_of_length_le hge]at hM hMl
    repeat'(first|(apply Zf Za;exact Z)|refine Zh Z Qt ?_)
    all_goals(apply X3 [] [0];(apply Zc Za;exact Z);(iterate 7 exact Z))
    ·rw[hM];rfl
    ·rfl
    ·rw[hMl];rfl
theorem XG [Known][KnownU8](x:It)(hw:wfI x)(hlim:(ZG x).length<=140737488353280)(hR:AP Tryd.prog 45 [itD x] (.bool (ZI x)) []):AP Tryd.prog 27 [itD x] (.tup [byE (if ZI x then ZG x else []),.int .i64 (if ZI x then 0 else 3)]) []:=by
 cases hr:ZI x with
 | false=>
  rw[hr]at hR
  obtain⟨k,n,b,l⟩:=x
  refine AP.ofA (Zl Tryd.func27 Z Tryd.ntmps27 Z Z ?_)
  repeat'(first|(apply Zb (hR);kernel_rfl;(iterate 4 exact Z))|(apply Zg Za;exact Z)|(apply Zf Za;exact Z)|(apply Zs Za;exact Z)|refine Zd Z Qt ?_)
  all_goals exact Qe
 | true=>
  rw[hr]at hR
  have hp:=Kb x hw (XF hr) hlim
  obtain⟨k,n,b,l⟩:=x
  refine AP.ofA (Zl Tryd.func27 Z Tryd.ntmps27 Z Z ?_)
  repeat'(first|(apply Zb (hR);kernel_rfl;(iterate 4 exact Z))|(apply Yo [] [] (hp);kernel_rfl;(iterate 10 exact Z))|(apply Zg Za;exact Z)|(apply Zf Za;exact Z)|(apply Zs Za;exact Z)|refine Zh Z Qt ?_)
  all_goals exact Qe
end Go.Proofs.YtmljabhmajehnaaDoor
end
section
open Go.RowKit Go.Pl Go.Av
namespace Go.Proofs.YtmljabhmajehnaaDoor
set_option maxHeartbeats 4000000
theorem N7 {s:List UInt8}{e:Nat}(h:rdS s=.error e):e ≠ 0:=by
 cases s with
 | nil=>simp only[rdS,Except.error.injEq]at h;omega
 | cons c r=>
  simp only[rdS]at h
  repeat' split at h
  all_goals(cases h;try omega)
theorem XH {p:Hd}{s:List UInt8}{e:Nat}(h:We p s=.error e):e ≠ 0:=by
 simp only[We]at h
 repeat' split at h
 all_goals(cases h;try omega)
theorem IP (m:Int):∀(f:Nat) (acc s:List UInt8) (e:Nat),Jx m f acc s=.error e->e ≠ 0
 | 0,_,_,e,h=>by simp only[Jx,Except.error.injEq]at h;omega
 | f+1,acc,s,e,h=>by
  rw[Jx]at h
  cases hb:UG s<;>rw[hb]at h
  ·cases hr:rdS s with
   | error c=>rw[hr]at h;dsimp only at h;simp only[Except.error.injEq]at h;exact h ▸ N7 hr
   | ok y=>
    obtain⟨p,r⟩:=y
    rw[hr]at h;dsimp only at h
    split at h
    ·cases hp:We p r with
     | error c=>rw[hp]at h;dsimp only at h;simp only[Except.error.injEq]at h;exact h ▸ XH hp
     | ok z=>rw[hp]at h;exact IP m f _ _ e h
    ·simp only[Except.error.injEq]at h;omega
  ·exact nomatch h
theorem Oa {it:Nat->List UInt8->Res (It × List UInt8 × Nat)}(hi:∀ m s e,it m s=.error e->e ≠ 0):∀(f:Nat) (acc:List It) (m:Nat) (s:List UInt8) (e:Nat),UH it f acc m s=.error e->e ≠ 0
 | 0,_,_,_,_,h=>nomatch h
 | f+1,acc,m,s,e,h=>by
  rw[UH]at h
  cases hr:it m s with
  | error c=>rw[hr]at h;dsimp only at h;simp only[Except.error.injEq]at h;exact h ▸ hi _ _ _ hr
  | ok y=>obtain⟨x,r,m'⟩:=y;rw[hr]at h;exact Oa hi f _ _ _ e h
theorem Ob {it:Nat->List UInt8->Res (It × List UInt8 × Nat)}(hi:∀ m s e,it m s=.error e->e ≠ 0):∀(f:Nat) (acc:List It) (m:Nat) (s:List UInt8) (e:Nat),Jy it f acc m s=.error e->e ≠ 0
 | 0,_,_,_,e,h=>by simp only[Jy,Except.error.injEq]at h;omega
 | f+1,acc,m,s,e,h=>by
  rw[Jy]at h
  cases hb:UG s<;>rw[hb]at h
  ·cases hr:it m s with
   | error c=>rw[hr]at h;dsimp only at h;simp only[Except.error.injEq]at h;exact h ▸ hi _ _ _ hr
   | ok y=>obtain⟨x,r,m'⟩:=y;rw[hr]at h;exact Ob hi f _ _ _ e h
  ·exact nomatch h
theorem HM {it:Nat->List UInt8->Res (It × List UInt8 × Nat)}(hi:∀ m s e,it m s=.error e->e ≠ 0){p:Hd}{m:Nat}{r:List UInt8}{e:Nat}(h:Wq it p m r=.error e):e ≠ 0:=by
 have h1:∀ e,Qf p r=.error e->e ≠ 0:=by
  intro e h;simp only[Qf]at h
  split at h
  ·exact IP _ _ _ _ _ h
  ·exact XH h
 have h2:∀ e,Jz it p m r=.error e->e ≠ 0:=by
  intro e h;simp only[Jz]at h
  split at h
  ·exact Ob hi _ _ _ _ _ h
  ·split at h
   ·exact Oa hi _ _ _ _ _ h
   ·cases h;omega
 simp only[Wq]at h
 repeat' split at h
 all_goals first
  | (cases h;done)
  | (rename_i hq;cases h;exact h1 _ hq)
  | (rename_i hq;cases h;exact h2 _ hq)
theorem Qm:∀(d m:Nat) (s:List UInt8) (e:Nat),ZZ d m s=.error e->e ≠ 0
 | 0,m,s,e,h=>by
  rw[ZZ]at h
  cases hr:rdS s with
  | error c=>rw[hr]at h;dsimp only at h;simp only[Except.error.injEq]at h;exact h ▸ N7 hr
  | ok y=>
   obtain⟨p,r⟩:=y
   rw[hr]at h;dsimp only at h
   split at h<;>(simp only[Except.error.injEq]at h;omega)
 | d+1,m,s,e,h=>by
  rw[ZZ]at h
  cases hr:rdS s with
  | error c=>rw[hr]at h;dsimp only at h;simp only[Except.error.injEq]at h;exact h ▸ N7 hr
  | ok y=>
   obtain⟨p,r⟩:=y
   rw[hr]at h;dsimp only at h
   split at h
   ·simp only[Except.error.injEq]at h;omega
   ·split at h
    ·simp only[Except.error.injEq]at h;omega
    ·exact HM (Qm d) h
theorem Kc [Known][KnownU8](b:List UInt8)(hb:b.length<=140737488351232):AP Tryd.prog 97 [byE b] (.bool (Wx b)) []:=by
 have hR:=JM b 0 (by omega)
 have e:Ys b 0=match ZZ 6 256 b with
   | .error e=>(.mk 0 0 [] [],0,e)
   | .ok (x,r,_)=>(x,b.length-r.length,0):=by rw[Ys,if_neg (by omega)];rfl
 rw[e]at hR
 unfold Wx
 cases hx:ZZ 6 256 b with
 | error c=>
  rw[hx]at hR
  dsimp only
  have hc:((c:Int)==0)=false:=by
   have h0:=Qm _ _ _ _ hx
   rw[<- Bool.not_eq_true,beq_iff_eq];omega
  replace hR:AP Tryd.prog _ _ (.tup [itD (.mk 0 0 [] []),.int .i64 0,.int .i64 (c:Int)]) []:=hR
  refine AP.ofA (Zl Tryd.func97 Z Tryd.ntmps97 Z Z ?_)
  repeat'(first|rw[hc]|(apply Zb (hR);kernel_rfl;(iterate 4 exact Z))|(apply Zg Za;exact Z)|(apply Zf Za;exact Z)|refine Zt Z Z Z Qt ?_|refine Zi Z Qt Z Z ?_)
  all_goals exact Qe
 | ok y=>
  obtain⟨⟨k1,n1,b1,l1⟩,r,m1⟩:=y
  rw[hx]at hR
  replace hR:AP Tryd.prog _ _ (.tup [itD (.mk k1 n1 b1 l1),.int .i64 ((b.length-r.length:Nat):Int),.int .i64 0]) []:=hR
  obtain⟨hwk,hwf,pre,hpre,_,hlen⟩:=Qh 6 (Nat.le_refl _) _ _ _ _ _ hx (by omega)
  have hle:=hlen.2
  have hpl:=congrArg List.length hpre
  rw[List.length_append]at hpl
  have hP:=Kb (.mk k1 n1 b1 l1) hwf (JN hwk) (by omega)
  have hB:=OR (ZG (.mk k1 n1 b1 l1)) b
  have hn:(((b.length-r.length:Nat):Int)==((b.map E.byte).length:Int))=r.isEmpty:=by
   rw[List.length_map]
   cases r with
   | nil=>simp
   | cons c r=>simp at hpl ⊢;omega
  dsimp only
  cases hr:r.isEmpty
  all_goals
   rw[hr]at hn
   refine AP.ofA (Zl Tryd.func97 Z Tryd.ntmps97 Z Z ?_)
   repeat'(first|rw[hn]|(apply Zb (hR);kernel_rfl;(iterate 4 exact Z))|(apply Yo [] [] (hP);kernel_rfl;(iterate 10 exact Z))|(apply Zb (hB);kernel_rfl;(iterate 4 exact Z))|(apply Zg Za;exact Z)|(apply Zf Za;exact Z)|refine Ze Z Z Z Qt ?_|refine Zt Z Z Z Qt ?_|refine Zk Z Qt Z Z ?_|refine Zi Z Qt Z Z ?_|refine Zn Za Z Z Z Z ?_)
   all_goals exact Qe
theorem Gu [Known][KnownU8](x:It)(hw:wfI x)(hr:ZI x=true)(hlim:(ZG x).length<=140737488353280):AT Tryd.prog 27 [itD x] [] [] (.tup [.sl (.own 0) ((ZG x).map E.byte),.int .i64 0]) [] [⟨(ZG x).length,1,5⟩]:=by
 have hR:=Wb x hw
 rw[hr]at hR
 have hp:=Kb x hw (XF hr) hlim
 obtain⟨k,n,b,l⟩:=x
 refine Zl Tryd.func27 rfl Tryd.ntmps27 rfl rfl ?_
 repeat'(first|(apply Zb (hR);kernel_rfl;(iterate 4 exact Z))|(apply Yo [] [] (hp);kernel_rfl;(iterate 10 exact Z))|(apply Zg Za;exact Z)|(apply Zf Za;exact Z)|(apply Zs Za;exact Z)|refine Zh Z Qt ?_)
 all_goals(apply X3 [] [0];(apply Zc Za;exact Z);(iterate 7 exact Z))
 all_goals rfl
theorem Oc {x:It}(hw:wfI x)(hr:ZI x=true)(r:List UInt8):ZZ 6 256 (ZG x++r)=.ok (x,r,((YS x 1 256).getD 0)):=by
 unfold ZI at hr
 cases h:YS x 1 256 with
 | none=>rw[h]at hr;cases hr
 | some m=>exact JE x 6 256 m r hw (Nat.le_refl _) h
theorem XI {x:It}(hw:wfI x)(hr:ZI x=true)(r:List UInt8):Ys (ZG x++r) 0=(x,(ZG x).length,0):=by
 rw[Ys,if_neg (by omega),show(0:Int).toNat=0 from rfl,List.drop_zero,Oc hw hr]
 dsimp only
 rw[List.length_append,Nat.add_sub_cancel]
theorem Q1 [Known][KnownU8](x:It)(hw:wfI x)(hlim:(ZG x).length<=140737488353280)(hr:ZI x=true):AP Tryd.prog 27 [itD x] (.tup [byE (ZG x),.int .i64 0]) []:=by
 have h:=XG x hw hlim (Wb x hw)
 rw[hr]at h
 exact h
theorem Ke (x:It)(hw:wfI x)(hr:ZI x=true):∃ c t,ZG x=c::t:=by
 cases hp:ZG x with
 | cons c t=>exact⟨c,t,rfl⟩
 | nil=>
  have h:=Oc hw hr []
  rw[hp]at h
  have e:ZZ 6 256 []=.error 8:=rfl
  rw[List.append_nil,e]at h
  cases h
end Go.Proofs.YtmljabhmajehnaaDoor
end

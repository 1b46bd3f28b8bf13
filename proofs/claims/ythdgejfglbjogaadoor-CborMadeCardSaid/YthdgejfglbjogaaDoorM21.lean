/- Items: their bytes. -/
import Derived.Test.YthdgejfglbjogaaDoorM12
import Derived.Test.YthdgejfglbjogaaDoorM18
import Derived.Test.YthdgejfglbjogaaDoorM14
import Derived.Test.YthdgejfglbjogaaDoorM20
import Derived.Test.YthdgejfglbjogaaDoorM17
set_option linter.unusedVariables false
set_option linter.unusedSimpArgs false
section
open Go.RowKit Go.Pl Go.Av
namespace Go.Proofs.YthdgejfglbjogaaDoor
set_option maxHeartbeats 4000000
mutual
def okx:It->Prop
 | .mk k _ _ l=>(0<=k/\k<=7)/\OG l
def OG:List It->Prop
 | []=>True
 | x::l=>okx x/\OG l
end
theorem WY:∀ {l:List It},OG l->∀ y ∈ l,okx y
 | x::l,⟨h1,h2⟩,y,hy=>by
  rcases List.mem_cons.1 hy with rfl|hy
  ·exact h1
  ·exact WY h2 y hy
mutual
theorem UG:∀ {x:It} {d m m':Nat},YP x d m=some m'->okx x
 | .mk k n b l,d,m,m',h=>by
  obtain⟨_,_,h3,h4⟩:=Wz h
  exact⟨Uh h3,Qg h4⟩
theorem Qg:∀ {l:List It} {d m m':Nat},Yc l d m=some m'->OG l
 | [],d,m,m',h=>trivial
 | x::l,d,m,m',h=>by
  obtain⟨m1,h1,h2⟩:=YZ h
  exact⟨UG h1,Qg h2⟩
end
theorem X2 {x:It}(h:Vl x=true):okx x:=by
 unfold Vl at h
 cases hw:YP x 1 256 with
 | none=>rw[hw]at h;cases h
 | some m=>exact UG hw
theorem Ua (h:Hd):∃ c t,ZE h=c::t:=by
 unfold ZE
 split
 ·exact⟨_,_,rfl⟩
 ·exact⟨_,_,rfl⟩
theorem YS {l:List It}{i:Nat}{y:It}(hy:l[i]?=some y):ZR (l.take (i+1))=ZR (l.take i)++Yo y:=by
 rw[List.take_add_one,hy,WX]
 simp[ZR]
theorem Wg (l:List It)(i:Nat):(ZR (l.take i)).length<=(ZR l).length:=by
 have h:=congrArg List.length (WX (l.take i) (l.drop i))
 rw[List.take_append_drop,List.length_append]at h
 omega
theorem Xs [Known]:∀(x:It),wfI x->okx x->∀(L:List E) (c:Nat),c=L.length->Uni 1 L->L.length+(Yo x).length<=140737488353280->AT Tryd.prog 15 [.sl (.own 0) L,itD x] [] [⟨c,1,5⟩] (.sl (.own 0) (L++(Yo x).map E.byte)) [] [⟨c+(Yo x).length,1,5⟩]:=by
 refine It.ind fun k n b l ih hw ho L c hc hUL hlim=>?_
 subst hc
 obtain⟨hn,hb,hl,hws⟩:=hw
 obtain⟨hk7,hos⟩:=ho
 have hlen:=ZB l
 have hr:ZI (k,(It.mk k n b l).hn,false)=true:=by simp[ZI];exact hk7
 have hhn:(It.mk k n b l).hn<18446744073709551616:=by simp only[It.hn];(repeat' split)<;>omega
 have hput:Yo (.mk k n b l)=ZE (k,(It.mk k n b l).hn,false)++(b++ZR l):=by rw[Yo,if_pos hr]
 rw[hput]at hlim ⊢
 have hW:=Jl (k,(It.mk k n b l).hn,false) hhn
 rw[if_pos hr,if_pos hr]at hW
 obtain⟨c0,t0,hcw⟩:=Ua (k,(It.mk k n b l).hn,false)
 rw[hcw]at hW hlim ⊢
 have hU0:=Yv (c0::t0)
 have hU1:=Yv b
 have hU01:Uni 1 (L++(c0::t0).map E.byte):=hUL.append hU0
 have eb:IntKind.u64.wrap (((b.map E.byte).length:Nat):Int)=((b.length:Nat):Int):=by rw[List.length_map,IntKind.wrap_u64];omega
 have el:IntKind.u64.wrap (((ZN l).length:Nat):Int)=((l.length:Nat):Int):=by rw[hlen,IntKind.wrap_u64];omega
 have hS:∀(i:Nat),IntKind.i64.wrap ((i:Int)+1)=((i+1:Nat):Int)\/2199023255488<i:=fun i=>by
  rcases Nat.lt_or_ge 2199023255488 i with h|h
  ·exact .inr h
  ·left;rw[IntWalk.i64_in _ (by omega)];omega
 have hkc:(k=2/\(It.mk k n b l).hn=b.length)\/(k=3/\(It.mk k n b l).hn=b.length)\/(k=4/\(It.mk k n b l).hn=l.length)\/(k ≠ 2/\k ≠ 3/\k ≠ 4/\(It.mk k n b l).hn=n):=by
  by_cases h2:k=2
  ·subst h2;exact .inl ⟨rfl,rfl⟩
  by_cases h3:k=3
  ·subst h3;exact .inr (.inl ⟨rfl,rfl⟩)
  by_cases h4:k=4
  ·subst h4;exact .inr (.inr (.inl ⟨rfl,rfl⟩))
  ·exact .inr (.inr (.inr ⟨h2,h3,h4,by simp[It.hn,h2,h3,h4]⟩))
 clear hhn hr hcw hput
 generalize (It.mk k n b l).hn=hn0 at hkc hW
 have hbc:b=[]\/∃ c1 b1,b=c1::b1:=by cases b<;>simp
 have hne2:k ≠ 2->(k==2)=false:=fun h=>by simpa using h
 have hne3:k ≠ 3->(k==3)=false:=fun h=>by simpa using h
 have hne4:k ≠ 4->(k==4)=false:=fun h=>by simpa using h
 have hq:((k==2)=true/\hn0=b.length)\/((k==2)=false/\(k==3)=true/\hn0=b.length)\/((k==2)=false/\(k==3)=false/\(k==4)=true/\hn0=l.length)\/((k==2)=false/\(k==3)=false/\(k==4)=false/\hn0=n):=by
  rcases hkc with⟨e,h⟩ | ⟨e,h⟩ | ⟨e,h⟩ | ⟨k2,k3,k4,h⟩
  ·exact .inl ⟨by rw[e];rfl,h⟩
  ·exact .inr (.inl ⟨by rw[e];rfl,by rw[e];rfl,h⟩)
  ·exact .inr (.inr (.inl ⟨by rw[e];rfl,by rw[e];rfl,by rw[e];rfl,h⟩))
  ·exact .inr (.inr (.inr ⟨hne2 k2,hne3 k3,hne4 k4,h⟩))
 clear hkc
 rcases hbc with rfl|⟨c1,b1,rfl⟩
 ·rcases hq with⟨q2,hh⟩ | ⟨q2,q3,hh⟩ | ⟨q2,q3,q4,hh⟩ | ⟨q2,q3,q4,hh⟩
  all_goals
   rw[hh]at hW
   clear hh
   refine Zs Tryd.func15 rfl Tryd.ntmps15 rfl rfl ?_
   repeat'(first|rw[eb]|rw[el]|(apply Zb (hW);kernel_rfl;(iterate 4 exact Z))|(apply Zh Za;exact Z)|(apply Zd Za;exact Z)|(apply Zv Za;exact Z)|refine Zc Z Qt ?_|refine Ze Z Qt ?_|refine Zp Za Z Z Z Z ?_|(apply Zr 5 ZJ;decide +kernel;kernel_rfl;kernel_rfl;kernel_rfl;exact Z;exact Z)|(apply Zu;(iterate 4 exact Z))|exact AE.nil _ _ _ _|(apply ZD;exact Z)|(apply Yq;exact Z)|(apply ZP;exact Z;exact Z;decide +kernel;exact Z)|(apply ZQ;exact Z)|(apply YH;exact Z)|exact AO.nil _ _ _|(apply Zt;(decide +kernel))|(apply Yp;(iterate 3 exact Z))|exact AOs.nil|exact Z1 rfl rfl|exact Y8 rfl rfl|refine Yj Za Z Z Z Z Z Z ?_|(apply Yi Za;(iterate 6 exact Z);(first|with_reducible assumption|decide +kernel|exact Z|rotate_left);exact Z;exact Z;(first|exact Zi rfl|with_reducible assumption|decide +kernel|rotate_left);(first|exact Zi rfl|with_reducible assumption|decide +kernel|rotate_left);(first|exact Qt|rotate_left);(first|exact Qt|rotate_left);(first|exact Qt|rotate_left);exact Z;exact Z))
   all_goals first|(first|rfl|(simp only[List.length_append,List.length_cons,List.length_nil,List.length_map,ZB];done)|(simp only[List.length_append,List.length_cons,List.length_nil,List.length_map,ZB]at *;(try unfold maxLen);(try simp only[Nat.add_mul]);omega))|skip
   refine Z6 (fun f tm bx fr=>∃(i c:Nat) (M:List E),f+i=l.length/\c=M.length/\M=L++((c0::t0)++(([]:List UInt8)++ZR (l.take i))).map E.byte/\tm=[(0,.sl (.own 0) M),(3,.ptr 0 0),(42,.sl .ext (ZN l)),(43,.int .i64 ((ZN l).length:Int)),(44,.int .i64 (i:Int))]/\bx=[itC k n ([]:List UInt8) l]/\fr=[⟨c,1,5⟩]) (l.length+1) (Lands.mk' (m:=l.length) (Nat.lt_succ_self _) ⟨0,L.length+((c0::t0).map E.byte).length,L++(c0::t0).map E.byte,rfl,by simp only[List.length_append],by simp[ZR],rfl,rfl,rfl⟩ ?_ rfl rfl rfl rfl rfl rfl) ?_
   ·exact .cons rfl (.cons rfl (.cons rfl (.cons rfl (.cons rfl .nil))))
   rintro f tm bx fr ⟨i,c,M,hf,hc,hM,rfl,rfl,rfl⟩
   subst hc
   have hU:=VY l
   have hUM:Uni 1 M:=by rw[hM];exact hUL.append (Yv _)
   have hMl:M.length=L.length+((c0::t0)++(([]:List UInt8)++ZR (l.take i))).length:=by rw[hM];simp only[List.length_append,List.length_map]
   rcases Nat.lt_or_ge i l.length with hlt|hge
   ·have hdl:decide ((i:Int)<((ZN l).length:Int))=true:=decide_eq_true (by omega)
    obtain⟨⟨k1,n1,b2,l1⟩,hy⟩:∃ y,l[i]?=some y:=⟨_,List.getElem?_eq_getElem hlt⟩
    have hv:(ZN l)[((i:Nat):Int).toNat]?=some (.agg [.int .i64 k1,.int .u64 (n1:Int),.sl (b2.map E.byte),.sl (ZN l1)]):=by
     rw[Int.toNat_natCast,Yn,List.getElem?_map,hy];rfl
    have hmem:=List.mem_of_getElem? hy
    have hps:=YS hy
    have hpl:=Wg l (i+1)
    have hps2:=congrArg List.length hps
    rw[List.length_append]at hps2
    have hc:=ih _ hmem (Wr hws _ hmem) (WY hos _ hmem) M _ rfl hUM (by simp only[List.length_append]at hMl hlim;omega)
    have ei:IntKind.i64.wrap ((i:Int)+1)=((i+1:Nat):Int):=by rw[IntWalk.i64_in _ (by omega)];omega
    repeat'(first|rw[ei]|(apply YN [] [0] (hc);kernel_rfl;(iterate 10 exact Z))|(apply Zh Za;exact Z)|(apply Zd Za;exact Z)|refine Zc Z Qt ?_|(apply ZC Za;(iterate 6 exact Z);(first|exact Qt|rotate_left);(first|with_reducible assumption|decide +kernel|exact Z);(first|exact Zi rfl|with_reducible assumption|decide +kernel|rotate_left)))
    refine Lands.mk' (m:=f-1) (by omega) ⟨i+1,M.length+(Yo (.mk k1 n1 b2 l1)).length,M++(Yo (.mk k1 n1 b2 l1)).map E.byte,by omega,by simp only[List.length_append,List.length_map],by rw[hM,hps];simp,rfl,rfl,rfl⟩ ?_ rfl rfl rfl rfl rfl rfl
    exact .cons rfl (.cons rfl (.cons rfl (.cons rfl (.cons rfl .nil))))
   ·have hdl:decide ((i:Int)<((ZN l).length:Int))=false:=decide_eq_false (by omega)
    rw[List.take_of_length_le hge]at hM hMl
    repeat'(first|(apply Zd Za;exact Z)|refine Ze Z Qt ?_)
    all_goals(apply JH [] [0];(apply Zf Za;exact Z);(iterate 7 exact Z))
    ·rw[hM];rfl
    ·rfl
    ·rw[hMl];rfl
 ·rcases hq with⟨q2,hh⟩ | ⟨q2,q3,hh⟩ | ⟨q2,q3,q4,hh⟩ | ⟨q2,q3,q4,hh⟩
  all_goals
   rw[hh]at hW
   clear hh
   refine Zs Tryd.func15 rfl Tryd.ntmps15 rfl rfl ?_
   repeat'(first|rw[eb]|rw[el]|(apply Zb (hW);kernel_rfl;(iterate 4 exact Z))|(apply Zh Za;exact Z)|(apply Zd Za;exact Z)|(apply Zv Za;exact Z)|refine Zc Z Qt ?_|refine Ze Z Qt ?_|refine Zp Za Z Z Z Z ?_|(apply Zr 5 ZJ;decide +kernel;kernel_rfl;kernel_rfl;kernel_rfl;exact Z;exact Z)|(apply Zu;(iterate 4 exact Z))|exact AE.nil _ _ _ _|(apply ZD;exact Z)|(apply Yq;exact Z)|(apply ZP;exact Z;exact Z;decide +kernel;exact Z)|(apply ZQ;exact Z)|(apply YH;exact Z)|exact AO.nil _ _ _|(apply Zt;(decide +kernel))|(apply Yp;(iterate 3 exact Z))|exact AOs.nil|exact Z1 rfl rfl|exact Y8 rfl rfl|(apply Yi Za;(iterate 6 exact Z);(first|with_reducible assumption|decide +kernel|exact Z|rotate_left);exact Z;exact Z;(first|exact Zi rfl|with_reducible assumption|decide +kernel|rotate_left);(first|exact Zi rfl|with_reducible assumption|decide +kernel|rotate_left);(first|exact Qt|rotate_left);(first|exact Qt|rotate_left);(first|exact Qt|rotate_left);exact Z;exact Z))
   all_goals first|(first|rfl|(simp only[List.length_append,List.length_cons,List.length_nil,List.length_map,ZB];done)|(simp only[List.length_append,List.length_cons,List.length_nil,List.length_map,ZB]at *;(try unfold maxLen);(try simp only[Nat.add_mul]);omega))|skip
   refine Z6 (fun f tm bx fr=>∃(i c:Nat) (M:List E),f+i=l.length/\c=M.length/\M=L++((c0::t0)++((c1::b1)++ZR (l.take i))).map E.byte/\tm=[(0,.sl (.own 0) M),(3,.ptr 0 0),(42,.sl .ext (ZN l)),(43,.int .i64 ((ZN l).length:Int)),(44,.int .i64 (i:Int))]/\bx=[itC k n (c1::b1) l]/\fr=[⟨c,1,5⟩]) (l.length+1) (Lands.mk' (m:=l.length) (Nat.lt_succ_self _) ⟨0,(L++(c0::t0).map E.byte).length+((c1::b1).map E.byte).length,(L++(c0::t0).map E.byte)++(c1::b1).map E.byte,rfl,by simp only[List.length_append],by simp[ZR],rfl,rfl,rfl⟩ ?_ rfl rfl rfl rfl rfl rfl) ?_
   ·exact .cons rfl (.cons rfl (.cons rfl (.cons rfl (.cons rfl .nil))))
   rintro f tm bx fr ⟨i,c,M,hf,hc,hM,rfl,rfl,rfl⟩
   subst hc
   have hU:=VY l
   have hUM:Uni 1 M:=by rw[hM];exact hUL.append (Yv _)
   have hMl:M.length=L.length+((c0::t0)++((c1::b1)++ZR (l.take i))).length:=by rw[hM];simp only[List.length_append,List.length_map]
   rcases Nat.lt_or_ge i l.length with hlt|hge
   ·have hdl:decide ((i:Int)<((ZN l).length:Int))=true:=decide_eq_true (by omega)
    obtain⟨⟨k1,n1,b2,l1⟩,hy⟩:∃ y,l[i]?=some y:=⟨_,List.getElem?_eq_getElem hlt⟩
    have hv:(ZN l)[((i:Nat):Int).toNat]?=some (.agg [.int .i64 k1,.int .u64 (n1:Int),.sl (b2.map E.byte),.sl (ZN l1)]):=by
     rw[Int.toNat_natCast,Yn,List.getElem?_map,hy];rfl
    have hmem:=List.mem_of_getElem? hy
    have hps:=YS hy
    have hpl:=Wg l (i+1)
    have hps2:=congrArg List.length hps
    rw[List.length_append]at hps2
    have hc:=ih _ hmem (Wr hws _ hmem) (WY hos _ hmem) M _ rfl hUM (by simp only[List.length_append]at hMl hlim;omega)
    have ei:IntKind.i64.wrap ((i:Int)+1)=((i+1:Nat):Int):=by rw[IntWalk.i64_in _ (by omega)];omega
    repeat'(first|rw[ei]|(apply YN [] [0] (hc);kernel_rfl;(iterate 10 exact Z))|(apply Zh Za;exact Z)|(apply Zd Za;exact Z)|refine Zc Z Qt ?_|(apply ZC Za;(iterate 6 exact Z);(first|exact Qt|rotate_left);(first|with_reducible assumption|decide +kernel|exact Z);(first|exact Zi rfl|with_reducible assumption|decide +kernel|rotate_left)))
    refine Lands.mk' (m:=f-1) (by omega) ⟨i+1,M.length+(Yo (.mk k1 n1 b2 l1)).length,M++(Yo (.mk k1 n1 b2 l1)).map E.byte,by omega,by simp only[List.length_append,List.length_map],by rw[hM,hps];simp,rfl,rfl,rfl⟩ ?_ rfl rfl rfl rfl rfl rfl
    exact .cons rfl (.cons rfl (.cons rfl (.cons rfl (.cons rfl .nil))))
   ·have hdl:decide ((i:Int)<((ZN l).length:Int))=false:=decide_eq_false (by omega)
    rw[List.take_of_length_le hge]at hM hMl
    repeat'(first|(apply Zd Za;exact Z)|refine Ze Z Qt ?_)
    all_goals(apply JH [] [0];(apply Zf Za;exact Z);(iterate 7 exact Z))
    ·rw[hM];rfl
    ·rfl
    ·rw[hMl];rfl
theorem Xt [Known](x:It)(hw:wfI x)(ho:okx x)(hlim:(Yo x).length<=140737488353280):AT Tryd.prog 15 [.sl .nil [],itD x] [] [] (.sl (.own 0) ((Yo x).map E.byte)) [] [⟨(Yo x).length,1,5⟩]:=by
 obtain⟨k,n,b,l⟩:=x
 obtain⟨hn,hb,hl,hws⟩:=hw
 obtain⟨hk7,hos⟩:=ho
 have hlen:=ZB l
 have hr:ZI (k,(It.mk k n b l).hn,false)=true:=by simp[ZI];exact hk7
 have hhn:(It.mk k n b l).hn<18446744073709551616:=by simp only[It.hn];(repeat' split)<;>omega
 have hput:Yo (.mk k n b l)=ZE (k,(It.mk k n b l).hn,false)++(b++ZR l):=by rw[Yo,if_pos hr]
 rw[hput]at hlim ⊢
 have hW:=Jl (k,(It.mk k n b l).hn,false) hhn
 rw[if_pos hr,if_pos hr]at hW
 obtain⟨c0,t0,hcw⟩:=Ua (k,(It.mk k n b l).hn,false)
 rw[hcw]at hW hlim ⊢
 have hU0:=Yv (c0::t0)
 have hU1:=Yv b
 have eb:IntKind.u64.wrap (((b.map E.byte).length:Nat):Int)=((b.length:Nat):Int):=by rw[List.length_map,IntKind.wrap_u64];omega
 have el:IntKind.u64.wrap (((ZN l).length:Nat):Int)=((l.length:Nat):Int):=by rw[hlen,IntKind.wrap_u64];omega
 have hS:∀(i:Nat),IntKind.i64.wrap ((i:Int)+1)=((i+1:Nat):Int)\/2199023255488<i:=fun i=>by
  rcases Nat.lt_or_ge 2199023255488 i with h|h
  ·exact .inr h
  ·left;rw[IntWalk.i64_in _ (by omega)];omega
 have hkc:(k=2/\(It.mk k n b l).hn=b.length)\/(k=3/\(It.mk k n b l).hn=b.length)\/(k=4/\(It.mk k n b l).hn=l.length)\/(k ≠ 2/\k ≠ 3/\k ≠ 4/\(It.mk k n b l).hn=n):=by
  by_cases h2:k=2
  ·subst h2;exact .inl ⟨rfl,rfl⟩
  by_cases h3:k=3
  ·subst h3;exact .inr (.inl ⟨rfl,rfl⟩)
  by_cases h4:k=4
  ·subst h4;exact .inr (.inr (.inl ⟨rfl,rfl⟩))
  ·exact .inr (.inr (.inr ⟨h2,h3,h4,by simp[It.hn,h2,h3,h4]⟩))
 clear hhn hr hcw hput
 generalize (It.mk k n b l).hn=hn0 at hkc hW
 have hbc:b=[]\/∃ c1 b1,b=c1::b1:=by cases b<;>simp
 have hne2:k ≠ 2->(k==2)=false:=fun h=>by simpa using h
 have hne3:k ≠ 3->(k==3)=false:=fun h=>by simpa using h
 have hne4:k ≠ 4->(k==4)=false:=fun h=>by simpa using h
 have hq:((k==2)=true/\hn0=b.length)\/((k==2)=false/\(k==3)=true/\hn0=b.length)\/((k==2)=false/\(k==3)=false/\(k==4)=true/\hn0=l.length)\/((k==2)=false/\(k==3)=false/\(k==4)=false/\hn0=n):=by
  rcases hkc with⟨e,h⟩ | ⟨e,h⟩ | ⟨e,h⟩ | ⟨k2,k3,k4,h⟩
  ·exact .inl ⟨by rw[e];rfl,h⟩
  ·exact .inr (.inl ⟨by rw[e];rfl,by rw[e];rfl,h⟩)
  ·exact .inr (.inr (.inl ⟨by rw[e];rfl,by rw[e];rfl,by rw[e];rfl,h⟩))
  ·exact .inr (.inr (.inr ⟨hne2 k2,hne3 k3,hne4 k4,h⟩))
 clear hkc
 rcases hbc with rfl|⟨c1,b1,rfl⟩
 ·rcases hq with⟨q2,hh⟩ | ⟨q2,q3,hh⟩ | ⟨q2,q3,q4,hh⟩ | ⟨q2,q3,q4,hh⟩
  all_goals
   rw[hh]at hW
   clear hh
   refine Zs Tryd.func15 rfl Tryd.ntmps15 rfl rfl ?_
   repeat'(first|rw[eb]|rw[el]|(apply Zb (hW);kernel_rfl;(iterate 4 exact Z))|(apply Zh Za;exact Z)|(apply Zd Za;exact Z)|(apply Zv Za;exact Z)|refine Zc Z Qt ?_|refine Ze Z Qt ?_|refine Zp Za Z Z Z Z ?_|(apply Zr 5 ZJ;decide +kernel;kernel_rfl;kernel_rfl;kernel_rfl;exact Z;exact Z)|(apply Zu;(iterate 4 exact Z))|exact AE.nil _ _ _ _|(apply ZD;exact Z)|(apply Yq;exact Z)|(apply ZP;exact Z;exact Z;decide +kernel;exact Z)|(apply ZQ;exact Z)|(apply YH;exact Z)|exact AO.nil _ _ _|(apply Zt;(decide +kernel))|(apply Yp;(iterate 3 exact Z))|exact AOs.nil|exact Z1 rfl rfl|exact Y8 rfl rfl|refine Yj Za Z Z Z Z Z Z ?_|(apply Y1 Za;(iterate 6 exact Z);(first|exact Zi rfl|with_reducible assumption|decide +kernel|rotate_left);(first|exact Qt|rotate_left);(first|exact Qt|rotate_left);(first|exact Qt|rotate_left);(iterate 3 exact Z)))
   all_goals first|(first|rfl|(simp only[List.length_append,List.length_cons,List.length_nil,List.length_map,ZB];done)|(simp only[List.length_append,List.length_cons,List.length_nil,List.length_map,ZB]at *;(try unfold maxLen);(try simp only[Nat.add_mul]);omega))|skip
   refine Z6 (fun f tm bx fr=>∃(i c:Nat) (M:List E),f+i=l.length/\c=M.length/\M=((c0::t0)++(([]:List UInt8)++ZR (l.take i))).map E.byte/\tm=[(0,.sl (.own 0) M),(3,.ptr 0 0),(42,.sl .ext (ZN l)),(43,.int .i64 ((ZN l).length:Int)),(44,.int .i64 (i:Int))]/\bx=[itC k n ([]:List UInt8) l]/\fr=[⟨c,1,5⟩]) (l.length+1) (Lands.mk' (m:=l.length) (Nat.lt_succ_self _) ⟨0,((c0::t0).map E.byte).length,(c0::t0).map E.byte,rfl,by simp only[List.length_append],by simp[ZR],rfl,rfl,rfl⟩ ?_ rfl rfl rfl rfl rfl rfl) ?_
   ·exact .cons rfl (.cons rfl (.cons rfl (.cons rfl (.cons rfl .nil))))
   rintro f tm bx fr ⟨i,c,M,hf,hc,hM,rfl,rfl,rfl⟩
   subst hc
   have hU:=VY l
   have hUM:Uni 1 M:=by rw[hM];exact Yv _
   have hMl:M.length=((c0::t0)++(([]:List UInt8)++ZR (l.take i))).length:=by rw[hM];simp only[List.length_append,List.length_map]
   rcases Nat.lt_or_ge i l.length with hlt|hge
   ·have hdl:decide ((i:Int)<((ZN l).length:Int))=true:=decide_eq_true (by omega)
    obtain⟨⟨k1,n1,b2,l1⟩,hy⟩:∃ y,l[i]?=some y:=⟨_,List.getElem?_eq_getElem hlt⟩
    have hv:(ZN l)[((i:Nat):Int).toNat]?=some (.agg [.int .i64 k1,.int .u64 (n1:Int),.sl (b2.map E.byte),.sl (ZN l1)]):=by
     rw[Int.toNat_natCast,Yn,List.getElem?_map,hy];rfl
    have hmem:=List.mem_of_getElem? hy
    have hps:=YS hy
    have hpl:=Wg l (i+1)
    have hps2:=congrArg List.length hps
    rw[List.length_append]at hps2
    have hc:=Xs _ (Wr hws _ hmem) (WY hos _ hmem) M _ rfl hUM (by simp only[List.length_append]at hMl hlim;omega)
    have ei:IntKind.i64.wrap ((i:Int)+1)=((i+1:Nat):Int):=by rw[IntWalk.i64_in _ (by omega)];omega
    repeat'(first|rw[ei]|(apply YN [] [0] (hc);kernel_rfl;(iterate 10 exact Z))|(apply Zh Za;exact Z)|(apply Zd Za;exact Z)|refine Zc Z Qt ?_|(apply ZC Za;(iterate 6 exact Z);(first|exact Qt|rotate_left);(first|with_reducible assumption|decide +kernel|exact Z);(first|exact Zi rfl|with_reducible assumption|decide +kernel|rotate_left)))
    refine Lands.mk' (m:=f-1) (by omega) ⟨i+1,M.length+(Yo (.mk k1 n1 b2 l1)).length,M++(Yo (.mk k1 n1 b2 l1)).map E.byte,by omega,by simp only[List.length_append,List.length_map],by rw[hM,hps];simp,rfl,rfl,rfl⟩ ?_ rfl rfl rfl rfl rfl rfl
    exact .cons rfl (.cons rfl (.cons rfl (.cons rfl (.cons rfl .nil))))
   ·have hdl:decide ((i:Int)<((ZN l).length:Int))=false:=decide_eq_false (by omega)
    rw[List.take_of_length_le hge]at hM hMl
    repeat'(first|(apply Zd Za;exact Z)|refine Ze Z Qt ?_)
    all_goals(apply JH [] [0];(apply Zf Za;exact Z);(iterate 7 exact Z))
    ·rw[hM];rfl
    ·rfl
    ·rw[hMl];rfl
 ·rcases hq with⟨q2,hh⟩ | ⟨q2,q3,hh⟩ | ⟨q2,q3,q4,hh⟩ | ⟨q2,q3,q4,hh⟩
  all_goals
   rw[hh]at hW
   clear hh
   refine Zs Tryd.func15 rfl Tryd.ntmps15 rfl rfl ?_
   repeat'(first|rw[eb]|rw[el]|(apply Zb (hW);kernel_rfl;(iterate 4 exact Z))|(apply Zh Za;exact Z)|(apply Zd Za;exact Z)|(apply Zv Za;exact Z)|refine Zc Z Qt ?_|refine Ze Z Qt ?_|refine Zp Za Z Z Z Z ?_|(apply Zr 5 ZJ;decide +kernel;kernel_rfl;kernel_rfl;kernel_rfl;exact Z;exact Z)|(apply Zu;(iterate 4 exact Z))|exact AE.nil _ _ _ _|(apply ZD;exact Z)|(apply Yq;exact Z)|(apply ZP;exact Z;exact Z;decide +kernel;exact Z)|(apply ZQ;exact Z)|(apply YH;exact Z)|exact AO.nil _ _ _|(apply Zt;(decide +kernel))|(apply Yp;(iterate 3 exact Z))|exact AOs.nil|exact Z1 rfl rfl|exact Y8 rfl rfl|(apply Yi Za;(iterate 6 exact Z);(first|with_reducible assumption|decide +kernel|exact Z|rotate_left);exact Z;exact Z;(first|exact Zi rfl|with_reducible assumption|decide +kernel|rotate_left);(first|exact Zi rfl|with_reducible assumption|decide +kernel|rotate_left);(first|exact Qt|rotate_left);(first|exact Qt|rotate_left);(first|exact Qt|rotate_left);exact Z;exact Z)|(apply Y1 Za;(iterate 6 exact Z);(first|exact Zi rfl|with_reducible assumption|decide +kernel|rotate_left);(first|exact Qt|rotate_left);(first|exact Qt|rotate_left);(first|exact Qt|rotate_left);(iterate 3 exact Z)))
   all_goals first|(first|rfl|(simp only[List.length_append,List.length_cons,List.length_nil,List.length_map,ZB];done)|(simp only[List.length_append,List.length_cons,List.length_nil,List.length_map,ZB]at *;(try unfold maxLen);(try simp only[Nat.add_mul]);omega))|skip
   refine Z6 (fun f tm bx fr=>∃(i c:Nat) (M:List E),f+i=l.length/\c=M.length/\M=((c0::t0)++((c1::b1)++ZR (l.take i))).map E.byte/\tm=[(0,.sl (.own 0) M),(3,.ptr 0 0),(42,.sl .ext (ZN l)),(43,.int .i64 ((ZN l).length:Int)),(44,.int .i64 (i:Int))]/\bx=[itC k n (c1::b1) l]/\fr=[⟨c,1,5⟩]) (l.length+1) (Lands.mk' (m:=l.length) (Nat.lt_succ_self _) ⟨0,((c0::t0).map E.byte).length+((c1::b1).map E.byte).length,((c0::t0).map E.byte)++(c1::b1).map E.byte,rfl,by simp only[List.length_append],by simp[ZR],rfl,rfl,rfl⟩ ?_ rfl rfl rfl rfl rfl rfl) ?_
   ·exact .cons rfl (.cons rfl (.cons rfl (.cons rfl (.cons rfl .nil))))
   rintro f tm bx fr ⟨i,c,M,hf,hc,hM,rfl,rfl,rfl⟩
   subst hc
   have hU:=VY l
   have hUM:Uni 1 M:=by rw[hM];exact Yv _
   have hMl:M.length=((c0::t0)++((c1::b1)++ZR (l.take i))).length:=by rw[hM];simp only[List.length_append,List.length_map]
   rcases Nat.lt_or_ge i l.length with hlt|hge
   ·have hdl:decide ((i:Int)<((ZN l).length:Int))=true:=decide_eq_true (by omega)
    obtain⟨⟨k1,n1,b2,l1⟩,hy⟩:∃ y,l[i]?=some y:=⟨_,List.getElem?_eq_getElem hlt⟩
    have hv:(ZN l)[((i:Nat):Int).toNat]?=some (.agg [.int .i64 k1,.int .u64 (n1:Int),.sl (b2.map E.byte),.sl (ZN l1)]):=by
     rw[Int.toNat_natCast,Yn,List.getElem?_map,hy];rfl
    have hmem:=List.mem_of_getElem? hy
    have hps:=YS hy
    have hpl:=Wg l (i+1)
    have hps2:=congrArg List.length hps
    rw[List.length_append]at hps2
    have hc:=Xs _ (Wr hws _ hmem) (WY hos _ hmem) M _ rfl hUM (by simp only[List.length_append]at hMl hlim;omega)
    have ei:IntKind.i64.wrap ((i:Int)+1)=((i+1:Nat):Int):=by rw[IntWalk.i64_in _ (by omega)];omega
    repeat'(first|rw[ei]|(apply YN [] [0] (hc);kernel_rfl;(iterate 10 exact Z))|(apply Zh Za;exact Z)|(apply Zd Za;exact Z)|refine Zc Z Qt ?_|(apply ZC Za;(iterate 6 exact Z);(first|exact Qt|rotate_left);(first|with_reducible assumption|decide +kernel|exact Z);(first|exact Zi rfl|with_reducible assumption|decide +kernel|rotate_left)))
    refine Lands.mk' (m:=f-1) (by omega) ⟨i+1,M.length+(Yo (.mk k1 n1 b2 l1)).length,M++(Yo (.mk k1 n1 b2 l1)).map E.byte,by omega,by simp only[List.length_append,List.length_map],by rw[hM,hps];simp,rfl,rfl,rfl⟩ ?_ rfl rfl rfl rfl rfl rfl
    exact .cons rfl (.cons rfl (.cons rfl (.cons rfl (.cons rfl .nil))))
   ·have hdl:decide ((i:Int)<((ZN l).length:Int))=false:=decide_eq_false (by omega)
    rw[List.take_of_length_le hge]at hM hMl
    repeat'(first|(apply Zd Za;exact Z)|refine Ze Z Qt ?_)
    all_goals(apply JH [] [0];(apply Zf Za;exact Z);(iterate 7 exact Z))
    ·rw[hM];rfl
    ·rfl
    ·rw[hMl];rfl
end Go.Proofs.YthdgejfglbjogaaDoor
end
section
open Go.RowKit Go.Pl Go.Av
namespace Go.Proofs.YthdgejfglbjogaaDoor
set_option maxHeartbeats 4000000
theorem Im {s:List UInt8}{e:Nat}(h:rdS s=.error e):e ≠ 0:=by
 cases s with
 | nil=>simp only[rdS,Except.error.injEq]at h;omega
 | cons c r=>
  simp only[rdS]at h
  repeat' split at h
  all_goals(cases h;try omega)
theorem Qh {p:Hd}{s:List UInt8}{e:Nat}(h:YA p s=.error e):e ≠ 0:=by
 simp only[YA]at h
 repeat' split at h
 all_goals(cases h;try omega)
theorem Xu (m:Int):∀(f:Nat) (acc s:List UInt8) (e:Nat),Uw m f acc s=.error e->e ≠ 0
 | 0,_,_,e,h=>by simp only[Uw,Except.error.injEq]at h;omega
 | f+1,acc,s,e,h=>by
  rw[Uw]at h
  cases hb:W8 s<;>rw[hb]at h
  ·cases hr:rdS s with
   | error c=>rw[hr]at h;dsimp only at h;simp only[Except.error.injEq]at h;exact h ▸ Im hr
   | ok y=>
    obtain⟨p,r⟩:=y
    rw[hr]at h;dsimp only at h
    split at h
    ·cases hp:YA p r with
     | error c=>rw[hp]at h;dsimp only at h;simp only[Except.error.injEq]at h;exact h ▸ Qh hp
     | ok z=>rw[hp]at h;exact Xu m f _ _ e h
    ·simp only[Except.error.injEq]at h;omega
  ·exact nomatch h
theorem Jq {it:Nat->List UInt8->Res (It × List UInt8 × Nat)}(hi:∀ m s e,it m s=.error e->e ≠ 0):∀(f:Nat) (acc:List It) (m:Nat) (s:List UInt8) (e:Nat),W9 it f acc m s=.error e->e ≠ 0
 | 0,_,_,_,_,h=>nomatch h
 | f+1,acc,m,s,e,h=>by
  rw[W9]at h
  cases hr:it m s with
  | error c=>rw[hr]at h;dsimp only at h;simp only[Except.error.injEq]at h;exact h ▸ hi _ _ _ hr
  | ok y=>obtain⟨x,r,m'⟩:=y;rw[hr]at h;exact Jq hi f _ _ _ e h
theorem Jr {it:Nat->List UInt8->Res (It × List UInt8 × Nat)}(hi:∀ m s e,it m s=.error e->e ≠ 0):∀(f:Nat) (acc:List It) (m:Nat) (s:List UInt8) (e:Nat),Ux it f acc m s=.error e->e ≠ 0
 | 0,_,_,_,e,h=>by simp only[Ux,Except.error.injEq]at h;omega
 | f+1,acc,m,s,e,h=>by
  rw[Ux]at h
  cases hb:W8 s<;>rw[hb]at h
  ·cases hr:it m s with
   | error c=>rw[hr]at h;dsimp only at h;simp only[Except.error.injEq]at h;exact h ▸ hi _ _ _ hr
   | ok y=>obtain⟨x,r,m'⟩:=y;rw[hr]at h;exact Jr hi f _ _ _ e h
  ·exact nomatch h
theorem KW {it:Nat->List UInt8->Res (It × List UInt8 × Nat)}(hi:∀ m s e,it m s=.error e->e ≠ 0){p:Hd}{m:Nat}{r:List UInt8}{e:Nat}(h:YJ it p m r=.error e):e ≠ 0:=by
 have h1:∀ e,VC p r=.error e->e ≠ 0:=by
  intro e h;simp only[VC]at h
  split at h
  ·exact Xu _ _ _ _ _ h
  ·exact Qh h
 have h2:∀ e,Uy it p m r=.error e->e ≠ 0:=by
  intro e h;simp only[Uy]at h
  split at h
  ·exact Jr hi _ _ _ _ _ h
  ·split at h
   ·exact Jq hi _ _ _ _ _ h
   ·cases h;omega
 simp only[YJ]at h
 repeat' split at h
 all_goals first
  | (cases h;done)
  | (rename_i hq;cases h;exact h1 _ hq)
  | (rename_i hq;cases h;exact h2 _ hq)
theorem Js:∀(d m:Nat) (s:List UInt8) (e:Nat),ZS d m s=.error e->e ≠ 0
 | 0,m,s,e,h=>by
  rw[ZS]at h
  cases hr:rdS s with
  | error c=>rw[hr]at h;dsimp only at h;simp only[Except.error.injEq]at h;exact h ▸ Im hr
  | ok y=>
   obtain⟨p,r⟩:=y
   rw[hr]at h;dsimp only at h
   split at h<;>(simp only[Except.error.injEq]at h;omega)
 | d+1,m,s,e,h=>by
  rw[ZS]at h
  cases hr:rdS s with
  | error c=>rw[hr]at h;dsimp only at h;simp only[Except.error.injEq]at h;exact h ▸ Im hr
  | ok y=>
   obtain⟨p,r⟩:=y
   rw[hr]at h;dsimp only at h
   split at h
   ·simp only[Except.error.injEq]at h;omega
   ·split at h
    ·simp only[Except.error.injEq]at h;omega
    ·exact KW (Js d) h
theorem VJ [Known][KnownU8](b:List UInt8)(hb:b.length<=140737488351232):AP Tryd.prog 11 [byE b] (.bool (Qx b)) []:=by
 have hR:=VI b 0 (by omega)
 have e:Vg b 0=match ZS 6 256 b with
   | .error e=>(.mk 0 0 [] [],0,e)
   | .ok (x,r,_)=>(x,b.length-r.length,0):=by rw[Vg,if_neg (by omega)];rfl
 rw[e]at hR
 unfold Qx
 cases hx:ZS 6 256 b with
 | error c=>
  rw[hx]at hR
  dsimp only
  have hc:((c:Int)==0)=false:=by
   have h0:=Js _ _ _ _ hx
   rw[<- Bool.not_eq_true,beq_iff_eq];omega
  replace hR:AP Tryd.prog _ _ (.tup [itD (.mk 0 0 [] []),.int .i64 0,.int .i64 (c:Int)]) []:=hR
  refine AP.ofA (Zs Tryd.func11 Z Tryd.ntmps11 Z Z ?_)
  repeat'(first|rw[hc]|(apply Zb (hR);kernel_rfl;(iterate 4 exact Z))|(apply Zh Za;exact Z)|(apply Zd Za;exact Z)|refine ZO Z Z Z Qt ?_|refine Zl Z Qt Z Z ?_)
  all_goals exact Qe
 | ok y=>
  obtain⟨⟨k1,n1,b1,l1⟩,r,m1⟩:=y
  rw[hx]at hR
  replace hR:AP Tryd.prog _ _ (.tup [itD (.mk k1 n1 b1 l1),.int .i64 ((b.length-r.length:Nat):Int),.int .i64 0]) []:=hR
  obtain⟨hwk,hwf,pre,hpre,_,hlen⟩:=Qz 6 (Nat.le_refl _) _ _ _ _ _ hx (by omega)
  have hle:=hlen.2
  have hpl:=congrArg List.length hpre
  rw[List.length_append]at hpl
  have hP:=Xt (.mk k1 n1 b1 l1) hwf (UG hwk) (by omega)
  have hB:=Ia (Yo (.mk k1 n1 b1 l1)) b
  have hn:(((b.length-r.length:Nat):Int)==((b.map E.byte).length:Int))=r.isEmpty:=by
   rw[List.length_map]
   cases r with
   | nil=>simp
   | cons c r=>simp at hpl ⊢;omega
  dsimp only
  cases hr:r.isEmpty
  all_goals
   rw[hr]at hn
   refine AP.ofA (Zs Tryd.func11 Z Tryd.ntmps11 Z Z ?_)
   repeat'(first|rw[hn]|(apply Zb (hR);kernel_rfl;(iterate 4 exact Z))|(apply YN [] [] (hP);kernel_rfl;(iterate 10 exact Z))|(apply Zb (hB);kernel_rfl;(iterate 4 exact Z))|(apply Zh Za;exact Z)|(apply Zd Za;exact Z)|refine Zg Z Z Z Qt ?_|refine ZO Z Z Z Qt ?_|refine Zk Z Qt Z Z ?_|refine Zl Z Qt Z Z ?_|refine Zp Za Z Z Z Z ?_)
   all_goals exact Qe
theorem X3 [Known][KnownU8](x:It)(hw:wfI x)(hr:Vl x=true)(hlim:(Yo x).length<=140737488353280):AT Tryd.prog 9 [itD x] [] [] (.tup [.sl (.own 0) ((Yo x).map E.byte),.int .i64 0]) [] [⟨(Yo x).length,1,5⟩]:=by
 have hR:=XY x hw
 rw[hr]at hR
 have hp:=Xt x hw (X2 hr) hlim
 obtain⟨k,n,b,l⟩:=x
 refine Zs Tryd.func9 rfl Tryd.ntmps9 rfl rfl ?_
 repeat'(first|(apply Zb (hR);kernel_rfl;(iterate 4 exact Z))|(apply YN [] [] (hp);kernel_rfl;(iterate 10 exact Z))|(apply Zh Za;exact Z)|(apply Zd Za;exact Z)|(apply Zv Za;exact Z)|refine Ze Z Qt ?_)
 all_goals(apply JH [] [0];(apply Zf Za;exact Z);(iterate 7 exact Z))
 all_goals rfl
def x0:It:=.mk 4 0 [] [.mk 0 1 [] [],.mk 3 0 [97,98] []]
theorem IJ:wfI x0:=by simp[x0,wfI,wfs]
theorem KX:Vl x0=true:=by decide +kernel
theorem KY:Yo x0=[130,1,98,97,98]:=by decide +kernel
theorem X4 [Known][KnownU8]:AP Tryd.prog 4 [] (.bool true) []:=by
 have hL:=QB [.mk 0 1 [] [],.mk 3 0 [97,98] []] (by decide) (by simp[wfI,wfs])
 have hW:=X3 x0 IJ KX (by rw[KY];decide)
 rw[KY]at hW
 have hN:=JQ 1
 have hT:=QA [97,98]
 have hR1:=VI [159,24,1,127,97,97,97,98,255,255,9] 0 (by decide)
 have hR2:=VI [130,1] 0 (by decide)
 have hR3:=VI [129,32] 0 (by decide)
 rw[show Vg [159,24,1,127,97,97,97,98,255,255,9] 0=(x0,10,0) by decide +kernel]at hR1
 rw[show Vg [130,1] 0=(.mk 0 0 [] [],0,8) by decide +kernel]at hR2
 rw[show Vg [129,32] 0=(.mk 0 0 [] [],0,3) by decide +kernel]at hR3
 have hS1:=VJ [130,1,98,97,98] (by decide)
 have hS2:=VJ [130,1,98,97,98,0] (by decide)
 rw[show Qx [130,1,98,97,98]=true by decide +kernel]at hS1
 rw[show Qx [130,1,98,97,98,0]=false by decide +kernel]at hS2
 replace hR1:AP Tryd.prog _ _ (.tup [itD x0,.int .i64 10,.int .i64 0]) []:=hR1
 replace hR2:AP Tryd.prog _ _ (.tup [itD (.mk 0 0 [] []),.int .i64 0,.int .i64 8]) []:=hR2
 replace hR3:AP Tryd.prog _ _ (.tup [itD (.mk 0 0 [] []),.int .i64 0,.int .i64 3]) []:=hR3
 refine AP.ofA (Zs Tryd.func4 Z Tryd.ntmps4 Z Z ?_)
 repeat'(first|(apply Zb (hN);kernel_rfl;(iterate 4 exact Z))|(apply Zb (hT);kernel_rfl;(iterate 4 exact Z))|(apply Zb (hL);kernel_rfl;(iterate 4 exact Z))|(apply YN [] [] (hW);kernel_rfl;(iterate 10 exact Z))|(apply Zb (hR1);kernel_rfl;(iterate 4 exact Z))|(apply Zb (hR2);kernel_rfl;(iterate 4 exact Z))|(apply Zb (hR3);kernel_rfl;(iterate 4 exact Z))|(apply Zb (hS1);kernel_rfl;(iterate 4 exact Z))|(apply Zb (hS2);kernel_rfl;(iterate 4 exact Z))|refine Us Za Z Z Z Z Z Z Z Z Z Z Z (Zi rfl) (Zi rfl) (List.cons_ne_nil _ _) Qd Qd Z Z ?_|(apply Zh Za;exact Z)|(apply Zd Za;exact Z)|refine Zg Z Z Z Qt ?_|refine Zk Z Qt Z Z ?_|refine Wa Za Z Z Z Z Z Z Z Z Z Z Z Z ?_|refine Uo Za Z Z Z Z Z Z Z Z Z ?_)
 all_goals exact Qe
end Go.Proofs.YthdgejfglbjogaaDoor
end

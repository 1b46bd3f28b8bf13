/- Items: their bytes. -/
import Derived.Test.YtmljabhmajehnaaDoorP12
import Derived.Test.YtmljabhmajehnaaDoorP16
import Derived.Test.YtmljabhmajehnaaDoorP18
import Derived.Test.YtmljabhmajehnaaDoorP15
set_option linter.unusedVariables false
set_option linter.unusedSimpArgs false
section
open Go.RowKit Go.Pl Go.Av
namespace Go.Proofs.YtmljabhmajehnaaDoor
set_option maxHeartbeats 4000000
mutual
def okx:It->Prop
 | .mk k _ _ l=>(0<=k/\k<=7)/\NJ l
def NJ:List It->Prop
 | []=>True
 | x::l=>okx x/\NJ l
end
theorem UB:∀ {l:List It},NJ l->∀ y ∈ l,okx y
 | x::l,⟨h1,h2⟩,y,hy=>by
  rcases List.mem_cons.1 hy with rfl|hy
  ·exact h1
  ·exact UB h2 y hy
mutual
theorem JZ:∀ {x:It} {d m m':Nat},YS x d m=some m'->okx x
 | .mk k n b l,d,m,m',h=>by
  obtain⟨_,_,h3,h4⟩:=VV h
  exact⟨Jy h3,XY h4⟩
theorem XY:∀ {l:List It} {d m m':Nat},Yc l d m=some m'->NJ l
 | [],d,m,m',h=>trivial
 | x::l,d,m,m',h=>by
  obtain⟨m1,h1,h2⟩:=Wo h
  exact⟨JZ h1,XY h2⟩
end
theorem XZ {x:It}(h:ZI x=true):okx x:=by
 unfold ZI at h
 cases hw:YS x 1 256 with
 | none=>rw[hw]at h;cases h
 | some m=>exact JZ hw
theorem Jn (h:Hd):∃ c t,ZQ h=c::t:=by
 unfold ZQ
 split
 ·exact⟨_,_,rfl⟩
 ·exact⟨_,_,rfl⟩
theorem WD {l:List It}{i:Nat}{y:It}(hy:l[i]?=some y):ZH (l.take (i+1))=ZH (l.take i)++ZM y:=by
 rw[List.take_add_one,hy,UA]
 simp[ZH]
theorem WE (l:List It)(i:Nat):(ZH (l.take i)).length<=(ZH l).length:=by
 have h:=congrArg List.length (UA (l.take i) (l.drop i))
 rw[List.take_append_drop,List.length_append]at h
 omega
theorem Gj [Known]:∀(x:It),wfI x->okx x->∀(L:List E) (c:Nat),c=L.length->Uni 1 L->L.length+(ZM x).length<=140737488353280->AT Tryd.prog 46 [.sl (.own 0) L,itD x] [] [⟨c,1,5⟩] (.sl (.own 0) (L++(ZM x).map E.byte)) [] [⟨c+(ZM x).length,1,5⟩]:=by
 refine It.ind fun k n b l ih hw ho L c hc hUL hlim=>?_
 subst hc
 obtain⟨hn,hb,hl,hws⟩:=hw
 obtain⟨hk7,hos⟩:=ho
 have hlen:=Zx l
 have hr:ZZ (k,(It.mk k n b l).hn,false)=true:=by simp[ZZ];exact hk7
 have hhn:(It.mk k n b l).hn<18446744073709551616:=by simp only[It.hn];(repeat' split)<;>omega
 have hput:ZM (.mk k n b l)=ZQ (k,(It.mk k n b l).hn,false)++(b++ZH l):=by rw[ZM,if_pos hr]
 rw[hput]at hlim ⊢
 have hW:=Ow (k,(It.mk k n b l).hn,false) hhn
 rw[if_pos hr,if_pos hr]at hW
 obtain⟨c0,t0,hcw⟩:=Jn (k,(It.mk k n b l).hn,false)
 rw[hcw]at hW hlim ⊢
 have hU0:=YW (c0::t0)
 have hU1:=YW b
 have hU01:Uni 1 (L++(c0::t0).map E.byte):=hUL.append hU0
 have eb:IntKind.u64.wrap (((b.map E.byte).length:Nat):Int)=((b.length:Nat):Int):=by rw[List.length_map,IntKind.wrap_u64];omega
 have el:IntKind.u64.wrap (((Zp l).length:Nat):Int)=((l.length:Nat):Int):=by rw[hlen,IntKind.wrap_u64];omega
 have hS:∀(i:Nat),IntKind.i64.wrap ((i:Int)+1)=((i+1:Nat):Int)\/2199023255488<i:=fun i=>by
  rcases Nat.lt_or_ge 2199023255488 i with h|h
  ·exact .inr h
  ·left;rw[IntWalk.i64_in _ (by omega)];omega
 have hkc:(k=2/\(It.mk k n b l).hn=b.length)\/(k=3/\(It.mk k n b l).hn=b.length)\/(k=4/\(It.mk k n b l).hn=l.length)\/(k ≠ 2/\k ≠ 3/\k ≠ 4/\(It.mk k n b l).hn=n):=by
  by_cases h2:k=2
  ·subst h2;exact .inl ⟨rfl,rfl⟩
  by_cases h3:k=3
  ·subst h3;exact .inr (.inl ⟨rfl,rfl⟩)
  by_cases h4:k=4
  ·subst h4;exact .inr (.inr (.inl ⟨rfl,rfl⟩))
  ·exact .inr (.inr (.inr ⟨h2,h3,h4,by simp[It.hn,h2,h3,h4]⟩))
 clear hhn hr hcw hput
 generalize (It.mk k n b l).hn=hn0 at hkc hW
 have hbc:b=[]\/∃ c1 b1,b=c1::b1:=by cases b<;>simp
 have hne2:k ≠ 2->(k==2)=false:=fun h=>by simpa using h
 have hne3:k ≠ 3->(k==3)=false:=fun h=>by simpa using h
 have hne4:k ≠ 4->(k==4)=false:=fun h=>by simpa using h
 have hq:((k==2)=true/\hn0=b.length)\/((k==2)=false/\(k==3)=true/\hn0=b.length)\/((k==2)=false/\(k==3)=false/\(k==4)=true/\hn0=l.length)\/((k==2)=false/\(k==3)=false/\(k==4)=false/\hn0=n):=by
  rcases hkc with⟨e,h⟩ | ⟨e,h⟩ | ⟨e,h⟩ | ⟨k2,k3,k4,h⟩
  ·exact .inl ⟨by rw[e];rfl,h⟩
  ·exact .inr (.inl ⟨by rw[e];rfl,by rw[e];rfl,h⟩)
  ·exact .inr (.inr (.inl ⟨by rw[e];rfl,by rw[e];rfl,by rw[e];rfl,h⟩))
  ·exact .inr (.inr (.inr ⟨hne2 k2,hne3 k3,hne4 k4,h⟩))
 clear hkc
 rcases hbc with rfl|⟨c1,b1,rfl⟩
 ·rcases hq with⟨q2,hh⟩ | ⟨q2,q3,hh⟩ | ⟨q2,q3,q4,hh⟩ | ⟨q2,q3,q4,hh⟩
  all_goals
   rw[hh]at hW
   clear hh
   refine Zl Tryd.func46 rfl Tryd.ntmps46 rfl rfl ?_
   repeat'(first|rw[eb]|rw[el]|(apply Zb (hW);kernel_rfl;(iterate 4 exact Z))|(apply Zh Za;exact Z)|(apply Zf Za;exact Z)|(apply Zt Za;exact Z)|refine Zd Z Qt ?_|refine Zg Z Qt ?_|refine Zm Za Z Z Z Z ?_|(apply Zn 5 ZF;decide +kernel;kernel_rfl;kernel_rfl;kernel_rfl;exact Z;exact Z)|(apply Zr;(iterate 4 exact Z))|exact AE.nil _ _ _ _|(apply Zv;exact Z)|(apply Yb;exact Z)|(apply ZA;exact Z;exact Z;decide +kernel;exact Z)|(apply ZB;exact Z)|(apply Yv;exact Z)|exact AO.nil _ _ _|(apply Zq;(decide +kernel))|(apply ZY;(iterate 3 exact Z))|exact AOs.nil|exact ZG rfl rfl|exact YK rfl rfl|refine Y7 Za Z Z Z Z Z Z ?_|(apply ZV Za;(iterate 6 exact Z);(first|with_reducible assumption|decide +kernel|exact Z|rotate_left);exact Z;exact Z;(first|exact Zj rfl|with_reducible assumption|decide +kernel|rotate_left);(first|exact Zj rfl|with_reducible assumption|decide +kernel|rotate_left);(first|exact Qt|rotate_left);(first|exact Qt|rotate_left);(first|exact Qt|rotate_left);exact Z;exact Z))
   all_goals first|(first|rfl|(simp only[List.length_append,List.length_cons,List.length_nil,List.length_map,Zx];done)|(simp only[List.length_append,List.length_cons,List.length_nil,List.length_map,Zx]at *;(try unfold maxLen);(try simp only[Nat.add_mul]);omega))|skip
   refine Z5 (fun f tm bx fr=>∃(i c:Nat) (M:List E),f+i=l.length/\c=M.length/\M=L++((c0::t0)++(([]:List UInt8)++ZH (l.take i))).map E.byte/\tm=[(0,.sl (.own 0) M),(3,.ptr 0 0),(42,.sl .ext (Zp l)),(43,.int .i64 ((Zp l).length:Int)),(44,.int .i64 (i:Int))]/\bx=[itC k n ([]:List UInt8) l]/\fr=[⟨c,1,5⟩]) (l.length+1) (Lands.mk' (m:=l.length) (Nat.lt_succ_self _) ⟨0,L.length+((c0::t0).map E.byte).length,L++(c0::t0).map E.byte,rfl,by simp only[List.length_append],by simp[ZH],rfl,rfl,rfl⟩ ?_ rfl rfl rfl rfl rfl rfl) ?_
   ·exact .cons rfl (.cons rfl (.cons rfl (.cons rfl (.cons rfl .nil))))
   rintro f tm bx fr ⟨i,c,M,hf,hc,hM,rfl,rfl,rfl⟩
   subst hc
   have hU:=YV l
   have hUM:Uni 1 M:=by rw[hM];exact hUL.append (YW _)
   have hMl:M.length=L.length+((c0::t0)++(([]:List UInt8)++ZH (l.take i))).length:=by rw[hM];simp only[List.length_append,List.length_map]
   rcases Nat.lt_or_ge i l.length with hlt|hge
   ·have hdl:decide ((i:Int)<((Zp l).length:Int))=true:=decide_eq_true (by omega)
    obtain⟨⟨k1,n1,b2,l1⟩,hy⟩:∃ y,l[i]?=some y:=⟨_,List.getElem?_eq_getElem hlt⟩
    have hv:(Zp l)[((i:Nat):Int).toNat]?=some (.agg [.int .i64 k1,.int .u64 (n1:Int),.sl (b2.map E.byte),.sl (Zp l1)]):=by
     rw[Int.toNat_natCast,Z9,List.getElem?_map,hy];rfl
    have hmem:=List.mem_of_getElem? hy
    have hps:=WD hy
    have hpl:=WE l (i+1)
    have hps2:=congrArg List.length hps
    rw[List.length_append]at hps2
    have hc:=ih _ hmem (Ys hws _ hmem) (UB hos _ hmem) M _ rfl hUM (by simp only[List.length_append]at hMl hlim;omega)
    have ei:IntKind.i64.wrap ((i:Int)+1)=((i+1:Nat):Int):=by rw[IntWalk.i64_in _ (by omega)];omega
    repeat'(first|rw[ei]|(apply Yy [] [0] (hc);kernel_rfl;(iterate 10 exact Z))|(apply Zh Za;exact Z)|(apply Zf Za;exact Z)|refine Zd Z Qt ?_|(apply Zu Za;(iterate 6 exact Z);(first|exact Qt|rotate_left);(first|with_reducible assumption|decide +kernel|exact Z);(first|exact Zj rfl|with_reducible assumption|decide +kernel|rotate_left)))
    refine Lands.mk' (m:=f-1) (by omega) ⟨i+1,M.length+(ZM (.mk k1 n1 b2 l1)).length,M++(ZM (.mk k1 n1 b2 l1)).map E.byte,by omega,by simp only[List.length_append,List.length_map],by rw[hM,hps];simp,rfl,rfl,rfl⟩ ?_ rfl rfl rfl rfl rfl rfl
    exact .cons rfl (.cons rfl (.cons rfl (.cons rfl (.cons rfl .nil))))
   ·have hdl:decide ((i:Int)<((Zp l).length:Int))=false:=decide_eq_false (by omega)
    rw[List.take_of_length_le hge]at hM hMl
    repeat'(first|(apply Zf Za;exact Z)|refine Zg Z Qt ?_)
    all_goals(apply KD [] [0];(apply Zc Za;exact Z);(iterate 7 exact Z))
    ·rw[hM];rfl
    ·rfl
    ·rw[hMl];rfl
 ·rcases hq with⟨q2,hh⟩ | ⟨q2,q3,hh⟩ | ⟨q2,q3,q4,hh⟩ | ⟨q2,q3,q4,hh⟩
  all_goals
   rw[hh]at hW
   clear hh
   refine Zl Tryd.func46 rfl Tryd.ntmps46 rfl rfl ?_
   repeat'(first|rw[eb]|rw[el]|(apply Zb (hW);kernel_rfl;(iterate 4 exact Z))|(apply Zh Za;exact Z)|(apply Zf Za;exact Z)|(apply Zt Za;exact Z)|refine Zd Z Qt ?_|refine Zg Z Qt ?_|refine Zm Za Z Z Z Z ?_|(apply Zn 5 ZF;decide +kernel;kernel_rfl;kernel_rfl;kernel_rfl;exact Z;exact Z)|(apply Zr;(iterate 4 exact Z))|exact AE.nil _ _ _ _|(apply Zv;exact Z)|(apply Yb;exact Z)|(apply ZA;exact Z;exact Z;decide +kernel;exact Z)|(apply ZB;exact Z)|(apply Yv;exact Z)|exact AO.nil _ _ _|(apply Zq;(decide +kernel))|(apply ZY;(iterate 3 exact Z))|exact AOs.nil|exact ZG rfl rfl|exact YK rfl rfl|(apply ZV Za;(iterate 6 exact Z);(first|with_reducible assumption|decide +kernel|exact Z|rotate_left);exact Z;exact Z;(first|exact Zj rfl|with_reducible assumption|decide +kernel|rotate_left);(first|exact Zj rfl|with_reducible assumption|decide +kernel|rotate_left);(first|exact Qt|rotate_left);(first|exact Qt|rotate_left);(first|exact Qt|rotate_left);exact Z;exact Z))
   all_goals first|(first|rfl|(simp only[List.length_append,List.length_cons,List.length_nil,List.length_map,Zx];done)|(simp only[List.length_append,List.length_cons,List.length_nil,List.length_map,Zx]at *;(try unfold maxLen);(try simp only[Nat.add_mul]);omega))|skip
   refine Z5 (fun f tm bx fr=>∃(i c:Nat) (M:List E),f+i=l.length/\c=M.length/\M=L++((c0::t0)++((c1::b1)++ZH (l.take i))).map E.byte/\tm=[(0,.sl (.own 0) M),(3,.ptr 0 0),(42,.sl .ext (Zp l)),(43,.int .i64 ((Zp l).length:Int)),(44,.int .i64 (i:Int))]/\bx=[itC k n (c1::b1) l]/\fr=[⟨c,1,5⟩]) (l.length+1) (Lands.mk' (m:=l.length) (Nat.lt_succ_self _) ⟨0,(L++(c0::t0).map E.byte).length+((c1::b1).map E.byte).length,(L++(c0::t0).map E.byte)++(c1::b1).map E.byte,rfl,by simp only[List.length_append],by simp[ZH],rfl,rfl,rfl⟩ ?_ rfl rfl rfl rfl rfl rfl) ?_
   ·exact .cons rfl (.cons rfl (.cons rfl (.cons rfl (.cons rfl .nil))))
   rintro f tm bx fr ⟨i,c,M,hf,hc,hM,rfl,rfl,rfl⟩
   subst hc
   have hU:=YV l
   have hUM:Uni 1 M:=by rw[hM];exact hUL.append (YW _)
   have hMl:M.length=L.length+((c0::t0)++((c1::b1)++ZH (l.take i))).length:=by rw[hM];simp only[List.length_append,List.length_map]
   rcases Nat.lt_or_ge i l.length with hlt|hge
   ·have hdl:decide ((i:Int)<((Zp l).length:Int))=true:=decide_eq_true (by omega)
    obtain⟨⟨k1,n1,b2,l1⟩,hy⟩:∃ y,l[i]?=some y:=⟨_,List.getElem?_eq_getElem hlt⟩
    have hv:(Zp l)[((i:Nat):Int).toNat]?=some (.agg [.int .i64 k1,.int .u64 (n1:Int),.sl (b2.map E.byte),.sl (Zp l1)]):=by
     rw[Int.toNat_natCast,Z9,List.getElem?_map,hy];rfl
    have hmem:=List.mem_of_getElem? hy
    have hps:=WD hy
    have hpl:=WE l (i+1)
    have hps2:=congrArg List.length hps
    rw[List.length_append]at hps2
    have hc:=ih _ hmem (Ys hws _ hmem) (UB hos _ hmem) M _ rfl hUM (by simp only[List.length_append]at hMl hlim;omega)
    have ei:IntKind.i64.wrap ((i:Int)+1)=((i+1:Nat):Int):=by rw[IntWalk.i64_in _ (by omega)];omega
    repeat'(first|rw[ei]|(apply Yy [] [0] (hc);kernel_rfl;(iterate 10 exact Z))|(apply Zh Za;exact Z)|(apply Zf Za;exact Z)|refine Zd Z Qt ?_|(apply Zu Za;(iterate 6 exact Z);(first|exact Qt|rotate_left);(first|with_reducible assumption|decide +kernel|exact Z);(first|exact Zj rfl|with_reducible assumption|decide +kernel|rotate_left)))
    refine Lands.mk' (m:=f-1) (by omega) ⟨i+1,M.length+(ZM (.mk k1 n1 b2 l1)).length,M++(ZM (.mk k1 n1 b2 l1)).map E.byte,by omega,by simp only[List.length_append,List.length_map],by rw[hM,hps];simp,rfl,rfl,rfl⟩ ?_ rfl rfl rfl rfl rfl rfl
    exact .cons rfl (.cons rfl (.cons rfl (.cons rfl (.cons rfl .nil))))
   ·have hdl:decide ((i:Int)<((Zp l).length:Int))=false:=decide_eq_false (by omega)
    rw[List.take_of_length_le hge]at hM hMl
    repeat'(first|(apply Zf Za;exact Z)|refine Zg Z Qt ?_)
    all_goals(apply KD [] [0];(apply Zc Za;exact Z);(iterate 7 exact Z))
    ·rw[hM];rfl
    ·rfl
    ·rw[hMl];rfl
theorem KL [Known](x:It)(hw:wfI x)(ho:okx x)(hlim:(ZM x).length<=140737488353280):AT Tryd.prog 46 [.sl .nil [],itD x] [] [] (.sl (.own 0) ((ZM x).map E.byte)) [] [⟨(ZM x).length,1,5⟩]:=by
 obtain⟨k,n,b,l⟩:=x
 obtain⟨hn,hb,hl,hws⟩:=hw
 obtain⟨hk7,hos⟩:=ho
 have hlen:=Zx l
 have hr:ZZ (k,(It.mk k n b l).hn,false)=true:=by simp[ZZ];exact hk7
 have hhn:(It.mk k n b l).hn<18446744073709551616:=by simp only[It.hn];(repeat' split)<;>omega
 have hput:ZM (.mk k n b l)=ZQ (k,(It.mk k n b l).hn,false)++(b++ZH l):=by rw[ZM,if_pos hr]
 rw[hput]at hlim ⊢
 have hW:=Ow (k,(It.mk k n b l).hn,false) hhn
 rw[if_pos hr,if_pos hr]at hW
 obtain⟨c0,t0,hcw⟩:=Jn (k,(It.mk k n b l).hn,false)
 rw[hcw]at hW hlim ⊢
 have hU0:=YW (c0::t0)
 have hU1:=YW b
 have eb:IntKind.u64.wrap (((b.map E.byte).length:Nat):Int)=((b.length:Nat):Int):=by rw[List.length_map,IntKind.wrap_u64];omega
 have el:IntKind.u64.wrap (((Zp l).length:Nat):Int)=((l.length:Nat):Int):=by rw[hlen,IntKind.wrap_u64];omega
 have hS:∀(i:Nat),IntKind.i64.wrap ((i:Int)+1)=((i+1:Nat):Int)\/2199023255488<i:=fun i=>by
  rcases Nat.lt_or_ge 2199023255488 i with h|h
  ·exact .inr h
  ·left;rw[IntWalk.i64_in _ (by omega)];omega
 have hkc:(k=2/\(It.mk k n b l).hn=b.length)\/(k=3/\(It.mk k n b l).hn=b.length)\/(k=4/\(It.mk k n b l).hn=l.length)\/(k ≠ 2/\k ≠ 3/\k ≠ 4/\(It.mk k n b l).hn=n):=by
  by_cases h2:k=2
  ·subst h2;exact .inl ⟨rfl,rfl⟩
  by_cases h3:k=3
  ·subst h3;exact .inr (.inl ⟨rfl,rfl⟩)
  by_cases h4:k=4
  ·subst h4;exact .inr (.inr (.inl ⟨rfl,rfl⟩))
  ·exact .inr (.inr (.inr ⟨h2,h3,h4,by simp[It.hn,h2,h3,h4]⟩))
 clear hhn hr hcw hput
 generalize (It.mk k n b l).hn=hn0 at hkc hW
 have hbc:b=[]\/∃ c1 b1,b=c1::b1:=by cases b<;>simp
 have hne2:k ≠ 2->(k==2)=false:=fun h=>by simpa using h
 have hne3:k ≠ 3->(k==3)=false:=fun h=>by simpa using h
 have hne4:k ≠ 4->(k==4)=false:=fun h=>by simpa using h
 have hq:((k==2)=true/\hn0=b.length)\/((k==2)=false/\(k==3)=true/\hn0=b.length)\/((k==2)=false/\(k==3)=false/\(k==4)=true/\hn0=l.length)\/((k==2)=false/\(k==3)=false/\(k==4)=false/\hn0=n):=by
  rcases hkc with⟨e,h⟩ | ⟨e,h⟩ | ⟨e,h⟩ | ⟨k2,k3,k4,h⟩
  ·exact .inl ⟨by rw[e];rfl,h⟩
  ·exact .inr (.inl ⟨by rw[e];rfl,by rw[e];rfl,h⟩)
  ·exact .inr (.inr (.inl ⟨by rw[e];rfl,by rw[e];rfl,by rw[e];rfl,h⟩))
  ·exact .inr (.inr (.inr ⟨hne2 k2,hne3 k3,hne4 k4,h⟩))
 clear hkc
 rcases hbc with rfl|⟨c1,b1,rfl⟩
 ·rcases hq with⟨q2,hh⟩ | ⟨q2,q3,hh⟩ | ⟨q2,q3,q4,hh⟩ | ⟨q2,q3,q4,hh⟩
  all_goals
   rw[hh]at hW
   clear hh
   refine Zl Tryd.func46 rfl Tryd.ntmps46 rfl rfl ?_
   repeat'(first|rw[eb]|rw[el]|(apply Zb (hW);kernel_rfl;(iterate 4 exact Z))|(apply Zh Za;exact Z)|(apply Zf Za;exact Z)|(apply Zt Za;exact Z)|refine Zd Z Qt ?_|refine Zg Z Qt ?_|refine Zm Za Z Z Z Z ?_|(apply Zn 5 ZF;decide +kernel;kernel_rfl;kernel_rfl;kernel_rfl;exact Z;exact Z)|(apply Zr;(iterate 4 exact Z))|exact AE.nil _ _ _ _|(apply Zv;exact Z)|(apply Yb;exact Z)|(apply ZA;exact Z;exact Z;decide +kernel;exact Z)|(apply ZB;exact Z)|(apply Yv;exact Z)|exact AO.nil _ _ _|(apply Zq;(decide +kernel))|(apply ZY;(iterate 3 exact Z))|exact AOs.nil|exact ZG rfl rfl|exact YK rfl rfl|refine Y7 Za Z Z Z Z Z Z ?_|(apply WV Za;(iterate 6 exact Z);(first|exact Zj rfl|with_reducible assumption|decide +kernel|rotate_left);(first|exact Qt|rotate_left);(first|exact Qt|rotate_left);(first|exact Qt|rotate_left);(iterate 3 exact Z)))
   all_goals first|(first|rfl|(simp only[List.length_append,List.length_cons,List.length_nil,List.length_map,Zx];done)|(simp only[List.length_append,List.length_cons,List.length_nil,List.length_map,Zx]at *;(try unfold maxLen);(try simp only[Nat.add_mul]);omega))|skip
   refine Z5 (fun f tm bx fr=>∃(i c:Nat) (M:List E),f+i=l.length/\c=M.length/\M=((c0::t0)++(([]:List UInt8)++ZH (l.take i))).map E.byte/\tm=[(0,.sl (.own 0) M),(3,.ptr 0 0),(42,.sl .ext (Zp l)),(43,.int .i64 ((Zp l).length:Int)),(44,.int .i64 (i:Int))]/\bx=[itC k n ([]:List UInt8) l]/\fr=[⟨c,1,5⟩]) (l.length+1) (Lands.mk' (m:=l.length) (Nat.lt_succ_self _) ⟨0,((c0::t0).map E.byte).length,(c0::t0).map E.byte,rfl,by simp only[List.length_append],by simp[ZH],rfl,rfl,rfl⟩ ?_ rfl rfl rfl rfl rfl rfl) ?_
   ·exact .cons rfl (.cons rfl (.cons rfl (.cons rfl (.cons rfl .nil))))
   rintro f tm bx fr ⟨i,c,M,hf,hc,hM,rfl,rfl,rfl⟩
   subst hc
   have hU:=YV l
   have hUM:Uni 1 M:=by rw[hM];exact YW _
   have hMl:M.length=((c0::t0)++(([]:List UInt8)++ZH (l.take i))).length:=by rw[hM];simp only[List.length_append,List.length_map]
   rcases Nat.lt_or_ge i l.length with hlt|hge
   ·have hdl:decide ((i:Int)<((Zp l).length:Int))=true:=decide_eq_true (by omega)
    obtain⟨⟨k1,n1,b2,l1⟩,hy⟩:∃ y,l[i]?=some y:=⟨_,List.getElem?_eq_getElem hlt⟩
    have hv:(Zp l)[((i:Nat):Int).toNat]?=some (.agg [.int .i64 k1,.int .u64 (n1:Int),.sl (b2.map E.byte),.sl (Zp l1)]):=by
     rw[Int.toNat_natCast,Z9,List.getElem?_map,hy];rfl
    have hmem:=List.mem_of_getElem? hy
    have hps:=WD hy
    have hpl:=WE l (i+1)
    have hps2:=congrArg List.length hps
    rw[List.length_append]at hps2
    have hc:=Gj _ (Ys hws _ hmem) (UB hos _ hmem) M _ rfl hUM (by simp only[List.length_append]at hMl hlim;omega)
    have ei:IntKind.i64.wrap ((i:Int)+1)=((i+1:Nat):Int):=by rw[IntWalk.i64_in _ (by omega)];omega
    repeat'(first|rw[ei]|(apply Yy [] [0] (hc);kernel_rfl;(iterate 10 exact Z))|(apply Zh Za;exact Z)|(apply Zf Za;exact Z)|refine Zd Z Qt ?_|(apply Zu Za;(iterate 6 exact Z);(first|exact Qt|rotate_left);(first|with_reducible assumption|decide +kernel|exact Z);(first|exact Zj rfl|with_reducible assumption|decide +kernel|rotate_left)))
    refine Lands.mk' (m:=f-1) (by omega) ⟨i+1,M.length+(ZM (.mk k1 n1 b2 l1)).length,M++(ZM (.mk k1 n1 b2 l1)).map E.byte,by omega,by simp only[List.length_append,List.length_map],by rw[hM,hps];simp,rfl,rfl,rfl⟩ ?_ rfl rfl rfl rfl rfl rfl
    exact .cons rfl (.cons rfl (.cons rfl (.cons rfl (.cons rfl .nil))))
   ·have hdl:decide ((i:Int)<((Zp l).length:Int))=false:=decide_eq_false (by omega)
    rw[List.take_of_length_le hge]at hM hMl
    repeat'(first|(apply Zf Za;exact Z)|refine Zg Z Qt ?_)
    all_goals(apply KD [] [0];(apply Zc Za;exact Z);(iterate 7 exact Z))
    ·rw[hM];rfl
    ·rfl
    ·rw[hMl];rfl
 ·rcases hq with⟨q2,hh⟩ | ⟨q2,q3,hh⟩ | ⟨q2,q3,q4,hh⟩ | ⟨q2,q3,q4,hh⟩
  all_goals
   rw[hh]at hW
   clear hh
   refine Zl Tryd.func46 rfl Tryd.ntmps46 rfl rfl ?_
   repeat'(first|rw[eb]|rw[el]|(apply Zb (hW);kernel_rfl;(iterate 4 exact Z))|(apply Zh Za;exact Z)|(apply Zf Za;exact Z)|(apply Zt Za;exact Z)|refine Zd Z Qt ?_|refine Zg Z Qt ?_|refine Zm Za Z Z Z Z ?_|(apply Zn 5 ZF;decide +kernel;kernel_rfl;kernel_rfl;kernel_rfl;exact Z;exact Z)|(apply Zr;(iterate 4 exact Z))|exact AE.nil _ _ _ _|(apply Zv;exact Z)|(apply Yb;exact Z)|(apply ZA;exact Z;exact Z;decide +kernel;exact Z)|(apply ZB;exact Z)|(apply Yv;exact Z)|exact AO.nil _ _ _|(apply Zq;(decide +kernel))|(apply ZY;(iterate 3 exact Z))|exact AOs.nil|exact ZG rfl rfl|exact YK rfl rfl|(apply ZV Za;(iterate 6 exact Z);(first|with_reducible assumption|decide +kernel|exact Z|rotate_left);exact Z;exact Z;(first|exact Zj rfl|with_reducible assumption|decide +kernel|rotate_left);(first|exact Zj rfl|with_reducible assumption|decide +kernel|rotate_left);(first|exact Qt|rotate_left);(first|exact Qt|rotate_left);(first|exact Qt|rotate_left);exact Z;exact Z)|(apply WV Za;(iterate 6 exact Z);(first|exact Zj rfl|with_reducible assumption|decide +kernel|rotate_left);(first|exact Qt|rotate_left);(first|exact Qt|rotate_left);(first|exact Qt|rotate_left);(iterate 3 exact Z)))
   all_goals first|(first|rfl|(simp only[List.length_append,List.length_cons,List.length_nil,List.length_map,Zx];done)|(simp only[List.length_append,List.length_cons,List.length_nil,List.length_map,Zx]at *;(try unfold maxLen);(try simp only[Nat.add_mul]);omega))|skip
   refine Z5 (fun f tm bx fr=>∃(i c:Nat) (M:List E),f+i=l.length/\c=M.length/\M=((c0::t0)++((c1::b1)++ZH (l.take i))).map E.byte/\tm=[(0,.sl (.own 0) M),(3,.ptr 0 0),(42,.sl .ext (Zp l)),(43,.int .i64 ((Zp l).length:Int)),(44,.int .i64 (i:Int))]/\bx=[itC k n (c1::b1) l]/\fr=[⟨c,1,5⟩]) (l.length+1) (Lands.mk' (m:=l.length) (Nat.lt_succ_self _) ⟨0,((c0::t0).map E.byte).length+((c1::b1).map E.byte).length,((c0::t0).map E.byte)++(c1::b1).map E.byte,rfl,by simp only[List.length_append],by simp[ZH],rfl,rfl,rfl⟩ ?_ rfl rfl rfl rfl rfl rfl) ?_
   ·exact .cons rfl (.cons rfl (.cons rfl (.cons rfl (.cons rfl .nil))))
   rintro f tm bx fr ⟨i,c,M,hf,hc,hM,rfl,rfl,rfl⟩
   subst hc
   have hU:=YV l
   have hUM:Uni 1 M:=by rw[hM];exact YW _
   have hMl:M.length=((c0::t0)++((c1::b1)++ZH (l.take i))).length:=by rw[hM];simp only[List.length_append,List.length_map]
   rcases Nat.lt_or_ge i l.length with hlt|hge
   ·have hdl:decide ((i:Int)<((Zp l).length:Int))=true:=decide_eq_true (by omega)
    obtain⟨⟨k1,n1,b2,l1⟩,hy⟩:∃ y,l[i]?=some y:=⟨_,List.getElem?_eq_getElem hlt⟩
    have hv:(Zp l)[((i:Nat):Int).toNat]?=some (.agg [.int .i64 k1,.int .u64 (n1:Int),.sl (b2.map E.byte),.sl (Zp l1)]):=by
     rw[Int.toNat_natCast,Z9,List.getElem?_map,hy];rfl
    have hmem:=List.mem_of_getElem? hy
    have hps:=WD hy
    have hpl:=WE l (i+1)
    have hps2:=congrArg List.length hps
    rw[List.length_append]at hps2
    have hc:=Gj _ (Ys hws _ hmem) (UB hos _ hmem) M _ rfl hUM (by simp only[List.length_append]at hMl hlim;omega)
    have ei:IntKind.i64.wrap ((i:Int)+1)=((i+1:Nat):Int):=by rw[IntWalk.i64_in _ (by omega)];omega
    repeat'(first|rw[ei]|(apply Yy [] [0] (hc);kernel_rfl;(iterate 10 exact Z))|(apply Zh Za;exact Z)|(apply Zf Za;exact Z)|refine Zd Z Qt ?_|(apply Zu Za;(iterate 6 exact Z);(first|exact Qt|rotate_left);(first|with_reducible assumption|decide +kernel|exact Z);(first|exact Zj rfl|with_reducible assumption|decide +kernel|rotate_left)))
    refine Lands.mk' (m:=f-1) (by omega) ⟨i+1,M.length+(ZM (.mk k1 n1 b2 l1)).length,M++(ZM (.mk k1 n1 b2 l1)).map E.byte,by omega,by simp only[List.length_append,List.length_map],by rw[hM,hps];simp,rfl,rfl,rfl⟩ ?_ rfl rfl rfl rfl rfl rfl
    exact .cons rfl (.cons rfl (.cons rfl (.cons rfl (.cons rfl .nil))))
   ·have hdl:decide ((i:Int)<((Zp l).length:Int))=false:=decide_eq_false (by omega)
    rw[List.take_of_length_le hge]at hM hMl
    repeat'(first|(apply Zf Za;exact Z)|refine Zg Z Qt ?_)
    all_goals(apply KD [] [0];(apply Zc Za;exact Z);(iterate 7 exact Z))
    ·rw[hM];rfl
    ·rfl
    ·rw[hMl];rfl
theorem X0 [Known][KnownU8](x:It)(hw:wfI x)(hlim:(ZM x).length<=140737488353280)(hR:AP Tryd.prog 45 [itD x] (.bool (ZI x)) []):AP Tryd.prog 27 [itD x] (.tup [byE (if ZI x then ZM x else []),.int .i64 (if ZI x then 0 else 3)]) []:=by
 cases hr:ZI x with
 | false=>
  rw[hr]at hR
  obtain⟨k,n,b,l⟩:=x
  refine AP.ofA (Zl Tryd.func27 Z Tryd.ntmps27 Z Z ?_)
  repeat'(first|(apply Zb (hR);kernel_rfl;(iterate 4 exact Z))|(apply Zh Za;exact Z)|(apply Zf Za;exact Z)|(apply Zt Za;exact Z)|refine Zd Z Qt ?_)
  all_goals exact Qe
 | true=>
  rw[hr]at hR
  have hp:=KL x hw (XZ hr) hlim
  obtain⟨k,n,b,l⟩:=x
  refine AP.ofA (Zl Tryd.func27 Z Tryd.ntmps27 Z Z ?_)
  repeat'(first|(apply Zb (hR);kernel_rfl;(iterate 4 exact Z))|(apply Yy [] [] (hp);kernel_rfl;(iterate 10 exact Z))|(apply Zh Za;exact Z)|(apply Zf Za;exact Z)|(apply Zt Za;exact Z)|refine Zg Z Qt ?_)
  all_goals exact Qe
end Go.Proofs.YtmljabhmajehnaaDoor
end
section
open Go.RowKit Go.Pl Go.Av
namespace Go.Proofs.YtmljabhmajehnaaDoor
set_option maxHeartbeats 4000000
theorem MN {s:List UInt8}{e:Nat}(h:rdS s=.error e):e ≠ 0:=by
 cases s with
 | nil=>simp only[rdS,Except.error.injEq]at h;omega
 | cons c r=>
  simp only[rdS]at h
  repeat' split at h
  all_goals(cases h;try omega)
theorem X1 {p:Hd}{s:List UInt8}{e:Nat}(h:Wh p s=.error e):e ≠ 0:=by
 simp only[Wh]at h
 repeat' split at h
 all_goals(cases h;try omega)
theorem Gk (m:Int):∀(f:Nat) (acc s:List UInt8) (e:Nat),JQ m f acc s=.error e->e ≠ 0
 | 0,_,_,e,h=>by simp only[JQ,Except.error.injEq]at h;omega
 | f+1,acc,s,e,h=>by
  rw[JQ]at h
  cases hb:Ub s<;>rw[hb]at h
  ·cases hr:rdS s with
   | error c=>rw[hr]at h;dsimp only at h;simp only[Except.error.injEq]at h;exact h ▸ MN hr
   | ok y=>
    obtain⟨p,r⟩:=y
    rw[hr]at h;dsimp only at h
    split at h
    ·cases hp:Wh p r with
     | error c=>rw[hp]at h;dsimp only at h;simp only[Except.error.injEq]at h;exact h ▸ X1 hp
     | ok z=>rw[hp]at h;exact Gk m f _ _ e h
    ·simp only[Except.error.injEq]at h;omega
  ·exact nomatch h
theorem OB {it:Nat->List UInt8->Res (It × List UInt8 × Nat)}(hi:∀ m s e,it m s=.error e->e ≠ 0):∀(f:Nat) (acc:List It) (m:Nat) (s:List UInt8) (e:Nat),UZ it f acc m s=.error e->e ≠ 0
 | 0,_,_,_,_,h=>nomatch h
 | f+1,acc,m,s,e,h=>by
  rw[UZ]at h
  cases hr:it m s with
  | error c=>rw[hr]at h;dsimp only at h;simp only[Except.error.injEq]at h;exact h ▸ hi _ _ _ hr
  | ok y=>obtain⟨x,r,m'⟩:=y;rw[hr]at h;exact OB hi f _ _ _ e h
theorem OC {it:Nat->List UInt8->Res (It × List UInt8 × Nat)}(hi:∀ m s e,it m s=.error e->e ≠ 0):∀(f:Nat) (acc:List It) (m:Nat) (s:List UInt8) (e:Nat),QD it f acc m s=.error e->e ≠ 0
 | 0,_,_,_,e,h=>by simp only[QD,Except.error.injEq]at h;omega
 | f+1,acc,m,s,e,h=>by
  rw[QD]at h
  cases hb:Ub s<;>rw[hb]at h
  ·cases hr:it m s with
   | error c=>rw[hr]at h;dsimp only at h;simp only[Except.error.injEq]at h;exact h ▸ hi _ _ _ hr
   | ok y=>obtain⟨x,r,m'⟩:=y;rw[hr]at h;exact OC hi f _ _ _ e h
  ·exact nomatch h
theorem Tm {it:Nat->List UInt8->Res (It × List UInt8 × Nat)}(hi:∀ m s e,it m s=.error e->e ≠ 0){p:Hd}{m:Nat}{r:List UInt8}{e:Nat}(h:Wm it p m r=.error e):e ≠ 0:=by
 have h1:∀ e,QE p r=.error e->e ≠ 0:=by
  intro e h;simp only[QE]at h
  split at h
  ·exact Gk _ _ _ _ _ h
  ·exact X1 h
 have h2:∀ e,Ju it p m r=.error e->e ≠ 0:=by
  intro e h;simp only[Ju]at h
  split at h
  ·exact OC hi _ _ _ _ _ h
  ·split at h
   ·exact OB hi _ _ _ _ _ h
   ·cases h;omega
 simp only[Wm]at h
 repeat' split at h
 all_goals first
  | (cases h;done)
  | (rename_i hq;cases h;exact h1 _ hq)
  | (rename_i hq;cases h;exact h2 _ hq)
theorem QL:∀(d m:Nat) (s:List UInt8) (e:Nat),ZT d m s=.error e->e ≠ 0
 | 0,m,s,e,h=>by
  rw[ZT]at h
  cases hr:rdS s with
  | error c=>rw[hr]at h;dsimp only at h;simp only[Except.error.injEq]at h;exact h ▸ MN hr
  | ok y=>
   obtain⟨p,r⟩:=y
   rw[hr]at h;dsimp only at h
   split at h<;>(simp only[Except.error.injEq]at h;omega)
 | d+1,m,s,e,h=>by
  rw[ZT]at h
  cases hr:rdS s with
  | error c=>rw[hr]at h;dsimp only at h;simp only[Except.error.injEq]at h;exact h ▸ MN hr
  | ok y=>
   obtain⟨p,r⟩:=y
   rw[hr]at h;dsimp only at h
   split at h
   ·simp only[Except.error.injEq]at h;omega
   ·split at h
    ·simp only[Except.error.injEq]at h;omega
    ·exact Tm (QL d) h
theorem KM [Known][KnownU8](b:List UInt8)(hb:b.length<=140737488351232):AP Tryd.prog 97 [byE b] (.bool (Wx b)) []:=by
 have hR:=JY b 0 (by omega)
 have e:Ym b 0=match ZT 6 256 b with
   | .error e=>(.mk 0 0 [] [],0,e)
   | .ok (x,r,_)=>(x,b.length-r.length,0):=by rw[Ym,if_neg (by omega)];rfl
 rw[e]at hR
 unfold Wx
 cases hx:ZT 6 256 b with
 | error c=>
  rw[hx]at hR
  dsimp only
  have hc:((c:Int)==0)=false:=by
   have h0:=QL _ _ _ _ hx
   rw[<- Bool.not_eq_true,beq_iff_eq];omega
  replace hR:AP Tryd.prog _ _ (.tup [itD (.mk 0 0 [] []),.int .i64 0,.int .i64 (c:Int)]) []:=hR
  refine AP.ofA (Zl Tryd.func97 Z Tryd.ntmps97 Z Z ?_)
  repeat'(first|rw[hc]|(apply Zb (hR);kernel_rfl;(iterate 4 exact Z))|(apply Zh Za;exact Z)|(apply Zf Za;exact Z)|refine Zw Z Z Z Qt ?_|refine Zi Z Qt Z Z ?_)
  all_goals exact Qe
 | ok y=>
  obtain⟨⟨k1,n1,b1,l1⟩,r,m1⟩:=y
  rw[hx]at hR
  replace hR:AP Tryd.prog _ _ (.tup [itD (.mk k1 n1 b1 l1),.int .i64 ((b.length-r.length:Nat):Int),.int .i64 0]) []:=hR
  obtain⟨hwk,hwf,pre,hpre,_,hlen⟩:=QH 6 (Nat.le_refl _) _ _ _ _ _ hx (by omega)
  have hle:=hlen.2
  have hpl:=congrArg List.length hpre
  rw[List.length_append]at hpl
  have hP:=KL (.mk k1 n1 b1 l1) hwf (JZ hwk) (by omega)
  have hB:=KJ (ZM (.mk k1 n1 b1 l1)) b
  have hn:(((b.length-r.length:Nat):Int)==((b.map E.byte).length:Int))=r.isEmpty:=by
   rw[List.length_map]
   cases r with
   | nil=>simp
   | cons c r=>simp at hpl ⊢;omega
  dsimp only
  cases hr:r.isEmpty
  all_goals
   rw[hr]at hn
   refine AP.ofA (Zl Tryd.func97 Z Tryd.ntmps97 Z Z ?_)
   repeat'(first|rw[hn]|(apply Zb (hR);kernel_rfl;(iterate 4 exact Z))|(apply Yy [] [] (hP);kernel_rfl;(iterate 10 exact Z))|(apply Zb (hB);kernel_rfl;(iterate 4 exact Z))|(apply Zh Za;exact Z)|(apply Zf Za;exact Z)|refine Ze Z Z Z Qt ?_|refine Zw Z Z Z Qt ?_|refine Zk Z Qt Z Z ?_|refine Zi Z Qt Z Z ?_|refine Zm Za Z Z Z Z ?_)
   all_goals exact Qe
theorem G5 [Known][KnownU8](x:It)(hw:wfI x)(hr:ZI x=true)(hlim:(ZM x).length<=140737488353280):AT Tryd.prog 27 [itD x] [] [] (.tup [.sl (.own 0) ((ZM x).map E.byte),.int .i64 0]) [] [⟨(ZM x).length,1,5⟩]:=by
 have hR:=Y4 x hw
 rw[hr]at hR
 have hp:=KL x hw (XZ hr) hlim
 obtain⟨k,n,b,l⟩:=x
 refine Zl Tryd.func27 rfl Tryd.ntmps27 rfl rfl ?_
 repeat'(first|(apply Zb (hR);kernel_rfl;(iterate 4 exact Z))|(apply Yy [] [] (hp);kernel_rfl;(iterate 10 exact Z))|(apply Zh Za;exact Z)|(apply Zf Za;exact Z)|(apply Zt Za;exact Z)|refine Zg Z Qt ?_)
 all_goals(apply KD [] [0];(apply Zc Za;exact Z);(iterate 7 exact Z))
 all_goals rfl
theorem Tn {x:It}(hw:wfI x)(hr:ZI x=true)(r:List UInt8):ZT 6 256 (ZM x++r)=.ok (x,r,((YS x 1 256).getD 0)):=by
 unfold ZI at hr
 cases h:YS x 1 256 with
 | none=>rw[h]at hr;cases hr
 | some m=>exact QF x 6 256 m r hw (Nat.le_refl _) h
theorem OD [Known][KnownU8](x:It)(hw:wfI x)(hlim:(ZM x).length<=140737488353280)(hr:ZI x=true):AP Tryd.prog 27 [itD x] (.tup [byE (ZM x),.int .i64 0]) []:=by
 have h:=X0 x hw hlim (Y4 x hw)
 rw[hr]at h
 exact h
theorem Ix (x:It)(hw:wfI x)(hr:ZI x=true):∃ c t,ZM x=c::t:=by
 cases hp:ZM x with
 | cons c t=>exact⟨c,t,rfl⟩
 | nil=>
  have h:=Tn hw hr []
  rw[hp]at h
  have e:ZT 6 256 []=.error 8:=rfl
  rw[List.append_nil,e]at h
  cases h
end Go.Proofs.YtmljabhmajehnaaDoor
end
section
open Go.RowKit Go.Pl Go.Av
namespace Go.Proofs.YtmljabhmajehnaaDoor
mutual
def YX:It->Nat
 | .mk _ _ _ l=>1+Y9 l
def Y9:List It->Nat
 | []=>0
 | x::l=>YX x+Y9 l
end
mutual
def U7:It->Bool
 | .mk k n b l=>W7 k n b l&&J0 l
def J0:List It->Bool
 | []=>true
 | x::l=>U7 x&&J0 l
end
mutual
theorem J1:∀(x:It) (d m:Nat),YS x d m=if Wf x (7-d)=true/\YX x<=m/\U7 x=true then some (m-YX x) else none
 | .mk k n b l,d,m=>by
  rw[YS]
  split
  ·rename_i h
   rw[if_neg]
   rintro⟨h1,_⟩
   rw[show 7-d=0 by omega,Wf]at h1
   cases h1
  rename_i hd
  rw[show 7-d=(7-(d+1))+1 by omega,Wf,YX,U7]
  split
  ·rename_i h
   rw[if_neg]
   rintro⟨_,h1,_⟩
   omega
  rename_i hm
  cases ho:W7 k n b l with
  | false=>
   dsimp only
   rw[if_neg]
   rintro⟨_,_,h1⟩
   simp at h1
  | true=>
   dsimp only
   rw[X2 l (d+1) (m-1),Bool.true_and]
   by_cases h:WB l (7-(d+1))=true/\Y9 l<=m-1/\J0 l=true
   ·rw[if_pos h,if_pos ⟨h.1,by omega,h.2.2⟩]
    congr 1;omega
   ·rw[if_neg h,if_neg]
    exact fun⟨a,b,c⟩=>h ⟨a,by omega,c⟩
theorem X2:∀(l:List It) (d m:Nat),Yc l d m=if WB l (7-d)=true/\Y9 l<=m/\J0 l=true then some (m-Y9 l) else none
 | [],d,m=>by rw[Yc,if_pos ⟨by rw[WB],by rw[Y9];omega,by rw[J0]⟩,Y9];rfl
 | x::l,d,m=>by
  rw[Yc,J1 x d m,WB,Y9,J0]
  by_cases h:Wf x (7-d)=true/\YX x<=m/\U7 x=true
  ·rw[if_pos h]
   dsimp only
   rw[X2 l d (m-YX x),h.1,h.2.2,Bool.true_and,Bool.true_and]
   by_cases h2:WB l (7-d)=true/\Y9 l<=m-YX x/\J0 l=true
   ·rw[if_pos h2,if_pos ⟨h2.1,by omega,h2.2.2⟩]
    congr 1;omega
   ·rw[if_neg h2,if_neg]
    exact fun⟨a,b,c⟩=>h2 ⟨a,by omega,c⟩
  ·rw[if_neg h]
   dsimp only
   rw[if_neg]
   rintro⟨a,b,c⟩
   rw[Bool.and_eq_true]at a c
   exact h ⟨a.1,by omega,c.1⟩
end
theorem X3 (x:It):ZI x=(Wf x 6&&(decide (YX x<=256)&&U7 x)):=by
 unfold ZI
 rw[J1]
 split
 ·rename_i h
  obtain⟨a,b,c⟩:=h
  rw[show 7-1=6 from rfl]at a
  simp[a,b,c]
 ·rename_i h
  rw[show 7-1=6 from rfl]at h
  show false=_
  cases h2:(Wf x 6&&(decide (YX x<=256)&&U7 x)) with
  | false=>rfl
  | true=>
   simp only[Bool.and_eq_true,decide_eq_true_eq]at h2
   exact absurd ⟨h2.1,h2.2.1,h2.2.2⟩ h
mutual
theorem Iy:∀(x:It) (d e:Nat),Wf x d=true->d<=e->Wf x e=true
 | .mk k n b l,0,e,h,_=>by rw[Wf]at h;cases h
 | .mk k n b l,d+1,0,h,hle=>by omega
 | .mk k n b l,d+1,e+1,h,hle=>by
  rw[Wf]at h ⊢
  exact J2 l d e h (by omega)
theorem J2:∀(l:List It) (d e:Nat),WB l d=true->d<=e->WB l e=true
 | [],_,_,_,_=>by rw[WB]
 | x::l,d,e,h,hle=>by
  rw[WB,Bool.and_eq_true]at h ⊢
  exact⟨Iy x d e h.1 hle,J2 l d e h.2 hle⟩
end
mutual
theorem Iz:∀(x:It) (d:Nat) (m:Int),0<=YT x d m->(YX x:Int)=m-YT x d m
 | .mk k n b l,d,m,h=>by
  rw[YT]at h ⊢
  split at h
  ·omega
  split at h
  ·omega
  rename_i h1 h2
  rw[if_neg h1,if_neg h2,YX]
  have:=Jo l (d+1) (m-1) h
  omega
theorem Jo:∀(l:List It) (d:Nat) (m:Int),0<=Wi l d m->(Y9 l:Int)=m-Wi l d m
 | [],d,m,h=>by rw[Wi,Y9];omega
 | x::l,d,m,h=>by
  rw[Wi]at h ⊢
  split at h
  ·omega
  rename_i h1
  rw[if_neg h1,Y9]
  have h0:0<=YT x d m:=by
   rcases Int.lt_or_le (YT x d m) 0 with hlt|hge
   ·have:=US l d (YT x d m) (by have:=UR x d m (by omega);omega);omega
   ·exact hge
  have a:=Iz x d m h0
  have b:=Jo l d _ h
  omega
end
end Go.Proofs.YtmljabhmajehnaaDoor
end
section
open Go.RowKit Go.Pl Go.Av
namespace Go.Proofs.YtmljabhmajehnaaDoor
set_option maxHeartbeats 4000000
theorem J3 (b:List UInt8)(hb:b.length<=140737488351232):(∃ e:Nat,e ≠ 0/\Ym b 0=(.mk 0 0 [] [],0,e)/\Wx b=false)\/(∃(y:It) (n:Nat),Ym b 0=(y,n,0)/\wfI y/\ZI y=true/\n<=b.length):=by
 have e:Ym b 0=match ZT 6 256 b with
   | .error e=>(.mk 0 0 [] [],0,e)
   | .ok (x,r,_)=>(x,b.length-r.length,0):=by rw[Ym,if_neg (by omega)];rfl
 unfold Wx
 rw[e]
 cases hx:ZT 6 256 b with
 | error c=>exact .inl ⟨c,QL _ _ _ _ hx,rfl,rfl⟩
 | ok y=>
  obtain⟨y,r,m1⟩:=y
  obtain⟨hwk,hwf,pre,hpre,_,_⟩:=QH 6 (Nat.le_refl _) _ _ _ _ _ hx (by omega)
  refine .inr ⟨y,b.length-r.length,rfl,hwf,?_,by omega⟩
  have hwk:YS y 1 256=some m1:=hwk
  unfold ZI;rw[hwk];rfl
theorem X4 (b:List UInt8)(hb:b.length<4294967296):(∃ e:Nat,e ≠ 0/\Ym b 0=(.mk 0 0 [] [],0,e)/\Wx b=false)\/(∃(y:It) (n:Nat),Ym b 0=(y,n,0)/\wfI y/\ZI y=true/\(ZM y).length<=n/\n<=b.length):=by
 have e:Ym b 0=match ZT 6 256 b with
   | .error e=>(.mk 0 0 [] [],0,e)
   | .ok (x,r,_)=>(x,b.length-r.length,0):=by rw[Ym,if_neg (by omega)];rfl
 unfold Wx
 rw[e]
 cases hx:ZT 6 256 b with
 | error c=>exact .inl ⟨c,QL _ _ _ _ hx,rfl,rfl⟩
 | ok y=>
  obtain⟨y,r,m1⟩:=y
  obtain⟨hwk,hwf,pre,hpre,_,hlen⟩:=QH 6 (Nat.le_refl _) _ _ _ _ _ hx (by omega)
  have hle:=hlen.1 ⟨Nat.le_refl _,hb⟩
  have hpl:=congrArg List.length hpre
  rw[List.length_append]at hpl
  refine .inr ⟨y,b.length-r.length,rfl,hwf,?_,by omega,by omega⟩
  have hwk:YS y 1 256=some m1:=hwk
  unfold ZI;rw[hwk];rfl
theorem To (d m:Nat)(t:List UInt8):∃ e,ZT d m (255::t)=.error e:=by
 have h1:rdS (255::t)=(if UY (7:Nat)=true then .ok (((7:Nat),0,true),t) else .error 3):=by
  unfold rdS
  simp
 have hk:okK ((7:Nat):Int)=false:=by decide
 cases d with
 | zero=>
  rw[ZT,h1]
  by_cases hm:UY (7:Nat)=true
  ·rw[if_pos hm]
   dsimp only
   rw[if_pos hk]
   exact⟨_,rfl⟩
  ·rw[if_neg hm]
   exact⟨_,rfl⟩
 | succ d=>
  rw[ZT,h1]
  by_cases hm:UY (7:Nat)=true
  ·rw[if_pos hm]
   dsimp only
   rw[if_pos hk]
   exact⟨_,rfl⟩
  ·rw[if_neg hm]
   exact⟨_,rfl⟩
theorem OE:∀(l:List It) (d m m':Nat) (acc:List It) (r:List UInt8) (f:Nat),wfs l->d<=6->Yc l (7-d) m=some m'->l.length<f->QD (ZT d) f acc m (ZH l++255::r)=.ok (acc++l,r,m')
 | [],d,m,m',acc,r,f,_,_,h,hf=>by
  obtain⟨f,rfl⟩:∃ g,f=g+1:=⟨f-1,by simp at hf;omega⟩
  simp only[Yc,Option.some.injEq]at h
  simp[QD,ZH,Ub,h]
 | x::l,d,m,m',acc,r,f,hw,hd,h,hf=>by
  obtain⟨f,rfl⟩:∃ g,f=g+1:=⟨f-1,by simp at hf;omega⟩
  obtain⟨m1,h1,h2⟩:=Wo h
  have hi:=QF x d m m1 (ZH l++255::r) hw.1 hd h1
  rw[ZH,List.append_assoc,QD]
  have he:Ub (ZM x++(ZH l++255::r))=false:=by
   cases hs:ZM x++(ZH l++255::r) with
   | nil=>rfl
   | cons c t=>
    by_cases hc:c=255
    ·exfalso
     subst hc
     rw[hs]at hi
     obtain⟨e,h9⟩:=To d m t
     rw[h9]at hi
     cases hi
    ·simp[Ub,hc]
  rw[he]
  dsimp only
  rw[hi]
  dsimp only
  rw[OE l d m1 m' (acc++[x]) r f hw.2 hd h2 (by simp at hf;omega)]
  simp
theorem G6 {l:List It}(hw:wfs l){m':Nat}(h:Yc l 2 255=some m'):Ym (159::(ZH l++[255])) 0=(.mk 4 0 [] l,(ZH l).length+2,0):=by
 have hr:rdS (159::(ZH l++[255]))=.ok (((4:Nat),0,true),ZH l++[255]):=by
  unfold rdS
  simp
  decide
 have hl:l.length<(ZH l++[255]).length+1:=by
  have:=JT h
  rw[List.length_append]
  omega
 have ho:=OE l 5 255 m' [] [] ((ZH l++[255]).length+1) hw (by omega) h hl
 have e:Ym (159::(ZH l++[255])) 0=match ZT 6 256 (159::(ZH l++[255])) with
   | .error e=>(.mk 0 0 [] [],0,e)
   | .ok (x,r,_)=>(x,(159::(ZH l++[255])).length-r.length,0):=by rw[Ym,if_neg (by simp;omega)];rfl
 rw[e,ZT,hr]
 dsimp only
 rw[if_neg (by decide),if_neg (by decide)]
 unfold Wm Ju
 rw[if_neg (by decide),if_pos (by decide)]
 dsimp only
 rw[ho]
 simp
end Go.Proofs.YtmljabhmajehnaaDoor
end

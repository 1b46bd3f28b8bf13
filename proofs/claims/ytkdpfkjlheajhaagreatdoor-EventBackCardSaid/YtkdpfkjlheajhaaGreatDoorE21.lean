/- Items: their bytes. -/
import Derived.Test.YtkdpfkjlheajhaaGreatDoorE14
import Derived.Test.YtkdpfkjlheajhaaGreatDoorE18
import Derived.Test.YtkdpfkjlheajhaaGreatDoorE20
import Derived.Test.YtkdpfkjlheajhaaGreatDoorE17
set_option linter.unusedVariables false
set_option linter.unusedSimpArgs false
section
open Go.RowKit Go.Pl Go.Av
namespace Go.Proofs.YtkdpfkjlheajhaaGreatDoor
set_option maxHeartbeats 4000000
mutual
def okx:It->Prop
 | .mk k _ _ l=>(0<=k/\k<=7)/\LR l
def LR:List It->Prop
 | []=>True
 | x::l=>okx x/\LR l
end
theorem Qq:∀ {l:List It},LR l->∀ y ∈ l,okx y
 | x::l,⟨h1,h2⟩,y,hy=>by
  rcases List.mem_cons.1 hy with rfl|hy
  ·exact h1
  ·exact Qq h2 y hy
mutual
theorem KB:∀ {x:It} {d m m':Nat},Wt x d m=some m'->okx x
 | .mk k n b l,d,m,m',h=>by
  obtain⟨_,_,h3,h4⟩:=UC h
  exact⟨XT h3,OB h4⟩
theorem OB:∀ {l:List It} {d m m':Nat},YL l d m=some m'->LR l
 | [],d,m,m',h=>trivial
 | x::l,d,m,m',h=>by
  obtain⟨m1,h1,h2⟩:=Vr h
  exact⟨KB h1,OB h2⟩
end
theorem OC {x:It}(h:ZV x=true):okx x:=by
 unfold ZV at h
 cases hw:Wt x 1 256 with
 | none=>rw[hw]at h;cases h
 | some m=>exact KB hw
theorem XG (h:Hd):∃ c t,Z8 h=c::t:=by
 unfold Z8
 split
 ·exact⟨_,_,rfl⟩
 ·exact⟨_,_,rfl⟩
theorem W8 {l:List It}{i:Nat}{y:It}(hy:l[i]?=some y):ZT (l.take (i+1))=ZT (l.take i)++Z0 y:=by
 rw[List.take_add_one,hy,Qp]
 simp[ZT]
theorem W9 (l:List It)(i:Nat):(ZT (l.take i)).length<=(ZT l).length:=by
 have h:=congrArg List.length (Qp (l.take i) (l.drop i))
 rw[List.take_append_drop,List.length_append]at h
 omega
theorem Tk [Known]:∀(x:It),wfI x->okx x->∀(L:List E) (c:Nat),c=L.length->Uni 1 L->L.length+(Z0 x).length<=140737488353280->AT Tryz.prog 180 [.sl (.own 0) L,itD x] [] [⟨c,1,5⟩] (.sl (.own 0) (L++(Z0 x).map E.byte)) [] [⟨c+(Z0 x).length,1,5⟩]:=by
 refine It.ind fun k n b l ih hw ho L c hc hUL hlim=>?_
 subst hc
 obtain⟨hn,hb,hl,hws⟩:=hw
 obtain⟨hk7,hos⟩:=ho
 have hlen:=ZD l
 have hr:Ye (k,(It.mk k n b l).hn,false)=true:=by simp[Ye];exact hk7
 have hhn:(It.mk k n b l).hn<18446744073709551616:=by simp only[It.hn];(repeat' split)<;>omega
 have hput:Z0 (.mk k n b l)=Z8 (k,(It.mk k n b l).hn,false)++(b++ZT l):=by rw[Z0,if_pos hr]
 rw[hput]at hlim ⊢
 have hW:=Gp (k,(It.mk k n b l).hn,false) hhn
 rw[if_pos hr,if_pos hr]at hW
 obtain⟨c0,t0,hcw⟩:=XG (k,(It.mk k n b l).hn,false)
 rw[hcw]at hW hlim ⊢
 have hU0:=YH (c0::t0)
 have hU1:=YH b
 have hU01:Uni 1 (L++(c0::t0).map E.byte):=hUL.append hU0
 have eb:IntKind.u64.wrap (((b.map E.byte).length:Nat):Int)=((b.length:Nat):Int):=by rw[List.length_map,IntKind.wrap_u64];omega
 have el:IntKind.u64.wrap (((Zx l).length:Nat):Int)=((l.length:Nat):Int):=by rw[hlen,IntKind.wrap_u64];omega
 have hS:∀(i:Nat),IntKind.i64.wrap ((i:Int)+1)=((i+1:Nat):Int)\/2199023255488<i:=fun i=>by
  rcases Nat.lt_or_ge 2199023255488 i with h|h
  ·exact .inr h
  ·left;rw[IntWalk.i64_in _ (by omega)];omega
 have hkc:(k=2/\(It.mk k n b l).hn=b.length)\/(k=3/\(It.mk k n b l).hn=b.length)\/(k=4/\(It.mk k n b l).hn=l.length)\/(k ≠ 2/\k ≠ 3/\k ≠ 4/\(It.mk k n b l).hn=n):=by
  by_cases h2:k=2
  ·subst h2;exact .inl ⟨rfl,rfl⟩
  by_cases h3:k=3
  ·subst h3;exact .inr (.inl ⟨rfl,rfl⟩)
  by_cases h4:k=4
  ·subst h4;exact .inr (.inr (.inl ⟨rfl,rfl⟩))
  ·exact .inr (.inr (.inr ⟨h2,h3,h4,by simp[It.hn,h2,h3,h4]⟩))
 clear hhn hr hcw hput
 generalize (It.mk k n b l).hn=hn0 at hkc hW
 have hbc:b=[]\/∃ c1 b1,b=c1::b1:=by cases b<;>simp
 have hne2:k ≠ 2->(k==2)=false:=fun h=>by simpa using h
 have hne3:k ≠ 3->(k==3)=false:=fun h=>by simpa using h
 have hne4:k ≠ 4->(k==4)=false:=fun h=>by simpa using h
 have hq:((k==2)=true/\hn0=b.length)\/((k==2)=false/\(k==3)=true/\hn0=b.length)\/((k==2)=false/\(k==3)=false/\(k==4)=true/\hn0=l.length)\/((k==2)=false/\(k==3)=false/\(k==4)=false/\hn0=n):=by
  rcases hkc with⟨e,h⟩ | ⟨e,h⟩ | ⟨e,h⟩ | ⟨k2,k3,k4,h⟩
  ·exact .inl ⟨by rw[e];rfl,h⟩
  ·exact .inr (.inl ⟨by rw[e];rfl,by rw[e];rfl,h⟩)
  ·exact .inr (.inr (.inl ⟨by rw[e];rfl,by rw[e];rfl,by rw[e];rfl,h⟩))
  ·exact .inr (.inr (.inr ⟨hne2 k2,hne3 k3,hne4 k4,h⟩))
 clear hkc
 rcases hbc with rfl|⟨c1,b1,rfl⟩
 ·rcases hq with⟨q2,hh⟩ | ⟨q2,q3,hh⟩ | ⟨q2,q3,q4,hh⟩ | ⟨q2,q3,q4,hh⟩
  all_goals
   rw[hh]at hW
   clear hh
   refine Zl Tryz.func180 rfl Tryz.ntmps180 rfl rfl ?_
   repeat'(first|rw[eb]|rw[el]|(apply Zb (hW);kernel_rfl;(iterate 4 exact Z))|(apply Zi Za;exact Z)|(apply Zg Za;exact Z)|(apply Zu Za;exact Z)|refine Zd Z Qt ?_|refine Zf Z Qt ?_|refine Zt Za Z Z Z Z ?_|(apply Zn 5 ZF;decide +kernel;kernel_rfl;kernel_rfl;kernel_rfl;exact Z;exact Z)|(apply Zr;(iterate 4 exact Z))|exact AE.nil _ _ _ _|(apply Zw;exact Z)|(apply ZS;exact Z)|(apply ZA;exact Z;exact Z;decide +kernel;exact Z)|(apply ZB;exact Z)|(apply Ya;exact Z)|exact AO.nil _ _ _|(apply Zq;(decide +kernel))|(apply ZM;(iterate 3 exact Z))|exact AOs.nil|exact ZG rfl rfl|exact Yw rfl rfl|refine Wg Za Z Z Z Z Z Z ?_|(apply Z4 Za;(iterate 6 exact Z);(first|with_reducible assumption|decide +kernel|exact Z|rotate_left);exact Z;exact Z;(first|exact Zm rfl|with_reducible assumption|decide +kernel|rotate_left);(first|exact Zm rfl|with_reducible assumption|decide +kernel|rotate_left);(first|exact Qt|rotate_left);(first|exact Qt|rotate_left);(first|exact Qt|rotate_left);exact Z;exact Z))
   all_goals first|(first|rfl|(simp only[List.length_append,List.length_cons,List.length_nil,List.length_map,ZD];done)|(simp only[List.length_append,List.length_cons,List.length_nil,List.length_map,ZD]at *;(try unfold maxLen);(try simp only[Nat.add_mul]);omega))|skip
   refine Yb (fun f tm bx fr=>∃(i c:Nat) (M:List E),f+i=l.length/\c=M.length/\M=L++((c0::t0)++(([]:List UInt8)++ZT (l.take i))).map E.byte/\tm=[(0,.sl (.own 0) M),(3,.ptr 0 0),(42,.sl .ext (Zx l)),(43,.int .i64 ((Zx l).length:Int)),(44,.int .i64 (i:Int))]/\bx=[itC k n ([]:List UInt8) l]/\fr=[⟨c,1,5⟩]) (l.length+1) (Lands.mk' (m:=l.length) (Nat.lt_succ_self _) ⟨0,L.length+((c0::t0).map E.byte).length,L++(c0::t0).map E.byte,rfl,by simp only[List.length_append],by simp[ZT],rfl,rfl,rfl⟩ ?_ rfl rfl rfl rfl rfl rfl) ?_
   ·exact .cons rfl (.cons rfl (.cons rfl (.cons rfl (.cons rfl .nil))))
   rintro f tm bx fr ⟨i,c,M,hf,hc,hM,rfl,rfl,rfl⟩
   subst hc
   have hU:=Wl l
   have hUM:Uni 1 M:=by rw[hM];exact hUL.append (YH _)
   have hMl:M.length=L.length+((c0::t0)++(([]:List UInt8)++ZT (l.take i))).length:=by rw[hM];simp only[List.length_append,List.length_map]
   rcases Nat.lt_or_ge i l.length with hlt|hge
   ·have hdl:decide ((i:Int)<((Zx l).length:Int))=true:=decide_eq_true (by omega)
    obtain⟨⟨k1,n1,b2,l1⟩,hy⟩:∃ y,l[i]?=some y:=⟨_,List.getElem?_eq_getElem hlt⟩
    have hv:(Zx l)[((i:Nat):Int).toNat]?=some (.agg [.int .i64 k1,.int .u64 (n1:Int),.sl (b2.map E.byte),.sl (Zx l1)]):=by
     rw[Int.toNat_natCast,Yu,List.getElem?_map,hy];rfl
    have hmem:=List.mem_of_getElem? hy
    have hps:=W8 hy
    have hpl:=W9 l (i+1)
    have hps2:=congrArg List.length hps
    rw[List.length_append]at hps2
    have hc:=ih _ hmem (YM hws _ hmem) (Qq hos _ hmem) M _ rfl hUM (by simp only[List.length_append]at hMl hlim;omega)
    have ei:IntKind.i64.wrap ((i:Int)+1)=((i+1:Nat):Int):=by rw[IntWalk.i64_in _ (by omega)];omega
    repeat'(first|rw[ei]|(apply Zo [] [0] (hc);kernel_rfl;(iterate 10 exact Z))|(apply Zi Za;exact Z)|(apply Zg Za;exact Z)|refine Zd Z Qt ?_|(apply ZC Za;(iterate 6 exact Z);(first|exact Qt|rotate_left);(first|with_reducible assumption|decide +kernel|exact Z);(first|exact Zm rfl|with_reducible assumption|decide +kernel|rotate_left)))
    refine Lands.mk' (m:=f-1) (by omega) ⟨i+1,M.length+(Z0 (.mk k1 n1 b2 l1)).length,M++(Z0 (.mk k1 n1 b2 l1)).map E.byte,by omega,by simp only[List.length_append,List.length_map],by rw[hM,hps];simp,rfl,rfl,rfl⟩ ?_ rfl rfl rfl rfl rfl rfl
    exact .cons rfl (.cons rfl (.cons rfl (.cons rfl (.cons rfl .nil))))
   ·have hdl:decide ((i:Int)<((Zx l).length:Int))=false:=decide_eq_false (by omega)
    rw[List.take_of_length_le hge]at hM hMl
    repeat'(first|(apply Zg Za;exact Z)|refine Zf Z Qt ?_)
    all_goals(apply U7 [] [0];(apply Zc Za;exact Z);(iterate 7 exact Z))
    ·rw[hM];rfl
    ·rfl
    ·rw[hMl];rfl
 ·rcases hq with⟨q2,hh⟩ | ⟨q2,q3,hh⟩ | ⟨q2,q3,q4,hh⟩ | ⟨q2,q3,q4,hh⟩
  all_goals
   rw[hh]at hW
   clear hh
   refine Zl Tryz.func180 rfl Tryz.ntmps180 rfl rfl ?_
   repeat'(first|rw[eb]|rw[el]|(apply Zb (hW);kernel_rfl;(iterate 4 exact Z))|(apply Zi Za;exact Z)|(apply Zg Za;exact Z)|(apply Zu Za;exact Z)|refine Zd Z Qt ?_|refine Zf Z Qt ?_|refine Zt Za Z Z Z Z ?_|(apply Zn 5 ZF;decide +kernel;kernel_rfl;kernel_rfl;kernel_rfl;exact Z;exact Z)|(apply Zr;(iterate 4 exact Z))|exact AE.nil _ _ _ _|(apply Zw;exact Z)|(apply ZS;exact Z)|(apply ZA;exact Z;exact Z;decide +kernel;exact Z)|(apply ZB;exact Z)|(apply Ya;exact Z)|exact AO.nil _ _ _|(apply Zq;(decide +kernel))|(apply ZM;(iterate 3 exact Z))|exact AOs.nil|exact ZG rfl rfl|exact Yw rfl rfl|(apply Z4 Za;(iterate 6 exact Z);(first|with_reducible assumption|decide +kernel|exact Z|rotate_left);exact Z;exact Z;(first|exact Zm rfl|with_reducible assumption|decide +kernel|rotate_left);(first|exact Zm rfl|with_reducible assumption|decide +kernel|rotate_left);(first|exact Qt|rotate_left);(first|exact Qt|rotate_left);(first|exact Qt|rotate_left);exact Z;exact Z))
   all_goals first|(first|rfl|(simp only[List.length_append,List.length_cons,List.length_nil,List.length_map,ZD];done)|(simp only[List.length_append,List.length_cons,List.length_nil,List.length_map,ZD]at *;(try unfold maxLen);(try simp only[Nat.add_mul]);omega))|skip
   refine Yb (fun f tm bx fr=>∃(i c:Nat) (M:List E),f+i=l.length/\c=M.length/\M=L++((c0::t0)++((c1::b1)++ZT (l.take i))).map E.byte/\tm=[(0,.sl (.own 0) M),(3,.ptr 0 0),(42,.sl .ext (Zx l)),(43,.int .i64 ((Zx l).length:Int)),(44,.int .i64 (i:Int))]/\bx=[itC k n (c1::b1) l]/\fr=[⟨c,1,5⟩]) (l.length+1) (Lands.mk' (m:=l.length) (Nat.lt_succ_self _) ⟨0,(L++(c0::t0).map E.byte).length+((c1::b1).map E.byte).length,(L++(c0::t0).map E.byte)++(c1::b1).map E.byte,rfl,by simp only[List.length_append],by simp[ZT],rfl,rfl,rfl⟩ ?_ rfl rfl rfl rfl rfl rfl) ?_
   ·exact .cons rfl (.cons rfl (.cons rfl (.cons rfl (.cons rfl .nil))))
   rintro f tm bx fr ⟨i,c,M,hf,hc,hM,rfl,rfl,rfl⟩
   subst hc
   have hU:=Wl l
   have hUM:Uni 1 M:=by rw[hM];exact hUL.append (YH _)
   have hMl:M.length=L.length+((c0::t0)++((c1::b1)++ZT (l.take i))).length:=by rw[hM];simp only[List.length_append,List.length_map]
   rcases Nat.lt_or_ge i l.length with hlt|hge
   ·have hdl:decide ((i:Int)<((Zx l).length:Int))=true:=decide_eq_true (by omega)
    obtain⟨⟨k1,n1,b2,l1⟩,hy⟩:∃ y,l[i]?=some y:=⟨_,List.getElem?_eq_getElem hlt⟩
    have hv:(Zx l)[((i:Nat):Int).toNat]?=some (.agg [.int .i64 k1,.int .u64 (n1:Int),.sl (b2.map E.byte),.sl (Zx l1)]):=by
     rw[Int.toNat_natCast,Yu,List.getElem?_map,hy];rfl
    have hmem:=List.mem_of_getElem? hy
    have hps:=W8 hy
    have hpl:=W9 l (i+1)
    have hps2:=congrArg List.length hps
    rw[List.length_append]at hps2
    have hc:=ih _ hmem (YM hws _ hmem) (Qq hos _ hmem) M _ rfl hUM (by simp only[List.length_append]at hMl hlim;omega)
    have ei:IntKind.i64.wrap ((i:Int)+1)=((i+1:Nat):Int):=by rw[IntWalk.i64_in _ (by omega)];omega
    repeat'(first|rw[ei]|(apply Zo [] [0] (hc);kernel_rfl;(iterate 10 exact Z))|(apply Zi Za;exact Z)|(apply Zg Za;exact Z)|refine Zd Z Qt ?_|(apply ZC Za;(iterate 6 exact Z);(first|exact Qt|rotate_left);(first|with_reducible assumption|decide +kernel|exact Z);(first|exact Zm rfl|with_reducible assumption|decide +kernel|rotate_left)))
    refine Lands.mk' (m:=f-1) (by omega) ⟨i+1,M.length+(Z0 (.mk k1 n1 b2 l1)).length,M++(Z0 (.mk k1 n1 b2 l1)).map E.byte,by omega,by simp only[List.length_append,List.length_map],by rw[hM,hps];simp,rfl,rfl,rfl⟩ ?_ rfl rfl rfl rfl rfl rfl
    exact .cons rfl (.cons rfl (.cons rfl (.cons rfl (.cons rfl .nil))))
   ·have hdl:decide ((i:Int)<((Zx l).length:Int))=false:=decide_eq_false (by omega)
    rw[List.take_of_length_le hge]at hM hMl
    repeat'(first|(apply Zg Za;exact Z)|refine Zf Z Qt ?_)
    all_goals(apply U7 [] [0];(apply Zc Za;exact Z);(iterate 7 exact Z))
    ·rw[hM];rfl
    ·rfl
    ·rw[hMl];rfl
theorem Ip [Known](x:It)(hw:wfI x)(ho:okx x)(hlim:(Z0 x).length<=140737488353280):AT Tryz.prog 180 [.sl .nil [],itD x] [] [] (.sl (.own 0) ((Z0 x).map E.byte)) [] [⟨(Z0 x).length,1,5⟩]:=by
 obtain⟨k,n,b,l⟩:=x
 obtain⟨hn,hb,hl,hws⟩:=hw
 obtain⟨hk7,hos⟩:=ho
 have hlen:=ZD l
 have hr:Ye (k,(It.mk k n b l).hn,false)=true:=by simp[Ye];exact hk7
 have hhn:(It.mk k n b l).hn<18446744073709551616:=by simp only[It.hn];(repeat' split)<;>omega
 have hput:Z0 (.mk k n b l)=Z8 (k,(It.mk k n b l).hn,false)++(b++ZT l):=by rw[Z0,if_pos hr]
 rw[hput]at hlim ⊢
 have hW:=Gp (k,(It.mk k n b l).hn,false) hhn
 rw[if_pos hr,if_pos hr]at hW
 obtain⟨c0,t0,hcw⟩:=XG (k,(It.mk k n b l).hn,false)
 rw[hcw]at hW hlim ⊢
 have hU0:=YH (c0::t0)
 have hU1:=YH b
 have eb:IntKind.u64.wrap (((b.map E.byte).length:Nat):Int)=((b.length:Nat):Int):=by rw[List.length_map,IntKind.wrap_u64];omega
 have el:IntKind.u64.wrap (((Zx l).length:Nat):Int)=((l.length:Nat):Int):=by rw[hlen,IntKind.wrap_u64];omega
 have hS:∀(i:Nat),IntKind.i64.wrap ((i:Int)+1)=((i+1:Nat):Int)\/2199023255488<i:=fun i=>by
  rcases Nat.lt_or_ge 2199023255488 i with h|h
  ·exact .inr h
  ·left;rw[IntWalk.i64_in _ (by omega)];omega
 have hkc:(k=2/\(It.mk k n b l).hn=b.length)\/(k=3/\(It.mk k n b l).hn=b.length)\/(k=4/\(It.mk k n b l).hn=l.length)\/(k ≠ 2/\k ≠ 3/\k ≠ 4/\(It.mk k n b l).hn=n):=by
  by_cases h2:k=2
  ·subst h2;exact .inl ⟨rfl,rfl⟩
  by_cases h3:k=3
  ·subst h3;exact .inr (.inl ⟨rfl,rfl⟩)
  by_cases h4:k=4
  ·subst h4;exact .inr (.inr (.inl ⟨rfl,rfl⟩))
  ·exact .inr (.inr (.inr ⟨h2,h3,h4,by simp[It.hn,h2,h3,h4]⟩))
 clear hhn hr hcw hput
 generalize (It.mk k n b l).hn=hn0 at hkc hW
 have hbc:b=[]\/∃ c1 b1,b=c1::b1:=by cases b<;>simp
 have hne2:k ≠ 2->(k==2)=false:=fun h=>by simpa using h
 have hne3:k ≠ 3->(k==3)=false:=fun h=>by simpa using h
 have hne4:k ≠ 4->(k==4)=false:=fun h=>by simpa using h
 have hq:((k==2)=true/\hn0=b.length)\/((k==2)=false/\(k==3)=true/\hn0=b.length)\/((k==2)=false/\(k==3)=false/\(k==4)=true/\hn0=l.length)\/((k==2)=false/\(k==3)=false/\(k==4)=false/\hn0=n):=by
  rcases hkc with⟨e,h⟩ | ⟨e,h⟩ | ⟨e,h⟩ | ⟨k2,k3,k4,h⟩
  ·exact .inl ⟨by rw[e];rfl,h⟩
  ·exact .inr (.inl ⟨by rw[e];rfl,by rw[e];rfl,h⟩)
  ·exact .inr (.inr (.inl ⟨by rw[e];rfl,by rw[e];rfl,by rw[e];rfl,h⟩))
  ·exact .inr (.inr (.inr ⟨hne2 k2,hne3 k3,hne4 k4,h⟩))
 clear hkc
 rcases hbc with rfl|⟨c1,b1,rfl⟩
 ·rcases hq with⟨q2,hh⟩ | ⟨q2,q3,hh⟩ | ⟨q2,q3,q4,hh⟩ | ⟨q2,q3,q4,hh⟩
  all_goals
   rw[hh]at hW
   clear hh
   refine Zl Tryz.func180 rfl Tryz.ntmps180 rfl rfl ?_
   repeat'(first|rw[eb]|rw[el]|(apply Zb (hW);kernel_rfl;(iterate 4 exact Z))|(apply Zi Za;exact Z)|(apply Zg Za;exact Z)|(apply Zu Za;exact Z)|refine Zd Z Qt ?_|refine Zf Z Qt ?_|refine Zt Za Z Z Z Z ?_|(apply Zn 5 ZF;decide +kernel;kernel_rfl;kernel_rfl;kernel_rfl;exact Z;exact Z)|(apply Zr;(iterate 4 exact Z))|exact AE.nil _ _ _ _|(apply Zw;exact Z)|(apply ZS;exact Z)|(apply ZA;exact Z;exact Z;decide +kernel;exact Z)|(apply ZB;exact Z)|(apply Ya;exact Z)|exact AO.nil _ _ _|(apply Zq;(decide +kernel))|(apply ZM;(iterate 3 exact Z))|exact AOs.nil|exact ZG rfl rfl|exact Yw rfl rfl|refine Wg Za Z Z Z Z Z Z ?_|(apply Vv Za;(iterate 6 exact Z);(first|exact Zm rfl|with_reducible assumption|decide +kernel|rotate_left);(first|exact Qt|rotate_left);(first|exact Qt|rotate_left);(first|exact Qt|rotate_left);(iterate 3 exact Z)))
   all_goals first|(first|rfl|(simp only[List.length_append,List.length_cons,List.length_nil,List.length_map,ZD];done)|(simp only[List.length_append,List.length_cons,List.length_nil,List.length_map,ZD]at *;(try unfold maxLen);(try simp only[Nat.add_mul]);omega))|skip
   refine Yb (fun f tm bx fr=>∃(i c:Nat) (M:List E),f+i=l.length/\c=M.length/\M=((c0::t0)++(([]:List UInt8)++ZT (l.take i))).map E.byte/\tm=[(0,.sl (.own 0) M),(3,.ptr 0 0),(42,.sl .ext (Zx l)),(43,.int .i64 ((Zx l).length:Int)),(44,.int .i64 (i:Int))]/\bx=[itC k n ([]:List UInt8) l]/\fr=[⟨c,1,5⟩]) (l.length+1) (Lands.mk' (m:=l.length) (Nat.lt_succ_self _) ⟨0,((c0::t0).map E.byte).length,(c0::t0).map E.byte,rfl,by simp only[List.length_append],by simp[ZT],rfl,rfl,rfl⟩ ?_ rfl rfl rfl rfl rfl rfl) ?_
   ·exact .cons rfl (.cons rfl (.cons rfl (.cons rfl (.cons rfl .nil))))
   rintro f tm bx fr ⟨i,c,M,hf,hc,hM,rfl,rfl,rfl⟩
   subst hc
   have hU:=Wl l
   have hUM:Uni 1 M:=by rw[hM];exact YH _
   have hMl:M.length=((c0::t0)++(([]:List UInt8)++ZT (l.take i))).length:=by rw[hM];simp only[List.length_append,List.length_map]
   rcases Nat.lt_or_ge i l.length with hlt|hge
   ·have hdl:decide ((i:Int)<((Zx l).length:Int))=true:=decide_eq_true (by omega)
    obtain⟨⟨k1,n1,b2,l1⟩,hy⟩:∃ y,l[i]?=some y:=⟨_,List.getElem?_eq_getElem hlt⟩
    have hv:(Zx l)[((i:Nat):Int).toNat]?=some (.agg [.int .i64 k1,.int .u64 (n1:Int),.sl (b2.map E.byte),.sl (Zx l1)]):=by
     rw[Int.toNat_natCast,Yu,List.getElem?_map,hy];rfl
    have hmem:=List.mem_of_getElem? hy
    have hps:=W8 hy
    have hpl:=W9 l (i+1)
    have hps2:=congrArg List.length hps
    rw[List.length_append]at hps2
    have hc:=Tk _ (YM hws _ hmem) (Qq hos _ hmem) M _ rfl hUM (by simp only[List.length_append]at hMl hlim;omega)
    have ei:IntKind.i64.wrap ((i:Int)+1)=((i+1:Nat):Int):=by rw[IntWalk.i64_in _ (by omega)];omega
    repeat'(first|rw[ei]|(apply Zo [] [0] (hc);kernel_rfl;(iterate 10 exact Z))|(apply Zi Za;exact Z)|(apply Zg Za;exact Z)|refine Zd Z Qt ?_|(apply ZC Za;(iterate 6 exact Z);(first|exact Qt|rotate_left);(first|with_reducible assumption|decide +kernel|exact Z);(first|exact Zm rfl|with_reducible assumption|decide +kernel|rotate_left)))
    refine Lands.mk' (m:=f-1) (by omega) ⟨i+1,M.length+(Z0 (.mk k1 n1 b2 l1)).length,M++(Z0 (.mk k1 n1 b2 l1)).map E.byte,by omega,by simp only[List.length_append,List.length_map],by rw[hM,hps];simp,rfl,rfl,rfl⟩ ?_ rfl rfl rfl rfl rfl rfl
    exact .cons rfl (.cons rfl (.cons rfl (.cons rfl (.cons rfl .nil))))
   ·have hdl:decide ((i:Int)<((Zx l).length:Int))=false:=decide_eq_false (by omega)
    rw[List.take_of_length_le hge]at hM hMl
    repeat'(first|(apply Zg Za;exact Z)|refine Zf Z Qt ?_)
    all_goals(apply U7 [] [0];(apply Zc Za;exact Z);(iterate 7 exact Z))
    ·rw[hM];rfl
    ·rfl
    ·rw[hMl];rfl
 ·rcases hq with⟨q2,hh⟩ | ⟨q2,q3,hh⟩ | ⟨q2,q3,q4,hh⟩ | ⟨q2,q3,q4,hh⟩
  all_goals
   rw[hh]at hW
   clear hh
   refine Zl Tryz.func180 rfl Tryz.ntmps180 rfl rfl ?_
   repeat'(first|rw[eb]|rw[el]|(apply Zb (hW);kernel_rfl;(iterate 4 exact Z))|(apply Zi Za;exact Z)|(apply Zg Za;exact Z)|(apply Zu Za;exact Z)|refine Zd Z Qt ?_|refine Zf Z Qt ?_|refine Zt Za Z Z Z Z ?_|(apply Zn 5 ZF;decide +kernel;kernel_rfl;kernel_rfl;kernel_rfl;exact Z;exact Z)|(apply Zr;(iterate 4 exact Z))|exact AE.nil _ _ _ _|(apply Zw;exact Z)|(apply ZS;exact Z)|(apply ZA;exact Z;exact Z;decide +kernel;exact Z)|(apply ZB;exact Z)|(apply Ya;exact Z)|exact AO.nil _ _ _|(apply Zq;(decide +kernel))|(apply ZM;(iterate 3 exact Z))|exact AOs.nil|exact ZG rfl rfl|exact Yw rfl rfl|(apply Z4 Za;(iterate 6 exact Z);(first|with_reducible assumption|decide +kernel|exact Z|rotate_left);exact Z;exact Z;(first|exact Zm rfl|with_reducible assumption|decide +kernel|rotate_left);(first|exact Zm rfl|with_reducible assumption|decide +kernel|rotate_left);(first|exact Qt|rotate_left);(first|exact Qt|rotate_left);(first|exact Qt|rotate_left);exact Z;exact Z)|(apply Vv Za;(iterate 6 exact Z);(first|exact Zm rfl|with_reducible assumption|decide +kernel|rotate_left);(first|exact Qt|rotate_left);(first|exact Qt|rotate_left);(first|exact Qt|rotate_left);(iterate 3 exact Z)))
   all_goals first|(first|rfl|(simp only[List.length_append,List.length_cons,List.length_nil,List.length_map,ZD];done)|(simp only[List.length_append,List.length_cons,List.length_nil,List.length_map,ZD]at *;(try unfold maxLen);(try simp only[Nat.add_mul]);omega))|skip
   refine Yb (fun f tm bx fr=>∃(i c:Nat) (M:List E),f+i=l.length/\c=M.length/\M=((c0::t0)++((c1::b1)++ZT (l.take i))).map E.byte/\tm=[(0,.sl (.own 0) M),(3,.ptr 0 0),(42,.sl .ext (Zx l)),(43,.int .i64 ((Zx l).length:Int)),(44,.int .i64 (i:Int))]/\bx=[itC k n (c1::b1) l]/\fr=[⟨c,1,5⟩]) (l.length+1) (Lands.mk' (m:=l.length) (Nat.lt_succ_self _) ⟨0,((c0::t0).map E.byte).length+((c1::b1).map E.byte).length,((c0::t0).map E.byte)++(c1::b1).map E.byte,rfl,by simp only[List.length_append],by simp[ZT],rfl,rfl,rfl⟩ ?_ rfl rfl rfl rfl rfl rfl) ?_
   ·exact .cons rfl (.cons rfl (.cons rfl (.cons rfl (.cons rfl .nil))))
   rintro f tm bx fr ⟨i,c,M,hf,hc,hM,rfl,rfl,rfl⟩
   subst hc
   have hU:=Wl l
   have hUM:Uni 1 M:=by rw[hM];exact YH _
   have hMl:M.length=((c0::t0)++((c1::b1)++ZT (l.take i))).length:=by rw[hM];simp only[List.length_append,List.length_map]
   rcases Nat.lt_or_ge i l.length with hlt|hge
   ·have hdl:decide ((i:Int)<((Zx l).length:Int))=true:=decide_eq_true (by omega)
    obtain⟨⟨k1,n1,b2,l1⟩,hy⟩:∃ y,l[i]?=some y:=⟨_,List.getElem?_eq_getElem hlt⟩
    have hv:(Zx l)[((i:Nat):Int).toNat]?=some (.agg [.int .i64 k1,.int .u64 (n1:Int),.sl (b2.map E.byte),.sl (Zx l1)]):=by
     rw[Int.toNat_natCast,Yu,List.getElem?_map,hy];rfl
    have hmem:=List.mem_of_getElem? hy
    have hps:=W8 hy
    have hpl:=W9 l (i+1)
    have hps2:=congrArg List.length hps
    rw[List.length_append]at hps2
    have hc:=Tk _ (YM hws _ hmem) (Qq hos _ hmem) M _ rfl hUM (by simp only[List.length_append]at hMl hlim;omega)
    have ei:IntKind.i64.wrap ((i:Int)+1)=((i+1:Nat):Int):=by rw[IntWalk.i64_in _ (by omega)];omega
    repeat'(first|rw[ei]|(apply Zo [] [0] (hc);kernel_rfl;(iterate 10 exact Z))|(apply Zi Za;exact Z)|(apply Zg Za;exact Z)|refine Zd Z Qt ?_|(apply ZC Za;(iterate 6 exact Z);(first|exact Qt|rotate_left);(first|with_reducible assumption|decide +kernel|exact Z);(first|exact Zm rfl|with_reducible assumption|decide +kernel|rotate_left)))
    refine Lands.mk' (m:=f-1) (by omega) ⟨i+1,M.length+(Z0 (.mk k1 n1 b2 l1)).length,M++(Z0 (.mk k1 n1 b2 l1)).map E.byte,by omega,by simp only[List.length_append,List.length_map],by rw[hM,hps];simp,rfl,rfl,rfl⟩ ?_ rfl rfl rfl rfl rfl rfl
    exact .cons rfl (.cons rfl (.cons rfl (.cons rfl (.cons rfl .nil))))
   ·have hdl:decide ((i:Int)<((Zx l).length:Int))=false:=decide_eq_false (by omega)
    rw[List.take_of_length_le hge]at hM hMl
    repeat'(first|(apply Zg Za;exact Z)|refine Zf Z Qt ?_)
    all_goals(apply U7 [] [0];(apply Zc Za;exact Z);(iterate 7 exact Z))
    ·rw[hM];rfl
    ·rfl
    ·rw[hMl];rfl
theorem OD [Known][KnownU8](x:It)(hw:wfI x)(hlim:(Z0 x).length<=140737488353280)(hR:AP Tryz.prog 164 [itD x] (.bool (ZV x)) []):AP Tryz.prog 151 [itD x] (.tup [byE (if ZV x then Z0 x else []),.int .i64 (if ZV x then 0 else 3)]) []:=by
 cases hr:ZV x with
 | false=>
  rw[hr]at hR
  obtain⟨k,n,b,l⟩:=x
  refine AP.ofA (Zl Tryz.func151 Z Tryz.ntmps151 Z Z ?_)
  repeat'(first|(apply Zb (hR);kernel_rfl;(iterate 4 exact Z))|(apply Zi Za;exact Z)|(apply Zg Za;exact Z)|(apply Zu Za;exact Z)|refine Zd Z Qt ?_)
  all_goals exact Qe
 | true=>
  rw[hr]at hR
  have hp:=Ip x hw (OC hr) hlim
  obtain⟨k,n,b,l⟩:=x
  refine AP.ofA (Zl Tryz.func151 Z Tryz.ntmps151 Z Z ?_)
  repeat'(first|(apply Zb (hR);kernel_rfl;(iterate 4 exact Z))|(apply Zo [] [] (hp);kernel_rfl;(iterate 10 exact Z))|(apply Zi Za;exact Z)|(apply Zg Za;exact Z)|(apply Zu Za;exact Z)|refine Zf Z Qt ?_)
  all_goals exact Qe
end Go.Proofs.YtkdpfkjlheajhaaGreatDoor
end
section
open Go.RowKit Go.Pl Go.Av
namespace Go.Proofs.YtkdpfkjlheajhaaGreatDoor
set_option maxHeartbeats 4000000
theorem Sp {s:List UInt8}{e:Nat}(h:rdS s=.error e):e ≠ 0:=by
 cases s with
 | nil=>simp only[rdS,Except.error.injEq]at h;omega
 | cons c r=>
  simp only[rdS]at h
  repeat' split at h
  all_goals(cases h;try omega)
theorem OE {p:Hd}{s:List UInt8}{e:Nat}(h:WJ p s=.error e):e ≠ 0:=by
 simp only[WJ]at h
 repeat' split at h
 all_goals(cases h;try omega)
theorem Tl (m:Int):∀(f:Nat) (acc s:List UInt8) (e:Nat),Ko m f acc s=.error e->e ≠ 0
 | 0,_,_,e,h=>by simp only[Ko,Except.error.injEq]at h;omega
 | f+1,acc,s,e,h=>by
  rw[Ko]at h
  cases hb:QY s<;>rw[hb]at h
  ·cases hr:rdS s with
   | error c=>rw[hr]at h;dsimp only at h;simp only[Except.error.injEq]at h;exact h ▸ Sp hr
   | ok y=>
    obtain⟨p,r⟩:=y
    rw[hr]at h;dsimp only at h
    split at h
    ·cases hp:WJ p r with
     | error c=>rw[hp]at h;dsimp only at h;simp only[Except.error.injEq]at h;exact h ▸ OE hp
     | ok z=>rw[hp]at h;exact Tl m f _ _ e h
    ·simp only[Except.error.injEq]at h;omega
  ·exact nomatch h
theorem Gu {it:Nat->List UInt8->Res (It × List UInt8 × Nat)}(hi:∀ m s e,it m s=.error e->e ≠ 0):∀(f:Nat) (acc:List It) (m:Nat) (s:List UInt8) (e:Nat),QZ it f acc m s=.error e->e ≠ 0
 | 0,_,_,_,_,h=>nomatch h
 | f+1,acc,m,s,e,h=>by
  rw[QZ]at h
  cases hr:it m s with
  | error c=>rw[hr]at h;dsimp only at h;simp only[Except.error.injEq]at h;exact h ▸ hi _ _ _ hr
  | ok y=>obtain⟨x,r,m'⟩:=y;rw[hr]at h;exact Gu hi f _ _ _ e h
theorem Gv {it:Nat->List UInt8->Res (It × List UInt8 × Nat)}(hi:∀ m s e,it m s=.error e->e ≠ 0):∀(f:Nat) (acc:List It) (m:Nat) (s:List UInt8) (e:Nat),Kp it f acc m s=.error e->e ≠ 0
 | 0,_,_,_,e,h=>by simp only[Kp,Except.error.injEq]at h;omega
 | f+1,acc,m,s,e,h=>by
  rw[Kp]at h
  cases hb:QY s<;>rw[hb]at h
  ·cases hr:it m s with
   | error c=>rw[hr]at h;dsimp only at h;simp only[Except.error.injEq]at h;exact h ▸ hi _ _ _ hr
   | ok y=>obtain⟨x,r,m'⟩:=y;rw[hr]at h;exact Gv hi f _ _ _ e h
  ·exact nomatch h
theorem Mi {it:Nat->List UInt8->Res (It × List UInt8 × Nat)}(hi:∀ m s e,it m s=.error e->e ≠ 0){p:Hd}{m:Nat}{r:List UInt8}{e:Nat}(h:WV it p m r=.error e):e ≠ 0:=by
 have h1:∀ e,Ju p r=.error e->e ≠ 0:=by
  intro e h;simp only[Ju]at h
  split at h
  ·exact Tl _ _ _ _ _ h
  ·exact OE h
 have h2:∀ e,Kq it p m r=.error e->e ≠ 0:=by
  intro e h;simp only[Kq]at h
  split at h
  ·exact Gv hi _ _ _ _ _ h
  ·split at h
   ·exact Gu hi _ _ _ _ _ h
   ·cases h;omega
 simp only[WV]at h
 repeat' split at h
 all_goals first
  | (cases h;done)
  | (rename_i hq;cases h;exact h1 _ hq)
  | (rename_i hq;cases h;exact h2 _ hq)
theorem JB:∀(d m:Nat) (s:List UInt8) (e:Nat),Yl d m s=.error e->e ≠ 0
 | 0,m,s,e,h=>by
  rw[Yl]at h
  cases hr:rdS s with
  | error c=>rw[hr]at h;dsimp only at h;simp only[Except.error.injEq]at h;exact h ▸ Sp hr
  | ok y=>
   obtain⟨p,r⟩:=y
   rw[hr]at h;dsimp only at h
   split at h<;>(simp only[Except.error.injEq]at h;omega)
 | d+1,m,s,e,h=>by
  rw[Yl]at h
  cases hr:rdS s with
  | error c=>rw[hr]at h;dsimp only at h;simp only[Except.error.injEq]at h;exact h ▸ Sp hr
  | ok y=>
   obtain⟨p,r⟩:=y
   rw[hr]at h;dsimp only at h
   split at h
   ·simp only[Except.error.injEq]at h;omega
   ·split at h
    ·simp only[Except.error.injEq]at h;omega
    ·exact Mi (JB d) h
theorem Iq [Known][KnownU8](b:List UInt8)(hb:b.length<=140737488351232):AP Tryz.prog 234 [byE b] (.bool (W4 b)) []:=by
 have hR:=KA b 0 (by omega)
 have e:YU b 0=match Yl 6 256 b with
   | .error e=>(.mk 0 0 [] [],0,e)
   | .ok (x,r,_)=>(x,b.length-r.length,0):=by rw[YU,if_neg (by omega)];rfl
 rw[e]at hR
 unfold W4
 cases hx:Yl 6 256 b with
 | error c=>
  rw[hx]at hR
  dsimp only
  have hc:((c:Int)==0)=false:=by
   have h0:=JB _ _ _ _ hx
   rw[<- Bool.not_eq_true,beq_iff_eq];omega
  replace hR:AP Tryz.prog _ _ (.tup [itD (.mk 0 0 [] []),.int .i64 0,.int .i64 (c:Int)]) []:=hR
  refine AP.ofA (Zl Tryz.func234 Z Tryz.ntmps234 Z Z ?_)
  repeat'(first|rw[hc]|(apply Zb (hR);kernel_rfl;(iterate 4 exact Z))|(apply Zi Za;exact Z)|(apply Zg Za;exact Z)|refine Zv Z Z Z Qt ?_|refine Zj Z Qt Z Z ?_)
  all_goals exact Qe
 | ok y=>
  obtain⟨⟨k1,n1,b1,l1⟩,r,m1⟩:=y
  rw[hx]at hR
  replace hR:AP Tryz.prog _ _ (.tup [itD (.mk k1 n1 b1 l1),.int .i64 ((b.length-r.length:Nat):Int),.int .i64 0]) []:=hR
  obtain⟨hwk,hwf,pre,hpre,_,hlen⟩:=Jw 6 (Nat.le_refl _) _ _ _ _ _ hx (by omega)
  have hle:=hlen.2
  have hpl:=congrArg List.length hpre
  rw[List.length_append]at hpl
  have hP:=Ip (.mk k1 n1 b1 l1) hwf (KB hwk) (by omega)
  have hB:=Wn (Z0 (.mk k1 n1 b1 l1)) b
  have hn:(((b.length-r.length:Nat):Int)==((b.map E.byte).length:Int))=r.isEmpty:=by
   rw[List.length_map]
   cases r with
   | nil=>simp
   | cons c r=>simp at hpl ⊢;omega
  dsimp only
  cases hr:r.isEmpty
  all_goals
   rw[hr]at hn
   refine AP.ofA (Zl Tryz.func234 Z Tryz.ntmps234 Z Z ?_)
   repeat'(first|rw[hn]|(apply Zb (hR);kernel_rfl;(iterate 4 exact Z))|(apply Zo [] [] (hP);kernel_rfl;(iterate 10 exact Z))|(apply Zb (hB);kernel_rfl;(iterate 4 exact Z))|(apply Zi Za;exact Z)|(apply Zg Za;exact Z)|refine Ze Z Z Z Qt ?_|refine Zv Z Z Z Qt ?_|refine Zk Z Qt Z Z ?_|refine Zj Z Qt Z Z ?_|refine Zt Za Z Z Z Z ?_)
   all_goals exact Qe
theorem T8 [Known][KnownU8](x:It)(hw:wfI x)(hr:ZV x=true)(hlim:(Z0 x).length<=140737488353280):AT Tryz.prog 151 [itD x] [] [] (.tup [.sl (.own 0) ((Z0 x).map E.byte),.int .i64 0]) [] [⟨(Z0 x).length,1,5⟩]:=by
 have hR:=Wu x hw
 rw[hr]at hR
 have hp:=Ip x hw (OC hr) hlim
 obtain⟨k,n,b,l⟩:=x
 refine Zl Tryz.func151 rfl Tryz.ntmps151 rfl rfl ?_
 repeat'(first|(apply Zb (hR);kernel_rfl;(iterate 4 exact Z))|(apply Zo [] [] (hp);kernel_rfl;(iterate 10 exact Z))|(apply Zi Za;exact Z)|(apply Zg Za;exact Z)|(apply Zu Za;exact Z)|refine Zf Z Qt ?_)
 all_goals(apply U7 [] [0];(apply Zc Za;exact Z);(iterate 7 exact Z))
 all_goals rfl
theorem Mj {x:It}(hw:wfI x)(hr:ZV x=true)(r:List UInt8):Yl 6 256 (Z0 x++r)=.ok (x,r,((Wt x 1 256).getD 0)):=by
 unfold ZV at hr
 cases h:Wt x 1 256 with
 | none=>rw[h]at hr;cases hr
 | some m=>exact Kt x 6 256 m r hw (Nat.le_refl _) h
theorem Gw [Known][KnownU8](x:It)(hw:wfI x)(hlim:(Z0 x).length<=140737488353280)(hr:ZV x=true):AP Tryz.prog 151 [itD x] (.tup [byE (Z0 x),.int .i64 0]) []:=by
 have h:=OD x hw hlim (Wu x hw)
 rw[hr]at h
 exact h
theorem Hl (x:It)(hw:wfI x)(hr:ZV x=true):∃ c t,Z0 x=c::t:=by
 cases hp:Z0 x with
 | cons c t=>exact⟨c,t,rfl⟩
 | nil=>
  have h:=Mj hw hr []
  rw[hp]at h
  have e:Yl 6 256 []=.error 8:=rfl
  rw[List.append_nil,e]at h
  cases h
end Go.Proofs.YtkdpfkjlheajhaaGreatDoor
end
section
open Go.RowKit Go.Pl Go.Av
namespace Go.Proofs.YtkdpfkjlheajhaaGreatDoor
mutual
def VM:It->Nat
 | .mk _ _ _ l=>1+Vg l
def Vg:List It->Nat
 | []=>0
 | x::l=>VM x+Vg l
end
mutual
def OF:It->Bool
 | .mk k n b l=>V0 k n b l&&KC l
def KC:List It->Bool
 | []=>true
 | x::l=>OF x&&KC l
end
mutual
theorem Gx:∀(x:It) (d m:Nat),Wt x d m=if UE x (7-d)=true/\VM x<=m/\OF x=true then some (m-VM x) else none
 | .mk k n b l,d,m=>by
  rw[Wt]
  split
  ·rename_i h
   rw[if_neg]
   rintro⟨h1,_⟩
   rw[show 7-d=0 by omega,UE]at h1
   cases h1
  rename_i hd
  rw[show 7-d=(7-(d+1))+1 by omega,UE,VM,OF]
  split
  ·rename_i h
   rw[if_neg]
   rintro⟨_,h1,_⟩
   omega
  rename_i hm
  cases ho:V0 k n b l with
  | false=>
   dsimp only
   rw[if_neg]
   rintro⟨_,_,h1⟩
   simp at h1
  | true=>
   dsimp only
   rw[OG l (d+1) (m-1),Bool.true_and]
   by_cases h:Ui l (7-(d+1))=true/\Vg l<=m-1/\KC l=true
   ·rw[if_pos h,if_pos ⟨h.1,by omega,h.2.2⟩]
    congr 1;omega
   ·rw[if_neg h,if_neg]
    exact fun⟨a,b,c⟩=>h ⟨a,by omega,c⟩
theorem OG:∀(l:List It) (d m:Nat),YL l d m=if Ui l (7-d)=true/\Vg l<=m/\KC l=true then some (m-Vg l) else none
 | [],d,m=>by rw[YL,if_pos ⟨by rw[Ui],by rw[Vg];omega,by rw[KC]⟩,Vg];rfl
 | x::l,d,m=>by
  rw[YL,Gx x d m,Ui,Vg,KC]
  by_cases h:UE x (7-d)=true/\VM x<=m/\OF x=true
  ·rw[if_pos h]
   dsimp only
   rw[OG l d (m-VM x),h.1,h.2.2,Bool.true_and,Bool.true_and]
   by_cases h2:Ui l (7-d)=true/\Vg l<=m-VM x/\KC l=true
   ·rw[if_pos h2,if_pos ⟨h2.1,by omega,h2.2.2⟩]
    congr 1;omega
   ·rw[if_neg h2,if_neg]
    exact fun⟨a,b,c⟩=>h2 ⟨a,by omega,c⟩
  ·rw[if_neg h]
   dsimp only
   rw[if_neg]
   rintro⟨a,b,c⟩
   rw[Bool.and_eq_true]at a c
   exact h ⟨a.1,by omega,c.1⟩
end
theorem T9 (x:It):ZV x=(UE x 6&&(decide (VM x<=256)&&OF x)):=by
 unfold ZV
 rw[Gx]
 split
 ·rename_i h
  obtain⟨a,b,c⟩:=h
  rw[show 7-1=6 from rfl]at a
  simp[a,b,c]
 ·rename_i h
  rw[show 7-1=6 from rfl]at h
  show false=_
  cases h2:(UE x 6&&(decide (VM x<=256)&&OF x)) with
  | false=>rfl
  | true=>
   simp only[Bool.and_eq_true,decide_eq_true_eq]at h2
   exact absurd ⟨h2.1,h2.2.1,h2.2.2⟩ h
mutual
theorem Hm:∀(x:It) (d e:Nat),UE x d=true->d<=e->UE x e=true
 | .mk k n b l,0,e,h,_=>by rw[UE]at h;cases h
 | .mk k n b l,d+1,0,h,hle=>by omega
 | .mk k n b l,d+1,e+1,h,hle=>by
  rw[UE]at h ⊢
  exact KD l d e h (by omega)
theorem KD:∀(l:List It) (d e:Nat),Ui l d=true->d<=e->Ui l e=true
 | [],_,_,_,_=>by rw[Ui]
 | x::l,d,e,h,hle=>by
  rw[Ui,Bool.and_eq_true]at h ⊢
  exact⟨Hm x d e h.1 hle,KD l d e h.2 hle⟩
end
mutual
theorem Hn:∀(x:It) (d:Nat) (m:Int),0<=Wi x d m->(VM x:Int)=m-Wi x d m
 | .mk k n b l,d,m,h=>by
  rw[Wi]at h ⊢
  split at h
  ·omega
  split at h
  ·omega
  rename_i h1 h2
  rw[if_neg h1,if_neg h2,VM]
  have:=XH l (d+1) (m-1) h
  omega
theorem XH:∀(l:List It) (d:Nat) (m:Int),0<=WK l d m->(Vg l:Int)=m-WK l d m
 | [],d,m,h=>by rw[WK,Vg];omega
 | x::l,d,m,h=>by
  rw[WK]at h ⊢
  split at h
  ·omega
  rename_i h1
  rw[if_neg h1,Vg]
  have h0:0<=Wi x d m:=by
   rcases Int.lt_or_le (Wi x d m) 0 with hlt|hge
   ·have:=QK l d (Wi x d m) (by have:=QJ x d m (by omega);omega);omega
   ·exact hge
  have a:=Hn x d m h0
  have b:=XH l d _ h
  omega
end
end Go.Proofs.YtkdpfkjlheajhaaGreatDoor
end
section
open Go.RowKit Go.Pl Go.Av
namespace Go.Proofs.YtkdpfkjlheajhaaGreatDoor
set_option maxHeartbeats 4000000
theorem KE (b:List UInt8)(hb:b.length<=140737488351232):(∃ e:Nat,e ≠ 0/\YU b 0=(.mk 0 0 [] [],0,e)/\W4 b=false)\/(∃(y:It) (n:Nat),YU b 0=(y,n,0)/\wfI y/\ZV y=true/\n<=b.length):=by
 have e:YU b 0=match Yl 6 256 b with
   | .error e=>(.mk 0 0 [] [],0,e)
   | .ok (x,r,_)=>(x,b.length-r.length,0):=by rw[YU,if_neg (by omega)];rfl
 unfold W4
 rw[e]
 cases hx:Yl 6 256 b with
 | error c=>exact .inl ⟨c,JB _ _ _ _ hx,rfl,rfl⟩
 | ok y=>
  obtain⟨y,r,m1⟩:=y
  obtain⟨hwk,hwf,pre,hpre,_,_⟩:=Jw 6 (Nat.le_refl _) _ _ _ _ _ hx (by omega)
  refine .inr ⟨y,b.length-r.length,rfl,hwf,?_,by omega⟩
  have hwk:Wt y 1 256=some m1:=hwk
  unfold ZV;rw[hwk];rfl
theorem OH (b:List UInt8)(hb:b.length<4294967296):(∃ e:Nat,e ≠ 0/\YU b 0=(.mk 0 0 [] [],0,e)/\W4 b=false)\/(∃(y:It) (n:Nat),YU b 0=(y,n,0)/\wfI y/\ZV y=true/\(Z0 y).length<=n/\n<=b.length):=by
 have e:YU b 0=match Yl 6 256 b with
   | .error e=>(.mk 0 0 [] [],0,e)
   | .ok (x,r,_)=>(x,b.length-r.length,0):=by rw[YU,if_neg (by omega)];rfl
 unfold W4
 rw[e]
 cases hx:Yl 6 256 b with
 | error c=>exact .inl ⟨c,JB _ _ _ _ hx,rfl,rfl⟩
 | ok y=>
  obtain⟨y,r,m1⟩:=y
  obtain⟨hwk,hwf,pre,hpre,_,hlen⟩:=Jw 6 (Nat.le_refl _) _ _ _ _ _ hx (by omega)
  have hle:=hlen.1 ⟨Nat.le_refl _,hb⟩
  have hpl:=congrArg List.length hpre
  rw[List.length_append]at hpl
  refine .inr ⟨y,b.length-r.length,rfl,hwf,?_,by omega,by omega⟩
  have hwk:Wt y 1 256=some m1:=hwk
  unfold ZV;rw[hwk];rfl
end Go.Proofs.YtkdpfkjlheajhaaGreatDoor
end

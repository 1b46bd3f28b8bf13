/- Items: their bytes. -/
import Derived.Test.YtmljabhmajehnaaGreatDoorT12
import Derived.Test.YtmljabhmajehnaaGreatDoorT16
import Derived.Test.YtmljabhmajehnaaGreatDoorT18
import Derived.Test.YtmljabhmajehnaaGreatDoorT15
set_option linter.unusedVariables false
set_option linter.unusedSimpArgs false
section
open Go.RowKit Go.Pl Go.Av
namespace Go.Proofs.YtmljabhmajehnaaGreatDoor
set_option maxHeartbeats 4000000
mutual
def okx:It->Prop
 | .mk k _ _ l=>(0<=k/\k<=7)/\Mh l
def Mh:List It->Prop
 | []=>True
 | x::l=>okx x/\Mh l
end
theorem UH:∀ {l:List It},Mh l->∀ y ∈ l,okx y
 | x::l,⟨h1,h2⟩,y,hy=>by
  rcases List.mem_cons.1 hy with rfl|hy
  ·exact h1
  ·exact UH h2 y hy
mutual
theorem J8:∀ {x:It} {d m m':Nat},YS x d m=some m'->okx x
 | .mk k n b l,d,m,m',h=>by
  obtain⟨_,_,h3,h4⟩:=VZ h
  exact⟨JL h3,Kh h4⟩
theorem Kh:∀ {l:List It} {d m m':Nat},Yf l d m=some m'->Mh l
 | [],d,m,m',h=>trivial
 | x::l,d,m,m',h=>by
  obtain⟨m1,h1,h2⟩:=Wp h
  exact⟨J8 h1,Kh h2⟩
end
theorem Ki {x:It}(h:ZG x=true):okx x:=by
 unfold ZG at h
 cases hw:YS x 1 256 with
 | none=>rw[hw]at h;cases h
 | some m=>exact J8 hw
theorem Jy (h:Hd):∃ c t,ZV h=c::t:=by
 unfold ZV
 split
 ·exact⟨_,_,rfl⟩
 ·exact⟨_,_,rfl⟩
theorem WG {l:List It}{i:Nat}{y:It}(hy:l[i]?=some y):ZI (l.take (i+1))=ZI (l.take i)++ZH y:=by
 rw[List.take_add_one,hy,UG]
 simp[ZI]
theorem WH (l:List It)(i:Nat):(ZI (l.take i)).length<=(ZI l).length:=by
 have h:=congrArg List.length (UG (l.take i) (l.drop i))
 rw[List.take_append_drop,List.length_append]at h
 omega
theorem GB [Known]:∀(x:It),wfI x->okx x->∀(L:List E) (c:Nat),c=L.length->Uni 1 L->L.length+(ZH x).length<=140737488353280->AT Tryz.prog 114 [.sl (.own 0) L,itD x] [] [⟨c,1,5⟩] (.sl (.own 0) (L++(ZH x).map E.byte)) [] [⟨c+(ZH x).length,1,5⟩]:=by
 refine It.ind fun k n b l ih hw ho L c hc hUL hlim=>?_
 subst hc
 obtain⟨hn,hb,hl,hws⟩:=hw
 obtain⟨hk7,hos⟩:=ho
 have hlen:=Zw l
 have hr:Z5 (k,(It.mk k n b l).hn,false)=true:=by simp[Z5];exact hk7
 have hhn:(It.mk k n b l).hn<18446744073709551616:=by simp only[It.hn];(repeat' split)<;>omega
 have hput:ZH (.mk k n b l)=ZV (k,(It.mk k n b l).hn,false)++(b++ZI l):=by rw[ZH,if_pos hr]
 rw[hput]at hlim ⊢
 have hW:=ON (k,(It.mk k n b l).hn,false) hhn
 rw[if_pos hr,if_pos hr]at hW
 obtain⟨c0,t0,hcw⟩:=Jy (k,(It.mk k n b l).hn,false)
 rw[hcw]at hW hlim ⊢
 have hU0:=YR (c0::t0)
 have hU1:=YR b
 have hU01:Uni 1 (L++(c0::t0).map E.byte):=hUL.append hU0
 have eb:IntKind.u64.wrap (((b.map E.byte).length:Nat):Int)=((b.length:Nat):Int):=by rw[List.length_map,IntKind.wrap_u64];omega
 have el:IntKind.u64.wrap (((Zt l).length:Nat):Int)=((l.length:Nat):Int):=by rw[hlen,IntKind.wrap_u64];omega
 have hS:∀(i:Nat),IntKind.i64.wrap ((i:Int)+1)=((i+1:Nat):Int)\/2199023255488<i:=fun i=>by
  rcases Nat.lt_or_ge 2199023255488 i with h|h
  ·exact .inr h
  ·left;rw[IntWalk.i64_in _ (by omega)];omega
 have hkc:(k=2/\(It.mk k n b l).hn=b.length)\/(k=3/\(It.mk k n b l).hn=b.length)\/(k=4/\(It.mk k n b l).hn=l.length)\/(k ≠ 2/\k ≠ 3/\k ≠ 4/\(It.mk k n b l).hn=n):=by
  by_cases h2:k=2
  ·subst h2;exact .inl ⟨rfl,rfl⟩
  by_cases h3:k=3
  ·subst h3;exact .inr (.inl ⟨rfl,rfl⟩)
  by_cases h4:k=4
  ·subst h4;exact .inr (.inr (.inl ⟨rfl,rfl⟩))
  ·exact .inr (.inr (.inr ⟨h2,h3,h4,by simp[It.hn,h2,h3,h4]⟩))
 clear hhn hr hcw hput
 generalize (It.mk k n b l).hn=hn0 at hkc hW
 have hbc:b=[]\/∃ c1 b1,b=c1::b1:=by cases b<;>simp
 have hne2:k ≠ 2->(k==2)=false:=fun h=>by simpa using h
 have hne3:k ≠ 3->(k==3)=false:=fun h=>by simpa using h
 have hne4:k ≠ 4->(k==4)=false:=fun h=>by simpa using h
 have hq:((k==2)=true/\hn0=b.length)\/((k==2)=false/\(k==3)=true/\hn0=b.length)\/((k==2)=false/\(k==3)=false/\(k==4)=true/\hn0=l.length)\/((k==2)=false/\(k==3)=false/\(k==4)=false/\hn0=n):=by
  rcases hkc with⟨e,h⟩ | ⟨e,h⟩ | ⟨e,h⟩ | ⟨k2,k3,k4,h⟩
  ·exact .inl ⟨by rw[e];rfl,h⟩
  ·exact .inr (.inl ⟨by rw[e];rfl,by rw[e];rfl,h⟩)
  ·exact .inr (.inr (.inl ⟨by rw[e];rfl,by rw[e];rfl,by rw[e];rfl,h⟩))
  ·exact .inr (.inr (.inr ⟨hne2 k2,hne3 k3,hne4 k4,h⟩))
 clear hkc
 rcases hbc with rfl|⟨c1,b1,rfl⟩
 ·rcases hq with⟨q2,hh⟩ | ⟨q2,q3,hh⟩ | ⟨q2,q3,q4,hh⟩ | ⟨q2,q3,q4,hh⟩
  all_goals
   rw[hh]at hW
   clear hh
   refine Zk Tryz.func114 rfl Tryz.ntmps114 rfl rfl ?_
   repeat'(first|rw[eb]|rw[el]|(apply Zb (hW);kernel_rfl;(iterate 4 exact Z))|(apply Zh Za;exact Z)|(apply Ze Za;exact Z)|(apply Zq Za;exact Z)|refine Zd Z Qt ?_|refine Zf Z Qt ?_|refine Zm Za Z Z Z Z ?_|(apply Zn 5 ZF;decide +kernel;kernel_rfl;kernel_rfl;kernel_rfl;exact Z;exact Z)|(apply Zs;(iterate 4 exact Z))|exact AE.nil _ _ _ _|(apply Zx;exact Z)|(apply Ye;exact Z)|(apply ZA;exact Z;exact Z;decide +kernel;exact Z)|(apply ZB;exact Z)|(apply Yu;exact Z)|exact AO.nil _ _ _|(apply Zr;(decide +kernel))|(apply Z4;(iterate 3 exact Z))|exact AOs.nil|exact ZM rfl rfl|exact Y4 rfl rfl|refine Y8 Za Z Z Z Z Z Z ?_|(apply Z1 Za;(iterate 6 exact Z);(first|with_reducible assumption|decide +kernel|exact Z|rotate_left);exact Z;exact Z;(first|exact Zj rfl|with_reducible assumption|decide +kernel|rotate_left);(first|exact Zj rfl|with_reducible assumption|decide +kernel|rotate_left);(first|exact Qt|rotate_left);(first|exact Qt|rotate_left);(first|exact Qt|rotate_left);exact Z;exact Z))
   all_goals first|(first|rfl|(simp only[List.length_append,List.length_cons,List.length_nil,List.length_map,Zw];done)|(simp only[List.length_append,List.length_cons,List.length_nil,List.length_map,Zw]at *;(try unfold maxLen);(try simp only[Nat.add_mul]);omega))|skip
   refine ZW (fun f tm bx fr=>∃(i c:Nat) (M:List E),f+i=l.length/\c=M.length/\M=L++((c0::t0)++(([]:List UInt8)++ZI (l.take i))).map E.byte/\tm=[(0,.sl (.own 0) M),(3,.ptr 0 0),(42,.sl .ext (Zt l)),(43,.int .i64 ((Zt l).length:Int)),(44,.int .i64 (i:Int))]/\bx=[itC k n ([]:List UInt8) l]/\fr=[⟨c,1,5⟩]) (l.length+1) (Lands.mk' (m:=l.length) (Nat.lt_succ_self _) ⟨0,L.length+((c0::t0).map E.byte).length,L++(c0::t0).map E.byte,rfl,by simp only[List.length_append],by simp[ZI],rfl,rfl,rfl⟩ ?_ rfl rfl rfl rfl rfl rfl) ?_
   ·exact .cons rfl (.cons rfl (.cons rfl (.cons rfl (.cons rfl .nil))))
   rintro f tm bx fr ⟨i,c,M,hf,hc,hM,rfl,rfl,rfl⟩
   subst hc
   have hU:=YW l
   have hUM:Uni 1 M:=by rw[hM];exact hUL.append (YR _)
   have hMl:M.length=L.length+((c0::t0)++(([]:List UInt8)++ZI (l.take i))).length:=by rw[hM];simp only[List.length_append,List.length_map]
   rcases Nat.lt_or_ge i l.length with hlt|hge
   ·have hdl:decide ((i:Int)<((Zt l).length:Int))=true:=decide_eq_true (by omega)
    obtain⟨⟨k1,n1,b2,l1⟩,hy⟩:∃ y,l[i]?=some y:=⟨_,List.getElem?_eq_getElem hlt⟩
    have hv:(Zt l)[((i:Nat):Int).toNat]?=some (.agg [.int .i64 k1,.int .u64 (n1:Int),.sl (b2.map E.byte),.sl (Zt l1)]):=by
     rw[Int.toNat_natCast,Yd,List.getElem?_map,hy];rfl
    have hmem:=List.mem_of_getElem? hy
    have hps:=WG hy
    have hpl:=WH l (i+1)
    have hps2:=congrArg List.length hps
    rw[List.length_append]at hps2
    have hc:=ih _ hmem (Yr hws _ hmem) (UH hos _ hmem) M _ rfl hUM (by simp only[List.length_append]at hMl hlim;omega)
    have ei:IntKind.i64.wrap ((i:Int)+1)=((i+1:Nat):Int):=by rw[IntWalk.i64_in _ (by omega)];omega
    repeat'(first|rw[ei]|(apply Yz [] [0] (hc);kernel_rfl;(iterate 10 exact Z))|(apply Zh Za;exact Z)|(apply Ze Za;exact Z)|refine Zd Z Qt ?_|(apply Zu Za;(iterate 6 exact Z);(first|exact Qt|rotate_left);(first|with_reducible assumption|decide +kernel|exact Z);(first|exact Zj rfl|with_reducible assumption|decide +kernel|rotate_left)))
    refine Lands.mk' (m:=f-1) (by omega) ⟨i+1,M.length+(ZH (.mk k1 n1 b2 l1)).length,M++(ZH (.mk k1 n1 b2 l1)).map E.byte,by omega,by simp only[List.length_append,List.length_map],by rw[hM,hps];simp,rfl,rfl,rfl⟩ ?_ rfl rfl rfl rfl rfl rfl
    exact .cons rfl (.cons rfl (.cons rfl (.cons rfl (.cons rfl .nil))))
   ·have hdl:decide ((i:Int)<((Zt l).length:Int))=false:=decide_eq_false (by omega)
    rw[List.take_of_length_le hge]at hM hMl
    repeat'(first|(apply Ze Za;exact Z)|refine Zf Z Qt ?_)
    all_goals(apply KQ [] [0];(apply Zc Za;exact Z);(iterate 7 exact Z))
    ·rw[hM];rfl
    ·rfl
    ·rw[hMl];rfl
 ·rcases hq with⟨q2,hh⟩ | ⟨q2,q3,hh⟩ | ⟨q2,q3,q4,hh⟩ | ⟨q2,q3,q4,hh⟩
  all_goals
   rw[hh]at hW
   clear hh
   refine Zk Tryz.func114 rfl Tryz.ntmps114 rfl rfl ?_
   repeat'(first|rw[eb]|rw[el]|(apply Zb (hW);kernel_rfl;(iterate 4 exact Z))|(apply Zh Za;exact Z)|(apply Ze Za;exact Z)|(apply Zq Za;exact Z)|refine Zd Z Qt ?_|refine Zf Z Qt ?_|refine Zm Za Z Z Z Z ?_|(apply Zn 5 ZF;decide +kernel;kernel_rfl;kernel_rfl;kernel_rfl;exact Z;exact Z)|(apply Zs;(iterate 4 exact Z))|exact AE.nil _ _ _ _|(apply Zx;exact Z)|(apply Ye;exact Z)|(apply ZA;exact Z;exact Z;decide +kernel;exact Z)|(apply ZB;exact Z)|(apply Yu;exact Z)|exact AO.nil _ _ _|(apply Zr;(decide +kernel))|(apply Z4;(iterate 3 exact Z))|exact AOs.nil|exact ZM rfl rfl|exact Y4 rfl rfl|(apply Z1 Za;(iterate 6 exact Z);(first|with_reducible assumption|decide +kernel|exact Z|rotate_left);exact Z;exact Z;(first|exact Zj rfl|with_reducible assumption|decide +kernel|rotate_left);(first|exact Zj rfl|with_reducible assumption|decide +kernel|rotate_left);(first|exact Qt|rotate_left);(first|exact Qt|rotate_left);(first|exact Qt|rotate_left);exact Z;exact Z))
   all_goals first|(first|rfl|(simp only[List.length_append,List.length_cons,List.length_nil,List.length_map,Zw];done)|(simp only[List.length_append,List.length_cons,List.length_nil,List.length_map,Zw]at *;(try unfold maxLen);(try simp only[Nat.add_mul]);omega))|skip
   refine ZW (fun f tm bx fr=>∃(i c:Nat) (M:List E),f+i=l.length/\c=M.length/\M=L++((c0::t0)++((c1::b1)++ZI (l.take i))).map E.byte/\tm=[(0,.sl (.own 0) M),(3,.ptr 0 0),(42,.sl .ext (Zt l)),(43,.int .i64 ((Zt l).length:Int)),(44,.int .i64 (i:Int))]/\bx=[itC k n (c1::b1) l]/\fr=[⟨c,1,5⟩]) (l.length+1) (Lands.mk' (m:=l.length) (Nat.lt_succ_self _) ⟨0,(L++(c0::t0).map E.byte).length+((c1::b1).map E.byte).length,(L++(c0::t0).map E.byte)++(c1::b1).map E.byte,rfl,by simp only[List.length_append],by simp[ZI],rfl,rfl,rfl⟩ ?_ rfl rfl rfl rfl rfl rfl) ?_
   ·exact .cons rfl (.cons rfl (.cons rfl (.cons rfl (.cons rfl .nil))))
   rintro f tm bx fr ⟨i,c,M,hf,hc,hM,rfl,rfl,rfl⟩
   subst hc
   have hU:=YW l
   have hUM:Uni 1 M:=by rw[hM];exact hUL.append (YR _)
   have hMl:M.length=L.length+((c0::t0)++((c1::b1)++ZI (l.take i))).length:=by rw[hM];simp only[List.length_append,List.length_map]
   rcases Nat.lt_or_ge i l.length with hlt|hge
   ·have hdl:decide ((i:Int)<((Zt l).length:Int))=true:=decide_eq_true (by omega)
    obtain⟨⟨k1,n1,b2,l1⟩,hy⟩:∃ y,l[i]?=some y:=⟨_,List.getElem?_eq_getElem hlt⟩
    have hv:(Zt l)[((i:Nat):Int).toNat]?=some (.agg [.int .i64 k1,.int .u64 (n1:Int),.sl (b2.map E.byte),.sl (Zt l1)]):=by
     rw[Int.toNat_natCast,Yd,List.getElem?_map,hy];rfl
    have hmem:=List.mem_of_getElem? hy
    have hps:=WG hy
    have hpl:=WH l (i+1)
    have hps2:=congrArg List.length hps
    rw[List.length_append]at hps2
    have hc:=ih _ hmem (Yr hws _ hmem) (UH hos _ hmem) M _ rfl hUM (by simp only[List.length_append]at hMl hlim;omega)
    have ei:IntKind.i64.wrap ((i:Int)+1)=((i+1:Nat):Int):=by rw[IntWalk.i64_in _ (by omega)];omega
    repeat'(first|rw[ei]|(apply Yz [] [0] (hc);kernel_rfl;(iterate 10 exact Z))|(apply Zh Za;exact Z)|(apply Ze Za;exact Z)|refine Zd Z Qt ?_|(apply Zu Za;(iterate 6 exact Z);(first|exact Qt|rotate_left);(first|with_reducible assumption|decide +kernel|exact Z);(first|exact Zj rfl|with_reducible assumption|decide +kernel|rotate_left)))
    refine Lands.mk' (m:=f-1) (by omega) ⟨i+1,M.length+(ZH (.mk k1 n1 b2 l1)).length,M++(ZH (.mk k1 n1 b2 l1)).map E.byte,by omega,by simp only[List.length_append,List.length_map],by rw[hM,hps];simp,rfl,rfl,rfl⟩ ?_ rfl rfl rfl rfl rfl rfl
    exact .cons rfl (.cons rfl (.cons rfl (.cons rfl (.cons rfl .nil))))
   ·have hdl:decide ((i:Int)<((Zt l).length:Int))=false:=decide_eq_false (by omega)
    rw[List.take_of_length_le hge]at hM hMl
    repeat'(first|(apply Ze Za;exact Z)|refine Zf Z Qt ?_)
    all_goals(apply KQ [] [0];(apply Zc Za;exact Z);(iterate 7 exact Z))
    ·rw[hM];rfl
    ·rfl
    ·rw[hMl];rfl
theorem KY [Known](x:It)(hw:wfI x)(ho:okx x)(hlim:(ZH x).length<=140737488353280):AT Tryz.prog 114 [.sl .nil [],itD x] [] [] (.sl (.own 0) ((ZH x).map E.byte)) [] [⟨(ZH x).length,1,5⟩]:=by
 obtain⟨k,n,b,l⟩:=x
 obtain⟨hn,hb,hl,hws⟩:=hw
 obtain⟨hk7,hos⟩:=ho
 have hlen:=Zw l
 have hr:Z5 (k,(It.mk k n b l).hn,false)=true:=by simp[Z5];exact hk7
 have hhn:(It.mk k n b l).hn<18446744073709551616:=by simp only[It.hn];(repeat' split)<;>omega
 have hput:ZH (.mk k n b l)=ZV (k,(It.mk k n b l).hn,false)++(b++ZI l):=by rw[ZH,if_pos hr]
 rw[hput]at hlim ⊢
 have hW:=ON (k,(It.mk k n b l).hn,false) hhn
 rw[if_pos hr,if_pos hr]at hW
 obtain⟨c0,t0,hcw⟩:=Jy (k,(It.mk k n b l).hn,false)
 rw[hcw]at hW hlim ⊢
 have hU0:=YR (c0::t0)
 have hU1:=YR b
 have eb:IntKind.u64.wrap (((b.map E.byte).length:Nat):Int)=((b.length:Nat):Int):=by rw[List.length_map,IntKind.wrap_u64];omega
 have el:IntKind.u64.wrap (((Zt l).length:Nat):Int)=((l.length:Nat):Int):=by rw[hlen,IntKind.wrap_u64];omega
 have hS:∀(i:Nat),IntKind.i64.wrap ((i:Int)+1)=((i+1:Nat):Int)\/2199023255488<i:=fun i=>by
  rcases Nat.lt_or_ge 2199023255488 i with h|h
  ·exact .inr h
  ·left;rw[IntWalk.i64_in _ (by omega)];omega
 have hkc:(k=2/\(It.mk k n b l).hn=b.length)\/(k=3/\(It.mk k n b l).hn=b.length)\/(k=4/\(It.mk k n b l).hn=l.length)\/(k ≠ 2/\k ≠ 3/\k ≠ 4/\(It.mk k n b l).hn=n):=by
  by_cases h2:k=2
  ·subst h2;exact .inl ⟨rfl,rfl⟩
  by_cases h3:k=3
  ·subst h3;exact .inr (.inl ⟨rfl,rfl⟩)
  by_cases h4:k=4
  ·subst h4;exact .inr (.inr (.inl ⟨rfl,rfl⟩))
  ·exact .inr (.inr (.inr ⟨h2,h3,h4,by simp[It.hn,h2,h3,h4]⟩))
 clear hhn hr hcw hput
 generalize (It.mk k n b l).hn=hn0 at hkc hW
 have hbc:b=[]\/∃ c1 b1,b=c1::b1:=by cases b<;>simp
 have hne2:k ≠ 2->(k==2)=false:=fun h=>by simpa using h
 have hne3:k ≠ 3->(k==3)=false:=fun h=>by simpa using h
 have hne4:k ≠ 4->(k==4)=false:=fun h=>by simpa using h
 have hq:((k==2)=true/\hn0=b.length)\/((k==2)=false/\(k==3)=true/\hn0=b.length)\/((k==2)=false/\(k==3)=false/\(k==4)=true/\hn0=l.length)\/((k==2)=false/\(k==3)=false/\(k==4)=false/\hn0=n):=by
  rcases hkc with⟨e,h⟩ | ⟨e,h⟩ | ⟨e,h⟩ | ⟨k2,k3,k4,h⟩
  ·exact .inl ⟨by rw[e];rfl,h⟩
  ·exact .inr (.inl ⟨by rw[e];rfl,by rw[e];rfl,h⟩)
  ·exact .inr (.inr (.inl ⟨by rw[e];rfl,by rw[e];rfl,by rw[e];rfl,h⟩))
  ·exact .inr (.inr (.inr ⟨hne2 k2,hne3 k3,hne4 k4,h⟩))
 clear hkc
 rcases hbc with rfl|⟨c1,b1,rfl⟩
 ·rcases hq with⟨q2,hh⟩ | ⟨q2,q3,hh⟩ | ⟨q2,q3,q4,hh⟩ | ⟨q2,q3,q4,hh⟩
  all_goals
   rw[hh]at hW
   clear hh
   refine Zk Tryz.func114 rfl Tryz.ntmps114 rfl rfl ?_
   repeat'(first|rw[eb]|rw[el]|(apply Zb (hW);kernel_rfl;(iterate 4 exact Z))|(apply Zh Za;exact Z)|(apply Ze Za;exact Z)|(apply Zq Za;exact Z)|refine Zd Z Qt ?_|refine Zf Z Qt ?_|refine Zm Za Z Z Z Z ?_|(apply Zn 5 ZF;decide +kernel;kernel_rfl;kernel_rfl;kernel_rfl;exact Z;exact Z)|(apply Zs;(iterate 4 exact Z))|exact AE.nil _ _ _ _|(apply Zx;exact Z)|(apply Ye;exact Z)|(apply ZA;exact Z;exact Z;decide +kernel;exact Z)|(apply ZB;exact Z)|(apply Yu;exact Z)|exact AO.nil _ _ _|(apply Zr;(decide +kernel))|(apply Z4;(iterate 3 exact Z))|exact AOs.nil|exact ZM rfl rfl|exact Y4 rfl rfl|refine Y8 Za Z Z Z Z Z Z ?_|(apply W0 Za;(iterate 6 exact Z);(first|exact Zj rfl|with_reducible assumption|decide +kernel|rotate_left);(first|exact Qt|rotate_left);(first|exact Qt|rotate_left);(first|exact Qt|rotate_left);(iterate 3 exact Z)))
   all_goals first|(first|rfl|(simp only[List.length_append,List.length_cons,List.length_nil,List.length_map,Zw];done)|(simp only[List.length_append,List.length_cons,List.length_nil,List.length_map,Zw]at *;(try unfold maxLen);(try simp only[Nat.add_mul]);omega))|skip
   refine ZW (fun f tm bx fr=>∃(i c:Nat) (M:List E),f+i=l.length/\c=M.length/\M=((c0::t0)++(([]:List UInt8)++ZI (l.take i))).map E.byte/\tm=[(0,.sl (.own 0) M),(3,.ptr 0 0),(42,.sl .ext (Zt l)),(43,.int .i64 ((Zt l).length:Int)),(44,.int .i64 (i:Int))]/\bx=[itC k n ([]:List UInt8) l]/\fr=[⟨c,1,5⟩]) (l.length+1) (Lands.mk' (m:=l.length) (Nat.lt_succ_self _) ⟨0,((c0::t0).map E.byte).length,(c0::t0).map E.byte,rfl,by simp only[List.length_append],by simp[ZI],rfl,rfl,rfl⟩ ?_ rfl rfl rfl rfl rfl rfl) ?_
   ·exact .cons rfl (.cons rfl (.cons rfl (.cons rfl (.cons rfl .nil))))
   rintro f tm bx fr ⟨i,c,M,hf,hc,hM,rfl,rfl,rfl⟩
   subst hc
   have hU:=YW l
   have hUM:Uni 1 M:=by rw[hM];exact YR _
   have hMl:M.length=((c0::t0)++(([]:List UInt8)++ZI (l.take i))).length:=by rw[hM];simp only[List.length_append,List.length_map]
   rcases Nat.lt_or_ge i l.length with hlt|hge
   ·have hdl:decide ((i:Int)<((Zt l).length:Int))=true:=decide_eq_true (by omega)
    obtain⟨⟨k1,n1,b2,l1⟩,hy⟩:∃ y,l[i]?=some y:=⟨_,List.getElem?_eq_getElem hlt⟩
    have hv:(Zt l)[((i:Nat):Int).toNat]?=some (.agg [.int .i64 k1,.int .u64 (n1:Int),.sl (b2.map E.byte),.sl (Zt l1)]):=by
     rw[Int.toNat_natCast,Yd,List.getElem?_map,hy];rfl
    have hmem:=List.mem_of_getElem? hy
    have hps:=WG hy
    have hpl:=WH l (i+1)
    have hps2:=congrArg List.length hps
    rw[List.length_append]at hps2
    have hc:=GB _ (Yr hws _ hmem) (UH hos _ hmem) M _ rfl hUM (by simp only[List.length_append]at hMl hlim;omega)
    have ei:IntKind.i64.wrap ((i:Int)+1)=((i+1:Nat):Int):=by rw[IntWalk.i64_in _ (by omega)];omega
    repeat'(first|rw[ei]|(apply Yz [] [0] (hc);kernel_rfl;(iterate 10 exact Z))|(apply Zh Za;exact Z)|(apply Ze Za;exact Z)|refine Zd Z Qt ?_|(apply Zu Za;(iterate 6 exact Z);(first|exact Qt|rotate_left);(first|with_reducible assumption|decide +kernel|exact Z);(first|exact Zj rfl|with_reducible assumption|decide +kernel|rotate_left)))
    refine Lands.mk' (m:=f-1) (by omega) ⟨i+1,M.length+(ZH (.mk k1 n1 b2 l1)).length,M++(ZH (.mk k1 n1 b2 l1)).map E.byte,by omega,by simp only[List.length_append,List.length_map],by rw[hM,hps];simp,rfl,rfl,rfl⟩ ?_ rfl rfl rfl rfl rfl rfl
    exact .cons rfl (.cons rfl (.cons rfl (.cons rfl (.cons rfl .nil))))
   ·have hdl:decide ((i:Int)<((Zt l).length:Int))=false:=decide_eq_false (by omega)
    rw[List.take_of_length_le hge]at hM hMl
    repeat'(first|(apply Ze Za;exact Z)|refine Zf Z Qt ?_)
    all_goals(apply KQ [] [0];(apply Zc Za;exact Z);(iterate 7 exact Z))
    ·rw[hM];rfl
    ·rfl
    ·rw[hMl];rfl
 ·rcases hq with⟨q2,hh⟩ | ⟨q2,q3,hh⟩ | ⟨q2,q3,q4,hh⟩ | ⟨q2,q3,q4,hh⟩
  all_goals
   rw[hh]at hW
   clear hh
   refine Zk Tryz.func114 rfl Tryz.ntmps114 rfl rfl ?_
   repeat'(first|rw[eb]|rw[el]|(apply Zb (hW);kernel_rfl;(iterate 4 exact Z))|(apply Zh Za;exact Z)|(apply Ze Za;exact Z)|(apply Zq Za;exact Z)|refine Zd Z Qt ?_|refine Zf Z Qt ?_|refine Zm Za Z Z Z Z ?_|(apply Zn 5 ZF;decide +kernel;kernel_rfl;kernel_rfl;kernel_rfl;exact Z;exact Z)|(apply Zs;(iterate 4 exact Z))|exact AE.nil _ _ _ _|(apply Zx;exact Z)|(apply Ye;exact Z)|(apply ZA;exact Z;exact Z;decide +kernel;exact Z)|(apply ZB;exact Z)|(apply Yu;exact Z)|exact AO.nil _ _ _|(apply Zr;(decide +kernel))|(apply Z4;(iterate 3 exact Z))|exact AOs.nil|exact ZM rfl rfl|exact Y4 rfl rfl|(apply Z1 Za;(iterate 6 exact Z);(first|with_reducible assumption|decide +kernel|exact Z|rotate_left);exact Z;exact Z;(first|exact Zj rfl|with_reducible assumption|decide +kernel|rotate_left);(first|exact Zj rfl|with_reducible assumption|decide +kernel|rotate_left);(first|exact Qt|rotate_left);(first|exact Qt|rotate_left);(first|exact Qt|rotate_left);exact Z;exact Z)|(apply W0 Za;(iterate 6 exact Z);(first|exact Zj rfl|with_reducible assumption|decide +kernel|rotate_left);(first|exact Qt|rotate_left);(first|exact Qt|rotate_left);(first|exact Qt|rotate_left);(iterate 3 exact Z)))
   all_goals first|(first|rfl|(simp only[List.length_append,List.length_cons,List.length_nil,List.length_map,Zw];done)|(simp only[List.length_append,List.length_cons,List.length_nil,List.length_map,Zw]at *;(try unfold maxLen);(try simp only[Nat.add_mul]);omega))|skip
   refine ZW (fun f tm bx fr=>∃(i c:Nat) (M:List E),f+i=l.length/\c=M.length/\M=((c0::t0)++((c1::b1)++ZI (l.take i))).map E.byte/\tm=[(0,.sl (.own 0) M),(3,.ptr 0 0),(42,.sl .ext (Zt l)),(43,.int .i64 ((Zt l).length:Int)),(44,.int .i64 (i:Int))]/\bx=[itC k n (c1::b1) l]/\fr=[⟨c,1,5⟩]) (l.length+1) (Lands.mk' (m:=l.length) (Nat.lt_succ_self _) ⟨0,((c0::t0).map E.byte).length+((c1::b1).map E.byte).length,((c0::t0).map E.byte)++(c1::b1).map E.byte,rfl,by simp only[List.length_append],by simp[ZI],rfl,rfl,rfl⟩ ?_ rfl rfl rfl rfl rfl rfl) ?_
   ·exact .cons rfl (.cons rfl (.cons rfl (.cons rfl (.cons rfl .nil))))
   rintro f tm bx fr ⟨i,c,M,hf,hc,hM,rfl,rfl,rfl⟩
   subst hc
   have hU:=YW l
   have hUM:Uni 1 M:=by rw[hM];exact YR _
   have hMl:M.length=((c0::t0)++((c1::b1)++ZI (l.take i))).length:=by rw[hM];simp only[List.length_append,List.length_map]
   rcases Nat.lt_or_ge i l.length with hlt|hge
   ·have hdl:decide ((i:Int)<((Zt l).length:Int))=true:=decide_eq_true (by omega)
    obtain⟨⟨k1,n1,b2,l1⟩,hy⟩:∃ y,l[i]?=some y:=⟨_,List.getElem?_eq_getElem hlt⟩
    have hv:(Zt l)[((i:Nat):Int).toNat]?=some (.agg [.int .i64 k1,.int .u64 (n1:Int),.sl (b2.map E.byte),.sl (Zt l1)]):=by
     rw[Int.toNat_natCast,Yd,List.getElem?_map,hy];rfl
    have hmem:=List.mem_of_getElem? hy
    have hps:=WG hy
    have hpl:=WH l (i+1)
    have hps2:=congrArg List.length hps
    rw[List.length_append]at hps2
    have hc:=GB _ (Yr hws _ hmem) (UH hos _ hmem) M _ rfl hUM (by simp only[List.length_append]at hMl hlim;omega)
    have ei:IntKind.i64.wrap ((i:Int)+1)=((i+1:Nat):Int):=by rw[IntWalk.i64_in _ (by omega)];omega
    repeat'(first|rw[ei]|(apply Yz [] [0] (hc);kernel_rfl;(iterate 10 exact Z))|(apply Zh Za;exact Z)|(apply Ze Za;exact Z)|refine Zd Z Qt ?_|(apply Zu Za;(iterate 6 exact Z);(first|exact Qt|rotate_left);(first|with_reducible assumption|decide +kernel|exact Z);(first|exact Zj rfl|with_reducible assumption|decide +kernel|rotate_left)))
    refine Lands.mk' (m:=f-1) (by omega) ⟨i+1,M.length+(ZH (.mk k1 n1 b2 l1)).length,M++(ZH (.mk k1 n1 b2 l1)).map E.byte,by omega,by simp only[List.length_append,List.length_map],by rw[hM,hps];simp,rfl,rfl,rfl⟩ ?_ rfl rfl rfl rfl rfl rfl
    exact .cons rfl (.cons rfl (.cons rfl (.cons rfl (.cons rfl .nil))))
   ·have hdl:decide ((i:Int)<((Zt l).length:Int))=false:=decide_eq_false (by omega)
    rw[List.take_of_length_le hge]at hM hMl
    repeat'(first|(apply Ze Za;exact Z)|refine Zf Z Qt ?_)
    all_goals(apply KQ [] [0];(apply Zc Za;exact Z);(iterate 7 exact Z))
    ·rw[hM];rfl
    ·rfl
    ·rw[hMl];rfl
theorem Jl [Known][KnownU8](x:It)(hw:wfI x)(hlim:(ZH x).length<=140737488353280)(hR:AP Tryz.prog 113 [itD x] (.bool (ZG x)) []):AP Tryz.prog 63 [itD x] (.tup [byE (if ZG x then ZH x else []),.int .i64 (if ZG x then 0 else 3)]) []:=by
 cases hr:ZG x with
 | false=>
  rw[hr]at hR
  obtain⟨k,n,b,l⟩:=x
  refine AP.ofA (Zk Tryz.func63 Z Tryz.ntmps63 Z Z ?_)
  repeat'(first|(apply Zb (hR);kernel_rfl;(iterate 4 exact Z))|(apply Zh Za;exact Z)|(apply Ze Za;exact Z)|(apply Zq Za;exact Z)|refine Zd Z Qt ?_)
  all_goals exact Qe
 | true=>
  rw[hr]at hR
  have hp:=KY x hw (Ki hr) hlim
  obtain⟨k,n,b,l⟩:=x
  refine AP.ofA (Zk Tryz.func63 Z Tryz.ntmps63 Z Z ?_)
  repeat'(first|(apply Zb (hR);kernel_rfl;(iterate 4 exact Z))|(apply Yz [] [] (hp);kernel_rfl;(iterate 10 exact Z))|(apply Zh Za;exact Z)|(apply Ze Za;exact Z)|(apply Zq Za;exact Z)|refine Zf Z Qt ?_)
  all_goals exact Qe
end Go.Proofs.YtmljabhmajehnaaGreatDoor
end
section
open Go.RowKit Go.Pl Go.Av
namespace Go.Proofs.YtmljabhmajehnaaGreatDoor
set_option maxHeartbeats 4000000
theorem Lj {s:List UInt8}{e:Nat}(h:rdS s=.error e):e ≠ 0:=by
 cases s with
 | nil=>simp only[rdS,Except.error.injEq]at h;omega
 | cons c r=>
  simp only[rdS]at h
  repeat' split at h
  all_goals(cases h;try omega)
theorem Kj {p:Hd}{s:List UInt8}{e:Nat}(h:Wf p s=.error e):e ≠ 0:=by
 simp only[Wf]at h
 repeat' split at h
 all_goals(cases h;try omega)
theorem GC (m:Int):∀(f:Nat) (acc s:List UInt8) (e:Nat),JZ m f acc s=.error e->e ≠ 0
 | 0,_,_,e,h=>by simp only[JZ,Except.error.injEq]at h;omega
 | f+1,acc,s,e,h=>by
  rw[JZ]at h
  cases hb:Ue s<;>rw[hb]at h
  ·cases hr:rdS s with
   | error c=>rw[hr]at h;dsimp only at h;simp only[Except.error.injEq]at h;exact h ▸ Lj hr
   | ok y=>
    obtain⟨p,r⟩:=y
    rw[hr]at h;dsimp only at h
    split at h
    ·cases hp:Wf p r with
     | error c=>rw[hp]at h;dsimp only at h;simp only[Except.error.injEq]at h;exact h ▸ Kj hp
     | ok z=>rw[hp]at h;exact GC m f _ _ e h
    ·simp only[Except.error.injEq]at h;omega
  ·exact nomatch h
theorem OS {it:Nat->List UInt8->Res (It × List UInt8 × Nat)}(hi:∀ m s e,it m s=.error e->e ≠ 0):∀(f:Nat) (acc:List It) (m:Nat) (s:List UInt8) (e:Nat),U6 it f acc m s=.error e->e ≠ 0
 | 0,_,_,_,_,h=>nomatch h
 | f+1,acc,m,s,e,h=>by
  rw[U6]at h
  cases hr:it m s with
  | error c=>rw[hr]at h;dsimp only at h;simp only[Except.error.injEq]at h;exact h ▸ hi _ _ _ hr
  | ok y=>obtain⟨x,r,m'⟩:=y;rw[hr]at h;exact OS hi f _ _ _ e h
theorem OT {it:Nat->List UInt8->Res (It × List UInt8 × Nat)}(hi:∀ m s e,it m s=.error e->e ≠ 0):∀(f:Nat) (acc:List It) (m:Nat) (s:List UInt8) (e:Nat),QM it f acc m s=.error e->e ≠ 0
 | 0,_,_,_,e,h=>by simp only[QM,Except.error.injEq]at h;omega
 | f+1,acc,m,s,e,h=>by
  rw[QM]at h
  cases hb:Ue s<;>rw[hb]at h
  ·cases hr:it m s with
   | error c=>rw[hr]at h;dsimp only at h;simp only[Except.error.injEq]at h;exact h ▸ hi _ _ _ hr
   | ok y=>obtain⟨x,r,m'⟩:=y;rw[hr]at h;exact OT hi f _ _ _ e h
  ·exact nomatch h
theorem TI {it:Nat->List UInt8->Res (It × List UInt8 × Nat)}(hi:∀ m s e,it m s=.error e->e ≠ 0){p:Hd}{m:Nat}{r:List UInt8}{e:Nat}(h:Wk it p m r=.error e):e ≠ 0:=by
 have h1:∀ e,QN p r=.error e->e ≠ 0:=by
  intro e h;simp only[QN]at h
  split at h
  ·exact GC _ _ _ _ _ h
  ·exact Kj h
 have h2:∀ e,JH it p m r=.error e->e ≠ 0:=by
  intro e h;simp only[JH]at h
  split at h
  ·exact OT hi _ _ _ _ _ h
  ·split at h
   ·exact OS hi _ _ _ _ _ h
   ·cases h;omega
 simp only[Wk]at h
 repeat' split at h
 all_goals first
  | (cases h;done)
  | (rename_i hq;cases h;exact h1 _ hq)
  | (rename_i hq;cases h;exact h2 _ hq)
theorem QV:∀(d m:Nat) (s:List UInt8) (e:Nat),ZX d m s=.error e->e ≠ 0
 | 0,m,s,e,h=>by
  rw[ZX]at h
  cases hr:rdS s with
  | error c=>rw[hr]at h;dsimp only at h;simp only[Except.error.injEq]at h;exact h ▸ Lj hr
  | ok y=>
   obtain⟨p,r⟩:=y
   rw[hr]at h;dsimp only at h
   split at h<;>(simp only[Except.error.injEq]at h;omega)
 | d+1,m,s,e,h=>by
  rw[ZX]at h
  cases hr:rdS s with
  | error c=>rw[hr]at h;dsimp only at h;simp only[Except.error.injEq]at h;exact h ▸ Lj hr
  | ok y=>
   obtain⟨p,r⟩:=y
   rw[hr]at h;dsimp only at h
   split at h
   ·simp only[Except.error.injEq]at h;omega
   ·split at h
    ·simp only[Except.error.injEq]at h;omega
    ·exact TI (QV d) h
theorem KZ [Known][KnownU8](b:List UInt8)(hb:b.length<=140737488351232):AP Tryz.prog 132 [byE b] (.bool (WB b)) []:=by
 have hR:=J7 b 0 (by omega)
 have e:Yh b 0=match ZX 6 256 b with
   | .error e=>(.mk 0 0 [] [],0,e)
   | .ok (x,r,_)=>(x,b.length-r.length,0):=by rw[Yh,if_neg (by omega)];rfl
 rw[e]at hR
 unfold WB
 cases hx:ZX 6 256 b with
 | error c=>
  rw[hx]at hR
  dsimp only
  have hc:((c:Int)==0)=false:=by
   have h0:=QV _ _ _ _ hx
   rw[<- Bool.not_eq_true,beq_iff_eq];omega
  replace hR:AP Tryz.prog _ _ (.tup [itD (.mk 0 0 [] []),.int .i64 0,.int .i64 (c:Int)]) []:=hR
  refine AP.ofA (Zk Tryz.func132 Z Tryz.ntmps132 Z Z ?_)
  repeat'(first|rw[hc]|(apply Zb (hR);kernel_rfl;(iterate 4 exact Z))|(apply Zh Za;exact Z)|(apply Ze Za;exact Z)|refine Zv Z Z Z Qt ?_|refine Zi Z Qt Z Z ?_)
  all_goals exact Qe
 | ok y=>
  obtain⟨⟨k1,n1,b1,l1⟩,r,m1⟩:=y
  rw[hx]at hR
  replace hR:AP Tryz.prog _ _ (.tup [itD (.mk k1 n1 b1 l1),.int .i64 ((b.length-r.length:Nat):Int),.int .i64 0]) []:=hR
  obtain⟨hwk,hwf,pre,hpre,_,hlen⟩:=QQ 6 (Nat.le_refl _) _ _ _ _ _ hx (by omega)
  have hle:=hlen.2
  have hpl:=congrArg List.length hpre
  rw[List.length_append]at hpl
  have hP:=KY (.mk k1 n1 b1 l1) hwf (J8 hwk) (by omega)
  have hB:=KW (ZH (.mk k1 n1 b1 l1)) b
  have hn:(((b.length-r.length:Nat):Int)==((b.map E.byte).length:Int))=r.isEmpty:=by
   rw[List.length_map]
   cases r with
   | nil=>simp
   | cons c r=>simp at hpl ⊢;omega
  dsimp only
  cases hr:r.isEmpty
  all_goals
   rw[hr]at hn
   refine AP.ofA (Zk Tryz.func132 Z Tryz.ntmps132 Z Z ?_)
   repeat'(first|rw[hn]|(apply Zb (hR);kernel_rfl;(iterate 4 exact Z))|(apply Yz [] [] (hP);kernel_rfl;(iterate 10 exact Z))|(apply Zb (hB);kernel_rfl;(iterate 4 exact Z))|(apply Zh Za;exact Z)|(apply Ze Za;exact Z)|refine Zg Z Z Z Qt ?_|refine Zv Z Z Z Qt ?_|refine Zl Z Qt Z Z ?_|refine Zi Z Qt Z Z ?_|refine Zm Za Z Z Z Z ?_)
   all_goals exact Qe
theorem Ho [Known][KnownU8](x:It)(hw:wfI x)(hr:ZG x=true)(hlim:(ZH x).length<=140737488353280):AT Tryz.prog 63 [itD x] [] [] (.tup [.sl (.own 0) ((ZH x).map E.byte),.int .i64 0]) [] [⟨(ZH x).length,1,5⟩]:=by
 have hR:=YT x hw
 rw[hr]at hR
 have hp:=KY x hw (Ki hr) hlim
 obtain⟨k,n,b,l⟩:=x
 refine Zk Tryz.func63 rfl Tryz.ntmps63 rfl rfl ?_
 repeat'(first|(apply Zb (hR);kernel_rfl;(iterate 4 exact Z))|(apply Yz [] [] (hp);kernel_rfl;(iterate 10 exact Z))|(apply Zh Za;exact Z)|(apply Ze Za;exact Z)|(apply Zq Za;exact Z)|refine Zf Z Qt ?_)
 all_goals(apply KQ [] [0];(apply Zc Za;exact Z);(iterate 7 exact Z))
 all_goals rfl
theorem OU {x:It}(hw:wfI x)(hr:ZG x=true)(r:List UInt8):ZX 6 256 (ZH x++r)=.ok (x,r,((YS x 1 256).getD 0)):=by
 unfold ZG at hr
 cases h:YS x 1 256 with
 | none=>rw[h]at hr;cases hr
 | some m=>exact QO x 6 256 m r hw (Nat.le_refl _) h
theorem Hp {x:It}(hw:wfI x)(hr:ZG x=true)(r:List UInt8):Yh (ZH x++r) 0=(x,(ZH x).length,0):=by
 rw[Yh,if_neg (by omega),show(0:Int).toNat=0 from rfl,List.drop_zero,OU hw hr]
 dsimp only
 rw[List.length_append,Nat.add_sub_cancel]
theorem OV [Known][KnownU8](x:It)(hw:wfI x)(hlim:(ZH x).length<=140737488353280)(hr:ZG x=true):AP Tryz.prog 63 [itD x] (.tup [byE (ZH x),.int .i64 0]) []:=by
 have h:=Jl x hw hlim (YT x hw)
 rw[hr]at h
 exact h
theorem IN (x:It)(hw:wfI x)(hr:ZG x=true):∃ c t,ZH x=c::t:=by
 cases hp:ZH x with
 | cons c t=>exact⟨c,t,rfl⟩
 | nil=>
  have h:=OU hw hr []
  rw[hp]at h
  have e:ZX 6 256 []=.error 8:=rfl
  rw[List.append_nil,e]at h
  cases h
end Go.Proofs.YtmljabhmajehnaaGreatDoor
end
section
open Go.RowKit Go.Pl Go.Av
namespace Go.Proofs.YtmljabhmajehnaaGreatDoor
mutual
def YX:It->Nat
 | .mk _ _ _ l=>1+Wa l
def Wa:List It->Nat
 | []=>0
 | x::l=>YX x+Wa l
end
mutual
def Qg:It->Bool
 | .mk k n b l=>Ve k n b l&&J9 l
def J9:List It->Bool
 | []=>true
 | x::l=>Qg x&&J9 l
end
mutual
theorem Xa:∀(x:It) (d m:Nat),YS x d m=if We x (7-d)=true/\YX x<=m/\Qg x=true then some (m-YX x) else none
 | .mk k n b l,d,m=>by
  rw[YS]
  split
  ·rename_i h
   rw[if_neg]
   rintro⟨h1,_⟩
   rw[show 7-d=0 by omega,We]at h1
   cases h1
  rename_i hd
  rw[show 7-d=(7-(d+1))+1 by omega,We,YX,Qg]
  split
  ·rename_i h
   rw[if_neg]
   rintro⟨_,h1,_⟩
   omega
  rename_i hm
  cases ho:Ve k n b l with
  | false=>
   dsimp only
   rw[if_neg]
   rintro⟨_,_,h1⟩
   simp at h1
  | true=>
   dsimp only
   rw[Kk l (d+1) (m-1),Bool.true_and]
   by_cases h:WE l (7-(d+1))=true/\Wa l<=m-1/\J9 l=true
   ·rw[if_pos h,if_pos ⟨h.1,by omega,h.2.2⟩]
    congr 1;omega
   ·rw[if_neg h,if_neg]
    exact fun⟨a,b,c⟩=>h ⟨a,by omega,c⟩
theorem Kk:∀(l:List It) (d m:Nat),Yf l d m=if WE l (7-d)=true/\Wa l<=m/\J9 l=true then some (m-Wa l) else none
 | [],d,m=>by rw[Yf,if_pos ⟨by rw[WE],by rw[Wa];omega,by rw[J9]⟩,Wa];rfl
 | x::l,d,m=>by
  rw[Yf,Xa x d m,WE,Wa,J9]
  by_cases h:We x (7-d)=true/\YX x<=m/\Qg x=true
  ·rw[if_pos h]
   dsimp only
   rw[Kk l d (m-YX x),h.1,h.2.2,Bool.true_and,Bool.true_and]
   by_cases h2:WE l (7-d)=true/\Wa l<=m-YX x/\J9 l=true
   ·rw[if_pos h2,if_pos ⟨h2.1,by omega,h2.2.2⟩]
    congr 1;omega
   ·rw[if_neg h2,if_neg]
    exact fun⟨a,b,c⟩=>h2 ⟨a,by omega,c⟩
  ·rw[if_neg h]
   dsimp only
   rw[if_neg]
   rintro⟨a,b,c⟩
   rw[Bool.and_eq_true]at a c
   exact h ⟨a.1,by omega,c.1⟩
end
theorem Kl (x:It):ZG x=(We x 6&&(decide (YX x<=256)&&Qg x)):=by
 unfold ZG
 rw[Xa]
 split
 ·rename_i h
  obtain⟨a,b,c⟩:=h
  rw[show 7-1=6 from rfl]at a
  simp[a,b,c]
 ·rename_i h
  rw[show 7-1=6 from rfl]at h
  show false=_
  cases h2:(We x 6&&(decide (YX x<=256)&&Qg x)) with
  | false=>rfl
  | true=>
   simp only[Bool.and_eq_true,decide_eq_true_eq]at h2
   exact absurd ⟨h2.1,h2.2.1,h2.2.2⟩ h
mutual
theorem IP:∀(x:It) (d e:Nat),We x d=true->d<=e->We x e=true
 | .mk k n b l,0,e,h,_=>by rw[We]at h;cases h
 | .mk k n b l,d+1,0,h,hle=>by omega
 | .mk k n b l,d+1,e+1,h,hle=>by
  rw[We]at h ⊢
  exact Xb l d e h (by omega)
theorem Xb:∀(l:List It) (d e:Nat),WE l d=true->d<=e->WE l e=true
 | [],_,_,_,_=>by rw[WE]
 | x::l,d,e,h,hle=>by
  rw[WE,Bool.and_eq_true]at h ⊢
  exact⟨IP x d e h.1 hle,Xb l d e h.2 hle⟩
end
mutual
theorem IQ:∀(x:It) (d:Nat) (m:Int),0<=Yx x d m->(YX x:Int)=m-Yx x d m
 | .mk k n b l,d,m,h=>by
  rw[Yx]at h ⊢
  split at h
  ·omega
  split at h
  ·omega
  rename_i h1 h2
  rw[if_neg h1,if_neg h2,YX]
  have:=Jz l (d+1) (m-1) h
  omega
theorem Jz:∀(l:List It) (d:Nat) (m:Int),0<=Y2 l d m->(Wa l:Int)=m-Y2 l d m
 | [],d,m,h=>by rw[Y2,Wa];omega
 | x::l,d,m,h=>by
  rw[Y2]at h ⊢
  split at h
  ·omega
  rename_i h1
  rw[if_neg h1,Wa]
  have h0:0<=Yx x d m:=by
   rcases Int.lt_or_le (Yx x d m) 0 with hlt|hge
   ·have:=U0 l d (Yx x d m) (by have:=UZ x d m (by omega);omega);omega
   ·exact hge
  have a:=IQ x d m h0
  have b:=Jz l d _ h
  omega
end
end Go.Proofs.YtmljabhmajehnaaGreatDoor
end
section
open Go.RowKit Go.Pl Go.Av
namespace Go.Proofs.YtmljabhmajehnaaGreatDoor
set_option maxHeartbeats 4000000
theorem IR {x:It}(hw:wfI x)(hr:ZG x=true):Yh (ZH x) 0=(x,(ZH x).length,0):=by
 have h:=Hp hw hr []
 rw[List.append_nil]at h
 exact h
theorem Xc (b:List UInt8)(hb:b.length<=140737488351232):(∃ e:Nat,e ≠ 0/\Yh b 0=(.mk 0 0 [] [],0,e)/\WB b=false)\/(∃(y:It) (n:Nat),Yh b 0=(y,n,0)/\wfI y/\ZG y=true/\n<=b.length):=by
 have e:Yh b 0=match ZX 6 256 b with
   | .error e=>(.mk 0 0 [] [],0,e)
   | .ok (x,r,_)=>(x,b.length-r.length,0):=by rw[Yh,if_neg (by omega)];rfl
 unfold WB
 rw[e]
 cases hx:ZX 6 256 b with
 | error c=>exact .inl ⟨c,QV _ _ _ _ hx,rfl,rfl⟩
 | ok y=>
  obtain⟨y,r,m1⟩:=y
  obtain⟨hwk,hwf,pre,hpre,_,_⟩:=QQ 6 (Nat.le_refl _) _ _ _ _ _ hx (by omega)
  refine .inr ⟨y,b.length-r.length,rfl,hwf,?_,by omega⟩
  have hwk:YS y 1 256=some m1:=hwk
  unfold ZG;rw[hwk];rfl
theorem Km (b:List UInt8)(hb:b.length<4294967296):(∃ e:Nat,e ≠ 0/\Yh b 0=(.mk 0 0 [] [],0,e)/\WB b=false)\/(∃(y:It) (n:Nat),Yh b 0=(y,n,0)/\wfI y/\ZG y=true/\(ZH y).length<=n/\n<=b.length):=by
 have e:Yh b 0=match ZX 6 256 b with
   | .error e=>(.mk 0 0 [] [],0,e)
   | .ok (x,r,_)=>(x,b.length-r.length,0):=by rw[Yh,if_neg (by omega)];rfl
 unfold WB
 rw[e]
 cases hx:ZX 6 256 b with
 | error c=>exact .inl ⟨c,QV _ _ _ _ hx,rfl,rfl⟩
 | ok y=>
  obtain⟨y,r,m1⟩:=y
  obtain⟨hwk,hwf,pre,hpre,_,hlen⟩:=QQ 6 (Nat.le_refl _) _ _ _ _ _ hx (by omega)
  have hle:=hlen.1 ⟨Nat.le_refl _,hb⟩
  have hpl:=congrArg List.length hpre
  rw[List.length_append]at hpl
  refine .inr ⟨y,b.length-r.length,rfl,hwf,?_,by omega,by omega⟩
  have hwk:YS y 1 256=some m1:=hwk
  unfold ZG;rw[hwk];rfl
theorem TJ (d m:Nat)(t:List UInt8):∃ e,ZX d m (255::t)=.error e:=by
 have h1:rdS (255::t)=(if U5 (7:Nat)=true then .ok (((7:Nat),0,true),t) else .error 3):=by
  unfold rdS
  simp
 have hk:okK ((7:Nat):Int)=false:=by decide
 cases d with
 | zero=>
  rw[ZX,h1]
  by_cases hm:U5 (7:Nat)=true
  ·rw[if_pos hm]
   dsimp only
   rw[if_pos hk]
   exact⟨_,rfl⟩
  ·rw[if_neg hm]
   exact⟨_,rfl⟩
 | succ d=>
  rw[ZX,h1]
  by_cases hm:U5 (7:Nat)=true
  ·rw[if_pos hm]
   dsimp only
   rw[if_pos hk]
   exact⟨_,rfl⟩
  ·rw[if_neg hm]
   exact⟨_,rfl⟩
theorem OW:∀(l:List It) (d m m':Nat) (acc:List It) (r:List UInt8) (f:Nat),wfs l->d<=6->Yf l (7-d) m=some m'->l.length<f->QM (ZX d) f acc m (ZI l++255::r)=.ok (acc++l,r,m')
 | [],d,m,m',acc,r,f,_,_,h,hf=>by
  obtain⟨f,rfl⟩:∃ g,f=g+1:=⟨f-1,by simp at hf;omega⟩
  simp only[Yf,Option.some.injEq]at h
  simp[QM,ZI,Ue,h]
 | x::l,d,m,m',acc,r,f,hw,hd,h,hf=>by
  obtain⟨f,rfl⟩:∃ g,f=g+1:=⟨f-1,by simp at hf;omega⟩
  obtain⟨m1,h1,h2⟩:=Wp h
  have hi:=QO x d m m1 (ZI l++255::r) hw.1 hd h1
  rw[ZI,List.append_assoc,QM]
  have he:Ue (ZH x++(ZI l++255::r))=false:=by
   cases hs:ZH x++(ZI l++255::r) with
   | nil=>rfl
   | cons c t=>
    by_cases hc:c=255
    ·exfalso
     subst hc
     rw[hs]at hi
     obtain⟨e,h9⟩:=TJ d m t
     rw[h9]at hi
     cases hi
    ·simp[Ue,hc]
  rw[he]
  dsimp only
  rw[hi]
  dsimp only
  rw[OW l d m1 m' (acc++[x]) r f hw.2 hd h2 (by simp at hf;omega)]
  simp
theorem Hq {l:List It}(hw:wfs l){m':Nat}(h:Yf l 2 255=some m'):Yh (159::(ZI l++[255])) 0=(.mk 4 0 [] l,(ZI l).length+2,0):=by
 have hr:rdS (159::(ZI l++[255]))=.ok (((4:Nat),0,true),ZI l++[255]):=by
  unfold rdS
  simp
  decide
 have hl:l.length<(ZI l++[255]).length+1:=by
  have:=J2 h
  rw[List.length_append]
  omega
 have ho:=OW l 5 255 m' [] [] ((ZI l++[255]).length+1) hw (by omega) h hl
 have e:Yh (159::(ZI l++[255])) 0=match ZX 6 256 (159::(ZI l++[255])) with
   | .error e=>(.mk 0 0 [] [],0,e)
   | .ok (x,r,_)=>(x,(159::(ZI l++[255])).length-r.length,0):=by rw[Yh,if_neg (by simp;omega)];rfl
 rw[e,ZX,hr]
 dsimp only
 rw[if_neg (by decide),if_neg (by decide)]
 unfold Wk JH
 rw[if_neg (by decide),if_pos (by decide)]
 dsimp only
 rw[ho]
 simp
end Go.Proofs.YtmljabhmajehnaaGreatDoor
end

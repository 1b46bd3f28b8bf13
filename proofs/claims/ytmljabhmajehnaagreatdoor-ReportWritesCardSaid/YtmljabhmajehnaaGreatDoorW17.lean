/- Items: their bytes. -/
import Derived.Test.YtmljabhmajehnaaGreatDoorW12
import Derived.Test.YtmljabhmajehnaaGreatDoorW16
set_option linter.unusedVariables false
set_option linter.unusedSimpArgs false
section
open Go.RowKit Go.Pl Go.Av
namespace Go.Proofs.YtmljabhmajehnaaGreatDoor
set_option maxHeartbeats 4000000
mutual
def okx:It->Prop
 | .mk k _ _ l=>(0<=k/\k<=7)/\MQ l
def MQ:List It->Prop
 | []=>True
 | x::l=>okx x/\MQ l
end
theorem UW:∀ {l:List It},MQ l->∀ y ∈ l,okx y
 | x::l,⟨h1,h2⟩,y,hy=>by
  rcases List.mem_cons.1 hy with rfl|hy
  ·exact h1
  ·exact UW h2 y hy
mutual
theorem XN:∀ {x:It} {d m m':Nat},Y3 x d m=some m'->okx x
 | .mk k n b l,d,m,m',h=>by
  obtain⟨_,_,h3,h4⟩:=W4 h
  exact⟨Qc h3,KI h4⟩
theorem KI:∀ {l:List It} {d m m':Nat},YB l d m=some m'->MQ l
 | [],d,m,m',h=>trivial
 | x::l,d,m,m',h=>by
  obtain⟨m1,h1,h2⟩:=WE h
  exact⟨XN h1,KI h2⟩
end
theorem KJ {x:It}(h:ZN x=true):okx x:=by
 unfold ZN at h
 cases hw:Y3 x 1 256 with
 | none=>rw[hw]at h;cases h
 | some m=>exact XN hw
theorem J3 (h:Hd):∃ c t,ZJ h=c::t:=by
 unfold ZJ
 split
 ·exact⟨_,_,rfl⟩
 ·exact⟨_,_,rfl⟩
theorem Wq {l:List It}{i:Nat}{y:It}(hy:l[i]?=some y):ZO (l.take (i+1))=ZO (l.take i)++ZH y:=by
 rw[List.take_add_one,hy,UU]
 simp[ZO]
theorem WQ (l:List It)(i:Nat):(ZO (l.take i)).length<=(ZO l).length:=by
 have h:=congrArg List.length (UU (l.take i) (l.drop i))
 rw[List.take_append_drop,List.length_append]at h
 omega
theorem Hn [Known]:∀(x:It),wfI x->okx x->∀(L:List E) (c:Nat),c=L.length->Uni 1 L->L.length+(ZH x).length<=1099511627776->AT Tryz.prog 114 [.sl (.own 0) L,itD x] [] [⟨c,1,5⟩] (.sl (.own 0) (L++(ZH x).map E.byte)) [] [⟨c+(ZH x).length,1,5⟩]:=by
 refine It.ind fun k n b l ih hw ho L c hc hUL hlim=>?_
 subst hc
 obtain⟨hn,hb,hl,hws⟩:=hw
 obtain⟨hk7,hos⟩:=ho
 have hlen:=Zx l
 have hr:ZW (k,(It.mk k n b l).hn,false)=true:=by simp[ZW];exact hk7
 have hhn:(It.mk k n b l).hn<18446744073709551616:=by simp only[It.hn];(repeat' split)<;>omega
 have hput:ZH (.mk k n b l)=ZJ (k,(It.mk k n b l).hn,false)++(b++ZO l):=by rw[ZH,if_pos hr]
 rw[hput]at hlim ⊢
 have hW:=Il (k,(It.mk k n b l).hn,false) hhn
 rw[if_pos hr,if_pos hr]at hW
 obtain⟨c0,t0,hcw⟩:=J3 (k,(It.mk k n b l).hn,false)
 rw[hcw]at hW hlim ⊢
 have hU0:=Yj (c0::t0)
 have hU1:=Yj b
 have hU01:Uni 1 (L++(c0::t0).map E.byte):=hUL.append hU0
 have eb:IntKind.u64.wrap (((b.map E.byte).length:Nat):Int)=((b.length:Nat):Int):=by rw[List.length_map,IntKind.wrap_u64];omega
 have el:IntKind.u64.wrap (((Zu l).length:Nat):Int)=((l.length:Nat):Int):=by rw[hlen,IntKind.wrap_u64];omega
 have hS:∀(i:Nat),IntKind.i64.wrap ((i:Int)+1)=((i+1:Nat):Int)\/2199023255488<i:=fun i=>by
  rcases Nat.lt_or_ge 2199023255488 i with h|h
  ·exact .inr h
  ·left;rw[IntWalk.i64_in _ (by omega)];omega
 have hkc:(k=2/\(It.mk k n b l).hn=b.length)\/(k=3/\(It.mk k n b l).hn=b.length)\/(k=4/\(It.mk k n b l).hn=l.length)\/(k ≠ 2/\k ≠ 3/\k ≠ 4/\(It.mk k n b l).hn=n):=by
  by_cases h2:k=2
  ·subst h2;exact .inl ⟨rfl,rfl⟩
  by_cases h3:k=3
  ·subst h3;exact .inr (.inl ⟨rfl,rfl⟩)
  by_cases h4:k=4
  ·subst h4;exact .inr (.inr (.inl ⟨rfl,rfl⟩))
  ·exact .inr (.inr (.inr ⟨h2,h3,h4,by simp[It.hn,h2,h3,h4]⟩))
 clear hhn hr hcw hput
 generalize (It.mk k n b l).hn=hn0 at hkc hW
 have hbc:b=[]\/∃ c1 b1,b=c1::b1:=by cases b<;>simp
 have hne2:k ≠ 2->(k==2)=false:=fun h=>by simpa using h
 have hne3:k ≠ 3->(k==3)=false:=fun h=>by simpa using h
 have hne4:k ≠ 4->(k==4)=false:=fun h=>by simpa using h
 have hq:((k==2)=true/\hn0=b.length)\/((k==2)=false/\(k==3)=true/\hn0=b.length)\/((k==2)=false/\(k==3)=false/\(k==4)=true/\hn0=l.length)\/((k==2)=false/\(k==3)=false/\(k==4)=false/\hn0=n):=by
  rcases hkc with⟨e,h⟩ | ⟨e,h⟩ | ⟨e,h⟩ | ⟨k2,k3,k4,h⟩
  ·exact .inl ⟨by rw[e];rfl,h⟩
  ·exact .inr (.inl ⟨by rw[e];rfl,by rw[e];rfl,h⟩)
  ·exact .inr (.inr (.inl ⟨by rw[e];rfl,by rw[e];rfl,by rw[e];rfl,h⟩))
  ·exact .inr (.inr (.inr ⟨hne2 k2,hne3 k3,hne4 k4,h⟩))
 clear hkc
 rcases hbc with rfl|⟨c1,b1,rfl⟩
 ·rcases hq with⟨q2,hh⟩ | ⟨q2,q3,hh⟩ | ⟨q2,q3,q4,hh⟩ | ⟨q2,q3,q4,hh⟩
  all_goals
   rw[hh]at hW
   clear hh
   refine Zl Tryz.func114 rfl Tryz.ntmps114 rfl rfl ?_
   repeat'(first|rw[eb]|rw[el]|(apply Zb (hW);kernel_rfl;(iterate 4 exact Z))|(apply Zi Za;exact Z)|(apply Zf Za;exact Z)|(apply Zp Za;exact Z)|refine Zd Z Qt ?_|refine Zg Z Qt ?_|refine Zm Za Z Z Z Z ?_|(apply Zo 5 ZD;decide +kernel;kernel_rfl;kernel_rfl;kernel_rfl;exact Z;exact Z)|(apply Zs;(iterate 4 exact Z))|exact AE.nil _ _ _ _|(apply Zw;exact Z)|(apply Z7;exact Z)|(apply Zz;exact Z;exact Z;decide +kernel;exact Z)|(apply ZA;exact Z)|(apply Yt;exact Z)|exact AO.nil _ _ _|(apply Zr;(decide +kernel))|(apply ZX;(iterate 3 exact Z))|exact AOs.nil|exact ZF rfl rfl|exact YW rfl rfl|refine Z6 Za Z Z Z Z Z Z ?_|(apply ZU Za;(iterate 6 exact Z);(first|with_reducible assumption|decide +kernel|exact Z|rotate_left);exact Z;exact Z;(first|exact Zk rfl|with_reducible assumption|decide +kernel|rotate_left);(first|exact Zk rfl|with_reducible assumption|decide +kernel|rotate_left);(first|exact Qt|rotate_left);(first|exact Qt|rotate_left);(first|exact Qt|rotate_left);exact Z;exact Z))
   all_goals first|(first|rfl|(simp only[List.length_append,List.length_cons,List.length_nil,List.length_map,Zx];done)|(simp only[List.length_append,List.length_cons,List.length_nil,List.length_map,Zx]at *;(try unfold maxLen);(try simp only[Nat.add_mul]);omega))|skip
   refine ZQ (fun f tm bx fr=>∃(i c:Nat) (M:List E),f+i=l.length/\c=M.length/\M=L++((c0::t0)++(([]:List UInt8)++ZO (l.take i))).map E.byte/\tm=[(0,.sl (.own 0) M),(3,.ptr 0 0),(42,.sl .ext (Zu l)),(43,.int .i64 ((Zu l).length:Int)),(44,.int .i64 (i:Int))]/\bx=[itC k n ([]:List UInt8) l]/\fr=[⟨c,1,5⟩]) (l.length+1) (Lands.mk' (m:=l.length) (Nat.lt_succ_self _) ⟨0,L.length+((c0::t0).map E.byte).length,L++(c0::t0).map E.byte,rfl,by simp only[List.length_append],by simp[ZO],rfl,rfl,rfl⟩ ?_ rfl rfl rfl rfl rfl rfl) ?_
   ·exact .cons rfl (.cons rfl (.cons rfl (.cons rfl (.cons rfl .nil))))
   rintro f tm bx fr ⟨i,c,M,hf,hc,hM,rfl,rfl,rfl⟩
   subst hc
   have hU:=Yz l
   have hUM:Uni 1 M:=by rw[hM];exact hUL.append (Yj _)
   have hMl:M.length=L.length+((c0::t0)++(([]:List UInt8)++ZO (l.take i))).length:=by rw[hM];simp only[List.length_append,List.length_map]
   rcases Nat.lt_or_ge i l.length with hlt|hge
   ·have hdl:decide ((i:Int)<((Zu l).length:Int))=true:=decide_eq_true (by omega)
    obtain⟨⟨k1,n1,b2,l1⟩,hy⟩:∃ y,l[i]?=some y:=⟨_,List.getElem?_eq_getElem hlt⟩
    have hv:(Zu l)[((i:Nat):Int).toNat]?=some (.agg [.int .i64 k1,.int .u64 (n1:Int),.sl (b2.map E.byte),.sl (Zu l1)]):=by
     rw[Int.toNat_natCast,Yk,List.getElem?_map,hy];rfl
    have hmem:=List.mem_of_getElem? hy
    have hps:=Wq hy
    have hpl:=WQ l (i+1)
    have hps2:=congrArg List.length hps
    rw[List.length_append]at hps2
    have hc:=ih _ hmem (Y5 hws _ hmem) (UW hos _ hmem) M _ rfl hUM (by simp only[List.length_append]at hMl hlim;omega)
    have ei:IntKind.i64.wrap ((i:Int)+1)=((i+1:Nat):Int):=by rw[IntWalk.i64_in _ (by omega)];omega
    repeat'(first|rw[ei]|(apply Ya [] [0] (hc);kernel_rfl;(iterate 10 exact Z))|(apply Zi Za;exact Z)|(apply Zf Za;exact Z)|refine Zd Z Qt ?_|(apply Zv Za;(iterate 6 exact Z);(first|exact Qt|rotate_left);(first|with_reducible assumption|decide +kernel|exact Z);(first|exact Zk rfl|with_reducible assumption|decide +kernel|rotate_left)))
    refine Lands.mk' (m:=f-1) (by omega) ⟨i+1,M.length+(ZH (.mk k1 n1 b2 l1)).length,M++(ZH (.mk k1 n1 b2 l1)).map E.byte,by omega,by simp only[List.length_append,List.length_map],by rw[hM,hps];simp,rfl,rfl,rfl⟩ ?_ rfl rfl rfl rfl rfl rfl
    exact .cons rfl (.cons rfl (.cons rfl (.cons rfl (.cons rfl .nil))))
   ·have hdl:decide ((i:Int)<((Zu l).length:Int))=false:=decide_eq_false (by omega)
    rw[List.take_of_length_le hge]at hM hMl
    repeat'(first|(apply Zf Za;exact Z)|refine Zg Z Qt ?_)
    all_goals(apply QG [] [0];(apply Zc Za;exact Z);(iterate 7 exact Z))
    ·rw[hM];rfl
    ·rfl
    ·rw[hMl];rfl
 ·rcases hq with⟨q2,hh⟩ | ⟨q2,q3,hh⟩ | ⟨q2,q3,q4,hh⟩ | ⟨q2,q3,q4,hh⟩
  all_goals
   rw[hh]at hW
   clear hh
   refine Zl Tryz.func114 rfl Tryz.ntmps114 rfl rfl ?_
   repeat'(first|rw[eb]|rw[el]|(apply Zb (hW);kernel_rfl;(iterate 4 exact Z))|(apply Zi Za;exact Z)|(apply Zf Za;exact Z)|(apply Zp Za;exact Z)|refine Zd Z Qt ?_|refine Zg Z Qt ?_|refine Zm Za Z Z Z Z ?_|(apply Zo 5 ZD;decide +kernel;kernel_rfl;kernel_rfl;kernel_rfl;exact Z;exact Z)|(apply Zs;(iterate 4 exact Z))|exact AE.nil _ _ _ _|(apply Zw;exact Z)|(apply Z7;exact Z)|(apply Zz;exact Z;exact Z;decide +kernel;exact Z)|(apply ZA;exact Z)|(apply Yt;exact Z)|exact AO.nil _ _ _|(apply Zr;(decide +kernel))|(apply ZX;(iterate 3 exact Z))|exact AOs.nil|exact ZF rfl rfl|exact YW rfl rfl|(apply ZU Za;(iterate 6 exact Z);(first|with_reducible assumption|decide +kernel|exact Z|rotate_left);exact Z;exact Z;(first|exact Zk rfl|with_reducible assumption|decide +kernel|rotate_left);(first|exact Zk rfl|with_reducible assumption|decide +kernel|rotate_left);(first|exact Qt|rotate_left);(first|exact Qt|rotate_left);(first|exact Qt|rotate_left);exact Z;exact Z))
   all_goals first|(first|rfl|(simp only[List.length_append,List.length_cons,List.length_nil,List.length_map,Zx];done)|(simp only[List.length_append,List.length_cons,List.length_nil,List.length_map,Zx]at *;(try unfold maxLen);(try simp only[Nat.add_mul]);omega))|skip
   refine ZQ (fun f tm bx fr=>∃(i c:Nat) (M:List E),f+i=l.length/\c=M.length/\M=L++((c0::t0)++((c1::b1)++ZO (l.take i))).map E.byte/\tm=[(0,.sl (.own 0) M),(3,.ptr 0 0),(42,.sl .ext (Zu l)),(43,.int .i64 ((Zu l).length:Int)),(44,.int .i64 (i:Int))]/\bx=[itC k n (c1::b1) l]/\fr=[⟨c,1,5⟩]) (l.length+1) (Lands.mk' (m:=l.length) (Nat.lt_succ_self _) ⟨0,(L++(c0::t0).map E.byte).length+((c1::b1).map E.byte).length,(L++(c0::t0).map E.byte)++(c1::b1).map E.byte,rfl,by simp only[List.length_append],by simp[ZO],rfl,rfl,rfl⟩ ?_ rfl rfl rfl rfl rfl rfl) ?_
   ·exact .cons rfl (.cons rfl (.cons rfl (.cons rfl (.cons rfl .nil))))
   rintro f tm bx fr ⟨i,c,M,hf,hc,hM,rfl,rfl,rfl⟩
   subst hc
   have hU:=Yz l
   have hUM:Uni 1 M:=by rw[hM];exact hUL.append (Yj _)
   have hMl:M.length=L.length+((c0::t0)++((c1::b1)++ZO (l.take i))).length:=by rw[hM];simp only[List.length_append,List.length_map]
   rcases Nat.lt_or_ge i l.length with hlt|hge
   ·have hdl:decide ((i:Int)<((Zu l).length:Int))=true:=decide_eq_true (by omega)
    obtain⟨⟨k1,n1,b2,l1⟩,hy⟩:∃ y,l[i]?=some y:=⟨_,List.getElem?_eq_getElem hlt⟩
    have hv:(Zu l)[((i:Nat):Int).toNat]?=some (.agg [.int .i64 k1,.int .u64 (n1:Int),.sl (b2.map E.byte),.sl (Zu l1)]):=by
     rw[Int.toNat_natCast,Yk,List.getElem?_map,hy];rfl
    have hmem:=List.mem_of_getElem? hy
    have hps:=Wq hy
    have hpl:=WQ l (i+1)
    have hps2:=congrArg List.length hps
    rw[List.length_append]at hps2
    have hc:=ih _ hmem (Y5 hws _ hmem) (UW hos _ hmem) M _ rfl hUM (by simp only[List.length_append]at hMl hlim;omega)
    have ei:IntKind.i64.wrap ((i:Int)+1)=((i+1:Nat):Int):=by rw[IntWalk.i64_in _ (by omega)];omega
    repeat'(first|rw[ei]|(apply Ya [] [0] (hc);kernel_rfl;(iterate 10 exact Z))|(apply Zi Za;exact Z)|(apply Zf Za;exact Z)|refine Zd Z Qt ?_|(apply Zv Za;(iterate 6 exact Z);(first|exact Qt|rotate_left);(first|with_reducible assumption|decide +kernel|exact Z);(first|exact Zk rfl|with_reducible assumption|decide +kernel|rotate_left)))
    refine Lands.mk' (m:=f-1) (by omega) ⟨i+1,M.length+(ZH (.mk k1 n1 b2 l1)).length,M++(ZH (.mk k1 n1 b2 l1)).map E.byte,by omega,by simp only[List.length_append,List.length_map],by rw[hM,hps];simp,rfl,rfl,rfl⟩ ?_ rfl rfl rfl rfl rfl rfl
    exact .cons rfl (.cons rfl (.cons rfl (.cons rfl (.cons rfl .nil))))
   ·have hdl:decide ((i:Int)<((Zu l).length:Int))=false:=decide_eq_false (by omega)
    rw[List.take_of_length_le hge]at hM hMl
    repeat'(first|(apply Zf Za;exact Z)|refine Zg Z Qt ?_)
    all_goals(apply QG [] [0];(apply Zc Za;exact Z);(iterate 7 exact Z))
    ·rw[hM];rfl
    ·rfl
    ·rw[hMl];rfl
theorem Ov [Known](x:It)(hw:wfI x)(ho:okx x)(hlim:(ZH x).length<=1099511627776):AT Tryz.prog 114 [.sl .nil [],itD x] [] [] (.sl (.own 0) ((ZH x).map E.byte)) [] [⟨(ZH x).length,1,5⟩]:=by
 obtain⟨k,n,b,l⟩:=x
 obtain⟨hn,hb,hl,hws⟩:=hw
 obtain⟨hk7,hos⟩:=ho
 have hlen:=Zx l
 have hr:ZW (k,(It.mk k n b l).hn,false)=true:=by simp[ZW];exact hk7
 have hhn:(It.mk k n b l).hn<18446744073709551616:=by simp only[It.hn];(repeat' split)<;>omega
 have hput:ZH (.mk k n b l)=ZJ (k,(It.mk k n b l).hn,false)++(b++ZO l):=by rw[ZH,if_pos hr]
 rw[hput]at hlim ⊢
 have hW:=Il (k,(It.mk k n b l).hn,false) hhn
 rw[if_pos hr,if_pos hr]at hW
 obtain⟨c0,t0,hcw⟩:=J3 (k,(It.mk k n b l).hn,false)
 rw[hcw]at hW hlim ⊢
 have hU0:=Yj (c0::t0)
 have hU1:=Yj b
 have eb:IntKind.u64.wrap (((b.map E.byte).length:Nat):Int)=((b.length:Nat):Int):=by rw[List.length_map,IntKind.wrap_u64];omega
 have el:IntKind.u64.wrap (((Zu l).length:Nat):Int)=((l.length:Nat):Int):=by rw[hlen,IntKind.wrap_u64];omega
 have hS:∀(i:Nat),IntKind.i64.wrap ((i:Int)+1)=((i+1:Nat):Int)\/2199023255488<i:=fun i=>by
  rcases Nat.lt_or_ge 2199023255488 i with h|h
  ·exact .inr h
  ·left;rw[IntWalk.i64_in _ (by omega)];omega
 have hkc:(k=2/\(It.mk k n b l).hn=b.length)\/(k=3/\(It.mk k n b l).hn=b.length)\/(k=4/\(It.mk k n b l).hn=l.length)\/(k ≠ 2/\k ≠ 3/\k ≠ 4/\(It.mk k n b l).hn=n):=by
  by_cases h2:k=2
  ·subst h2;exact .inl ⟨rfl,rfl⟩
  by_cases h3:k=3
  ·subst h3;exact .inr (.inl ⟨rfl,rfl⟩)
  by_cases h4:k=4
  ·subst h4;exact .inr (.inr (.inl ⟨rfl,rfl⟩))
  ·exact .inr (.inr (.inr ⟨h2,h3,h4,by simp[It.hn,h2,h3,h4]⟩))
 clear hhn hr hcw hput
 generalize (It.mk k n b l).hn=hn0 at hkc hW
 have hbc:b=[]\/∃ c1 b1,b=c1::b1:=by cases b<;>simp
 have hne2:k ≠ 2->(k==2)=false:=fun h=>by simpa using h
 have hne3:k ≠ 3->(k==3)=false:=fun h=>by simpa using h
 have hne4:k ≠ 4->(k==4)=false:=fun h=>by simpa using h
 have hq:((k==2)=true/\hn0=b.length)\/((k==2)=false/\(k==3)=true/\hn0=b.length)\/((k==2)=false/\(k==3)=false/\(k==4)=true/\hn0=l.length)\/((k==2)=false/\(k==3)=false/\(k==4)=false/\hn0=n):=by
  rcases hkc with⟨e,h⟩ | ⟨e,h⟩ | ⟨e,h⟩ | ⟨k2,k3,k4,h⟩
  ·exact .inl ⟨by rw[e];rfl,h⟩
  ·exact .inr (.inl ⟨by rw[e];rfl,by rw[e];rfl,h⟩)
  ·exact .inr (.inr (.inl ⟨by rw[e];rfl,by rw[e];rfl,by rw[e];rfl,h⟩))
  ·exact .inr (.inr (.inr ⟨hne2 k2,hne3 k3,hne4 k4,h⟩))
 clear hkc
 rcases hbc with rfl|⟨c1,b1,rfl⟩
 ·rcases hq with⟨q2,hh⟩ | ⟨q2,q3,hh⟩ | ⟨q2,q3,q4,hh⟩ | ⟨q2,q3,q4,hh⟩
  all_goals
   rw[hh]at hW
   clear hh
   refine Zl Tryz.func114 rfl Tryz.ntmps114 rfl rfl ?_
   repeat'(first|rw[eb]|rw[el]|(apply Zb (hW);kernel_rfl;(iterate 4 exact Z))|(apply Zi Za;exact Z)|(apply Zf Za;exact Z)|(apply Zp Za;exact Z)|refine Zd Z Qt ?_|refine Zg Z Qt ?_|refine Zm Za Z Z Z Z ?_|(apply Zo 5 ZD;decide +kernel;kernel_rfl;kernel_rfl;kernel_rfl;exact Z;exact Z)|(apply Zs;(iterate 4 exact Z))|exact AE.nil _ _ _ _|(apply Zw;exact Z)|(apply Z7;exact Z)|(apply Zz;exact Z;exact Z;decide +kernel;exact Z)|(apply ZA;exact Z)|(apply Yt;exact Z)|exact AO.nil _ _ _|(apply Zr;(decide +kernel))|(apply ZX;(iterate 3 exact Z))|exact AOs.nil|exact ZF rfl rfl|exact YW rfl rfl|refine Z6 Za Z Z Z Z Z Z ?_|(apply Wj Za;(iterate 6 exact Z);(first|exact Zk rfl|with_reducible assumption|decide +kernel|rotate_left);(first|exact Qt|rotate_left);(first|exact Qt|rotate_left);(first|exact Qt|rotate_left);(iterate 3 exact Z)))
   all_goals first|(first|rfl|(simp only[List.length_append,List.length_cons,List.length_nil,List.length_map,Zx];done)|(simp only[List.length_append,List.length_cons,List.length_nil,List.length_map,Zx]at *;(try unfold maxLen);(try simp only[Nat.add_mul]);omega))|skip
   refine ZQ (fun f tm bx fr=>∃(i c:Nat) (M:List E),f+i=l.length/\c=M.length/\M=((c0::t0)++(([]:List UInt8)++ZO (l.take i))).map E.byte/\tm=[(0,.sl (.own 0) M),(3,.ptr 0 0),(42,.sl .ext (Zu l)),(43,.int .i64 ((Zu l).length:Int)),(44,.int .i64 (i:Int))]/\bx=[itC k n ([]:List UInt8) l]/\fr=[⟨c,1,5⟩]) (l.length+1) (Lands.mk' (m:=l.length) (Nat.lt_succ_self _) ⟨0,((c0::t0).map E.byte).length,(c0::t0).map E.byte,rfl,by simp only[List.length_append],by simp[ZO],rfl,rfl,rfl⟩ ?_ rfl rfl rfl rfl rfl rfl) ?_
   ·exact .cons rfl (.cons rfl (.cons rfl (.cons rfl (.cons rfl .nil))))
   rintro f tm bx fr ⟨i,c,M,hf,hc,hM,rfl,rfl,rfl⟩
   subst hc
   have hU:=Yz l
   have hUM:Uni 1 M:=by rw[hM];exact Yj _
   have hMl:M.length=((c0::t0)++(([]:List UInt8)++ZO (l.take i))).length:=by rw[hM];simp only[List.length_append,List.length_map]
   rcases Nat.lt_or_ge i l.length with hlt|hge
   ·have hdl:decide ((i:Int)<((Zu l).length:Int))=true:=decide_eq_true (by omega)
    obtain⟨⟨k1,n1,b2,l1⟩,hy⟩:∃ y,l[i]?=some y:=⟨_,List.getElem?_eq_getElem hlt⟩
    have hv:(Zu l)[((i:Nat):Int).toNat]?=some (.agg [.int .i64 k1,.int .u64 (n1:Int),.sl (b2.map E.byte),.sl (Zu l1)]):=by
     rw[Int.toNat_natCast,Yk,List.getElem?_map,hy];rfl
    have hmem:=List.mem_of_getElem? hy
    have hps:=Wq hy
    have hpl:=WQ l (i+1)
    have hps2:=congrArg List.length hps
    rw[List.length_append]at hps2
    have hc:=Hn _ (Y5 hws _ hmem) (UW hos _ hmem) M _ rfl hUM (by simp only[List.length_append]at hMl hlim;omega)
    have ei:IntKind.i64.wrap ((i:Int)+1)=((i+1:Nat):Int):=by rw[IntWalk.i64_in _ (by omega)];omega
    repeat'(first|rw[ei]|(apply Ya [] [0] (hc);kernel_rfl;(iterate 10 exact Z))|(apply Zi Za;exact Z)|(apply Zf Za;exact Z)|refine Zd Z Qt ?_|(apply Zv Za;(iterate 6 exact Z);(first|exact Qt|rotate_left);(first|with_reducible assumption|decide +kernel|exact Z);(first|exact Zk rfl|with_reducible assumption|decide +kernel|rotate_left)))
    refine Lands.mk' (m:=f-1) (by omega) ⟨i+1,M.length+(ZH (.mk k1 n1 b2 l1)).length,M++(ZH (.mk k1 n1 b2 l1)).map E.byte,by omega,by simp only[List.length_append,List.length_map],by rw[hM,hps];simp,rfl,rfl,rfl⟩ ?_ rfl rfl rfl rfl rfl rfl
    exact .cons rfl (.cons rfl (.cons rfl (.cons rfl (.cons rfl .nil))))
   ·have hdl:decide ((i:Int)<((Zu l).length:Int))=false:=decide_eq_false (by omega)
    rw[List.take_of_length_le hge]at hM hMl
    repeat'(first|(apply Zf Za;exact Z)|refine Zg Z Qt ?_)
    all_goals(apply QG [] [0];(apply Zc Za;exact Z);(iterate 7 exact Z))
    ·rw[hM];rfl
    ·rfl
    ·rw[hMl];rfl
 ·rcases hq with⟨q2,hh⟩ | ⟨q2,q3,hh⟩ | ⟨q2,q3,q4,hh⟩ | ⟨q2,q3,q4,hh⟩
  all_goals
   rw[hh]at hW
   clear hh
   refine Zl Tryz.func114 rfl Tryz.ntmps114 rfl rfl ?_
   repeat'(first|rw[eb]|rw[el]|(apply Zb (hW);kernel_rfl;(iterate 4 exact Z))|(apply Zi Za;exact Z)|(apply Zf Za;exact Z)|(apply Zp Za;exact Z)|refine Zd Z Qt ?_|refine Zg Z Qt ?_|refine Zm Za Z Z Z Z ?_|(apply Zo 5 ZD;decide +kernel;kernel_rfl;kernel_rfl;kernel_rfl;exact Z;exact Z)|(apply Zs;(iterate 4 exact Z))|exact AE.nil _ _ _ _|(apply Zw;exact Z)|(apply Z7;exact Z)|(apply Zz;exact Z;exact Z;decide +kernel;exact Z)|(apply ZA;exact Z)|(apply Yt;exact Z)|exact AO.nil _ _ _|(apply Zr;(decide +kernel))|(apply ZX;(iterate 3 exact Z))|exact AOs.nil|exact ZF rfl rfl|exact YW rfl rfl|(apply ZU Za;(iterate 6 exact Z);(first|with_reducible assumption|decide +kernel|exact Z|rotate_left);exact Z;exact Z;(first|exact Zk rfl|with_reducible assumption|decide +kernel|rotate_left);(first|exact Zk rfl|with_reducible assumption|decide +kernel|rotate_left);(first|exact Qt|rotate_left);(first|exact Qt|rotate_left);(first|exact Qt|rotate_left);exact Z;exact Z)|(apply Wj Za;(iterate 6 exact Z);(first|exact Zk rfl|with_reducible assumption|decide +kernel|rotate_left);(first|exact Qt|rotate_left);(first|exact Qt|rotate_left);(first|exact Qt|rotate_left);(iterate 3 exact Z)))
   all_goals first|(first|rfl|(simp only[List.length_append,List.length_cons,List.length_nil,List.length_map,Zx];done)|(simp only[List.length_append,List.length_cons,List.length_nil,List.length_map,Zx]at *;(try unfold maxLen);(try simp only[Nat.add_mul]);omega))|skip
   refine ZQ (fun f tm bx fr=>∃(i c:Nat) (M:List E),f+i=l.length/\c=M.length/\M=((c0::t0)++((c1::b1)++ZO (l.take i))).map E.byte/\tm=[(0,.sl (.own 0) M),(3,.ptr 0 0),(42,.sl .ext (Zu l)),(43,.int .i64 ((Zu l).length:Int)),(44,.int .i64 (i:Int))]/\bx=[itC k n (c1::b1) l]/\fr=[⟨c,1,5⟩]) (l.length+1) (Lands.mk' (m:=l.length) (Nat.lt_succ_self _) ⟨0,((c0::t0).map E.byte).length+((c1::b1).map E.byte).length,((c0::t0).map E.byte)++(c1::b1).map E.byte,rfl,by simp only[List.length_append],by simp[ZO],rfl,rfl,rfl⟩ ?_ rfl rfl rfl rfl rfl rfl) ?_
   ·exact .cons rfl (.cons rfl (.cons rfl (.cons rfl (.cons rfl .nil))))
   rintro f tm bx fr ⟨i,c,M,hf,hc,hM,rfl,rfl,rfl⟩
   subst hc
   have hU:=Yz l
   have hUM:Uni 1 M:=by rw[hM];exact Yj _
   have hMl:M.length=((c0::t0)++((c1::b1)++ZO (l.take i))).length:=by rw[hM];simp only[List.length_append,List.length_map]
   rcases Nat.lt_or_ge i l.length with hlt|hge
   ·have hdl:decide ((i:Int)<((Zu l).length:Int))=true:=decide_eq_true (by omega)
    obtain⟨⟨k1,n1,b2,l1⟩,hy⟩:∃ y,l[i]?=some y:=⟨_,List.getElem?_eq_getElem hlt⟩
    have hv:(Zu l)[((i:Nat):Int).toNat]?=some (.agg [.int .i64 k1,.int .u64 (n1:Int),.sl (b2.map E.byte),.sl (Zu l1)]):=by
     rw[Int.toNat_natCast,Yk,List.getElem?_map,hy];rfl
    have hmem:=List.mem_of_getElem? hy
    have hps:=Wq hy
    have hpl:=WQ l (i+1)
    have hps2:=congrArg List.length hps
    rw[List.length_append]at hps2
    have hc:=Hn _ (Y5 hws _ hmem) (UW hos _ hmem) M _ rfl hUM (by simp only[List.length_append]at hMl hlim;omega)
    have ei:IntKind.i64.wrap ((i:Int)+1)=((i+1:Nat):Int):=by rw[IntWalk.i64_in _ (by omega)];omega
    repeat'(first|rw[ei]|(apply Ya [] [0] (hc);kernel_rfl;(iterate 10 exact Z))|(apply Zi Za;exact Z)|(apply Zf Za;exact Z)|refine Zd Z Qt ?_|(apply Zv Za;(iterate 6 exact Z);(first|exact Qt|rotate_left);(first|with_reducible assumption|decide +kernel|exact Z);(first|exact Zk rfl|with_reducible assumption|decide +kernel|rotate_left)))
    refine Lands.mk' (m:=f-1) (by omega) ⟨i+1,M.length+(ZH (.mk k1 n1 b2 l1)).length,M++(ZH (.mk k1 n1 b2 l1)).map E.byte,by omega,by simp only[List.length_append,List.length_map],by rw[hM,hps];simp,rfl,rfl,rfl⟩ ?_ rfl rfl rfl rfl rfl rfl
    exact .cons rfl (.cons rfl (.cons rfl (.cons rfl (.cons rfl .nil))))
   ·have hdl:decide ((i:Int)<((Zu l).length:Int))=false:=decide_eq_false (by omega)
    rw[List.take_of_length_le hge]at hM hMl
    repeat'(first|(apply Zf Za;exact Z)|refine Zg Z Qt ?_)
    all_goals(apply QG [] [0];(apply Zc Za;exact Z);(iterate 7 exact Z))
    ·rw[hM];rfl
    ·rfl
    ·rw[hMl];rfl
theorem KK [Known][KnownU8](x:It)(hw:wfI x)(hlim:(ZH x).length<=1099511627776)(hR:AP Tryz.prog 113 [itD x] (.bool (ZN x)) []):AP Tryz.prog 63 [itD x] (.tup [byE (if ZN x then ZH x else []),.int .i64 (if ZN x then 0 else 3)]) []:=by
 cases hr:ZN x with
 | false=>
  rw[hr]at hR
  obtain⟨k,n,b,l⟩:=x
  refine AP.ofA (Zl Tryz.func63 Z Tryz.ntmps63 Z Z ?_)
  repeat'(first|(apply Zb (hR);kernel_rfl;(iterate 4 exact Z))|(apply Zi Za;exact Z)|(apply Zf Za;exact Z)|(apply Zp Za;exact Z)|refine Zd Z Qt ?_)
  all_goals exact Qe
 | true=>
  rw[hr]at hR
  have hp:=Ov x hw (KJ hr) hlim
  obtain⟨k,n,b,l⟩:=x
  refine AP.ofA (Zl Tryz.func63 Z Tryz.ntmps63 Z Z ?_)
  repeat'(first|(apply Zb (hR);kernel_rfl;(iterate 4 exact Z))|(apply Ya [] [] (hp);kernel_rfl;(iterate 10 exact Z))|(apply Zi Za;exact Z)|(apply Zf Za;exact Z)|(apply Zp Za;exact Z)|refine Zg Z Qt ?_)
  all_goals exact Qe
end Go.Proofs.YtmljabhmajehnaaGreatDoor
end
section
open Go.RowKit Go.Pl Go.Av
namespace Go.Proofs.YtmljabhmajehnaaGreatDoor
set_option maxHeartbeats 4000000
def Yw (s:Nat)(l:List It):It:=.mk 4 0 [] (l++[.mk 2 0 (List.replicate (2*s) 0) []])
abbrev shU (k:IntKind)(z:Int)(q:Int):Int:=IntKind.u8.wrap (z.fdiv (2 ^ (min q.toNat k.bits)))
def RH (s:Nat)(b:List UInt8):List E:=
 if s=1 then [.int .u8 (shU .u16 (XM b) 8),.int .u8 (IntKind.u8.wrap (XM b))]
 else [.int .u8 (shU .u32 (Ji b) 24),.int .u8 (shU .u32 (Ji b) 16),.int .u8 (shU .u32 (Ji b) 8),.int .u8 (IntKind.u8.wrap (Ji b))]
def by8 (z:Int):UInt8:=UInt8.ofNat (IntKind.u8.wrap z).toNat
theorem RJ (z:Int):E.byte (by8 z)=.int .u8 (IntKind.u8.wrap z):=by
 have h:0<=IntKind.u8.wrap z/\IntKind.u8.wrap z<256:=by
  rw[IntKind.wrap_u8];omega
 show E.int .u8 ((by8 z).toNat:Int)=_
 have e:((by8 z).toNat:Int)=IntKind.u8.wrap z:=by
  unfold by8
  rw[UInt8.toNat_ofNat']
  omega
 rw[e]
def Qv (s:Nat)(b:List UInt8):List UInt8:=
 if s=1 then [by8 ((XM b).fdiv (2 ^ (min (8:Int).toNat IntKind.u16.bits))),by8 (XM b)]
 else [by8 ((Ji b).fdiv (2 ^ (min (24:Int).toNat IntKind.u32.bits))),by8 ((Ji b).fdiv (2 ^ (min (16:Int).toNat IntKind.u32.bits))),by8 ((Ji b).fdiv (2 ^ (min (8:Int).toNat IntKind.u32.bits))),by8 (Ji b)]
theorem LR (s:Nat)(b:List UInt8):(Qv s b).map E.byte=RH s b:=by
 unfold Qv RH
 split<;>simp only[List.map_cons,List.map_nil,RJ]
theorem XO (s:Nat)(b:List UInt8)(hs:s=1\/s=2):(Qv s b).length=2*s:=by
 unfold Qv
 rcases hs with rfl|rfl<;>rfl
theorem Xl:∀ {l r:List It},wfs l->wfs r->wfs (l++r)
 | [],r,_,h=>h
 | x::l,r,h1,h2=>⟨h1.1,Xl h1.2 h2⟩
theorem MR {s:Nat}{l:List It}(hs:s=1\/s=2)(hws:wfs l)(hl:l.length<=1000000):wfI (Yw s l):=by
 refine⟨by decide,by simp,by simp;omega,Xl hws ⟨⟨by decide,?_,by simp,trivial⟩,trivial⟩⟩
 rcases hs with rfl|rfl<;>decide
theorem Gu [Known](s:Nat)(hs:s=1\/s=2):AP Tryz.prog 145 [.int .i64 (s:Int)] (.int .i64 ((2*s:Nat):Int)) []:=by
 rcases hs with rfl|rfl
 all_goals
  refine AP.ofA (Zl Tryz.func145 Z Tryz.ntmps145 Z Z ?_)
  repeat'(first|(apply Zf Za;exact Z))
  all_goals exact Qe
theorem Nx [Known][KnownU8](l:List It)(s:Nat)(hs:s=1\/s=2)(hne:l ≠ [])(hws:wfs l)(hl:l.length<=1000000)(hlim:(ZH (Yw s l)).length<=1000000000) :
  AP Tryz.prog 146 [.sl .ext (Zu l),.int .i64 (s:Int)] (match ZN (Yw s l) with|true=>.tup [byE (Qv s (ZH (Yw s l))),.int .i64 0]|false=>.tup [.sl .ext [],.int .i64 3]) []:=by
 have hwz:=MR hs hws hl
 have hC:=Tc l hne hl
 have hW:=KK (Yw s l) hwz (by omega) (Wt _ hwz)
 have hU:=Yz l
 have hlen:=Zx l
 have hmx:(Zu l).length<=1000000:=by omega
 have hZ:=Gu s hs
 have hB:=XG (List.replicate (2*s) 0) (by rcases hs with rfl|rfl<;>decide)
 have hL:=W8 (l++[.mk 2 0 (List.replicate (2*s) 0) []]) (by simp;omega) hwz.2.2.2
 have hSh:=Nu (ZH (Yw s l)) hlim
 have hLo:=MM (ZH (Yw s l)) hlim
 rw[WO]at hL
 have eZ:itD (.mk 4 0 [] (l++[.mk 2 0 (List.replicate (2*s) 0) []]))=itD (Yw s l):=rfl
 rw[eZ]at hL
 unfold byE
 rw[LR]
 rw[<- hlen]at hC
 cases hr:ZN (Yw s l) with
 | false=>
  rw[hr]at hW
  replace hW:AP Tryz.prog 63 [itD (Yw s l)] (.tup [.sl .ext [],.int .i64 3]) []:=hW
  have eL:itD (Yw s l)=.agg [.int .i64 4,.int .u64 0,.sl .ext [],.sl .ext (Zu (l++[.mk 2 0 (List.replicate (2*s) 0) []]))]:=rfl
  rw[eL]at hL hW
  generalize Zu (l++[.mk 2 0 (List.replicate (2*s) 0) []])=ZL at *
  clear hSh hLo hlim hwz eZ eL
  rcases hs with rfl|rfl
  all_goals
   refine AP.ofA (Zl Tryz.func146 Z Tryz.ntmps146 Z Z ?_)
   repeat'(first|(apply Ya [] [] (hC);kernel_rfl;(iterate 10 exact Z))|(apply Zb (hZ);kernel_rfl;(iterate 4 exact Z))|(apply Ja Za (l:=2);(iterate 12 exact Z))|(apply Ja Za (l:=4);(iterate 12 exact Z))|(apply Zb (hB);kernel_rfl;(iterate 4 exact Z))|(apply Zb (hL);kernel_rfl;(iterate 4 exact Z))|(apply Zb (hW);kernel_rfl;(iterate 4 exact Z))|(apply Zi Za;exact Z)|(apply Zf Za;exact Z)|(apply Zp Za;exact Z)|refine Zd Z Qt ?_|refine ZR Za Z Z Z Z Z Z Z Z Z Z Z Z ?_|(apply ZU Za;(iterate 6 exact Z);(first|with_reducible assumption|decide +kernel|exact Z|rotate_left);exact Z;exact Z;(first|exact Zk rfl|with_reducible assumption|decide +kernel|rotate_left);(first|exact Zk rfl|with_reducible assumption|decide +kernel|rotate_left);(first|exact Qt|rotate_left);(first|exact Qt|rotate_left);(first|exact Qt|rotate_left);exact Z;exact Z))
   all_goals first|((apply Zq [];(apply Zc Za;exact Z);(iterate 4 exact Z)))|skip
   all_goals first|rfl|(first|rfl|(simp only[List.length_append,List.length_cons,List.length_nil,List.length_map,Zx];done)|(simp only[List.length_append,List.length_cons,List.length_nil,List.length_map,Zx]at *;(try unfold maxLen);(try simp only[Nat.add_mul]);omega))|(simp;done)|(simp;omega)|(simp;unfold maxLen;omega)
 | true=>
  rw[hr]at hW
  replace hW:AP Tryz.prog 63 [itD (Yw s l)] (.tup [byE (ZH (Yw s l)),.int .i64 0]) []:=hW
  have eL:itD (Yw s l)=.agg [.int .i64 4,.int .u64 0,.sl .ext [],.sl .ext (Zu (l++[.mk 2 0 (List.replicate (2*s) 0) []]))]:=rfl
  rw[eL]at hL hW
  generalize Zu (l++[.mk 2 0 (List.replicate (2*s) 0) []])=ZL at *
  generalize ZH (Yw s l)=PZ at *
  clear hlim hwz eZ eL hr
  rcases hs with rfl|rfl
  all_goals
   refine AP.ofA (Zl Tryz.func146 Z Tryz.ntmps146 Z Z ?_)
   repeat'(first|(apply Ya [] [] (hC);kernel_rfl;(iterate 10 exact Z))|(apply Zb (hZ);kernel_rfl;(iterate 4 exact Z))|(apply Ja Za (l:=2);(iterate 12 exact Z))|(apply Ja Za (l:=4);(iterate 12 exact Z))|(apply Zb (hB);kernel_rfl;(iterate 4 exact Z))|(apply Zb (hL);kernel_rfl;(iterate 4 exact Z))|(apply Zb (hW);kernel_rfl;(iterate 4 exact Z))|(apply Zb (hSh);kernel_rfl;(iterate 4 exact Z))|(apply Zb (hLo);kernel_rfl;(iterate 4 exact Z))|(apply Zi Za;exact Z)|(apply Zf Za;exact Z)|refine Zd Z Qt ?_|refine Zg Z Qt ?_|refine ZR Za Z Z Z Z Z Z Z Z Z Z Z Z ?_|(apply ZU Za;(iterate 6 exact Z);(first|with_reducible assumption|decide +kernel|exact Z|rotate_left);exact Z;exact Z;(first|exact Zk rfl|with_reducible assumption|decide +kernel|rotate_left);(first|exact Zk rfl|with_reducible assumption|decide +kernel|rotate_left);(first|exact Qt|rotate_left);(first|exact Qt|rotate_left);(first|exact Qt|rotate_left);exact Z;exact Z)|(apply YC;exact Z;exact Z;(first|exact Qt|rotate_left);exact Z))
   all_goals first|((apply Zq [];(apply Zc Za;exact Z);(iterate 4 exact Z)))|skip
   all_goals first|rfl|(first|rfl|(simp only[List.length_append,List.length_cons,List.length_nil,List.length_map,Zx];done)|(simp only[List.length_append,List.length_cons,List.length_nil,List.length_map,Zx]at *;(try unfold maxLen);(try simp only[Nat.add_mul]);omega))|(simp;done)|(simp;omega)|(simp;unfold maxLen;omega)
end Go.Proofs.YtmljabhmajehnaaGreatDoor
end

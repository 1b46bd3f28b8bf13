/- Items: their bytes. -/
import Derived.Test.YtakblclkflnnpaaGreatDoorS12
import Derived.Test.YtakblclkflnnpaaGreatDoorS15
set_option linter.unusedVariables false
set_option linter.unusedSimpArgs false
section
open Go.RowKit Go.Pl Go.Av
namespace Go.Proofs.YtakblclkflnnpaaGreatDoor
set_option maxHeartbeats 4000000
mutual
def okx:It->Prop
 | .mk k _ _ l=>(0<=k/\k<=7)/\ZoQ l
def ZoQ:List It->Prop
 | []=>True
 | x::l=>okx x/\ZoQ l
end
theorem Zbs:∀ {l:List It},ZoQ l->∀ y ∈ l,okx y
 | x::l,⟨h1,h2⟩,y,hy=>by
  rcases List.mem_cons.1 hy with rfl|hy
  ·exact h1
  ·exact Zbs h2 y hy
mutual
theorem Zgf:∀ {x:It} {d m m':Nat},Zb5 x d m=some m'->okx x
 | .mk k n b l,d,m,m',h=>by
  obtain⟨_,_,h3,h4⟩:=Zca h
  exact⟨Zed h3,ZgZ h4⟩
theorem ZgZ:∀ {l:List It} {d m m':Nat},ZbG l d m=some m'->ZoQ l
 | [],d,m,m',h=>trivial
 | x::l,d,m,m',h=>by
  obtain⟨m1,h1,h2⟩:=Zb6 h
  exact⟨Zgf h1,ZgZ h2⟩
end
theorem ZkF {x:It}(h:ZaQ x=true):okx x:=by
 unfold ZaQ at h
 cases hw:Zb5 x 1 256 with
 | none=>rw[hw]at h;cases h
 | some m=>exact Zgf hw
theorem Zfj (h:Hd):∃ c t,ZaM h=c::t:=by
 unfold ZaM
 split
 ·exact⟨_,_,rfl⟩
 ·exact⟨_,_,rfl⟩
theorem ZaI {l:List It}{i:Nat}{y:It}(hy:l[i]?=some y):Zba (l.take (i+1))=Zba (l.take i)++Zbg y:=by
 rw[List.take_add_one,hy,ZdS]
 simp[Zba]
theorem ZaP (l:List It)(i:Nat):(Zba (l.take i)).length<=(Zba l).length:=by
 have h:=congrArg List.length (ZdS (l.take i) (l.drop i))
 rw[List.take_append_drop,List.length_append]at h
 omega
theorem Zde [Known]:∀(x:It),wfI x->okx x->∀(L:List E) (c:Nat),c=L.length->Uni 1 L->L.length+(Zbg x).length<=1099511627776->AT Tryz.prog 159 [.sl (.own 0) L,itD x] [] [⟨c,1,5⟩] (.sl (.own 0) (L++(Zbg x).map E.byte)) [] [⟨c+(Zbg x).length,1,5⟩]:=by
 refine It.ind fun k n b l ih hw ho L c hc hUL hlim=>?_
 subst hc
 obtain⟨hn,hb,hl,hws⟩:=hw
 obtain⟨hk7,hos⟩:=ho
 have hlen:=Zar l
 have hr:ZaT (k,(It.mk k n b l).hn,false)=true:=by simp[ZaT];exact hk7
 have hhn:(It.mk k n b l).hn<18446744073709551616:=by simp only[It.hn];(repeat' split)<;>omega
 have hput:Zbg (.mk k n b l)=ZaM (k,(It.mk k n b l).hn,false)++(b++Zba l):=by rw[Zbg,if_pos hr]
 rw[hput]at hlim ⊢
 have hW:=ZiE (k,(It.mk k n b l).hn,false) hhn
 rw[if_pos hr,if_pos hr]at hW
 obtain⟨c0,t0,hcw⟩:=Zfj (k,(It.mk k n b l).hn,false)
 rw[hcw]at hW hlim ⊢
 have hU0:=Zbf (c0::t0)
 have hU1:=Zbf b
 have hU01:Uni 1 (L++(c0::t0).map E.byte):=hUL.append hU0
 have eb:IntKind.u64.wrap (((b.map E.byte).length:Nat):Int)=((b.length:Nat):Int):=by rw[List.length_map,IntKind.wrap_u64];omega
 have el:IntKind.u64.wrap (((ZaB l).length:Nat):Int)=((l.length:Nat):Int):=by rw[hlen,IntKind.wrap_u64];omega
 have hS:∀(i:Nat),IntKind.i64.wrap ((i:Int)+1)=((i+1:Nat):Int)\/2199023255488<i:=fun i=>by
  rcases Nat.lt_or_ge 2199023255488 i with h|h
  ·exact .inr h
  ·left;rw[IntWalk.i64_in _ (by omega)];omega
 have hkc:(k=2/\(It.mk k n b l).hn=b.length)\/(k=3/\(It.mk k n b l).hn=b.length)\/(k=4/\(It.mk k n b l).hn=l.length)\/(k ≠ 2/\k ≠ 3/\k ≠ 4/\(It.mk k n b l).hn=n):=by
  by_cases h2:k=2
  ·subst h2;exact .inl ⟨rfl,rfl⟩
  by_cases h3:k=3
  ·subst h3;exact .inr (.inl ⟨rfl,rfl⟩)
  by_cases h4:k=4
  ·subst h4;exact .inr (.inr (.inl ⟨rfl,rfl⟩))
  ·exact .inr (.inr (.inr ⟨h2,h3,h4,by simp[It.hn,h2,h3,h4]⟩))
 clear hhn hr hcw hput
 generalize (It.mk k n b l).hn=hn0 at hkc hW
 have hbc:b=[]\/∃ c1 b1,b=c1::b1:=by cases b<;>simp
 have hne2:k ≠ 2->(k==2)=false:=fun h=>by simpa using h
 have hne3:k ≠ 3->(k==3)=false:=fun h=>by simpa using h
 have hne4:k ≠ 4->(k==4)=false:=fun h=>by simpa using h
 rcases hkc with⟨rfl,rfl⟩ | ⟨rfl,rfl⟩ | ⟨rfl,rfl⟩ | ⟨k2,k3,k4,hh⟩
 ·rcases hbc with rfl|⟨c1,b1,rfl⟩
  ·refine Zao Tryz.func159 rfl Tryz.ntmps159 rfl rfl ?_
   repeat'(first|rw[eb]|(apply Zaa (hW);kernel_rfl;(iterate 4 exact Z))|(apply Zaj Zab;exact Z)|(apply Zah Zab;exact Z)|(apply Zav Zab;exact Z)|(apply Zac;exact Z;exact Go.Zqm)|(apply Zan Zab;(iterate 4 exact Z))|(apply Zam 5 ZaJ;decide +kernel;kernel_rfl;kernel_rfl;kernel_rfl;exact Z;exact Z)|(apply Zaq;(iterate 4 exact Z))|exact AE.nil _ _ _ _|(apply Zas;exact Z)|(apply Za8;exact Z)|(apply Zaw;exact Z;exact Z;decide +kernel;exact Z)|(apply Zax;exact Z)|(apply Zbq;exact Z)|exact AO.nil _ _ _|(apply Zap;(decide +kernel))|(apply ZaV;(iterate 3 exact Z))|exact AOs.nil|exact ZaE rfl rfl|exact ZbZ rfl rfl|(apply ZaG Zab;(iterate 6 exact Z))|(apply ZaH Zab;(iterate 6 exact Z);(first|with_reducible assumption|decide +kernel|exact Z|rotate_left);exact Z;exact Z;(first|exact Zai rfl|with_reducible assumption|decide +kernel|rotate_left);(first|exact Zai rfl|with_reducible assumption|decide +kernel|rotate_left);(first|exact Go.Zqm|rotate_left);(first|exact Go.Zqm|rotate_left);(first|exact Go.Zqm|rotate_left);exact Z;exact Z))
   all_goals first|(first|rfl|(simp only[List.length_append,List.length_cons,List.length_nil,List.length_map,Zar];done)|(simp only[List.length_append,List.length_cons,List.length_nil,List.length_map,Zar]at *;(try unfold maxLen);(try simp only[Nat.add_mul]);omega))|skip
   refine ZaF (fun f tm bx fr=>∃(i c:Nat) (M:List E),f+i=l.length/\c=M.length/\M=L++((c0::t0)++(([]:List UInt8)++Zba (l.take i))).map E.byte/\tm=[(0,.sl (.own 0) M),(3,.ptr 0 0),(42,.sl .ext (ZaB l)),(43,.int .i64 ((ZaB l).length:Int)),(44,.int .i64 (i:Int))]/\bx=[itC (2) n ([]:List UInt8) l]/\fr=[⟨c,1,5⟩]) (l.length+1) (Lands.mk' (m:=l.length) (Nat.lt_succ_self _) ⟨0,L.length+((c0::t0).map E.byte).length,L++(c0::t0).map E.byte,rfl,by simp only[List.length_append],by simp[Zba],rfl,rfl,rfl⟩ ?_ rfl rfl rfl rfl rfl rfl) ?_
   ·exact .cons rfl (.cons rfl (.cons rfl (.cons rfl (.cons rfl .nil))))
   rintro f tm bx fr ⟨i,c,M,hf,hc,hM,rfl,rfl,rfl⟩
   subst hc
   have hU:=Zcb l
   have hUM:Uni 1 M:=by rw[hM];exact hUL.append (Zbf _)
   have hMl:M.length=L.length+((c0::t0)++(([]:List UInt8)++Zba (l.take i))).length:=by rw[hM];simp only[List.length_append,List.length_map]
   rcases Nat.lt_or_ge i l.length with hlt|hge
   ·have hdl:decide ((i:Int)<((ZaB l).length:Int))=true:=decide_eq_true (by omega)
    obtain⟨⟨k1,n1,b2,l1⟩,hy⟩:∃ y,l[i]?=some y:=⟨_,List.getElem?_eq_getElem hlt⟩
    have hv:(ZaB l)[((i:Nat):Int).toNat]?=some (.agg [.int .i64 k1,.int .u64 (n1:Int),.sl (b2.map E.byte),.sl (ZaB l1)]):=by
     rw[Int.toNat_natCast,ZaK,List.getElem?_map,hy];rfl
    have hmem:=List.mem_of_getElem? hy
    have hps:=ZaI hy
    have hpl:=ZaP l (i+1)
    have hps2:=congrArg List.length hps
    rw[List.length_append]at hps2
    have hc:=ih _ hmem (Za4 hws _ hmem) (Zbs hos _ hmem) M _ rfl hUM (by simp only[List.length_append]at hMl hlim;omega)
    have ei:IntKind.i64.wrap ((i:Int)+1)=((i+1:Nat):Int):=by rw[IntWalk.i64_in _ (by omega)];omega
    repeat'(first|rw[ei]|(apply ZaO [] [0] (hc);kernel_rfl;(iterate 10 exact Z))|(apply Zaj Zab;exact Z)|(apply Zah Zab;exact Z)|(apply Zac;exact Z;exact Go.Zqm)|(apply Zau Zab;(iterate 6 exact Z);(first|exact Go.Zqm|rotate_left);(first|with_reducible assumption|decide +kernel|exact Z);(first|exact Zai rfl|with_reducible assumption|decide +kernel|rotate_left)))
    refine Lands.mk' (m:=f-1) (by omega) ⟨i+1,M.length+(Zbg (.mk k1 n1 b2 l1)).length,M++(Zbg (.mk k1 n1 b2 l1)).map E.byte,by omega,by simp only[List.length_append,List.length_map],by rw[hM,hps];simp,rfl,rfl,rfl⟩ ?_ rfl rfl rfl rfl rfl rfl
    exact .cons rfl (.cons rfl (.cons rfl (.cons rfl (.cons rfl .nil))))
   ·have hdl:decide ((i:Int)<((ZaB l).length:Int))=false:=decide_eq_false (by omega)
    rw[List.take_of_length_le hge]at hM hMl
    repeat'(first|(apply Zah Zab;exact Z)|(apply Zaf;exact Z;exact Go.Zqm))
    all_goals(apply Zer [] [0];(apply Zad Zab;exact Z);(iterate 7 exact Z))
    ·rw[hM];rfl
    ·rfl
    ·rw[hMl];rfl
  ·refine Zao Tryz.func159 rfl Tryz.ntmps159 rfl rfl ?_
   repeat'(first|rw[eb]|(apply Zaa (hW);kernel_rfl;(iterate 4 exact Z))|(apply Zaj Zab;exact Z)|(apply Zah Zab;exact Z)|(apply Zav Zab;exact Z)|(apply Zac;exact Z;exact Go.Zqm)|(apply Zan Zab;(iterate 4 exact Z))|(apply Zam 5 ZaJ;decide +kernel;kernel_rfl;kernel_rfl;kernel_rfl;exact Z;exact Z)|(apply Zaq;(iterate 4 exact Z))|exact AE.nil _ _ _ _|(apply Zas;exact Z)|(apply Za8;exact Z)|(apply Zaw;exact Z;exact Z;decide +kernel;exact Z)|(apply Zax;exact Z)|(apply Zbq;exact Z)|exact AO.nil _ _ _|(apply Zap;(decide +kernel))|(apply ZaV;(iterate 3 exact Z))|exact AOs.nil|exact ZaE rfl rfl|exact ZbZ rfl rfl|(apply ZaH Zab;(iterate 6 exact Z);(first|with_reducible assumption|decide +kernel|exact Z|rotate_left);exact Z;exact Z;(first|exact Zai rfl|with_reducible assumption|decide +kernel|rotate_left);(first|exact Zai rfl|with_reducible assumption|decide +kernel|rotate_left);(first|exact Go.Zqm|rotate_left);(first|exact Go.Zqm|rotate_left);(first|exact Go.Zqm|rotate_left);exact Z;exact Z))
   all_goals first|(first|rfl|(simp only[List.length_append,List.length_cons,List.length_nil,List.length_map,Zar];done)|(simp only[List.length_append,List.length_cons,List.length_nil,List.length_map,Zar]at *;(try unfold maxLen);(try simp only[Nat.add_mul]);omega))|skip
   refine ZaF (fun f tm bx fr=>∃(i c:Nat) (M:List E),f+i=l.length/\c=M.length/\M=L++((c0::t0)++((c1::b1)++Zba (l.take i))).map E.byte/\tm=[(0,.sl (.own 0) M),(3,.ptr 0 0),(42,.sl .ext (ZaB l)),(43,.int .i64 ((ZaB l).length:Int)),(44,.int .i64 (i:Int))]/\bx=[itC (2) n (c1::b1) l]/\fr=[⟨c,1,5⟩]) (l.length+1) (Lands.mk' (m:=l.length) (Nat.lt_succ_self _) ⟨0,(L++(c0::t0).map E.byte).length+((c1::b1).map E.byte).length,(L++(c0::t0).map E.byte)++(c1::b1).map E.byte,rfl,by simp only[List.length_append],by simp[Zba],rfl,rfl,rfl⟩ ?_ rfl rfl rfl rfl rfl rfl) ?_
   ·exact .cons rfl (.cons rfl (.cons rfl (.cons rfl (.cons rfl .nil))))
   rintro f tm bx fr ⟨i,c,M,hf,hc,hM,rfl,rfl,rfl⟩
   subst hc
   have hU:=Zcb l
   have hUM:Uni 1 M:=by rw[hM];exact hUL.append (Zbf _)
   have hMl:M.length=L.length+((c0::t0)++((c1::b1)++Zba (l.take i))).length:=by rw[hM];simp only[List.length_append,List.length_map]
   rcases Nat.lt_or_ge i l.length with hlt|hge
   ·have hdl:decide ((i:Int)<((ZaB l).length:Int))=true:=decide_eq_true (by omega)
    obtain⟨⟨k1,n1,b2,l1⟩,hy⟩:∃ y,l[i]?=some y:=⟨_,List.getElem?_eq_getElem hlt⟩
    have hv:(ZaB l)[((i:Nat):Int).toNat]?=some (.agg [.int .i64 k1,.int .u64 (n1:Int),.sl (b2.map E.byte),.sl (ZaB l1)]):=by
     rw[Int.toNat_natCast,ZaK,List.getElem?_map,hy];rfl
    have hmem:=List.mem_of_getElem? hy
    have hps:=ZaI hy
    have hpl:=ZaP l (i+1)
    have hps2:=congrArg List.length hps
    rw[List.length_append]at hps2
    have hc:=ih _ hmem (Za4 hws _ hmem) (Zbs hos _ hmem) M _ rfl hUM (by simp only[List.length_append]at hMl hlim;omega)
    have ei:IntKind.i64.wrap ((i:Int)+1)=((i+1:Nat):Int):=by rw[IntWalk.i64_in _ (by omega)];omega
    repeat'(first|rw[ei]|(apply ZaO [] [0] (hc);kernel_rfl;(iterate 10 exact Z))|(apply Zaj Zab;exact Z)|(apply Zah Zab;exact Z)|(apply Zac;exact Z;exact Go.Zqm)|(apply Zau Zab;(iterate 6 exact Z);(first|exact Go.Zqm|rotate_left);(first|with_reducible assumption|decide +kernel|exact Z);(first|exact Zai rfl|with_reducible assumption|decide +kernel|rotate_left)))
    refine Lands.mk' (m:=f-1) (by omega) ⟨i+1,M.length+(Zbg (.mk k1 n1 b2 l1)).length,M++(Zbg (.mk k1 n1 b2 l1)).map E.byte,by omega,by simp only[List.length_append,List.length_map],by rw[hM,hps];simp,rfl,rfl,rfl⟩ ?_ rfl rfl rfl rfl rfl rfl
    exact .cons rfl (.cons rfl (.cons rfl (.cons rfl (.cons rfl .nil))))
   ·have hdl:decide ((i:Int)<((ZaB l).length:Int))=false:=decide_eq_false (by omega)
    rw[List.take_of_length_le hge]at hM hMl
    repeat'(first|(apply Zah Zab;exact Z)|(apply Zaf;exact Z;exact Go.Zqm))
    all_goals(apply Zer [] [0];(apply Zad Zab;exact Z);(iterate 7 exact Z))
    ·rw[hM];rfl
    ·rfl
    ·rw[hMl];rfl
 ·rcases hbc with rfl|⟨c1,b1,rfl⟩
  ·refine Zao Tryz.func159 rfl Tryz.ntmps159 rfl rfl ?_
   repeat'(first|rw[eb]|(apply Zaa (hW);kernel_rfl;(iterate 4 exact Z))|(apply Zaj Zab;exact Z)|(apply Zah Zab;exact Z)|(apply Zav Zab;exact Z)|(apply Zac;exact Z;exact Go.Zqm)|(apply Zaf;exact Z;exact Go.Zqm)|(apply Zan Zab;(iterate 4 exact Z))|(apply Zam 5 ZaJ;decide +kernel;kernel_rfl;kernel_rfl;kernel_rfl;exact Z;exact Z)|(apply Zaq;(iterate 4 exact Z))|exact AE.nil _ _ _ _|(apply Zas;exact Z)|(apply Za8;exact Z)|(apply Zaw;exact Z;exact Z;decide +kernel;exact Z)|(apply Zax;exact Z)|(apply Zbq;exact Z)|exact AO.nil _ _ _|(apply Zap;(decide +kernel))|(apply ZaV;(iterate 3 exact Z))|exact AOs.nil|exact ZaE rfl rfl|exact ZbZ rfl rfl|(apply ZaG Zab;(iterate 6 exact Z))|(apply ZaH Zab;(iterate 6 exact Z);(first|with_reducible assumption|decide +kernel|exact Z|rotate_left);exact Z;exact Z;(first|exact Zai rfl|with_reducible assumption|decide +kernel|rotate_left);(first|exact Zai rfl|with_reducible assumption|decide +kernel|rotate_left);(first|exact Go.Zqm|rotate_left);(first|exact Go.Zqm|rotate_left);(first|exact Go.Zqm|rotate_left);exact Z;exact Z))
   all_goals first|(first|rfl|(simp only[List.length_append,List.length_cons,List.length_nil,List.length_map,Zar];done)|(simp only[List.length_append,List.length_cons,List.length_nil,List.length_map,Zar]at *;(try unfold maxLen);(try simp only[Nat.add_mul]);omega))|skip
   refine ZaF (fun f tm bx fr=>∃(i c:Nat) (M:List E),f+i=l.length/\c=M.length/\M=L++((c0::t0)++(([]:List UInt8)++Zba (l.take i))).map E.byte/\tm=[(0,.sl (.own 0) M),(3,.ptr 0 0),(42,.sl .ext (ZaB l)),(43,.int .i64 ((ZaB l).length:Int)),(44,.int .i64 (i:Int))]/\bx=[itC (3) n ([]:List UInt8) l]/\fr=[⟨c,1,5⟩]) (l.length+1) (Lands.mk' (m:=l.length) (Nat.lt_succ_self _) ⟨0,L.length+((c0::t0).map E.byte).length,L++(c0::t0).map E.byte,rfl,by simp only[List.length_append],by simp[Zba],rfl,rfl,rfl⟩ ?_ rfl rfl rfl rfl rfl rfl) ?_
   ·exact .cons rfl (.cons rfl (.cons rfl (.cons rfl (.cons rfl .nil))))
   rintro f tm bx fr ⟨i,c,M,hf,hc,hM,rfl,rfl,rfl⟩
   subst hc
   have hU:=Zcb l
   have hUM:Uni 1 M:=by rw[hM];exact hUL.append (Zbf _)
   have hMl:M.length=L.length+((c0::t0)++(([]:List UInt8)++Zba (l.take i))).length:=by rw[hM];simp only[List.length_append,List.length_map]
   rcases Nat.lt_or_ge i l.length with hlt|hge
   ·have hdl:decide ((i:Int)<((ZaB l).length:Int))=true:=decide_eq_true (by omega)
    obtain⟨⟨k1,n1,b2,l1⟩,hy⟩:∃ y,l[i]?=some y:=⟨_,List.getElem?_eq_getElem hlt⟩
    have hv:(ZaB l)[((i:Nat):Int).toNat]?=some (.agg [.int .i64 k1,.int .u64 (n1:Int),.sl (b2.map E.byte),.sl (ZaB l1)]):=by
     rw[Int.toNat_natCast,ZaK,List.getElem?_map,hy];rfl
    have hmem:=List.mem_of_getElem? hy
    have hps:=ZaI hy
    have hpl:=ZaP l (i+1)
    have hps2:=congrArg List.length hps
    rw[List.length_append]at hps2
    have hc:=ih _ hmem (Za4 hws _ hmem) (Zbs hos _ hmem) M _ rfl hUM (by simp only[List.length_append]at hMl hlim;omega)
    have ei:IntKind.i64.wrap ((i:Int)+1)=((i+1:Nat):Int):=by rw[IntWalk.i64_in _ (by omega)];omega
    repeat'(first|rw[ei]|(apply ZaO [] [0] (hc);kernel_rfl;(iterate 10 exact Z))|(apply Zaj Zab;exact Z)|(apply Zah Zab;exact Z)|(apply Zac;exact Z;exact Go.Zqm)|(apply Zau Zab;(iterate 6 exact Z);(first|exact Go.Zqm|rotate_left);(first|with_reducible assumption|decide +kernel|exact Z);(first|exact Zai rfl|with_reducible assumption|decide +kernel|rotate_left)))
    refine Lands.mk' (m:=f-1) (by omega) ⟨i+1,M.length+(Zbg (.mk k1 n1 b2 l1)).length,M++(Zbg (.mk k1 n1 b2 l1)).map E.byte,by omega,by simp only[List.length_append,List.length_map],by rw[hM,hps];simp,rfl,rfl,rfl⟩ ?_ rfl rfl rfl rfl rfl rfl
    exact .cons rfl (.cons rfl (.cons rfl (.cons rfl (.cons rfl .nil))))
   ·have hdl:decide ((i:Int)<((ZaB l).length:Int))=false:=decide_eq_false (by omega)
    rw[List.take_of_length_le hge]at hM hMl
    repeat'(first|(apply Zah Zab;exact Z)|(apply Zaf;exact Z;exact Go.Zqm))
    all_goals(apply Zer [] [0];(apply Zad Zab;exact Z);(iterate 7 exact Z))
    ·rw[hM];rfl
    ·rfl
    ·rw[hMl];rfl
  ·refine Zao Tryz.func159 rfl Tryz.ntmps159 rfl rfl ?_
   repeat'(first|rw[eb]|(apply Zaa (hW);kernel_rfl;(iterate 4 exact Z))|(apply Zaj Zab;exact Z)|(apply Zah Zab;exact Z)|(apply Zav Zab;exact Z)|(apply Zac;exact Z;exact Go.Zqm)|(apply Zaf;exact Z;exact Go.Zqm)|(apply Zan Zab;(iterate 4 exact Z))|(apply Zam 5 ZaJ;decide +kernel;kernel_rfl;kernel_rfl;kernel_rfl;exact Z;exact Z)|(apply Zaq;(iterate 4 exact Z))|exact AE.nil _ _ _ _|(apply Zas;exact Z)|(apply Za8;exact Z)|(apply Zaw;exact Z;exact Z;decide +kernel;exact Z)|(apply Zax;exact Z)|(apply Zbq;exact Z)|exact AO.nil _ _ _|(apply Zap;(decide +kernel))|(apply ZaV;(iterate 3 exact Z))|exact AOs.nil|exact ZaE rfl rfl|exact ZbZ rfl rfl|(apply ZaH Zab;(iterate 6 exact Z);(first|with_reducible assumption|decide +kernel|exact Z|rotate_left);exact Z;exact Z;(first|exact Zai rfl|with_reducible assumption|decide +kernel|rotate_left);(first|exact Zai rfl|with_reducible assumption|decide +kernel|rotate_left);(first|exact Go.Zqm|rotate_left);(first|exact Go.Zqm|rotate_left);(first|exact Go.Zqm|rotate_left);exact Z;exact Z))
   all_goals first|(first|rfl|(simp only[List.length_append,List.length_cons,List.length_nil,List.length_map,Zar];done)|(simp only[List.length_append,List.length_cons,List.length_nil,List.length_map,Zar]at *;(try unfold maxLen);(try simp only[Nat.add_mul]);omega))|skip
   refine ZaF (fun f tm bx fr=>∃(i c:Nat) (M:List E),f+i=l.length/\c=M.length/\M=L++((c0::t0)++((c1::b1)++Zba (l.take i))).map E.byte/\tm=[(0,.sl (.own 0) M),(3,.ptr 0 0),(42,.sl .ext (ZaB l)),(43,.int .i64 ((ZaB l).length:Int)),(44,.int .i64 (i:Int))]/\bx=[itC (3) n (c1::b1) l]/\fr=[⟨c,1,5⟩]) (l.length+1) (Lands.mk' (m:=l.length) (Nat.lt_succ_self _) ⟨0,(L++(c0::t0).map E.byte).length+((c1::b1).map E.byte).length,(L++(c0::t0).map E.byte)++(c1::b1).map E.byte,rfl,by simp only[List.length_append],by simp[Zba],rfl,rfl,rfl⟩ ?_ rfl rfl rfl rfl rfl rfl) ?_
   ·exact .cons rfl (.cons rfl (.cons rfl (.cons rfl (.cons rfl .nil))))
   rintro f tm bx fr ⟨i,c,M,hf,hc,hM,rfl,rfl,rfl⟩
   subst hc
   have hU:=Zcb l
   have hUM:Uni 1 M:=by rw[hM];exact hUL.append (Zbf _)
   have hMl:M.length=L.length+((c0::t0)++((c1::b1)++Zba (l.take i))).length:=by rw[hM];simp only[List.length_append,List.length_map]
   rcases Nat.lt_or_ge i l.length with hlt|hge
   ·have hdl:decide ((i:Int)<((ZaB l).length:Int))=true:=decide_eq_true (by omega)
    obtain⟨⟨k1,n1,b2,l1⟩,hy⟩:∃ y,l[i]?=some y:=⟨_,List.getElem?_eq_getElem hlt⟩
    have hv:(ZaB l)[((i:Nat):Int).toNat]?=some (.agg [.int .i64 k1,.int .u64 (n1:Int),.sl (b2.map E.byte),.sl (ZaB l1)]):=by
     rw[Int.toNat_natCast,ZaK,List.getElem?_map,hy];rfl
    have hmem:=List.mem_of_getElem? hy
    have hps:=ZaI hy
    have hpl:=ZaP l (i+1)
    have hps2:=congrArg List.length hps
    rw[List.length_append]at hps2
    have hc:=ih _ hmem (Za4 hws _ hmem) (Zbs hos _ hmem) M _ rfl hUM (by simp only[List.length_append]at hMl hlim;omega)
    have ei:IntKind.i64.wrap ((i:Int)+1)=((i+1:Nat):Int):=by rw[IntWalk.i64_in _ (by omega)];omega
    repeat'(first|rw[ei]|(apply ZaO [] [0] (hc);kernel_rfl;(iterate 10 exact Z))|(apply Zaj Zab;exact Z)|(apply Zah Zab;exact Z)|(apply Zac;exact Z;exact Go.Zqm)|(apply Zau Zab;(iterate 6 exact Z);(first|exact Go.Zqm|rotate_left);(first|with_reducible assumption|decide +kernel|exact Z);(first|exact Zai rfl|with_reducible assumption|decide +kernel|rotate_left)))
    refine Lands.mk' (m:=f-1) (by omega) ⟨i+1,M.length+(Zbg (.mk k1 n1 b2 l1)).length,M++(Zbg (.mk k1 n1 b2 l1)).map E.byte,by omega,by simp only[List.length_append,List.length_map],by rw[hM,hps];simp,rfl,rfl,rfl⟩ ?_ rfl rfl rfl rfl rfl rfl
    exact .cons rfl (.cons rfl (.cons rfl (.cons rfl (.cons rfl .nil))))
   ·have hdl:decide ((i:Int)<((ZaB l).length:Int))=false:=decide_eq_false (by omega)
    rw[List.take_of_length_le hge]at hM hMl
    repeat'(first|(apply Zah Zab;exact Z)|(apply Zaf;exact Z;exact Go.Zqm))
    all_goals(apply Zer [] [0];(apply Zad Zab;exact Z);(iterate 7 exact Z))
    ·rw[hM];rfl
    ·rfl
    ·rw[hMl];rfl
 ·rcases hbc with rfl|⟨c1,b1,rfl⟩
  ·refine Zao Tryz.func159 rfl Tryz.ntmps159 rfl rfl ?_
   repeat'(first|rw[el]|(apply Zaa (hW);kernel_rfl;(iterate 4 exact Z))|(apply Zaj Zab;exact Z)|(apply Zah Zab;exact Z)|(apply Zav Zab;exact Z)|(apply Zac;exact Z;exact Go.Zqm)|(apply Zaf;exact Z;exact Go.Zqm)|(apply Zan Zab;(iterate 4 exact Z))|(apply Zam 5 ZaJ;decide +kernel;kernel_rfl;kernel_rfl;kernel_rfl;exact Z;exact Z)|(apply Zaq;(iterate 4 exact Z))|exact AE.nil _ _ _ _|(apply Zas;exact Z)|(apply Za8;exact Z)|(apply Zaw;exact Z;exact Z;decide +kernel;exact Z)|(apply Zax;exact Z)|(apply Zbq;exact Z)|exact AO.nil _ _ _|(apply Zap;(decide +kernel))|(apply ZaV;(iterate 3 exact Z))|exact AOs.nil|exact ZaE rfl rfl|exact ZbZ rfl rfl|(apply ZaG Zab;(iterate 6 exact Z))|(apply ZaH Zab;(iterate 6 exact Z);(first|with_reducible assumption|decide +kernel|exact Z|rotate_left);exact Z;exact Z;(first|exact Zai rfl|with_reducible assumption|decide +kernel|rotate_left);(first|exact Zai rfl|with_reducible assumption|decide +kernel|rotate_left);(first|exact Go.Zqm|rotate_left);(first|exact Go.Zqm|rotate_left);(first|exact Go.Zqm|rotate_left);exact Z;exact Z))
   all_goals first|(first|rfl|(simp only[List.length_append,List.length_cons,List.length_nil,List.length_map,Zar];done)|(simp only[List.length_append,List.length_cons,List.length_nil,List.length_map,Zar]at *;(try unfold maxLen);(try simp only[Nat.add_mul]);omega))|skip
   refine ZaF (fun f tm bx fr=>∃(i c:Nat) (M:List E),f+i=l.length/\c=M.length/\M=L++((c0::t0)++(([]:List UInt8)++Zba (l.take i))).map E.byte/\tm=[(0,.sl (.own 0) M),(3,.ptr 0 0),(42,.sl .ext (ZaB l)),(43,.int .i64 ((ZaB l).length:Int)),(44,.int .i64 (i:Int))]/\bx=[itC (4) n ([]:List UInt8) l]/\fr=[⟨c,1,5⟩]) (l.length+1) (Lands.mk' (m:=l.length) (Nat.lt_succ_self _) ⟨0,L.length+((c0::t0).map E.byte).length,L++(c0::t0).map E.byte,rfl,by simp only[List.length_append],by simp[Zba],rfl,rfl,rfl⟩ ?_ rfl rfl rfl rfl rfl rfl) ?_
   ·exact .cons rfl (.cons rfl (.cons rfl (.cons rfl (.cons rfl .nil))))
   rintro f tm bx fr ⟨i,c,M,hf,hc,hM,rfl,rfl,rfl⟩
   subst hc
   have hU:=Zcb l
   have hUM:Uni 1 M:=by rw[hM];exact hUL.append (Zbf _)
   have hMl:M.length=L.length+((c0::t0)++(([]:List UInt8)++Zba (l.take i))).length:=by rw[hM];simp only[List.length_append,List.length_map]
   rcases Nat.lt_or_ge i l.length with hlt|hge
   ·have hdl:decide ((i:Int)<((ZaB l).length:Int))=true:=decide_eq_true (by omega)
    obtain⟨⟨k1,n1,b2,l1⟩,hy⟩:∃ y,l[i]?=some y:=⟨_,List.getElem?_eq_getElem hlt⟩
    have hv:(ZaB l)[((i:Nat):Int).toNat]?=some (.agg [.int .i64 k1,.int .u64 (n1:Int),.sl (b2.map E.byte),.sl (ZaB l1)]):=by
     rw[Int.toNat_natCast,ZaK,List.getElem?_map,hy];rfl
    have hmem:=List.mem_of_getElem? hy
    have hps:=ZaI hy
    have hpl:=ZaP l (i+1)
    have hps2:=congrArg List.length hps
    rw[List.length_append]at hps2
    have hc:=ih _ hmem (Za4 hws _ hmem) (Zbs hos _ hmem) M _ rfl hUM (by simp only[List.length_append]at hMl hlim;omega)
    have ei:IntKind.i64.wrap ((i:Int)+1)=((i+1:Nat):Int):=by rw[IntWalk.i64_in _ (by omega)];omega
    repeat'(first|rw[ei]|(apply ZaO [] [0] (hc);kernel_rfl;(iterate 10 exact Z))|(apply Zaj Zab;exact Z)|(apply Zah Zab;exact Z)|(apply Zac;exact Z;exact Go.Zqm)|(apply Zau Zab;(iterate 6 exact Z);(first|exact Go.Zqm|rotate_left);(first|with_reducible assumption|decide +kernel|exact Z);(first|exact Zai rfl|with_reducible assumption|decide +kernel|rotate_left)))
    refine Lands.mk' (m:=f-1) (by omega) ⟨i+1,M.length+(Zbg (.mk k1 n1 b2 l1)).length,M++(Zbg (.mk k1 n1 b2 l1)).map E.byte,by omega,by simp only[List.length_append,List.length_map],by rw[hM,hps];simp,rfl,rfl,rfl⟩ ?_ rfl rfl rfl rfl rfl rfl
    exact .cons rfl (.cons rfl (.cons rfl (.cons rfl (.cons rfl .nil))))
   ·have hdl:decide ((i:Int)<((ZaB l).length:Int))=false:=decide_eq_false (by omega)
    rw[List.take_of_length_le hge]at hM hMl
    repeat'(first|(apply Zah Zab;exact Z)|(apply Zaf;exact Z;exact Go.Zqm))
    all_goals(apply Zer [] [0];(apply Zad Zab;exact Z);(iterate 7 exact Z))
    ·rw[hM];rfl
    ·rfl
    ·rw[hMl];rfl
  ·refine Zao Tryz.func159 rfl Tryz.ntmps159 rfl rfl ?_
   repeat'(first|rw[el]|(apply Zaa (hW);kernel_rfl;(iterate 4 exact Z))|(apply Zaj Zab;exact Z)|(apply Zah Zab;exact Z)|(apply Zav Zab;exact Z)|(apply Zac;exact Z;exact Go.Zqm)|(apply Zaf;exact Z;exact Go.Zqm)|(apply Zan Zab;(iterate 4 exact Z))|(apply Zam 5 ZaJ;decide +kernel;kernel_rfl;kernel_rfl;kernel_rfl;exact Z;exact Z)|(apply Zaq;(iterate 4 exact Z))|exact AE.nil _ _ _ _|(apply Zas;exact Z)|(apply Za8;exact Z)|(apply Zaw;exact Z;exact Z;decide +kernel;exact Z)|(apply Zax;exact Z)|(apply Zbq;exact Z)|exact AO.nil _ _ _|(apply Zap;(decide +kernel))|(apply ZaV;(iterate 3 exact Z))|exact AOs.nil|exact ZaE rfl rfl|exact ZbZ rfl rfl|(apply ZaH Zab;(iterate 6 exact Z);(first|with_reducible assumption|decide +kernel|exact Z|rotate_left);exact Z;exact Z;(first|exact Zai rfl|with_reducible assumption|decide +kernel|rotate_left);(first|exact Zai rfl|with_reducible assumption|decide +kernel|rotate_left);(first|exact Go.Zqm|rotate_left);(first|exact Go.Zqm|rotate_left);(first|exact Go.Zqm|rotate_left);exact Z;exact Z))
   all_goals first|(first|rfl|(simp only[List.length_append,List.length_cons,List.length_nil,List.length_map,Zar];done)|(simp only[List.length_append,List.length_cons,List.length_nil,List.length_map,Zar]at *;(try unfold maxLen);(try simp only[Nat.add_mul]);omega))|skip
   refine ZaF (fun f tm bx fr=>∃(i c:Nat) (M:List E),f+i=l.length/\c=M.length/\M=L++((c0::t0)++((c1::b1)++Zba (l.take i))).map E.byte/\tm=[(0,.sl (.own 0) M),(3,.ptr 0 0),(42,.sl .ext (ZaB l)),(43,.int .i64 ((ZaB l).length:Int)),(44,.int .i64 (i:Int))]/\bx=[itC (4) n (c1::b1) l]/\fr=[⟨c,1,5⟩]) (l.length+1) (Lands.mk' (m:=l.length) (Nat.lt_succ_self _) ⟨0,(L++(c0::t0).map E.byte).length+((c1::b1).map E.byte).length,(L++(c0::t0).map E.byte)++(c1::b1).map E.byte,rfl,by simp only[List.length_append],by simp[Zba],rfl,rfl,rfl⟩ ?_ rfl rfl rfl rfl rfl rfl) ?_
   ·exact .cons rfl (.cons rfl (.cons rfl (.cons rfl (.cons rfl .nil))))
   rintro f tm bx fr ⟨i,c,M,hf,hc,hM,rfl,rfl,rfl⟩
   subst hc
   have hU:=Zcb l
   have hUM:Uni 1 M:=by rw[hM];exact hUL.append (Zbf _)
   have hMl:M.length=L.length+((c0::t0)++((c1::b1)++Zba (l.take i))).length:=by rw[hM];simp only[List.length_append,List.length_map]
   rcases Nat.lt_or_ge i l.length with hlt|hge
   ·have hdl:decide ((i:Int)<((ZaB l).length:Int))=true:=decide_eq_true (by omega)
    obtain⟨⟨k1,n1,b2,l1⟩,hy⟩:∃ y,l[i]?=some y:=⟨_,List.getElem?_eq_getElem hlt⟩
    have hv:(ZaB l)[((i:Nat):Int).toNat]?=some (.agg [.int .i64 k1,.int .u64 (n1:Int),.sl (b2.map E.byte),.sl (ZaB l1)]):=by
     rw[Int.toNat_natCast,ZaK,List.getElem?_map,hy];rfl
    have hmem:=List.mem_of_getElem? hy
    have hps:=ZaI hy
    have hpl:=ZaP l (i+1)
    have hps2:=congrArg List.length hps
    rw[List.length_append]at hps2
    have hc:=ih _ hmem (Za4 hws _ hmem) (Zbs hos _ hmem) M _ rfl hUM (by simp only[List.length_append]at hMl hlim;omega)
    have ei:IntKind.i64.wrap ((i:Int)+1)=((i+1:Nat):Int):=by rw[IntWalk.i64_in _ (by omega)];omega
    repeat'(first|rw[ei]|(apply ZaO [] [0] (hc);kernel_rfl;(iterate 10 exact Z))|(apply Zaj Zab;exact Z)|(apply Zah Zab;exact Z)|(apply Zac;exact Z;exact Go.Zqm)|(apply Zau Zab;(iterate 6 exact Z);(first|exact Go.Zqm|rotate_left);(first|with_reducible assumption|decide +kernel|exact Z);(first|exact Zai rfl|with_reducible assumption|decide +kernel|rotate_left)))
    refine Lands.mk' (m:=f-1) (by omega) ⟨i+1,M.length+(Zbg (.mk k1 n1 b2 l1)).length,M++(Zbg (.mk k1 n1 b2 l1)).map E.byte,by omega,by simp only[List.length_append,List.length_map],by rw[hM,hps];simp,rfl,rfl,rfl⟩ ?_ rfl rfl rfl rfl rfl rfl
    exact .cons rfl (.cons rfl (.cons rfl (.cons rfl (.cons rfl .nil))))
   ·have hdl:decide ((i:Int)<((ZaB l).length:Int))=false:=decide_eq_false (by omega)
    rw[List.take_of_length_le hge]at hM hMl
    repeat'(first|(apply Zah Zab;exact Z)|(apply Zaf;exact Z;exact Go.Zqm))
    all_goals(apply Zer [] [0];(apply Zad Zab;exact Z);(iterate 7 exact Z))
    ·rw[hM];rfl
    ·rfl
    ·rw[hMl];rfl
 ·rw[hh]at hW
  clear hh
  have q2:=hne2 k2
  have q3:=hne3 k3
  have q4:=hne4 k4
  rcases hbc with rfl|⟨c1,b1,rfl⟩
  ·refine Zao Tryz.func159 rfl Tryz.ntmps159 rfl rfl ?_
   repeat'(first|(apply Zaa (hW);kernel_rfl;(iterate 4 exact Z))|(apply Zaj Zab;exact Z)|(apply Zah Zab;exact Z)|(apply Zav Zab;exact Z)|(apply Zaf;exact Z;exact Go.Zqm)|(apply Zan Zab;(iterate 4 exact Z))|(apply Zam 5 ZaJ;decide +kernel;kernel_rfl;kernel_rfl;kernel_rfl;exact Z;exact Z)|(apply Zaq;(iterate 4 exact Z))|exact AE.nil _ _ _ _|(apply Zas;exact Z)|(apply Za8;exact Z)|(apply Zaw;exact Z;exact Z;decide +kernel;exact Z)|(apply Zax;exact Z)|(apply Zbq;exact Z)|exact AO.nil _ _ _|(apply Zap;(decide +kernel))|(apply ZaV;(iterate 3 exact Z))|exact AOs.nil|exact ZaE rfl rfl|exact ZbZ rfl rfl|(apply ZaG Zab;(iterate 6 exact Z))|(apply ZaH Zab;(iterate 6 exact Z);(first|with_reducible assumption|decide +kernel|exact Z|rotate_left);exact Z;exact Z;(first|exact Zai rfl|with_reducible assumption|decide +kernel|rotate_left);(first|exact Zai rfl|with_reducible assumption|decide +kernel|rotate_left);(first|exact Go.Zqm|rotate_left);(first|exact Go.Zqm|rotate_left);(first|exact Go.Zqm|rotate_left);exact Z;exact Z))
   all_goals first|(first|rfl|(simp only[List.length_append,List.length_cons,List.length_nil,List.length_map,Zar];done)|(simp only[List.length_append,List.length_cons,List.length_nil,List.length_map,Zar]at *;(try unfold maxLen);(try simp only[Nat.add_mul]);omega))|skip
   refine ZaF (fun f tm bx fr=>∃(i c:Nat) (M:List E),f+i=l.length/\c=M.length/\M=L++((c0::t0)++(([]:List UInt8)++Zba (l.take i))).map E.byte/\tm=[(0,.sl (.own 0) M),(3,.ptr 0 0),(42,.sl .ext (ZaB l)),(43,.int .i64 ((ZaB l).length:Int)),(44,.int .i64 (i:Int))]/\bx=[itC (k) n ([]:List UInt8) l]/\fr=[⟨c,1,5⟩]) (l.length+1) (Lands.mk' (m:=l.length) (Nat.lt_succ_self _) ⟨0,L.length+((c0::t0).map E.byte).length,L++(c0::t0).map E.byte,rfl,by simp only[List.length_append],by simp[Zba],rfl,rfl,rfl⟩ ?_ rfl rfl rfl rfl rfl rfl) ?_
   ·exact .cons rfl (.cons rfl (.cons rfl (.cons rfl (.cons rfl .nil))))
   rintro f tm bx fr ⟨i,c,M,hf,hc,hM,rfl,rfl,rfl⟩
   subst hc
   have hU:=Zcb l
   have hUM:Uni 1 M:=by rw[hM];exact hUL.append (Zbf _)
   have hMl:M.length=L.length+((c0::t0)++(([]:List UInt8)++Zba (l.take i))).length:=by rw[hM];simp only[List.length_append,List.length_map]
   rcases Nat.lt_or_ge i l.length with hlt|hge
   ·have hdl:decide ((i:Int)<((ZaB l).length:Int))=true:=decide_eq_true (by omega)
    obtain⟨⟨k1,n1,b2,l1⟩,hy⟩:∃ y,l[i]?=some y:=⟨_,List.getElem?_eq_getElem hlt⟩
    have hv:(ZaB l)[((i:Nat):Int).toNat]?=some (.agg [.int .i64 k1,.int .u64 (n1:Int),.sl (b2.map E.byte),.sl (ZaB l1)]):=by
     rw[Int.toNat_natCast,ZaK,List.getElem?_map,hy];rfl
    have hmem:=List.mem_of_getElem? hy
    have hps:=ZaI hy
    have hpl:=ZaP l (i+1)
    have hps2:=congrArg List.length hps
    rw[List.length_append]at hps2
    have hc:=ih _ hmem (Za4 hws _ hmem) (Zbs hos _ hmem) M _ rfl hUM (by simp only[List.length_append]at hMl hlim;omega)
    have ei:IntKind.i64.wrap ((i:Int)+1)=((i+1:Nat):Int):=by rw[IntWalk.i64_in _ (by omega)];omega
    repeat'(first|rw[ei]|(apply ZaO [] [0] (hc);kernel_rfl;(iterate 10 exact Z))|(apply Zaj Zab;exact Z)|(apply Zah Zab;exact Z)|(apply Zac;exact Z;exact Go.Zqm)|(apply Zau Zab;(iterate 6 exact Z);(first|exact Go.Zqm|rotate_left);(first|with_reducible assumption|decide +kernel|exact Z);(first|exact Zai rfl|with_reducible assumption|decide +kernel|rotate_left)))
    refine Lands.mk' (m:=f-1) (by omega) ⟨i+1,M.length+(Zbg (.mk k1 n1 b2 l1)).length,M++(Zbg (.mk k1 n1 b2 l1)).map E.byte,by omega,by simp only[List.length_append,List.length_map],by rw[hM,hps];simp,rfl,rfl,rfl⟩ ?_ rfl rfl rfl rfl rfl rfl
    exact .cons rfl (.cons rfl (.cons rfl (.cons rfl (.cons rfl .nil))))
   ·have hdl:decide ((i:Int)<((ZaB l).length:Int))=false:=decide_eq_false (by omega)
    rw[List.take_of_length_le hge]at hM hMl
    repeat'(first|(apply Zah Zab;exact Z)|(apply Zaf;exact Z;exact Go.Zqm))
    all_goals(apply Zer [] [0];(apply Zad Zab;exact Z);(iterate 7 exact Z))
    ·rw[hM];rfl
    ·rfl
    ·rw[hMl];rfl
  ·refine Zao Tryz.func159 rfl Tryz.ntmps159 rfl rfl ?_
   repeat'(first|(apply Zaa (hW);kernel_rfl;(iterate 4 exact Z))|(apply Zaj Zab;exact Z)|(apply Zah Zab;exact Z)|(apply Zav Zab;exact Z)|(apply Zaf;exact Z;exact Go.Zqm)|(apply Zan Zab;(iterate 4 exact Z))|(apply Zam 5 ZaJ;decide +kernel;kernel_rfl;kernel_rfl;kernel_rfl;exact Z;exact Z)|(apply Zaq;(iterate 4 exact Z))|exact AE.nil _ _ _ _|(apply Zas;exact Z)|(apply Za8;exact Z)|(apply Zaw;exact Z;exact Z;decide +kernel;exact Z)|(apply Zax;exact Z)|(apply Zbq;exact Z)|exact AO.nil _ _ _|(apply Zap;(decide +kernel))|(apply ZaV;(iterate 3 exact Z))|exact AOs.nil|exact ZaE rfl rfl|exact ZbZ rfl rfl|(apply ZaH Zab;(iterate 6 exact Z);(first|with_reducible assumption|decide +kernel|exact Z|rotate_left);exact Z;exact Z;(first|exact Zai rfl|with_reducible assumption|decide +kernel|rotate_left);(first|exact Zai rfl|with_reducible assumption|decide +kernel|rotate_left);(first|exact Go.Zqm|rotate_left);(first|exact Go.Zqm|rotate_left);(first|exact Go.Zqm|rotate_left);exact Z;exact Z))
   all_goals first|(first|rfl|(simp only[List.length_append,List.length_cons,List.length_nil,List.length_map,Zar];done)|(simp only[List.length_append,List.length_cons,List.length_nil,List.length_map,Zar]at *;(try unfold maxLen);(try simp only[Nat.add_mul]);omega))|skip
   refine ZaF (fun f tm bx fr=>∃(i c:Nat) (M:List E),f+i=l.length/\c=M.length/\M=L++((c0::t0)++((c1::b1)++Zba (l.take i))).map E.byte/\tm=[(0,.sl (.own 0) M),(3,.ptr 0 0),(42,.sl .ext (ZaB l)),(43,.int .i64 ((ZaB l).length:Int)),(44,.int .i64 (i:Int))]/\bx=[itC (k) n (c1::b1) l]/\fr=[⟨c,1,5⟩]) (l.length+1) (Lands.mk' (m:=l.length) (Nat.lt_succ_self _) ⟨0,(L++(c0::t0).map E.byte).length+((c1::b1).map E.byte).length,(L++(c0::t0).map E.byte)++(c1::b1).map E.byte,rfl,by simp only[List.length_append],by simp[Zba],rfl,rfl,rfl⟩ ?_ rfl rfl rfl rfl rfl rfl) ?_
   ·exact .cons rfl (.cons rfl (.cons rfl (.cons rfl (.cons rfl .nil))))
   rintro f tm bx fr ⟨i,c,M,hf,hc,hM,rfl,rfl,rfl⟩
   subst hc
   have hU:=Zcb l
   have hUM:Uni 1 M:=by rw[hM];exact hUL.append (Zbf _)
   have hMl:M.length=L.length+((c0::t0)++((c1::b1)++Zba (l.take i))).length:=by rw[hM];simp only[List.length_append,List.length_map]
   rcases Nat.lt_or_ge i l.length with hlt|hge
   ·have hdl:decide ((i:Int)<((ZaB l).length:Int))=true:=decide_eq_true (by omega)
    obtain⟨⟨k1,n1,b2,l1⟩,hy⟩:∃ y,l[i]?=some y:=⟨_,List.getElem?_eq_getElem hlt⟩
    have hv:(ZaB l)[((i:Nat):Int).toNat]?=some (.agg [.int .i64 k1,.int .u64 (n1:Int),.sl (b2.map E.byte),.sl (ZaB l1)]):=by
     rw[Int.toNat_natCast,ZaK,List.getElem?_map,hy];rfl
    have hmem:=List.mem_of_getElem? hy
    have hps:=ZaI hy
    have hpl:=ZaP l (i+1)
    have hps2:=congrArg List.length hps
    rw[List.length_append]at hps2
    have hc:=ih _ hmem (Za4 hws _ hmem) (Zbs hos _ hmem) M _ rfl hUM (by simp only[List.length_append]at hMl hlim;omega)
    have ei:IntKind.i64.wrap ((i:Int)+1)=((i+1:Nat):Int):=by rw[IntWalk.i64_in _ (by omega)];omega
    repeat'(first|rw[ei]|(apply ZaO [] [0] (hc);kernel_rfl;(iterate 10 exact Z))|(apply Zaj Zab;exact Z)|(apply Zah Zab;exact Z)|(apply Zac;exact Z;exact Go.Zqm)|(apply Zau Zab;(iterate 6 exact Z);(first|exact Go.Zqm|rotate_left);(first|with_reducible assumption|decide +kernel|exact Z);(first|exact Zai rfl|with_reducible assumption|decide +kernel|rotate_left)))
    refine Lands.mk' (m:=f-1) (by omega) ⟨i+1,M.length+(Zbg (.mk k1 n1 b2 l1)).length,M++(Zbg (.mk k1 n1 b2 l1)).map E.byte,by omega,by simp only[List.length_append,List.length_map],by rw[hM,hps];simp,rfl,rfl,rfl⟩ ?_ rfl rfl rfl rfl rfl rfl
    exact .cons rfl (.cons rfl (.cons rfl (.cons rfl (.cons rfl .nil))))
   ·have hdl:decide ((i:Int)<((ZaB l).length:Int))=false:=decide_eq_false (by omega)
    rw[List.take_of_length_le hge]at hM hMl
    repeat'(first|(apply Zah Zab;exact Z)|(apply Zaf;exact Z;exact Go.Zqm))
    all_goals(apply Zer [] [0];(apply Zad Zab;exact Z);(iterate 7 exact Z))
    ·rw[hM];rfl
    ·rfl
    ·rw[hMl];rfl
theorem ZkG [Known](x:It)(hw:wfI x)(ho:okx x)(hlim:(Zbg x).length<=1099511627776):AT Tryz.prog 159 [.sl .nil [],itD x] [] [] (.sl (.own 0) ((Zbg x).map E.byte)) [] [⟨(Zbg x).length,1,5⟩]:=by
 obtain⟨k,n,b,l⟩:=x
 obtain⟨hn,hb,hl,hws⟩:=hw
 obtain⟨hk7,hos⟩:=ho
 have hlen:=Zar l
 have hr:ZaT (k,(It.mk k n b l).hn,false)=true:=by simp[ZaT];exact hk7
 have hhn:(It.mk k n b l).hn<18446744073709551616:=by simp only[It.hn];(repeat' split)<;>omega
 have hput:Zbg (.mk k n b l)=ZaM (k,(It.mk k n b l).hn,false)++(b++Zba l):=by rw[Zbg,if_pos hr]
 rw[hput]at hlim ⊢
 have hW:=ZiE (k,(It.mk k n b l).hn,false) hhn
 rw[if_pos hr,if_pos hr]at hW
 obtain⟨c0,t0,hcw⟩:=Zfj (k,(It.mk k n b l).hn,false)
 rw[hcw]at hW hlim ⊢
 have hU0:=Zbf (c0::t0)
 have hU1:=Zbf b
 have eb:IntKind.u64.wrap (((b.map E.byte).length:Nat):Int)=((b.length:Nat):Int):=by rw[List.length_map,IntKind.wrap_u64];omega
 have el:IntKind.u64.wrap (((ZaB l).length:Nat):Int)=((l.length:Nat):Int):=by rw[hlen,IntKind.wrap_u64];omega
 have hS:∀(i:Nat),IntKind.i64.wrap ((i:Int)+1)=((i+1:Nat):Int)\/2199023255488<i:=fun i=>by
  rcases Nat.lt_or_ge 2199023255488 i with h|h
  ·exact .inr h
  ·left;rw[IntWalk.i64_in _ (by omega)];omega
 have hkc:(k=2/\(It.mk k n b l).hn=b.length)\/(k=3/\(It.mk k n b l).hn=b.length)\/(k=4/\(It.mk k n b l).hn=l.length)\/(k ≠ 2/\k ≠ 3/\k ≠ 4/\(It.mk k n b l).hn=n):=by
  by_cases h2:k=2
  ·subst h2;exact .inl ⟨rfl,rfl⟩
  by_cases h3:k=3
  ·subst h3;exact .inr (.inl ⟨rfl,rfl⟩)
  by_cases h4:k=4
  ·subst h4;exact .inr (.inr (.inl ⟨rfl,rfl⟩))
  ·exact .inr (.inr (.inr ⟨h2,h3,h4,by simp[It.hn,h2,h3,h4]⟩))
 clear hhn hr hcw hput
 generalize (It.mk k n b l).hn=hn0 at hkc hW
 have hbc:b=[]\/∃ c1 b1,b=c1::b1:=by cases b<;>simp
 have hne2:k ≠ 2->(k==2)=false:=fun h=>by simpa using h
 have hne3:k ≠ 3->(k==3)=false:=fun h=>by simpa using h
 have hne4:k ≠ 4->(k==4)=false:=fun h=>by simpa using h
 rcases hkc with⟨rfl,rfl⟩ | ⟨rfl,rfl⟩ | ⟨rfl,rfl⟩ | ⟨k2,k3,k4,hh⟩
 ·rcases hbc with rfl|⟨c1,b1,rfl⟩
  ·refine Zao Tryz.func159 rfl Tryz.ntmps159 rfl rfl ?_
   repeat'(first|rw[eb]|(apply Zaa (hW);kernel_rfl;(iterate 4 exact Z))|(apply Zaj Zab;exact Z)|(apply Zah Zab;exact Z)|(apply Zav Zab;exact Z)|(apply Zac;exact Z;exact Go.Zqm)|(apply Zan Zab;(iterate 4 exact Z))|(apply Zam 5 ZaJ;decide +kernel;kernel_rfl;kernel_rfl;kernel_rfl;exact Z;exact Z)|(apply Zaq;(iterate 4 exact Z))|exact AE.nil _ _ _ _|(apply Zas;exact Z)|(apply Za8;exact Z)|(apply Zaw;exact Z;exact Z;decide +kernel;exact Z)|(apply Zax;exact Z)|(apply Zbq;exact Z)|exact AO.nil _ _ _|(apply Zap;(decide +kernel))|(apply ZaV;(iterate 3 exact Z))|exact AOs.nil|exact ZaE rfl rfl|exact ZbZ rfl rfl|(apply ZaG Zab;(iterate 6 exact Z))|(apply Za7 Zab;(iterate 6 exact Z);(first|exact Zai rfl|with_reducible assumption|decide +kernel|rotate_left);(first|exact Go.Zqm|rotate_left);(first|exact Go.Zqm|rotate_left);(first|exact Go.Zqm|rotate_left);(iterate 3 exact Z)))
   all_goals first|(first|rfl|(simp only[List.length_append,List.length_cons,List.length_nil,List.length_map,Zar];done)|(simp only[List.length_append,List.length_cons,List.length_nil,List.length_map,Zar]at *;(try unfold maxLen);(try simp only[Nat.add_mul]);omega))|skip
   refine ZaF (fun f tm bx fr=>∃(i c:Nat) (M:List E),f+i=l.length/\c=M.length/\M=((c0::t0)++(([]:List UInt8)++Zba (l.take i))).map E.byte/\tm=[(0,.sl (.own 0) M),(3,.ptr 0 0),(42,.sl .ext (ZaB l)),(43,.int .i64 ((ZaB l).length:Int)),(44,.int .i64 (i:Int))]/\bx=[itC (2) n ([]:List UInt8) l]/\fr=[⟨c,1,5⟩]) (l.length+1) (Lands.mk' (m:=l.length) (Nat.lt_succ_self _) ⟨0,((c0::t0).map E.byte).length,(c0::t0).map E.byte,rfl,by simp only[List.length_append],by simp[Zba],rfl,rfl,rfl⟩ ?_ rfl rfl rfl rfl rfl rfl) ?_
   ·exact .cons rfl (.cons rfl (.cons rfl (.cons rfl (.cons rfl .nil))))
   rintro f tm bx fr ⟨i,c,M,hf,hc,hM,rfl,rfl,rfl⟩
   subst hc
   have hU:=Zcb l
   have hUM:Uni 1 M:=by rw[hM];exact Zbf _
   have hMl:M.length=((c0::t0)++(([]:List UInt8)++Zba (l.take i))).length:=by rw[hM];simp only[List.length_append,List.length_map]
   rcases Nat.lt_or_ge i l.length with hlt|hge
   ·have hdl:decide ((i:Int)<((ZaB l).length:Int))=true:=decide_eq_true (by omega)
    obtain⟨⟨k1,n1,b2,l1⟩,hy⟩:∃ y,l[i]?=some y:=⟨_,List.getElem?_eq_getElem hlt⟩
    have hv:(ZaB l)[((i:Nat):Int).toNat]?=some (.agg [.int .i64 k1,.int .u64 (n1:Int),.sl (b2.map E.byte),.sl (ZaB l1)]):=by
     rw[Int.toNat_natCast,ZaK,List.getElem?_map,hy];rfl
    have hmem:=List.mem_of_getElem? hy
    have hps:=ZaI hy
    have hpl:=ZaP l (i+1)
    have hps2:=congrArg List.length hps
    rw[List.length_append]at hps2
    have hc:=Zde _ (Za4 hws _ hmem) (Zbs hos _ hmem) M _ rfl hUM (by simp only[List.length_append]at hMl hlim;omega)
    have ei:IntKind.i64.wrap ((i:Int)+1)=((i+1:Nat):Int):=by rw[IntWalk.i64_in _ (by omega)];omega
    repeat'(first|rw[ei]|(apply ZaO [] [0] (hc);kernel_rfl;(iterate 10 exact Z))|(apply Zaj Zab;exact Z)|(apply Zah Zab;exact Z)|(apply Zac;exact Z;exact Go.Zqm)|(apply Zau Zab;(iterate 6 exact Z);(first|exact Go.Zqm|rotate_left);(first|with_reducible assumption|decide +kernel|exact Z);(first|exact Zai rfl|with_reducible assumption|decide +kernel|rotate_left)))
    refine Lands.mk' (m:=f-1) (by omega) ⟨i+1,M.length+(Zbg (.mk k1 n1 b2 l1)).length,M++(Zbg (.mk k1 n1 b2 l1)).map E.byte,by omega,by simp only[List.length_append,List.length_map],by rw[hM,hps];simp,rfl,rfl,rfl⟩ ?_ rfl rfl rfl rfl rfl rfl
    exact .cons rfl (.cons rfl (.cons rfl (.cons rfl (.cons rfl .nil))))
   ·have hdl:decide ((i:Int)<((ZaB l).length:Int))=false:=decide_eq_false (by omega)
    rw[List.take_of_length_le hge]at hM hMl
    repeat'(first|(apply Zah Zab;exact Z)|(apply Zaf;exact Z;exact Go.Zqm))
    all_goals(apply Zer [] [0];(apply Zad Zab;exact Z);(iterate 7 exact Z))
    ·rw[hM];rfl
    ·rfl
    ·rw[hMl];rfl
  ·refine Zao Tryz.func159 rfl Tryz.ntmps159 rfl rfl ?_
   repeat'(first|rw[eb]|(apply Zaa (hW);kernel_rfl;(iterate 4 exact Z))|(apply Zaj Zab;exact Z)|(apply Zah Zab;exact Z)|(apply Zav Zab;exact Z)|(apply Zac;exact Z;exact Go.Zqm)|(apply Zan Zab;(iterate 4 exact Z))|(apply Zam 5 ZaJ;decide +kernel;kernel_rfl;kernel_rfl;kernel_rfl;exact Z;exact Z)|(apply Zaq;(iterate 4 exact Z))|exact AE.nil _ _ _ _|(apply Zas;exact Z)|(apply Za8;exact Z)|(apply Zaw;exact Z;exact Z;decide +kernel;exact Z)|(apply Zax;exact Z)|(apply Zbq;exact Z)|exact AO.nil _ _ _|(apply Zap;(decide +kernel))|(apply ZaV;(iterate 3 exact Z))|exact AOs.nil|exact ZaE rfl rfl|exact ZbZ rfl rfl|(apply ZaH Zab;(iterate 6 exact Z);(first|with_reducible assumption|decide +kernel|exact Z|rotate_left);exact Z;exact Z;(first|exact Zai rfl|with_reducible assumption|decide +kernel|rotate_left);(first|exact Zai rfl|with_reducible assumption|decide +kernel|rotate_left);(first|exact Go.Zqm|rotate_left);(first|exact Go.Zqm|rotate_left);(first|exact Go.Zqm|rotate_left);exact Z;exact Z)|(apply Za7 Zab;(iterate 6 exact Z);(first|exact Zai rfl|with_reducible assumption|decide +kernel|rotate_left);(first|exact Go.Zqm|rotate_left);(first|exact Go.Zqm|rotate_left);(first|exact Go.Zqm|rotate_left);(iterate 3 exact Z)))
   all_goals first|(first|rfl|(simp only[List.length_append,List.length_cons,List.length_nil,List.length_map,Zar];done)|(simp only[List.length_append,List.length_cons,List.length_nil,List.length_map,Zar]at *;(try unfold maxLen);(try simp only[Nat.add_mul]);omega))|skip
   refine ZaF (fun f tm bx fr=>∃(i c:Nat) (M:List E),f+i=l.length/\c=M.length/\M=((c0::t0)++((c1::b1)++Zba (l.take i))).map E.byte/\tm=[(0,.sl (.own 0) M),(3,.ptr 0 0),(42,.sl .ext (ZaB l)),(43,.int .i64 ((ZaB l).length:Int)),(44,.int .i64 (i:Int))]/\bx=[itC (2) n (c1::b1) l]/\fr=[⟨c,1,5⟩]) (l.length+1) (Lands.mk' (m:=l.length) (Nat.lt_succ_self _) ⟨0,((c0::t0).map E.byte).length+((c1::b1).map E.byte).length,((c0::t0).map E.byte)++(c1::b1).map E.byte,rfl,by simp only[List.length_append],by simp[Zba],rfl,rfl,rfl⟩ ?_ rfl rfl rfl rfl rfl rfl) ?_
   ·exact .cons rfl (.cons rfl (.cons rfl (.cons rfl (.cons rfl .nil))))
   rintro f tm bx fr ⟨i,c,M,hf,hc,hM,rfl,rfl,rfl⟩
   subst hc
   have hU:=Zcb l
   have hUM:Uni 1 M:=by rw[hM];exact Zbf _
   have hMl:M.length=((c0::t0)++((c1::b1)++Zba (l.take i))).length:=by rw[hM];simp only[List.length_append,List.length_map]
   rcases Nat.lt_or_ge i l.length with hlt|hge
   ·have hdl:decide ((i:Int)<((ZaB l).length:Int))=true:=decide_eq_true (by omega)
    obtain⟨⟨k1,n1,b2,l1⟩,hy⟩:∃ y,l[i]?=some y:=⟨_,List.getElem?_eq_getElem hlt⟩
    have hv:(ZaB l)[((i:Nat):Int).toNat]?=some (.agg [.int .i64 k1,.int .u64 (n1:Int),.sl (b2.map E.byte),.sl (ZaB l1)]):=by
     rw[Int.toNat_natCast,ZaK,List.getElem?_map,hy];rfl
    have hmem:=List.mem_of_getElem? hy
    have hps:=ZaI hy
    have hpl:=ZaP l (i+1)
    have hps2:=congrArg List.length hps
    rw[List.length_append]at hps2
    have hc:=Zde _ (Za4 hws _ hmem) (Zbs hos _ hmem) M _ rfl hUM (by simp only[List.length_append]at hMl hlim;omega)
    have ei:IntKind.i64.wrap ((i:Int)+1)=((i+1:Nat):Int):=by rw[IntWalk.i64_in _ (by omega)];omega
    repeat'(first|rw[ei]|(apply ZaO [] [0] (hc);kernel_rfl;(iterate 10 exact Z))|(apply Zaj Zab;exact Z)|(apply Zah Zab;exact Z)|(apply Zac;exact Z;exact Go.Zqm)|(apply Zau Zab;(iterate 6 exact Z);(first|exact Go.Zqm|rotate_left);(first|with_reducible assumption|decide +kernel|exact Z);(first|exact Zai rfl|with_reducible assumption|decide +kernel|rotate_left)))
    refine Lands.mk' (m:=f-1) (by omega) ⟨i+1,M.length+(Zbg (.mk k1 n1 b2 l1)).length,M++(Zbg (.mk k1 n1 b2 l1)).map E.byte,by omega,by simp only[List.length_append,List.length_map],by rw[hM,hps];simp,rfl,rfl,rfl⟩ ?_ rfl rfl rfl rfl rfl rfl
    exact .cons rfl (.cons rfl (.cons rfl (.cons rfl (.cons rfl .nil))))
   ·have hdl:decide ((i:Int)<((ZaB l).length:Int))=false:=decide_eq_false (by omega)
    rw[List.take_of_length_le hge]at hM hMl
    repeat'(first|(apply Zah Zab;exact Z)|(apply Zaf;exact Z;exact Go.Zqm))
    all_goals(apply Zer [] [0];(apply Zad Zab;exact Z);(iterate 7 exact Z))
    ·rw[hM];rfl
    ·rfl
    ·rw[hMl];rfl
 ·rcases hbc with rfl|⟨c1,b1,rfl⟩
  ·refine Zao Tryz.func159 rfl Tryz.ntmps159 rfl rfl ?_
   repeat'(first|rw[eb]|(apply Zaa (hW);kernel_rfl;(iterate 4 exact Z))|(apply Zaj Zab;exact Z)|(apply Zah Zab;exact Z)|(apply Zav Zab;exact Z)|(apply Zac;exact Z;exact Go.Zqm)|(apply Zaf;exact Z;exact Go.Zqm)|(apply Zan Zab;(iterate 4 exact Z))|(apply Zam 5 ZaJ;decide +kernel;kernel_rfl;kernel_rfl;kernel_rfl;exact Z;exact Z)|(apply Zaq;(iterate 4 exact Z))|exact AE.nil _ _ _ _|(apply Zas;exact Z)|(apply Za8;exact Z)|(apply Zaw;exact Z;exact Z;decide +kernel;exact Z)|(apply Zax;exact Z)|(apply Zbq;exact Z)|exact AO.nil _ _ _|(apply Zap;(decide +kernel))|(apply ZaV;(iterate 3 exact Z))|exact AOs.nil|exact ZaE rfl rfl|exact ZbZ rfl rfl|(apply ZaG Zab;(iterate 6 exact Z))|(apply Za7 Zab;(iterate 6 exact Z);(first|exact Zai rfl|with_reducible assumption|decide +kernel|rotate_left);(first|exact Go.Zqm|rotate_left);(first|exact Go.Zqm|rotate_left);(first|exact Go.Zqm|rotate_left);(iterate 3 exact Z)))
   all_goals first|(first|rfl|(simp only[List.length_append,List.length_cons,List.length_nil,List.length_map,Zar];done)|(simp only[List.length_append,List.length_cons,List.length_nil,List.length_map,Zar]at *;(try unfold maxLen);(try simp only[Nat.add_mul]);omega))|skip
   refine ZaF (fun f tm bx fr=>∃(i c:Nat) (M:List E),f+i=l.length/\c=M.length/\M=((c0::t0)++(([]:List UInt8)++Zba (l.take i))).map E.byte/\tm=[(0,.sl (.own 0) M),(3,.ptr 0 0),(42,.sl .ext (ZaB l)),(43,.int .i64 ((ZaB l).length:Int)),(44,.int .i64 (i:Int))]/\bx=[itC (3) n ([]:List UInt8) l]/\fr=[⟨c,1,5⟩]) (l.length+1) (Lands.mk' (m:=l.length) (Nat.lt_succ_self _) ⟨0,((c0::t0).map E.byte).length,(c0::t0).map E.byte,rfl,by simp only[List.length_append],by simp[Zba],rfl,rfl,rfl⟩ ?_ rfl rfl rfl rfl rfl rfl) ?_
   ·exact .cons rfl (.cons rfl (.cons rfl (.cons rfl (.cons rfl .nil))))
   rintro f tm bx fr ⟨i,c,M,hf,hc,hM,rfl,rfl,rfl⟩
   subst hc
   have hU:=Zcb l
   have hUM:Uni 1 M:=by rw[hM];exact Zbf _
   have hMl:M.length=((c0::t0)++(([]:List UInt8)++Zba (l.take i))).length:=by rw[hM];simp only[List.length_append,List.length_map]
   rcases Nat.lt_or_ge i l.length with hlt|hge
   ·have hdl:decide ((i:Int)<((ZaB l).length:Int))=true:=decide_eq_true (by omega)
    obtain⟨⟨k1,n1,b2,l1⟩,hy⟩:∃ y,l[i]?=some y:=⟨_,List.getElem?_eq_getElem hlt⟩
    have hv:(ZaB l)[((i:Nat):Int).toNat]?=some (.agg [.int .i64 k1,.int .u64 (n1:Int),.sl (b2.map E.byte),.sl (ZaB l1)]):=by
     rw[Int.toNat_natCast,ZaK,List.getElem?_map,hy];rfl
    have hmem:=List.mem_of_getElem? hy
    have hps:=ZaI hy
    have hpl:=ZaP l (i+1)
    have hps2:=congrArg List.length hps
    rw[List.length_append]at hps2
    have hc:=Zde _ (Za4 hws _ hmem) (Zbs hos _ hmem) M _ rfl hUM (by simp only[List.length_append]at hMl hlim;omega)
    have ei:IntKind.i64.wrap ((i:Int)+1)=((i+1:Nat):Int):=by rw[IntWalk.i64_in _ (by omega)];omega
    repeat'(first|rw[ei]|(apply ZaO [] [0] (hc);kernel_rfl;(iterate 10 exact Z))|(apply Zaj Zab;exact Z)|(apply Zah Zab;exact Z)|(apply Zac;exact Z;exact Go.Zqm)|(apply Zau Zab;(iterate 6 exact Z);(first|exact Go.Zqm|rotate_left);(first|with_reducible assumption|decide +kernel|exact Z);(first|exact Zai rfl|with_reducible assumption|decide +kernel|rotate_left)))
    refine Lands.mk' (m:=f-1) (by omega) ⟨i+1,M.length+(Zbg (.mk k1 n1 b2 l1)).length,M++(Zbg (.mk k1 n1 b2 l1)).map E.byte,by omega,by simp only[List.length_append,List.length_map],by rw[hM,hps];simp,rfl,rfl,rfl⟩ ?_ rfl rfl rfl rfl rfl rfl
    exact .cons rfl (.cons rfl (.cons rfl (.cons rfl (.cons rfl .nil))))
   ·have hdl:decide ((i:Int)<((ZaB l).length:Int))=false:=decide_eq_false (by omega)
    rw[List.take_of_length_le hge]at hM hMl
    repeat'(first|(apply Zah Zab;exact Z)|(apply Zaf;exact Z;exact Go.Zqm))
    all_goals(apply Zer [] [0];(apply Zad Zab;exact Z);(iterate 7 exact Z))
    ·rw[hM];rfl
    ·rfl
    ·rw[hMl];rfl
  ·refine Zao Tryz.func159 rfl Tryz.ntmps159 rfl rfl ?_
   repeat'(first|rw[eb]|(apply Zaa (hW);kernel_rfl;(iterate 4 exact Z))|(apply Zaj Zab;exact Z)|(apply Zah Zab;exact Z)|(apply Zav Zab;exact Z)|(apply Zac;exact Z;exact Go.Zqm)|(apply Zaf;exact Z;exact Go.Zqm)|(apply Zan Zab;(iterate 4 exact Z))|(apply Zam 5 ZaJ;decide +kernel;kernel_rfl;kernel_rfl;kernel_rfl;exact Z;exact Z)|(apply Zaq;(iterate 4 exact Z))|exact AE.nil _ _ _ _|(apply Zas;exact Z)|(apply Za8;exact Z)|(apply Zaw;exact Z;exact Z;decide +kernel;exact Z)|(apply Zax;exact Z)|(apply Zbq;exact Z)|exact AO.nil _ _ _|(apply Zap;(decide +kernel))|(apply ZaV;(iterate 3 exact Z))|exact AOs.nil|exact ZaE rfl rfl|exact ZbZ rfl rfl|(apply ZaH Zab;(iterate 6 exact Z);(first|with_reducible assumption|decide +kernel|exact Z|rotate_left);exact Z;exact Z;(first|exact Zai rfl|with_reducible assumption|decide +kernel|rotate_left);(first|exact Zai rfl|with_reducible assumption|decide +kernel|rotate_left);(first|exact Go.Zqm|rotate_left);(first|exact Go.Zqm|rotate_left);(first|exact Go.Zqm|rotate_left);exact Z;exact Z)|(apply Za7 Zab;(iterate 6 exact Z);(first|exact Zai rfl|with_reducible assumption|decide +kernel|rotate_left);(first|exact Go.Zqm|rotate_left);(first|exact Go.Zqm|rotate_left);(first|exact Go.Zqm|rotate_left);(iterate 3 exact Z)))
   all_goals first|(first|rfl|(simp only[List.length_append,List.length_cons,List.length_nil,List.length_map,Zar];done)|(simp only[List.length_append,List.length_cons,List.length_nil,List.length_map,Zar]at *;(try unfold maxLen);(try simp only[Nat.add_mul]);omega))|skip
   refine ZaF (fun f tm bx fr=>∃(i c:Nat) (M:List E),f+i=l.length/\c=M.length/\M=((c0::t0)++((c1::b1)++Zba (l.take i))).map E.byte/\tm=[(0,.sl (.own 0) M),(3,.ptr 0 0),(42,.sl .ext (ZaB l)),(43,.int .i64 ((ZaB l).length:Int)),(44,.int .i64 (i:Int))]/\bx=[itC (3) n (c1::b1) l]/\fr=[⟨c,1,5⟩]) (l.length+1) (Lands.mk' (m:=l.length) (Nat.lt_succ_self _) ⟨0,((c0::t0).map E.byte).length+((c1::b1).map E.byte).length,((c0::t0).map E.byte)++(c1::b1).map E.byte,rfl,by simp only[List.length_append],by simp[Zba],rfl,rfl,rfl⟩ ?_ rfl rfl rfl rfl rfl rfl) ?_
   ·exact .cons rfl (.cons rfl (.cons rfl (.cons rfl (.cons rfl .nil))))
   rintro f tm bx fr ⟨i,c,M,hf,hc,hM,rfl,rfl,rfl⟩
   subst hc
   have hU:=Zcb l
   have hUM:Uni 1 M:=by rw[hM];exact Zbf _
   have hMl:M.length=((c0::t0)++((c1::b1)++Zba (l.take i))).length:=by rw[hM];simp only[List.length_append,List.length_map]
   rcases Nat.lt_or_ge i l.length with hlt|hge
   ·have hdl:decide ((i:Int)<((ZaB l).length:Int))=true:=decide_eq_true (by omega)
    obtain⟨⟨k1,n1,b2,l1⟩,hy⟩:∃ y,l[i]?=some y:=⟨_,List.getElem?_eq_getElem hlt⟩
    have hv:(ZaB l)[((i:Nat):Int).toNat]?=some (.agg [.int .i64 k1,.int .u64 (n1:Int),.sl (b2.map E.byte),.sl (ZaB l1)]):=by
     rw[Int.toNat_natCast,ZaK,List.getElem?_map,hy];rfl
    have hmem:=List.mem_of_getElem? hy
    have hps:=ZaI hy
    have hpl:=ZaP l (i+1)
    have hps2:=congrArg List.length hps
    rw[List.length_append]at hps2
    have hc:=Zde _ (Za4 hws _ hmem) (Zbs hos _ hmem) M _ rfl hUM (by simp only[List.length_append]at hMl hlim;omega)
    have ei:IntKind.i64.wrap ((i:Int)+1)=((i+1:Nat):Int):=by rw[IntWalk.i64_in _ (by omega)];omega
    repeat'(first|rw[ei]|(apply ZaO [] [0] (hc);kernel_rfl;(iterate 10 exact Z))|(apply Zaj Zab;exact Z)|(apply Zah Zab;exact Z)|(apply Zac;exact Z;exact Go.Zqm)|(apply Zau Zab;(iterate 6 exact Z);(first|exact Go.Zqm|rotate_left);(first|with_reducible assumption|decide +kernel|exact Z);(first|exact Zai rfl|with_reducible assumption|decide +kernel|rotate_left)))
    refine Lands.mk' (m:=f-1) (by omega) ⟨i+1,M.length+(Zbg (.mk k1 n1 b2 l1)).length,M++(Zbg (.mk k1 n1 b2 l1)).map E.byte,by omega,by simp only[List.length_append,List.length_map],by rw[hM,hps];simp,rfl,rfl,rfl⟩ ?_ rfl rfl rfl rfl rfl rfl
    exact .cons rfl (.cons rfl (.cons rfl (.cons rfl (.cons rfl .nil))))
   ·have hdl:decide ((i:Int)<((ZaB l).length:Int))=false:=decide_eq_false (by omega)
    rw[List.take_of_length_le hge]at hM hMl
    repeat'(first|(apply Zah Zab;exact Z)|(apply Zaf;exact Z;exact Go.Zqm))
    all_goals(apply Zer [] [0];(apply Zad Zab;exact Z);(iterate 7 exact Z))
    ·rw[hM];rfl
    ·rfl
    ·rw[hMl];rfl
 ·rcases hbc with rfl|⟨c1,b1,rfl⟩
  ·refine Zao Tryz.func159 rfl Tryz.ntmps159 rfl rfl ?_
   repeat'(first|rw[el]|(apply Zaa (hW);kernel_rfl;(iterate 4 exact Z))|(apply Zaj Zab;exact Z)|(apply Zah Zab;exact Z)|(apply Zav Zab;exact Z)|(apply Zac;exact Z;exact Go.Zqm)|(apply Zaf;exact Z;exact Go.Zqm)|(apply Zan Zab;(iterate 4 exact Z))|(apply Zam 5 ZaJ;decide +kernel;kernel_rfl;kernel_rfl;kernel_rfl;exact Z;exact Z)|(apply Zaq;(iterate 4 exact Z))|exact AE.nil _ _ _ _|(apply Zas;exact Z)|(apply Za8;exact Z)|(apply Zaw;exact Z;exact Z;decide +kernel;exact Z)|(apply Zax;exact Z)|(apply Zbq;exact Z)|exact AO.nil _ _ _|(apply Zap;(decide +kernel))|(apply ZaV;(iterate 3 exact Z))|exact AOs.nil|exact ZaE rfl rfl|exact ZbZ rfl rfl|(apply ZaG Zab;(iterate 6 exact Z))|(apply Za7 Zab;(iterate 6 exact Z);(first|exact Zai rfl|with_reducible assumption|decide +kernel|rotate_left);(first|exact Go.Zqm|rotate_left);(first|exact Go.Zqm|rotate_left);(first|exact Go.Zqm|rotate_left);(iterate 3 exact Z)))
   all_goals first|(first|rfl|(simp only[List.length_append,List.length_cons,List.length_nil,List.length_map,Zar];done)|(simp only[List.length_append,List.length_cons,List.length_nil,List.length_map,Zar]at *;(try unfold maxLen);(try simp only[Nat.add_mul]);omega))|skip
   refine ZaF (fun f tm bx fr=>∃(i c:Nat) (M:List E),f+i=l.length/\c=M.length/\M=((c0::t0)++(([]:List UInt8)++Zba (l.take i))).map E.byte/\tm=[(0,.sl (.own 0) M),(3,.ptr 0 0),(42,.sl .ext (ZaB l)),(43,.int .i64 ((ZaB l).length:Int)),(44,.int .i64 (i:Int))]/\bx=[itC (4) n ([]:List UInt8) l]/\fr=[⟨c,1,5⟩]) (l.length+1) (Lands.mk' (m:=l.length) (Nat.lt_succ_self _) ⟨0,((c0::t0).map E.byte).length,(c0::t0).map E.byte,rfl,by simp only[List.length_append],by simp[Zba],rfl,rfl,rfl⟩ ?_ rfl rfl rfl rfl rfl rfl) ?_
   ·exact .cons rfl (.cons rfl (.cons rfl (.cons rfl (.cons rfl .nil))))
   rintro f tm bx fr ⟨i,c,M,hf,hc,hM,rfl,rfl,rfl⟩
   subst hc
   have hU:=Zcb l
   have hUM:Uni 1 M:=by rw[hM];exact Zbf _
   have hMl:M.length=((c0::t0)++(([]:List UInt8)++Zba (l.take i))).length:=by rw[hM];simp only[List.length_append,List.length_map]
   rcases Nat.lt_or_ge i l.length with hlt|hge
   ·have hdl:decide ((i:Int)<((ZaB l).length:Int))=true:=decide_eq_true (by omega)
    obtain⟨⟨k1,n1,b2,l1⟩,hy⟩:∃ y,l[i]?=some y:=⟨_,List.getElem?_eq_getElem hlt⟩
    have hv:(ZaB l)[((i:Nat):Int).toNat]?=some (.agg [.int .i64 k1,.int .u64 (n1:Int),.sl (b2.map E.byte),.sl (ZaB l1)]):=by
     rw[Int.toNat_natCast,ZaK,List.getElem?_map,hy];rfl
    have hmem:=List.mem_of_getElem? hy
    have hps:=ZaI hy
    have hpl:=ZaP l (i+1)
    have hps2:=congrArg List.length hps
    rw[List.length_append]at hps2
    have hc:=Zde _ (Za4 hws _ hmem) (Zbs hos _ hmem) M _ rfl hUM (by simp only[List.length_append]at hMl hlim;omega)
    have ei:IntKind.i64.wrap ((i:Int)+1)=((i+1:Nat):Int):=by rw[IntWalk.i64_in _ (by omega)];omega
    repeat'(first|rw[ei]|(apply ZaO [] [0] (hc);kernel_rfl;(iterate 10 exact Z))|(apply Zaj Zab;exact Z)|(apply Zah Zab;exact Z)|(apply Zac;exact Z;exact Go.Zqm)|(apply Zau Zab;(iterate 6 exact Z);(first|exact Go.Zqm|rotate_left);(first|with_reducible assumption|decide +kernel|exact Z);(first|exact Zai rfl|with_reducible assumption|decide +kernel|rotate_left)))
    refine Lands.mk' (m:=f-1) (by omega) ⟨i+1,M.length+(Zbg (.mk k1 n1 b2 l1)).length,M++(Zbg (.mk k1 n1 b2 l1)).map E.byte,by omega,by simp only[List.length_append,List.length_map],by rw[hM,hps];simp,rfl,rfl,rfl⟩ ?_ rfl rfl rfl rfl rfl rfl
    exact .cons rfl (.cons rfl (.cons rfl (.cons rfl (.cons rfl .nil))))
   ·have hdl:decide ((i:Int)<((ZaB l).length:Int))=false:=decide_eq_false (by omega)
    rw[List.take_of_length_le hge]at hM hMl
    repeat'(first|(apply Zah Zab;exact Z)|(apply Zaf;exact Z;exact Go.Zqm))
    all_goals(apply Zer [] [0];(apply Zad Zab;exact Z);(iterate 7 exact Z))
    ·rw[hM];rfl
    ·rfl
    ·rw[hMl];rfl
  ·refine Zao Tryz.func159 rfl Tryz.ntmps159 rfl rfl ?_
   repeat'(first|rw[el]|(apply Zaa (hW);kernel_rfl;(iterate 4 exact Z))|(apply Zaj Zab;exact Z)|(apply Zah Zab;exact Z)|(apply Zav Zab;exact Z)|(apply Zac;exact Z;exact Go.Zqm)|(apply Zaf;exact Z;exact Go.Zqm)|(apply Zan Zab;(iterate 4 exact Z))|(apply Zam 5 ZaJ;decide +kernel;kernel_rfl;kernel_rfl;kernel_rfl;exact Z;exact Z)|(apply Zaq;(iterate 4 exact Z))|exact AE.nil _ _ _ _|(apply Zas;exact Z)|(apply Za8;exact Z)|(apply Zaw;exact Z;exact Z;decide +kernel;exact Z)|(apply Zax;exact Z)|(apply Zbq;exact Z)|exact AO.nil _ _ _|(apply Zap;(decide +kernel))|(apply ZaV;(iterate 3 exact Z))|exact AOs.nil|exact ZaE rfl rfl|exact ZbZ rfl rfl|(apply ZaH Zab;(iterate 6 exact Z);(first|with_reducible assumption|decide +kernel|exact Z|rotate_left);exact Z;exact Z;(first|exact Zai rfl|with_reducible assumption|decide +kernel|rotate_left);(first|exact Zai rfl|with_reducible assumption|decide +kernel|rotate_left);(first|exact Go.Zqm|rotate_left);(first|exact Go.Zqm|rotate_left);(first|exact Go.Zqm|rotate_left);exact Z;exact Z)|(apply Za7 Zab;(iterate 6 exact Z);(first|exact Zai rfl|with_reducible assumption|decide +kernel|rotate_left);(first|exact Go.Zqm|rotate_left);(first|exact Go.Zqm|rotate_left);(first|exact Go.Zqm|rotate_left);(iterate 3 exact Z)))
   all_goals first|(first|rfl|(simp only[List.length_append,List.length_cons,List.length_nil,List.length_map,Zar];done)|(simp only[List.length_append,List.length_cons,List.length_nil,List.length_map,Zar]at *;(try unfold maxLen);(try simp only[Nat.add_mul]);omega))|skip
   refine ZaF (fun f tm bx fr=>∃(i c:Nat) (M:List E),f+i=l.length/\c=M.length/\M=((c0::t0)++((c1::b1)++Zba (l.take i))).map E.byte/\tm=[(0,.sl (.own 0) M),(3,.ptr 0 0),(42,.sl .ext (ZaB l)),(43,.int .i64 ((ZaB l).length:Int)),(44,.int .i64 (i:Int))]/\bx=[itC (4) n (c1::b1) l]/\fr=[⟨c,1,5⟩]) (l.length+1) (Lands.mk' (m:=l.length) (Nat.lt_succ_self _) ⟨0,((c0::t0).map E.byte).length+((c1::b1).map E.byte).length,((c0::t0).map E.byte)++(c1::b1).map E.byte,rfl,by simp only[List.length_append],by simp[Zba],rfl,rfl,rfl⟩ ?_ rfl rfl rfl rfl rfl rfl) ?_
   ·exact .cons rfl (.cons rfl (.cons rfl (.cons rfl (.cons rfl .nil))))
   rintro f tm bx fr ⟨i,c,M,hf,hc,hM,rfl,rfl,rfl⟩
   subst hc
   have hU:=Zcb l
   have hUM:Uni 1 M:=by rw[hM];exact Zbf _
   have hMl:M.length=((c0::t0)++((c1::b1)++Zba (l.take i))).length:=by rw[hM];simp only[List.length_append,List.length_map]
   rcases Nat.lt_or_ge i l.length with hlt|hge
   ·have hdl:decide ((i:Int)<((ZaB l).length:Int))=true:=decide_eq_true (by omega)
    obtain⟨⟨k1,n1,b2,l1⟩,hy⟩:∃ y,l[i]?=some y:=⟨_,List.getElem?_eq_getElem hlt⟩
    have hv:(ZaB l)[((i:Nat):Int).toNat]?=some (.agg [.int .i64 k1,.int .u64 (n1:Int),.sl (b2.map E.byte),.sl (ZaB l1)]):=by
     rw[Int.toNat_natCast,ZaK,List.getElem?_map,hy];rfl
    have hmem:=List.mem_of_getElem? hy
    have hps:=ZaI hy
    have hpl:=ZaP l (i+1)
    have hps2:=congrArg List.length hps
    rw[List.length_append]at hps2
    have hc:=Zde _ (Za4 hws _ hmem) (Zbs hos _ hmem) M _ rfl hUM (by simp only[List.length_append]at hMl hlim;omega)
    have ei:IntKind.i64.wrap ((i:Int)+1)=((i+1:Nat):Int):=by rw[IntWalk.i64_in _ (by omega)];omega
    repeat'(first|rw[ei]|(apply ZaO [] [0] (hc);kernel_rfl;(iterate 10 exact Z))|(apply Zaj Zab;exact Z)|(apply Zah Zab;exact Z)|(apply Zac;exact Z;exact Go.Zqm)|(apply Zau Zab;(iterate 6 exact Z);(first|exact Go.Zqm|rotate_left);(first|with_reducible assumption|decide +kernel|exact Z);(first|exact Zai rfl|with_reducible assumption|decide +kernel|rotate_left)))
    refine Lands.mk' (m:=f-1) (by omega) ⟨i+1,M.length+(Zbg (.mk k1 n1 b2 l1)).length,M++(Zbg (.mk k1 n1 b2 l1)).map E.byte,by omega,by simp only[List.length_append,List.length_map],by rw[hM,hps];simp,rfl,rfl,rfl⟩ ?_ rfl rfl rfl rfl rfl rfl
    exact .cons rfl (.cons rfl (.cons rfl (.cons rfl (.cons rfl .nil))))
   ·have hdl:decide ((i:Int)<((ZaB l).length:Int))=false:=decide_eq_false (by omega)
    rw[List.take_of_length_le hge]at hM hMl
    repeat'(first|(apply Zah Zab;exact Z)|(apply Zaf;exact Z;exact Go.Zqm))
    all_goals(apply Zer [] [0];(apply Zad Zab;exact Z);(iterate 7 exact Z))
    ·rw[hM];rfl
    ·rfl
    ·rw[hMl];rfl
 ·rw[hh]at hW
  clear hh
  have q2:=hne2 k2
  have q3:=hne3 k3
  have q4:=hne4 k4
  rcases hbc with rfl|⟨c1,b1,rfl⟩
  ·refine Zao Tryz.func159 rfl Tryz.ntmps159 rfl rfl ?_
   repeat'(first|(apply Zaa (hW);kernel_rfl;(iterate 4 exact Z))|(apply Zaj Zab;exact Z)|(apply Zah Zab;exact Z)|(apply Zav Zab;exact Z)|(apply Zaf;exact Z;exact Go.Zqm)|(apply Zan Zab;(iterate 4 exact Z))|(apply Zam 5 ZaJ;decide +kernel;kernel_rfl;kernel_rfl;kernel_rfl;exact Z;exact Z)|(apply Zaq;(iterate 4 exact Z))|exact AE.nil _ _ _ _|(apply Zas;exact Z)|(apply Za8;exact Z)|(apply Zaw;exact Z;exact Z;decide +kernel;exact Z)|(apply Zax;exact Z)|(apply Zbq;exact Z)|exact AO.nil _ _ _|(apply Zap;(decide +kernel))|(apply ZaV;(iterate 3 exact Z))|exact AOs.nil|exact ZaE rfl rfl|exact ZbZ rfl rfl|(apply ZaG Zab;(iterate 6 exact Z))|(apply Za7 Zab;(iterate 6 exact Z);(first|exact Zai rfl|with_reducible assumption|decide +kernel|rotate_left);(first|exact Go.Zqm|rotate_left);(first|exact Go.Zqm|rotate_left);(first|exact Go.Zqm|rotate_left);(iterate 3 exact Z)))
   all_goals first|(first|rfl|(simp only[List.length_append,List.length_cons,List.length_nil,List.length_map,Zar];done)|(simp only[List.length_append,List.length_cons,List.length_nil,List.length_map,Zar]at *;(try unfold maxLen);(try simp only[Nat.add_mul]);omega))|skip
   refine ZaF (fun f tm bx fr=>∃(i c:Nat) (M:List E),f+i=l.length/\c=M.length/\M=((c0::t0)++(([]:List UInt8)++Zba (l.take i))).map E.byte/\tm=[(0,.sl (.own 0) M),(3,.ptr 0 0),(42,.sl .ext (ZaB l)),(43,.int .i64 ((ZaB l).length:Int)),(44,.int .i64 (i:Int))]/\bx=[itC (k) n ([]:List UInt8) l]/\fr=[⟨c,1,5⟩]) (l.length+1) (Lands.mk' (m:=l.length) (Nat.lt_succ_self _) ⟨0,((c0::t0).map E.byte).length,(c0::t0).map E.byte,rfl,by simp only[List.length_append],by simp[Zba],rfl,rfl,rfl⟩ ?_ rfl rfl rfl rfl rfl rfl) ?_
   ·exact .cons rfl (.cons rfl (.cons rfl (.cons rfl (.cons rfl .nil))))
   rintro f tm bx fr ⟨i,c,M,hf,hc,hM,rfl,rfl,rfl⟩
   subst hc
   have hU:=Zcb l
   have hUM:Uni 1 M:=by rw[hM];exact Zbf _
   have hMl:M.length=((c0::t0)++(([]:List UInt8)++Zba (l.take i))).length:=by rw[hM];simp only[List.length_append,List.length_map]
   rcases Nat.lt_or_ge i l.length with hlt|hge
   ·have hdl:decide ((i:Int)<((ZaB l).length:Int))=true:=decide_eq_true (by omega)
    obtain⟨⟨k1,n1,b2,l1⟩,hy⟩:∃ y,l[i]?=some y:=⟨_,List.getElem?_eq_getElem hlt⟩
    have hv:(ZaB l)[((i:Nat):Int).toNat]?=some (.agg [.int .i64 k1,.int .u64 (n1:Int),.sl (b2.map E.byte),.sl (ZaB l1)]):=by
     rw[Int.toNat_natCast,ZaK,List.getElem?_map,hy];rfl
    have hmem:=List.mem_of_getElem? hy
    have hps:=ZaI hy
    have hpl:=ZaP l (i+1)
    have hps2:=congrArg List.length hps
    rw[List.length_append]at hps2
    have hc:=Zde _ (Za4 hws _ hmem) (Zbs hos _ hmem) M _ rfl hUM (by simp only[List.length_append]at hMl hlim;omega)
    have ei:IntKind.i64.wrap ((i:Int)+1)=((i+1:Nat):Int):=by rw[IntWalk.i64_in _ (by omega)];omega
    repeat'(first|rw[ei]|(apply ZaO [] [0] (hc);kernel_rfl;(iterate 10 exact Z))|(apply Zaj Zab;exact Z)|(apply Zah Zab;exact Z)|(apply Zac;exact Z;exact Go.Zqm)|(apply Zau Zab;(iterate 6 exact Z);(first|exact Go.Zqm|rotate_left);(first|with_reducible assumption|decide +kernel|exact Z);(first|exact Zai rfl|with_reducible assumption|decide +kernel|rotate_left)))
    refine Lands.mk' (m:=f-1) (by omega) ⟨i+1,M.length+(Zbg (.mk k1 n1 b2 l1)).length,M++(Zbg (.mk k1 n1 b2 l1)).map E.byte,by omega,by simp only[List.length_append,List.length_map],by rw[hM,hps];simp,rfl,rfl,rfl⟩ ?_ rfl rfl rfl rfl rfl rfl
    exact .cons rfl (.cons rfl (.cons rfl (.cons rfl (.cons rfl .nil))))
   ·have hdl:decide ((i:Int)<((ZaB l).length:Int))=false:=decide_eq_false (by omega)
    rw[List.take_of_length_le hge]at hM hMl
    repeat'(first|(apply Zah Zab;exact Z)|(apply Zaf;exact Z;exact Go.Zqm))
    all_goals(apply Zer [] [0];(apply Zad Zab;exact Z);(iterate 7 exact Z))
    ·rw[hM];rfl
    ·rfl
    ·rw[hMl];rfl
  ·refine Zao Tryz.func159 rfl Tryz.ntmps159 rfl rfl ?_
   repeat'(first|(apply Zaa (hW);kernel_rfl;(iterate 4 exact Z))|(apply Zaj Zab;exact Z)|(apply Zah Zab;exact Z)|(apply Zav Zab;exact Z)|(apply Zaf;exact Z;exact Go.Zqm)|(apply Zan Zab;(iterate 4 exact Z))|(apply Zam 5 ZaJ;decide +kernel;kernel_rfl;kernel_rfl;kernel_rfl;exact Z;exact Z)|(apply Zaq;(iterate 4 exact Z))|exact AE.nil _ _ _ _|(apply Zas;exact Z)|(apply Za8;exact Z)|(apply Zaw;exact Z;exact Z;decide +kernel;exact Z)|(apply Zax;exact Z)|(apply Zbq;exact Z)|exact AO.nil _ _ _|(apply Zap;(decide +kernel))|(apply ZaV;(iterate 3 exact Z))|exact AOs.nil|exact ZaE rfl rfl|exact ZbZ rfl rfl|(apply ZaH Zab;(iterate 6 exact Z);(first|with_reducible assumption|decide +kernel|exact Z|rotate_left);exact Z;exact Z;(first|exact Zai rfl|with_reducible assumption|decide +kernel|rotate_left);(first|exact Zai rfl|with_reducible assumption|decide +kernel|rotate_left);(first|exact Go.Zqm|rotate_left);(first|exact Go.Zqm|rotate_left);(first|exact Go.Zqm|rotate_left);exact Z;exact Z)|(apply Za7 Zab;(iterate 6 exact Z);(first|exact Zai rfl|with_reducible assumption|decide +kernel|rotate_left);(first|exact Go.Zqm|rotate_left);(first|exact Go.Zqm|rotate_left);(first|exact Go.Zqm|rotate_left);(iterate 3 exact Z)))
   all_goals first|(first|rfl|(simp only[List.length_append,List.length_cons,List.length_nil,List.length_map,Zar];done)|(simp only[List.length_append,List.length_cons,List.length_nil,List.length_map,Zar]at *;(try unfold maxLen);(try simp only[Nat.add_mul]);omega))|skip
   refine ZaF (fun f tm bx fr=>∃(i c:Nat) (M:List E),f+i=l.length/\c=M.length/\M=((c0::t0)++((c1::b1)++Zba (l.take i))).map E.byte/\tm=[(0,.sl (.own 0) M),(3,.ptr 0 0),(42,.sl .ext (ZaB l)),(43,.int .i64 ((ZaB l).length:Int)),(44,.int .i64 (i:Int))]/\bx=[itC (k) n (c1::b1) l]/\fr=[⟨c,1,5⟩]) (l.length+1) (Lands.mk' (m:=l.length) (Nat.lt_succ_self _) ⟨0,((c0::t0).map E.byte).length+((c1::b1).map E.byte).length,((c0::t0).map E.byte)++(c1::b1).map E.byte,rfl,by simp only[List.length_append],by simp[Zba],rfl,rfl,rfl⟩ ?_ rfl rfl rfl rfl rfl rfl) ?_
   ·exact .cons rfl (.cons rfl (.cons rfl (.cons rfl (.cons rfl .nil))))
   rintro f tm bx fr ⟨i,c,M,hf,hc,hM,rfl,rfl,rfl⟩
   subst hc
   have hU:=Zcb l
   have hUM:Uni 1 M:=by rw[hM];exact Zbf _
   have hMl:M.length=((c0::t0)++((c1::b1)++Zba (l.take i))).length:=by rw[hM];simp only[List.length_append,List.length_map]
   rcases Nat.lt_or_ge i l.length with hlt|hge
   ·have hdl:decide ((i:Int)<((ZaB l).length:Int))=true:=decide_eq_true (by omega)
    obtain⟨⟨k1,n1,b2,l1⟩,hy⟩:∃ y,l[i]?=some y:=⟨_,List.getElem?_eq_getElem hlt⟩
    have hv:(ZaB l)[((i:Nat):Int).toNat]?=some (.agg [.int .i64 k1,.int .u64 (n1:Int),.sl (b2.map E.byte),.sl (ZaB l1)]):=by
     rw[Int.toNat_natCast,ZaK,List.getElem?_map,hy];rfl
    have hmem:=List.mem_of_getElem? hy
    have hps:=ZaI hy
    have hpl:=ZaP l (i+1)
    have hps2:=congrArg List.length hps
    rw[List.length_append]at hps2
    have hc:=Zde _ (Za4 hws _ hmem) (Zbs hos _ hmem) M _ rfl hUM (by simp only[List.length_append]at hMl hlim;omega)
    have ei:IntKind.i64.wrap ((i:Int)+1)=((i+1:Nat):Int):=by rw[IntWalk.i64_in _ (by omega)];omega
    repeat'(first|rw[ei]|(apply ZaO [] [0] (hc);kernel_rfl;(iterate 10 exact Z))|(apply Zaj Zab;exact Z)|(apply Zah Zab;exact Z)|(apply Zac;exact Z;exact Go.Zqm)|(apply Zau Zab;(iterate 6 exact Z);(first|exact Go.Zqm|rotate_left);(first|with_reducible assumption|decide +kernel|exact Z);(first|exact Zai rfl|with_reducible assumption|decide +kernel|rotate_left)))
    refine Lands.mk' (m:=f-1) (by omega) ⟨i+1,M.length+(Zbg (.mk k1 n1 b2 l1)).length,M++(Zbg (.mk k1 n1 b2 l1)).map E.byte,by omega,by simp only[List.length_append,List.length_map],by rw[hM,hps];simp,rfl,rfl,rfl⟩ ?_ rfl rfl rfl rfl rfl rfl
    exact .cons rfl (.cons rfl (.cons rfl (.cons rfl (.cons rfl .nil))))
   ·have hdl:decide ((i:Int)<((ZaB l).length:Int))=false:=decide_eq_false (by omega)
    rw[List.take_of_length_le hge]at hM hMl
    repeat'(first|(apply Zah Zab;exact Z)|(apply Zaf;exact Z;exact Go.Zqm))
    all_goals(apply Zer [] [0];(apply Zad Zab;exact Z);(iterate 7 exact Z))
    ·rw[hM];rfl
    ·rfl
    ·rw[hMl];rfl
theorem Zg0 [Known][KnownU8](x:It)(hw:wfI x)(hlim:(Zbg x).length<=1099511627776)(hR:AP Tryz.prog 138 [itD x] (.bool (ZaQ x)) []):AP Tryz.prog 112 [itD x] (.tup [byE (if ZaQ x then Zbg x else []),.int .i64 (if ZaQ x then 0 else 3)]) []:=by
 cases hr:ZaQ x with
 | false=>
  rw[hr]at hR
  obtain⟨k,n,b,l⟩:=x
  refine AP.ofA ?_
  refine Zao Tryz.func112 rfl Tryz.ntmps112 rfl rfl ?_
  repeat'(first|(apply Zaa (hR);kernel_rfl;(iterate 4 exact Z))|(apply Zaj Zab;exact Z)|(apply Zah Zab;exact Z)|(apply Zav Zab;exact Z)|(apply Zac;exact Z;exact Go.Zqm))
  all_goals(apply Zay [];(apply Zad Zab;exact Z);(iterate 4 exact Z))
  all_goals rfl
 | true=>
  rw[hr]at hR
  have hp:=ZkG x hw (ZkF hr) hlim
  obtain⟨k,n,b,l⟩:=x
  refine AP.ofA ?_
  refine Zao Tryz.func112 rfl Tryz.ntmps112 rfl rfl ?_
  repeat'(first|(apply Zaa (hR);kernel_rfl;(iterate 4 exact Z))|(apply ZaO [] [] (hp);kernel_rfl;(iterate 10 exact Z))|(apply Zaj Zab;exact Z)|(apply Zah Zab;exact Z)|(apply Zav Zab;exact Z)|(apply Zaf;exact Z;exact Go.Zqm))
  all_goals(apply Zay [];(apply Zad Zab;exact Z);(iterate 4 exact Z))
  all_goals rfl
end Go.Proofs.YtakblclkflnnpaaGreatDoor
end

/- Items: their bytes. -/
import Derived.Test.YtakblclkflnnpaaGreatDoorH13
import Derived.Test.YtakblclkflnnpaaGreatDoorH17
import Derived.Test.YtakblclkflnnpaaGreatDoorH19
import Derived.Test.YtakblclkflnnpaaGreatDoorH16
set_option linter.unusedVariables false
set_option linter.unusedSimpArgs false
section
open Go.RowKit Go.Pl Go.Av
namespace Go.Proofs.YtakblclkflnnpaaGreatDoor
set_option maxHeartbeats 4000000
mutual
def okx:It->Prop
 | .mk k _ _ l=>(0<=k/\k<=7)/\ZsD l
def ZsD:List It->Prop
 | []=>True
 | x::l=>okx x/\ZsD l
end
theorem ZbB:∀ {l:List It},ZsD l->∀ y ∈ l,okx y
 | x::l,⟨h1,h2⟩,y,hy=>by
  rcases List.mem_cons.1 hy with rfl|hy
  ·exact h1
  ·exact ZbB h2 y hy
mutual
theorem ZhJ:∀ {x:It} {d m m':Nat},Zcv x d m=some m'->okx x
 | .mk k n b l,d,m,m',h=>by
  obtain⟨_,_,h3,h4⟩:=ZcI h
  exact⟨Zff h3,ZiA h4⟩
theorem ZiA:∀ {l:List It} {d m m':Nat},ZbV l d m=some m'->ZsD l
 | [],d,m,m',h=>trivial
 | x::l,d,m,m',h=>by
  obtain⟨m1,h1,h2⟩:=ZcE h
  exact⟨ZhJ h1,ZiA h2⟩
end
theorem ZiB {x:It}(h:ZaD x=true):okx x:=by
 unfold ZaD at h
 cases hw:Zcv x 1 256 with
 | none=>rw[hw]at h;cases h
 | some m=>exact ZhJ hw
theorem Zgo (h:Hd):∃ c t,ZaS h=c::t:=by
 unfold ZaS
 split
 ·exact⟨_,_,rfl⟩
 ·exact⟨_,_,rfl⟩
theorem ZaM {l:List It}{i:Nat}{y:It}(hy:l[i]?=some y):ZaX (l.take (i+1))=ZaX (l.take i)++ZaZ y:=by
 rw[List.take_add_one,hy,ZeQ]
 simp[ZaX]
theorem ZaW (l:List It)(i:Nat):(ZaX (l.take i)).length<=(ZaX l).length:=by
 have h:=congrArg List.length (ZeQ (l.take i) (l.drop i))
 rw[List.take_append_drop,List.length_append]at h
 omega
theorem ZdY [Known]:∀(x:It),wfI x->okx x->∀(L:List E) (c:Nat),c=L.length->Uni 1 L->L.length+(ZaZ x).length<=1099511627776->AT Tryz.prog 159 [.sl (.own 0) L,itD x] [] [⟨c,1,5⟩] (.sl (.own 0) (L++(ZaZ x).map E.byte)) [] [⟨c+(ZaZ x).length,1,5⟩]:=by
 refine It.ind fun k n b l ih hw ho L c hc hUL hlim=>?_
 subst hc
 obtain⟨hn,hb,hl,hws⟩:=hw
 obtain⟨hk7,hos⟩:=ho
 have hlen:=Zaq l
 have hr:Za1 (k,(It.mk k n b l).hn,false)=true:=by simp[Za1];exact hk7
 have hhn:(It.mk k n b l).hn<18446744073709551616:=by simp only[It.hn];(repeat' split)<;>omega
 have hput:ZaZ (.mk k n b l)=ZaS (k,(It.mk k n b l).hn,false)++(b++ZaX l):=by rw[ZaZ,if_pos hr]
 rw[hput]at hlim ⊢
 have hW:=Zkx (k,(It.mk k n b l).hn,false) hhn
 rw[if_pos hr,if_pos hr]at hW
 obtain⟨c0,t0,hcw⟩:=Zgo (k,(It.mk k n b l).hn,false)
 rw[hcw]at hW hlim ⊢
 have hU0:=Zbh (c0::t0)
 have hU1:=Zbh b
 have hU01:Uni 1 (L++(c0::t0).map E.byte):=hUL.append hU0
 have eb:IntKind.u64.wrap (((b.map E.byte).length:Nat):Int)=((b.length:Nat):Int):=by rw[List.length_map,IntKind.wrap_u64];omega
 have el:IntKind.u64.wrap (((ZaC l).length:Nat):Int)=((l.length:Nat):Int):=by rw[hlen,IntKind.wrap_u64];omega
 have hS:∀(i:Nat),IntKind.i64.wrap ((i:Int)+1)=((i+1:Nat):Int)\/2199023255488<i:=fun i=>by
  rcases Nat.lt_or_ge 2199023255488 i with h|h
  ·exact .inr h
  ·left;rw[IntWalk.i64_in _ (by omega)];omega
 have hkc:(k=2/\(It.mk k n b l).hn=b.length)\/(k=3/\(It.mk k n b l).hn=b.length)\/(k=4/\(It.mk k n b l).hn=l.length)\/(k ≠ 2/\k ≠ 3/\k ≠ 4/\(It.mk k n b l).hn=n):=by
  by_cases h2:k=2
  ·subst h2;exact .inl ⟨rfl,rfl⟩
  by_cases h3:k=3
  ·subst h3;exact .inr (.inl ⟨rfl,rfl⟩)
  by_cases h4:k=4
  ·subst h4;exact .inr (.inr (.inl ⟨rfl,rfl⟩))
  ·exact .inr (.inr (.inr ⟨h2,h3,h4,by simp[It.hn,h2,h3,h4]⟩))
 clear hhn hr hcw hput
 generalize (It.mk k n b l).hn=hn0 at hkc hW
 have hbc:b=[]\/∃ c1 b1,b=c1::b1:=by cases b<;>simp
 have hne2:k ≠ 2->(k==2)=false:=fun h=>by simpa using h
 have hne3:k ≠ 3->(k==3)=false:=fun h=>by simpa using h
 have hne4:k ≠ 4->(k==4)=false:=fun h=>by simpa using h
 have hq:((k==2)=true/\hn0=b.length)\/((k==2)=false/\(k==3)=true/\hn0=b.length)\/((k==2)=false/\(k==3)=false/\(k==4)=true/\hn0=l.length)\/((k==2)=false/\(k==3)=false/\(k==4)=false/\hn0=n):=by
  rcases hkc with⟨e,h⟩ | ⟨e,h⟩ | ⟨e,h⟩ | ⟨k2,k3,k4,h⟩
  ·exact .inl ⟨by rw[e];rfl,h⟩
  ·exact .inr (.inl ⟨by rw[e];rfl,by rw[e];rfl,h⟩)
  ·exact .inr (.inr (.inl ⟨by rw[e];rfl,by rw[e];rfl,by rw[e];rfl,h⟩))
  ·exact .inr (.inr (.inr ⟨hne2 k2,hne3 k3,hne4 k4,h⟩))
 clear hkc
 rcases hbc with rfl|⟨c1,b1,rfl⟩
 ·rcases hq with⟨q2,hh⟩ | ⟨q2,q3,hh⟩ | ⟨q2,q3,q4,hh⟩ | ⟨q2,q3,q4,hh⟩
  all_goals
   rw[hh]at hW
   clear hh
   refine Zam Tryz.func159 rfl Tryz.ntmps159 rfl rfl ?_
   repeat'(first|rw[eb]|rw[el]|(apply Zaa (hW);kernel_rfl;(iterate 4 exact U))|(apply Zai Zab;exact U)|(apply Zag Zab;exact U)|(apply Zau Zab;exact U)|refine Zad U Qt ?_|refine Zaf U Qt ?_|refine Zan Zab U U U U ?_|(apply Zao 5 ZaQ;decide +kernel;kernel_rfl;kernel_rfl;kernel_rfl;exact U;exact U)|(apply Zas;(iterate 4 exact U))|exact AE.nil _ _ _ _|(apply Zaw;exact U)|(apply Zbl;exact U)|(apply Zay;exact U;exact U;decide +kernel;exact U)|(apply Zaz;exact U)|(apply ZbH;exact U)|exact AO.nil _ _ _|(apply Zar;(decide +kernel))|(apply Za6;(iterate 3 exact U))|exact AOs.nil|exact ZaJ rfl rfl|exact ZcD rfl rfl|refine ZaI Zab U U U U U U ?_|(apply ZaF Zab;(iterate 6 exact U);(first|with_reducible assumption|decide +kernel|exact U|rotate_left);exact U;exact U;(first|exact Zaj rfl|with_reducible assumption|decide +kernel|rotate_left);(first|exact Zaj rfl|with_reducible assumption|decide +kernel|rotate_left);(first|exact Qt|rotate_left);(first|exact Qt|rotate_left);(first|exact Qt|rotate_left);exact U;exact U))
   all_goals first|(first|rfl|(simp only[List.length_append,List.length_cons,List.length_nil,List.length_map,Zaq];done)|(simp only[List.length_append,List.length_cons,List.length_nil,List.length_map,Zaq]at *;(try unfold maxLen);(try simp only[Nat.add_mul]);omega))|skip
   refine ZaB (fun f tm bx fr=>∃(i c:Nat) (M:List E),f+i=l.length/\c=M.length/\M=L++((c0::t0)++(([]:List UInt8)++ZaX (l.take i))).map E.byte/\tm=[(0,.sl (.own 0) M),(3,.ptr 0 0),(42,.sl .ext (ZaC l)),(43,.int .i64 ((ZaC l).length:Int)),(44,.int .i64 (i:Int))]/\bx=[itC k n ([]:List UInt8) l]/\fr=[⟨c,1,5⟩]) (l.length+1) (Lands.mk' (m:=l.length) (Nat.lt_succ_self _) ⟨0,L.length+((c0::t0).map E.byte).length,L++(c0::t0).map E.byte,rfl,by simp only[List.length_append],by simp[ZaX],rfl,rfl,rfl⟩ ?_ rfl rfl rfl rfl rfl rfl) ?_
   ·exact .cons rfl (.cons rfl (.cons rfl (.cons rfl (.cons rfl .nil))))
   rintro f tm bx fr ⟨i,c,M,hf,hc,hM,rfl,rfl,rfl⟩
   subst hc
   have hU:=ZcF l
   have hUM:Uni 1 M:=by rw[hM];exact hUL.append (Zbh _)
   have hMl:M.length=L.length+((c0::t0)++(([]:List UInt8)++ZaX (l.take i))).length:=by rw[hM];simp only[List.length_append,List.length_map]
   rcases Nat.lt_or_ge i l.length with hlt|hge
   ·have hdl:decide ((i:Int)<((ZaC l).length:Int))=true:=decide_eq_true (by omega)
    obtain⟨⟨k1,n1,b2,l1⟩,hy⟩:∃ y,l[i]?=some y:=⟨_,List.getElem?_eq_getElem hlt⟩
    have hv:(ZaC l)[((i:Nat):Int).toNat]?=some (.agg [.int .i64 k1,.int .u64 (n1:Int),.sl (b2.map E.byte),.sl (ZaC l1)]):=by
     rw[Int.toNat_natCast,ZaP,List.getElem?_map,hy];rfl
    have hmem:=List.mem_of_getElem? hy
    have hps:=ZaM hy
    have hpl:=ZaW l (i+1)
    have hps2:=congrArg List.length hps
    rw[List.length_append]at hps2
    have hc:=ih _ hmem (Zbd hws _ hmem) (ZbB hos _ hmem) M _ rfl hUM (by simp only[List.length_append]at hMl hlim;omega)
    have ei:IntKind.i64.wrap ((i:Int)+1)=((i+1:Nat):Int):=by rw[IntWalk.i64_in _ (by omega)];omega
    repeat'(first|rw[ei]|(apply ZaU [] [0] (hc);kernel_rfl;(iterate 10 exact U))|(apply Zai Zab;exact U)|(apply Zag Zab;exact U)|refine Zad U Qt ?_|(apply Zat Zab;(iterate 6 exact U);(first|exact Qt|rotate_left);(first|with_reducible assumption|decide +kernel|exact U);(first|exact Zaj rfl|with_reducible assumption|decide +kernel|rotate_left)))
    refine Lands.mk' (m:=f-1) (by omega) ⟨i+1,M.length+(ZaZ (.mk k1 n1 b2 l1)).length,M++(ZaZ (.mk k1 n1 b2 l1)).map E.byte,by omega,by simp only[List.length_append,List.length_map],by rw[hM,hps];simp,rfl,rfl,rfl⟩ ?_ rfl rfl rfl rfl rfl rfl
    exact .cons rfl (.cons rfl (.cons rfl (.cons rfl (.cons rfl .nil))))
   ·have hdl:decide ((i:Int)<((ZaC l).length:Int))=false:=decide_eq_false (by omega)
    rw[List.take_of_length_le hge]at hM hMl
    repeat'(first|(apply Zag Zab;exact U)|refine Zaf U Qt ?_)
    all_goals(apply Zfb [] [0];(apply Zac Zab;exact U);(iterate 7 exact U))
    ·rw[hM];rfl
    ·rfl
    ·rw[hMl];rfl
 ·rcases hq with⟨q2,hh⟩ | ⟨q2,q3,hh⟩ | ⟨q2,q3,q4,hh⟩ | ⟨q2,q3,q4,hh⟩
  all_goals
   rw[hh]at hW
   clear hh
   refine Zam Tryz.func159 rfl Tryz.ntmps159 rfl rfl ?_
   repeat'(first|rw[eb]|rw[el]|(apply Zaa (hW);kernel_rfl;(iterate 4 exact U))|(apply Zai Zab;exact U)|(apply Zag Zab;exact U)|(apply Zau Zab;exact U)|refine Zad U Qt ?_|refine Zaf U Qt ?_|refine Zan Zab U U U U ?_|(apply Zao 5 ZaQ;decide +kernel;kernel_rfl;kernel_rfl;kernel_rfl;exact U;exact U)|(apply Zas;(iterate 4 exact U))|exact AE.nil _ _ _ _|(apply Zaw;exact U)|(apply Zbl;exact U)|(apply Zay;exact U;exact U;decide +kernel;exact U)|(apply Zaz;exact U)|(apply ZbH;exact U)|exact AO.nil _ _ _|(apply Zar;(decide +kernel))|(apply Za6;(iterate 3 exact U))|exact AOs.nil|exact ZaJ rfl rfl|exact ZcD rfl rfl|(apply ZaF Zab;(iterate 6 exact U);(first|with_reducible assumption|decide +kernel|exact U|rotate_left);exact U;exact U;(first|exact Zaj rfl|with_reducible assumption|decide +kernel|rotate_left);(first|exact Zaj rfl|with_reducible assumption|decide +kernel|rotate_left);(first|exact Qt|rotate_left);(first|exact Qt|rotate_left);(first|exact Qt|rotate_left);exact U;exact U))
   all_goals first|(first|rfl|(simp only[List.length_append,List.length_cons,List.length_nil,List.length_map,Zaq];done)|(simp only[List.length_append,List.length_cons,List.length_nil,List.length_map,Zaq]at *;(try unfold maxLen);(try simp only[Nat.add_mul]);omega))|skip
   refine ZaB (fun f tm bx fr=>∃(i c:Nat) (M:List E),f+i=l.length/\c=M.length/\M=L++((c0::t0)++((c1::b1)++ZaX (l.take i))).map E.byte/\tm=[(0,.sl (.own 0) M),(3,.ptr 0 0),(42,.sl .ext (ZaC l)),(43,.int .i64 ((ZaC l).length:Int)),(44,.int .i64 (i:Int))]/\bx=[itC k n (c1::b1) l]/\fr=[⟨c,1,5⟩]) (l.length+1) (Lands.mk' (m:=l.length) (Nat.lt_succ_self _) ⟨0,(L++(c0::t0).map E.byte).length+((c1::b1).map E.byte).length,(L++(c0::t0).map E.byte)++(c1::b1).map E.byte,rfl,by simp only[List.length_append],by simp[ZaX],rfl,rfl,rfl⟩ ?_ rfl rfl rfl rfl rfl rfl) ?_
   ·exact .cons rfl (.cons rfl (.cons rfl (.cons rfl (.cons rfl .nil))))
   rintro f tm bx fr ⟨i,c,M,hf,hc,hM,rfl,rfl,rfl⟩
   subst hc
   have hU:=ZcF l
   have hUM:Uni 1 M:=by rw[hM];exact hUL.append (Zbh _)
   have hMl:M.length=L.length+((c0::t0)++((c1::b1)++ZaX (l.take i))).length:=by rw[hM];simp only[List.length_append,List.length_map]
   rcases Nat.lt_or_ge i l.length with hlt|hge
   ·have hdl:decide ((i:Int)<((ZaC l).length:Int))=true:=decide_eq_true (by omega)
    obtain⟨⟨k1,n1,b2,l1⟩,hy⟩:∃ y,l[i]?=some y:=⟨_,List.getElem?_eq_getElem hlt⟩
    have hv:(ZaC l)[((i:Nat):Int).toNat]?=some (.agg [.int .i64 k1,.int .u64 (n1:Int),.sl (b2.map E.byte),.sl (ZaC l1)]):=by
     rw[Int.toNat_natCast,ZaP,List.getElem?_map,hy];rfl
    have hmem:=List.mem_of_getElem? hy
    have hps:=ZaM hy
    have hpl:=ZaW l (i+1)
    have hps2:=congrArg List.length hps
    rw[List.length_append]at hps2
    have hc:=ih _ hmem (Zbd hws _ hmem) (ZbB hos _ hmem) M _ rfl hUM (by simp only[List.length_append]at hMl hlim;omega)
    have ei:IntKind.i64.wrap ((i:Int)+1)=((i+1:Nat):Int):=by rw[IntWalk.i64_in _ (by omega)];omega
    repeat'(first|rw[ei]|(apply ZaU [] [0] (hc);kernel_rfl;(iterate 10 exact U))|(apply Zai Zab;exact U)|(apply Zag Zab;exact U)|refine Zad U Qt ?_|(apply Zat Zab;(iterate 6 exact U);(first|exact Qt|rotate_left);(first|with_reducible assumption|decide +kernel|exact U);(first|exact Zaj rfl|with_reducible assumption|decide +kernel|rotate_left)))
    refine Lands.mk' (m:=f-1) (by omega) ⟨i+1,M.length+(ZaZ (.mk k1 n1 b2 l1)).length,M++(ZaZ (.mk k1 n1 b2 l1)).map E.byte,by omega,by simp only[List.length_append,List.length_map],by rw[hM,hps];simp,rfl,rfl,rfl⟩ ?_ rfl rfl rfl rfl rfl rfl
    exact .cons rfl (.cons rfl (.cons rfl (.cons rfl (.cons rfl .nil))))
   ·have hdl:decide ((i:Int)<((ZaC l).length:Int))=false:=decide_eq_false (by omega)
    rw[List.take_of_length_le hge]at hM hMl
    repeat'(first|(apply Zag Zab;exact U)|refine Zaf U Qt ?_)
    all_goals(apply Zfb [] [0];(apply Zac Zab;exact U);(iterate 7 exact U))
    ·rw[hM];rfl
    ·rfl
    ·rw[hMl];rfl
theorem Zjy [Known](x:It)(hw:wfI x)(ho:okx x)(hlim:(ZaZ x).length<=1099511627776):AT Tryz.prog 159 [.sl .nil [],itD x] [] [] (.sl (.own 0) ((ZaZ x).map E.byte)) [] [⟨(ZaZ x).length,1,5⟩]:=by
 obtain⟨k,n,b,l⟩:=x
 obtain⟨hn,hb,hl,hws⟩:=hw
 obtain⟨hk7,hos⟩:=ho
 have hlen:=Zaq l
 have hr:Za1 (k,(It.mk k n b l).hn,false)=true:=by simp[Za1];exact hk7
 have hhn:(It.mk k n b l).hn<18446744073709551616:=by simp only[It.hn];(repeat' split)<;>omega
 have hput:ZaZ (.mk k n b l)=ZaS (k,(It.mk k n b l).hn,false)++(b++ZaX l):=by rw[ZaZ,if_pos hr]
 rw[hput]at hlim ⊢
 have hW:=Zkx (k,(It.mk k n b l).hn,false) hhn
 rw[if_pos hr,if_pos hr]at hW
 obtain⟨c0,t0,hcw⟩:=Zgo (k,(It.mk k n b l).hn,false)
 rw[hcw]at hW hlim ⊢
 have hU0:=Zbh (c0::t0)
 have hU1:=Zbh b
 have eb:IntKind.u64.wrap (((b.map E.byte).length:Nat):Int)=((b.length:Nat):Int):=by rw[List.length_map,IntKind.wrap_u64];omega
 have el:IntKind.u64.wrap (((ZaC l).length:Nat):Int)=((l.length:Nat):Int):=by rw[hlen,IntKind.wrap_u64];omega
 have hS:∀(i:Nat),IntKind.i64.wrap ((i:Int)+1)=((i+1:Nat):Int)\/2199023255488<i:=fun i=>by
  rcases Nat.lt_or_ge 2199023255488 i with h|h
  ·exact .inr h
  ·left;rw[IntWalk.i64_in _ (by omega)];omega
 have hkc:(k=2/\(It.mk k n b l).hn=b.length)\/(k=3/\(It.mk k n b l).hn=b.length)\/(k=4/\(It.mk k n b l).hn=l.length)\/(k ≠ 2/\k ≠ 3/\k ≠ 4/\(It.mk k n b l).hn=n):=by
  by_cases h2:k=2
  ·subst h2;exact .inl ⟨rfl,rfl⟩
  by_cases h3:k=3
  ·subst h3;exact .inr (.inl ⟨rfl,rfl⟩)
  by_cases h4:k=4
  ·subst h4;exact .inr (.inr (.inl ⟨rfl,rfl⟩))
  ·exact .inr (.inr (.inr ⟨h2,h3,h4,by simp[It.hn,h2,h3,h4]⟩))
 clear hhn hr hcw hput
 generalize (It.mk k n b l).hn=hn0 at hkc hW
 have hbc:b=[]\/∃ c1 b1,b=c1::b1:=by cases b<;>simp
 have hne2:k ≠ 2->(k==2)=false:=fun h=>by simpa using h
 have hne3:k ≠ 3->(k==3)=false:=fun h=>by simpa using h
 have hne4:k ≠ 4->(k==4)=false:=fun h=>by simpa using h
 have hq:((k==2)=true/\hn0=b.length)\/((k==2)=false/\(k==3)=true/\hn0=b.length)\/((k==2)=false/\(k==3)=false/\(k==4)=true/\hn0=l.length)\/((k==2)=false/\(k==3)=false/\(k==4)=false/\hn0=n):=by
  rcases hkc with⟨e,h⟩ | ⟨e,h⟩ | ⟨e,h⟩ | ⟨k2,k3,k4,h⟩
  ·exact .inl ⟨by rw[e];rfl,h⟩
  ·exact .inr (.inl ⟨by rw[e];rfl,by rw[e];rfl,h⟩)
  ·exact .inr (.inr (.inl ⟨by rw[e];rfl,by rw[e];rfl,by rw[e];rfl,h⟩))
  ·exact .inr (.inr (.inr ⟨hne2 k2,hne3 k3,hne4 k4,h⟩))
 clear hkc
 rcases hbc with rfl|⟨c1,b1,rfl⟩
 ·rcases hq with⟨q2,hh⟩ | ⟨q2,q3,hh⟩ | ⟨q2,q3,q4,hh⟩ | ⟨q2,q3,q4,hh⟩
  all_goals
   rw[hh]at hW
   clear hh
   refine Zam Tryz.func159 rfl Tryz.ntmps159 rfl rfl ?_
   repeat'(first|rw[eb]|rw[el]|(apply Zaa (hW);kernel_rfl;(iterate 4 exact U))|(apply Zai Zab;exact U)|(apply Zag Zab;exact U)|(apply Zau Zab;exact U)|refine Zad U Qt ?_|refine Zaf U Qt ?_|refine Zan Zab U U U U ?_|(apply Zao 5 ZaQ;decide +kernel;kernel_rfl;kernel_rfl;kernel_rfl;exact U;exact U)|(apply Zas;(iterate 4 exact U))|exact AE.nil _ _ _ _|(apply Zaw;exact U)|(apply Zbl;exact U)|(apply Zay;exact U;exact U;decide +kernel;exact U)|(apply Zaz;exact U)|(apply ZbH;exact U)|exact AO.nil _ _ _|(apply Zar;(decide +kernel))|(apply Za6;(iterate 3 exact U))|exact AOs.nil|exact ZaJ rfl rfl|exact ZcD rfl rfl|refine ZaI Zab U U U U U U ?_|(apply Zba Zab;(iterate 6 exact U);(first|exact Zaj rfl|with_reducible assumption|decide +kernel|rotate_left);(first|exact Qt|rotate_left);(first|exact Qt|rotate_left);(first|exact Qt|rotate_left);(iterate 3 exact U)))
   all_goals first|(first|rfl|(simp only[List.length_append,List.length_cons,List.length_nil,List.length_map,Zaq];done)|(simp only[List.length_append,List.length_cons,List.length_nil,List.length_map,Zaq]at *;(try unfold maxLen);(try simp only[Nat.add_mul]);omega))|skip
   refine ZaB (fun f tm bx fr=>∃(i c:Nat) (M:List E),f+i=l.length/\c=M.length/\M=((c0::t0)++(([]:List UInt8)++ZaX (l.take i))).map E.byte/\tm=[(0,.sl (.own 0) M),(3,.ptr 0 0),(42,.sl .ext (ZaC l)),(43,.int .i64 ((ZaC l).length:Int)),(44,.int .i64 (i:Int))]/\bx=[itC k n ([]:List UInt8) l]/\fr=[⟨c,1,5⟩]) (l.length+1) (Lands.mk' (m:=l.length) (Nat.lt_succ_self _) ⟨0,((c0::t0).map E.byte).length,(c0::t0).map E.byte,rfl,by simp only[List.length_append],by simp[ZaX],rfl,rfl,rfl⟩ ?_ rfl rfl rfl rfl rfl rfl) ?_
   ·exact .cons rfl (.cons rfl (.cons rfl (.cons rfl (.cons rfl .nil))))
   rintro f tm bx fr ⟨i,c,M,hf,hc,hM,rfl,rfl,rfl⟩
   subst hc
   have hU:=ZcF l
   have hUM:Uni 1 M:=by rw[hM];exact Zbh _
   have hMl:M.length=((c0::t0)++(([]:List UInt8)++ZaX (l.take i))).length:=by rw[hM];simp only[List.length_append,List.length_map]
   rcases Nat.lt_or_ge i l.length with hlt|hge
   ·have hdl:decide ((i:Int)<((ZaC l).length:Int))=true:=decide_eq_true (by omega)
    obtain⟨⟨k1,n1,b2,l1⟩,hy⟩:∃ y,l[i]?=some y:=⟨_,List.getElem?_eq_getElem hlt⟩
    have hv:(ZaC l)[((i:Nat):Int).toNat]?=some (.agg [.int .i64 k1,.int .u64 (n1:Int),.sl (b2.map E.byte),.sl (ZaC l1)]):=by
     rw[Int.toNat_natCast,ZaP,List.getElem?_map,hy];rfl
    have hmem:=List.mem_of_getElem? hy
    have hps:=ZaM hy
    have hpl:=ZaW l (i+1)
    have hps2:=congrArg List.length hps
    rw[List.length_append]at hps2
    have hc:=ZdY _ (Zbd hws _ hmem) (ZbB hos _ hmem) M _ rfl hUM (by simp only[List.length_append]at hMl hlim;omega)
    have ei:IntKind.i64.wrap ((i:Int)+1)=((i+1:Nat):Int):=by rw[IntWalk.i64_in _ (by omega)];omega
    repeat'(first|rw[ei]|(apply ZaU [] [0] (hc);kernel_rfl;(iterate 10 exact U))|(apply Zai Zab;exact U)|(apply Zag Zab;exact U)|refine Zad U Qt ?_|(apply Zat Zab;(iterate 6 exact U);(first|exact Qt|rotate_left);(first|with_reducible assumption|decide +kernel|exact U);(first|exact Zaj rfl|with_reducible assumption|decide +kernel|rotate_left)))
    refine Lands.mk' (m:=f-1) (by omega) ⟨i+1,M.length+(ZaZ (.mk k1 n1 b2 l1)).length,M++(ZaZ (.mk k1 n1 b2 l1)).map E.byte,by omega,by simp only[List.length_append,List.length_map],by rw[hM,hps];simp,rfl,rfl,rfl⟩ ?_ rfl rfl rfl rfl rfl rfl
    exact .cons rfl (.cons rfl (.cons rfl (.cons rfl (.cons rfl .nil))))
   ·have hdl:decide ((i:Int)<((ZaC l).length:Int))=false:=decide_eq_false (by omega)
    rw[List.take_of_length_le hge]at hM hMl
    repeat'(first|(apply Zag Zab;exact U)|refine Zaf U Qt ?_)
    all_goals(apply Zfb [] [0];(apply Zac Zab;exact U);(iterate 7 exact U))
    ·rw[hM];rfl
    ·rfl
    ·rw[hMl];rfl
 ·rcases hq with⟨q2,hh⟩ | ⟨q2,q3,hh⟩ | ⟨q2,q3,q4,hh⟩ | ⟨q2,q3,q4,hh⟩
  all_goals
   rw[hh]at hW
   clear hh
   refine Zam Tryz.func159 rfl Tryz.ntmps159 rfl rfl ?_
   repeat'(first|rw[eb]|rw[el]|(apply Zaa (hW);kernel_rfl;(iterate 4 exact U))|(apply Zai Zab;exact U)|(apply Zag Zab;exact U)|(apply Zau Zab;exact U)|refine Zad U Qt ?_|refine Zaf U Qt ?_|refine Zan Zab U U U U ?_|(apply Zao 5 ZaQ;decide +kernel;kernel_rfl;kernel_rfl;kernel_rfl;exact U;exact U)|(apply Zas;(iterate 4 exact U))|exact AE.nil _ _ _ _|(apply Zaw;exact U)|(apply Zbl;exact U)|(apply Zay;exact U;exact U;decide +kernel;exact U)|(apply Zaz;exact U)|(apply ZbH;exact U)|exact AO.nil _ _ _|(apply Zar;(decide +kernel))|(apply Za6;(iterate 3 exact U))|exact AOs.nil|exact ZaJ rfl rfl|exact ZcD rfl rfl|(apply ZaF Zab;(iterate 6 exact U);(first|with_reducible assumption|decide +kernel|exact U|rotate_left);exact U;exact U;(first|exact Zaj rfl|with_reducible assumption|decide +kernel|rotate_left);(first|exact Zaj rfl|with_reducible assumption|decide +kernel|rotate_left);(first|exact Qt|rotate_left);(first|exact Qt|rotate_left);(first|exact Qt|rotate_left);exact U;exact U)|(apply Zba Zab;(iterate 6 exact U);(first|exact Zaj rfl|with_reducible assumption|decide +kernel|rotate_left);(first|exact Qt|rotate_left);(first|exact Qt|rotate_left);(first|exact Qt|rotate_left);(iterate 3 exact U)))
   all_goals first|(first|rfl|(simp only[List.length_append,List.length_cons,List.length_nil,List.length_map,Zaq];done)|(simp only[List.length_append,List.length_cons,List.length_nil,List.length_map,Zaq]at *;(try unfold maxLen);(try simp only[Nat.add_mul]);omega))|skip
   refine ZaB (fun f tm bx fr=>∃(i c:Nat) (M:List E),f+i=l.length/\c=M.length/\M=((c0::t0)++((c1::b1)++ZaX (l.take i))).map E.byte/\tm=[(0,.sl (.own 0) M),(3,.ptr 0 0),(42,.sl .ext (ZaC l)),(43,.int .i64 ((ZaC l).length:Int)),(44,.int .i64 (i:Int))]/\bx=[itC k n (c1::b1) l]/\fr=[⟨c,1,5⟩]) (l.length+1) (Lands.mk' (m:=l.length) (Nat.lt_succ_self _) ⟨0,((c0::t0).map E.byte).length+((c1::b1).map E.byte).length,((c0::t0).map E.byte)++(c1::b1).map E.byte,rfl,by simp only[List.length_append],by simp[ZaX],rfl,rfl,rfl⟩ ?_ rfl rfl rfl rfl rfl rfl) ?_
   ·exact .cons rfl (.cons rfl (.cons rfl (.cons rfl (.cons rfl .nil))))
   rintro f tm bx fr ⟨i,c,M,hf,hc,hM,rfl,rfl,rfl⟩
   subst hc
   have hU:=ZcF l
   have hUM:Uni 1 M:=by rw[hM];exact Zbh _
   have hMl:M.length=((c0::t0)++((c1::b1)++ZaX (l.take i))).length:=by rw[hM];simp only[List.length_append,List.length_map]
   rcases Nat.lt_or_ge i l.length with hlt|hge
   ·have hdl:decide ((i:Int)<((ZaC l).length:Int))=true:=decide_eq_true (by omega)
    obtain⟨⟨k1,n1,b2,l1⟩,hy⟩:∃ y,l[i]?=some y:=⟨_,List.getElem?_eq_getElem hlt⟩
    have hv:(ZaC l)[((i:Nat):Int).toNat]?=some (.agg [.int .i64 k1,.int .u64 (n1:Int),.sl (b2.map E.byte),.sl (ZaC l1)]):=by
     rw[Int.toNat_natCast,ZaP,List.getElem?_map,hy];rfl
    have hmem:=List.mem_of_getElem? hy
    have hps:=ZaM hy
    have hpl:=ZaW l (i+1)
    have hps2:=congrArg List.length hps
    rw[List.length_append]at hps2
    have hc:=ZdY _ (Zbd hws _ hmem) (ZbB hos _ hmem) M _ rfl hUM (by simp only[List.length_append]at hMl hlim;omega)
    have ei:IntKind.i64.wrap ((i:Int)+1)=((i+1:Nat):Int):=by rw[IntWalk.i64_in _ (by omega)];omega
    repeat'(first|rw[ei]|(apply ZaU [] [0] (hc);kernel_rfl;(iterate 10 exact U))|(apply Zai Zab;exact U)|(apply Zag Zab;exact U)|refine Zad U Qt ?_|(apply Zat Zab;(iterate 6 exact U);(first|exact Qt|rotate_left);(first|with_reducible assumption|decide +kernel|exact U);(first|exact Zaj rfl|with_reducible assumption|decide +kernel|rotate_left)))
    refine Lands.mk' (m:=f-1) (by omega) ⟨i+1,M.length+(ZaZ (.mk k1 n1 b2 l1)).length,M++(ZaZ (.mk k1 n1 b2 l1)).map E.byte,by omega,by simp only[List.length_append,List.length_map],by rw[hM,hps];simp,rfl,rfl,rfl⟩ ?_ rfl rfl rfl rfl rfl rfl
    exact .cons rfl (.cons rfl (.cons rfl (.cons rfl (.cons rfl .nil))))
   ·have hdl:decide ((i:Int)<((ZaC l).length:Int))=false:=decide_eq_false (by omega)
    rw[List.take_of_length_le hge]at hM hMl
    repeat'(first|(apply Zag Zab;exact U)|refine Zaf U Qt ?_)
    all_goals(apply Zfb [] [0];(apply Zac Zab;exact U);(iterate 7 exact U))
    ·rw[hM];rfl
    ·rfl
    ·rw[hMl];rfl
theorem Zgp [Known][KnownU8](x:It)(hw:wfI x)(hlim:(ZaZ x).length<=1099511627776)(hR:AP Tryz.prog 138 [itD x] (.bool (ZaD x)) []):AP Tryz.prog 112 [itD x] (.tup [byE (if ZaD x then ZaZ x else []),.int .i64 (if ZaD x then 0 else 3)]) []:=by
 cases hr:ZaD x with
 | false=>
  rw[hr]at hR
  obtain⟨k,n,b,l⟩:=x
  refine AP.ofA (Zam Tryz.func112 U Tryz.ntmps112 U U ?_)
  repeat'(first|(apply Zaa (hR);kernel_rfl;(iterate 4 exact U))|(apply Zai Zab;exact U)|(apply Zag Zab;exact U)|(apply Zau Zab;exact U)|refine Zad U Qt ?_)
  all_goals exact Qe
 | true=>
  rw[hr]at hR
  have hp:=Zjy x hw (ZiB hr) hlim
  obtain⟨k,n,b,l⟩:=x
  refine AP.ofA (Zam Tryz.func112 U Tryz.ntmps112 U U ?_)
  repeat'(first|(apply Zaa (hR);kernel_rfl;(iterate 4 exact U))|(apply ZaU [] [] (hp);kernel_rfl;(iterate 10 exact U))|(apply Zai Zab;exact U)|(apply Zag Zab;exact U)|(apply Zau Zab;exact U)|refine Zaf U Qt ?_)
  all_goals exact Qe
end Go.Proofs.YtakblclkflnnpaaGreatDoor
end
section
open Go.RowKit Go.Pl Go.Av
namespace Go.Proofs.YtakblclkflnnpaaGreatDoor
set_option maxHeartbeats 4000000
theorem ZsX {s:List UInt8}{e:Nat}(h:rdS s=.error e):e ≠ 0:=by
 cases s with
 | nil=>simp only[rdS,Except.error.injEq]at h;omega
 | cons c r=>
  simp only[rdS]at h
  repeat' split at h
  all_goals(cases h;try omega)
theorem ZiC {p:Hd}{s:List UInt8}{e:Nat}(h:Zb1 p s=.error e):e ≠ 0:=by
 simp only[Zb1]at h
 repeat' split at h
 all_goals(cases h;try omega)
theorem Zm1 (m:Int):∀(f:Nat) (acc s:List UInt8) (e:Nat),Zkn m f acc s=.error e->e ≠ 0
 | 0,_,_,e,h=>by simp only[Zkn,Except.error.injEq]at h;omega
 | f+1,acc,s,e,h=>by
  rw[Zkn]at h
  cases hb:Zg4 s<;>rw[hb]at h
  ·cases hr:rdS s with
   | error c=>rw[hr]at h;dsimp only at h;simp only[Except.error.injEq]at h;exact h ▸ ZsX hr
   | ok y=>
    obtain⟨p,r⟩:=y
    rw[hr]at h;dsimp only at h
    split at h
    ·cases hp:Zb1 p r with
     | error c=>rw[hp]at h;dsimp only at h;simp only[Except.error.injEq]at h;exact h ▸ ZiC hp
     | ok z=>rw[hp]at h;exact Zm1 m f _ _ e h
    ·simp only[Except.error.injEq]at h;omega
  ·exact nomatch h
theorem ZkD {it:Nat->List UInt8->Res (It × List UInt8 × Nat)}(hi:∀ m s e,it m s=.error e->e ≠ 0):∀(f:Nat) (acc:List It) (m:Nat) (s:List UInt8) (e:Nat),Zg5 it f acc m s=.error e->e ≠ 0
 | 0,_,_,_,_,h=>nomatch h
 | f+1,acc,m,s,e,h=>by
  rw[Zg5]at h
  cases hr:it m s with
  | error c=>rw[hr]at h;dsimp only at h;simp only[Except.error.injEq]at h;exact h ▸ hi _ _ _ hr
  | ok y=>obtain⟨x,r,m'⟩:=y;rw[hr]at h;exact ZkD hi f _ _ _ e h
theorem ZkE {it:Nat->List UInt8->Res (It × List UInt8 × Nat)}(hi:∀ m s e,it m s=.error e->e ≠ 0):∀(f:Nat) (acc:List It) (m:Nat) (s:List UInt8) (e:Nat),Zko it f acc m s=.error e->e ≠ 0
 | 0,_,_,_,e,h=>by simp only[Zko,Except.error.injEq]at h;omega
 | f+1,acc,m,s,e,h=>by
  rw[Zko]at h
  cases hb:Zg4 s<;>rw[hb]at h
  ·cases hr:it m s with
   | error c=>rw[hr]at h;dsimp only at h;simp only[Except.error.injEq]at h;exact h ▸ hi _ _ _ hr
   | ok y=>obtain⟨x,r,m'⟩:=y;rw[hr]at h;exact ZkE hi f _ _ _ e h
  ·exact nomatch h
theorem ZoO {it:Nat->List UInt8->Res (It × List UInt8 × Nat)}(hi:∀ m s e,it m s=.error e->e ≠ 0){p:Hd}{m:Nat}{r:List UInt8}{e:Nat}(h:ZcK it p m r=.error e):e ≠ 0:=by
 have h1:∀ e,ZhC p r=.error e->e ≠ 0:=by
  intro e h;simp only[ZhC]at h
  split at h
  ·exact Zm1 _ _ _ _ _ h
  ·exact ZiC h
 have h2:∀ e,Zju it p m r=.error e->e ≠ 0:=by
  intro e h;simp only[Zju]at h
  split at h
  ·exact ZkE hi _ _ _ _ _ h
  ·split at h
   ·exact ZkD hi _ _ _ _ _ h
   ·cases h;omega
 simp only[ZcK]at h
 repeat' split at h
 all_goals first
  | (cases h;done)
  | (rename_i hq;cases h;exact h1 _ hq)
  | (rename_i hq;cases h;exact h2 _ hq)
theorem ZdF:∀(d m:Nat) (s:List UInt8) (e:Nat),ZaV d m s=.error e->e ≠ 0
 | 0,m,s,e,h=>by
  rw[ZaV]at h
  cases hr:rdS s with
  | error c=>rw[hr]at h;dsimp only at h;simp only[Except.error.injEq]at h;exact h ▸ ZsX hr
  | ok y=>
   obtain⟨p,r⟩:=y
   rw[hr]at h;dsimp only at h
   split at h<;>(simp only[Except.error.injEq]at h;omega)
 | d+1,m,s,e,h=>by
  rw[ZaV]at h
  cases hr:rdS s with
  | error c=>rw[hr]at h;dsimp only at h;simp only[Except.error.injEq]at h;exact h ▸ ZsX hr
  | ok y=>
   obtain⟨p,r⟩:=y
   rw[hr]at h;dsimp only at h
   split at h
   ·simp only[Except.error.injEq]at h;omega
   ·split at h
    ·simp only[Except.error.injEq]at h;omega
    ·exact ZoO (ZdF d) h
theorem ZiD [Known][KnownU8](b:List UInt8)(hb:b.length<4294967296):AP Tryz.prog 180 [byE b] (.bool (Zcw b)) []:=by
 have hR:=ZkC b 0 (by omega)
 have e:Zbu b 0=match ZaV 6 256 b with
   | .error e=>(.mk 0 0 [] [],0,e)
   | .ok (x,r,_)=>(x,b.length-r.length,0):=by rw[Zbu,if_neg (by omega)];rfl
 rw[e]at hR
 unfold Zcw
 cases hx:ZaV 6 256 b with
 | error c=>
  rw[hx]at hR
  dsimp only
  have hc:((c:Int)==0)=false:=by
   have h0:=ZdF _ _ _ _ hx
   rw[<- Bool.not_eq_true,beq_iff_eq];omega
  replace hR:AP Tryz.prog _ _ (.tup [itD (.mk 0 0 [] []),.int .i64 0,.int .i64 (c:Int)]) []:=hR
  refine AP.ofA (Zam Tryz.func180 U Tryz.ntmps180 U U ?_)
  repeat'(first|rw[hc]|(apply Zaa (hR);kernel_rfl;(iterate 4 exact U))|(apply Zai Zab;exact U)|(apply Zag Zab;exact U)|refine Zap U U U Qt ?_|refine Zah U Qt U U ?_)
  all_goals exact Qe
 | ok y=>
  obtain⟨⟨k1,n1,b1,l1⟩,r,m1⟩:=y
  rw[hx]at hR
  replace hR:AP Tryz.prog _ _ (.tup [itD (.mk k1 n1 b1 l1),.int .i64 ((b.length-r.length:Nat):Int),.int .i64 0]) []:=hR
  obtain⟨hwk,hwf,pre,hpre,_,hlen⟩:=Zfh 6 (Nat.le_refl _) _ _ _ _ _ hx (by omega)
  have hle:=hlen ⟨Nat.le_refl _,hb⟩
  have hpl:=congrArg List.length hpre
  rw[List.length_append]at hpl
  have hP:=Zjy (.mk k1 n1 b1 l1) hwf (ZhJ hwk) (by omega)
  have hB:=ZpN (ZaZ (.mk k1 n1 b1 l1)) b
  have hn:(((b.length-r.length:Nat):Int)==((b.map E.byte).length:Int))=r.isEmpty:=by
   rw[List.length_map]
   cases r with
   | nil=>simp
   | cons c r=>simp at hpl ⊢;omega
  dsimp only
  cases hr:r.isEmpty
  all_goals
   rw[hr]at hn
   refine AP.ofA (Zam Tryz.func180 U Tryz.ntmps180 U U ?_)
   repeat'(first|rw[hn]|(apply Zaa (hR);kernel_rfl;(iterate 4 exact U))|(apply ZaU [] [] (hP);kernel_rfl;(iterate 10 exact U))|(apply Zaa (hB);kernel_rfl;(iterate 4 exact U))|(apply Zai Zab;exact U)|(apply Zag Zab;exact U)|refine Zae U U U Qt ?_|refine Zap U U U Qt ?_|refine Zak U Qt U U ?_|refine Zah U Qt U U ?_|refine Zan Zab U U U U ?_)
   all_goals exact Qe
theorem Zm2 [Known][KnownU8](x:It)(hw:wfI x)(hr:ZaD x=true)(hlim:(ZaZ x).length<=1099511627776):AT Tryz.prog 112 [itD x] [] [] (.tup [.sl (.own 0) ((ZaZ x).map E.byte),.int .i64 0]) [] [⟨(ZaZ x).length,1,5⟩]:=by
 have hR:=Zce x hw
 rw[hr]at hR
 have hp:=Zjy x hw (ZiB hr) hlim
 obtain⟨k,n,b,l⟩:=x
 refine Zam Tryz.func112 rfl Tryz.ntmps112 rfl rfl ?_
 repeat'(first|(apply Zaa (hR);kernel_rfl;(iterate 4 exact U))|(apply ZaU [] [] (hp);kernel_rfl;(iterate 10 exact U))|(apply Zai Zab;exact U)|(apply Zag Zab;exact U)|(apply Zau Zab;exact U)|refine Zaf U Qt ?_)
 all_goals(apply Zfb [] [0];(apply Zac Zab;exact U);(iterate 7 exact U))
 all_goals rfl
theorem ZoP {x:It}(hw:wfI x)(hr:ZaD x=true)(r:List UInt8):ZaV 6 256 (ZaZ x++r)=.ok (x,r,((Zcv x 1 256).getD 0)):=by
 unfold ZaD at hr
 cases h:Zcv x 1 256 with
 | none=>rw[h]at hr;cases hr
 | some m=>exact ZhD x 6 256 m r hw (Nat.le_refl _) h
theorem Zjz [Known][KnownU8](x:It)(hw:wfI x)(hlim:(ZaZ x).length<=1099511627776)(hr:ZaD x=true):AP Tryz.prog 112 [itD x] (.tup [byE (ZaZ x),.int .i64 0]) []:=by
 have h:=Zgp x hw hlim (Zce x hw)
 rw[hr]at h
 exact h
theorem ZiE (x:It)(hw:wfI x)(hr:ZaD x=true):∃ c t,ZaZ x=c::t:=by
 cases hp:ZaZ x with
 | cons c t=>exact⟨c,t,rfl⟩
 | nil=>
  have h:=ZoP hw hr []
  rw[hp]at h
  have e:ZaV 6 256 []=.error 8:=rfl
  rw[List.append_nil,e]at h
  cases h
end Go.Proofs.YtakblclkflnnpaaGreatDoor
end
section
open Go.RowKit Go.Pl Go.Av
namespace Go.Proofs.YtakblclkflnnpaaGreatDoor
mutual
def ZbQ:It->Nat
 | .mk _ _ _ l=>1+Zbr l
def Zbr:List It->Nat
 | []=>0
 | x::l=>ZbQ x+Zbr l
end
mutual
def ZbN:It->Bool
 | .mk k n b l=>Zdi k n b l&&Zcj l
def Zcj:List It->Bool
 | []=>true
 | x::l=>ZbN x&&Zcj l
end
mutual
theorem ZkF:∀(x:It) (d m:Nat),Zcv x d m=if Zcf x (7-d)=true/\ZbQ x<=m/\ZbN x=true then some (m-ZbQ x) else none
 | .mk k n b l,d,m=>by
  rw[Zcv]
  split
  ·rename_i h
   rw[if_neg]
   rintro⟨h1,_⟩
   rw[show 7-d=0 by omega,Zcf]at h1
   cases h1
  rename_i hd
  rw[show 7-d=(7-(d+1))+1 by omega,Zcf,ZbQ,ZbN]
  split
  ·rename_i h
   rw[if_neg]
   rintro⟨_,h1,_⟩
   omega
  rename_i hm
  cases ho:Zdi k n b l with
  | false=>
   dsimp only
   rw[if_neg]
   rintro⟨_,_,h1⟩
   simp at h1
  | true=>
   dsimp only
   rw[ZiF l (d+1) (m-1),Bool.true_and]
   by_cases h:Zb8 l (7-(d+1))=true/\Zbr l<=m-1/\Zcj l=true
   ·rw[if_pos h,if_pos ⟨h.1,by omega,h.2.2⟩]
    congr 1;omega
   ·rw[if_neg h,if_neg]
    exact fun⟨a,b,c⟩=>h ⟨a,by omega,c⟩
theorem ZiF:∀(l:List It) (d m:Nat),ZbV l d m=if Zb8 l (7-d)=true/\Zbr l<=m/\Zcj l=true then some (m-Zbr l) else none
 | [],d,m=>by rw[ZbV,if_pos ⟨by rw[Zb8],by rw[Zbr];omega,by rw[Zcj]⟩,Zbr];rfl
 | x::l,d,m=>by
  rw[ZbV,ZkF x d m,Zb8,Zbr,Zcj]
  by_cases h:Zcf x (7-d)=true/\ZbQ x<=m/\ZbN x=true
  ·rw[if_pos h]
   dsimp only
   rw[ZiF l d (m-ZbQ x),h.1,h.2.2,Bool.true_and,Bool.true_and]
   by_cases h2:Zb8 l (7-d)=true/\Zbr l<=m-ZbQ x/\Zcj l=true
   ·rw[if_pos h2,if_pos ⟨h2.1,by omega,h2.2.2⟩]
    congr 1;omega
   ·rw[if_neg h2,if_neg]
    exact fun⟨a,b,c⟩=>h2 ⟨a,by omega,c⟩
  ·rw[if_neg h]
   dsimp only
   rw[if_neg]
   rintro⟨a,b,c⟩
   rw[Bool.and_eq_true]at a c
   exact h ⟨a.1,by omega,c.1⟩
end
theorem Zb2 (x:It):ZaD x=(Zcf x 6&&(decide (ZbQ x<=256)&&ZbN x)):=by
 unfold ZaD
 rw[ZkF]
 split
 ·rename_i h
  obtain⟨a,b,c⟩:=h
  rw[show 7-1=6 from rfl]at a
  simp[a,b,c]
 ·rename_i h
  rw[show 7-1=6 from rfl]at h
  show false=_
  cases h2:(Zcf x 6&&(decide (ZbQ x<=256)&&ZbN x)) with
  | false=>rfl
  | true=>
   simp only[Bool.and_eq_true,decide_eq_true_eq]at h2
   exact absurd ⟨h2.1,h2.2.1,h2.2.2⟩ h
mutual
theorem Zhc:∀(x:It) (d e:Nat),Zcf x d=true->d<=e->Zcf x e=true
 | .mk k n b l,0,e,h,_=>by rw[Zcf]at h;cases h
 | .mk k n b l,d+1,0,h,hle=>by omega
 | .mk k n b l,d+1,e+1,h,hle=>by
  rw[Zcf]at h ⊢
  exact Zhd l d e h (by omega)
theorem Zhd:∀(l:List It) (d e:Nat),Zb8 l d=true->d<=e->Zb8 l e=true
 | [],_,_,_,_=>by rw[Zb8]
 | x::l,d,e,h,hle=>by
  rw[Zb8,Bool.and_eq_true]at h ⊢
  exact⟨Zhc x d e h.1 hle,Zhd l d e h.2 hle⟩
end
mutual
theorem Zlw:∀(x:It) (d:Nat) (m:Int),0<=ZbI x d m->(ZbQ x:Int)=m-ZbI x d m
 | .mk k n b l,d,m,h=>by
  rw[ZbI]at h ⊢
  split at h
  ·omega
  split at h
  ·omega
  rename_i h1 h2
  rw[if_neg h1,if_neg h2,ZbQ]
  have:=Zgq l (d+1) (m-1) h
  omega
theorem Zgq:∀(l:List It) (d:Nat) (m:Int),0<=Zcn l d m->(Zbr l:Int)=m-Zcn l d m
 | [],d,m,h=>by rw[Zcn,Zbr];omega
 | x::l,d,m,h=>by
  rw[Zcn]at h ⊢
  split at h
  ·omega
  rename_i h1
  rw[if_neg h1,Zbr]
  have h0:0<=ZbI x d m:=by
   rcases Int.lt_or_le (ZbI x d m) 0 with hlt|hge
   ·have:=ZeV l d (ZbI x d m) (by have:=ZeU x d m (by omega);omega);omega
   ·exact hge
  have a:=Zlw x d m h0
  have b:=Zgq l d _ h
  omega
end
end Go.Proofs.YtakblclkflnnpaaGreatDoor
end

/- Items: their bytes. -/
import Derived.Test.YtmljabhmajehnaaGreatDoorR13
import Derived.Test.YtmljabhmajehnaaGreatDoorR17
set_option linter.unusedVariables false
set_option linter.unusedSimpArgs false
section
open Go.RowKit Go.Pl Go.Av
namespace Go.Proofs.YtmljabhmajehnaaGreatDoor
set_option maxHeartbeats 4000000
mutual
def okx:It->Prop
 | .mk k _ _ l=>(0<=k/\k<=7)/\Sa l
def Sa:List It->Prop
 | []=>True
 | x::l=>okx x/\Sa l
end
theorem QM:∀ {l:List It},Sa l->∀ y ∈ l,okx y
 | x::l,⟨h1,h2⟩,y,hy=>by
  rcases List.mem_cons.1 hy with rfl|hy
  ·exact h1
  ·exact QM h2 y hy
mutual
theorem KI:∀ {x:It} {d m m':Nat},Wq x d m=some m'->okx x
 | .mk k n b l,d,m,m',h=>by
  obtain⟨_,_,h3,h4⟩:=Vc h
  exact⟨Q1 h3,OT h4⟩
theorem OT:∀ {l:List It} {d m m':Nat},YM l d m=some m'->Sa l
 | [],d,m,m',h=>trivial
 | x::l,d,m,m',h=>by
  obtain⟨m1,h1,h2⟩:=W8 h
  exact⟨KI h1,OT h2⟩
end
theorem OU {x:It}(h:ZC x=true):okx x:=by
 unfold ZC at h
 cases hw:Wq x 1 256 with
 | none=>rw[hw]at h;cases h
 | some m=>exact KI hw
theorem X1 (h:Hd):∃ c t,ZP h=c::t:=by
 unfold ZP
 split
 ·exact⟨_,_,rfl⟩
 ·exact⟨_,_,rfl⟩
theorem WQ {l:List It}{i:Nat}{y:It}(hy:l[i]?=some y):ZO (l.take (i+1))=ZO (l.take i)++ZI y:=by
 rw[List.take_add_one,hy,QK]
 simp[ZO]
theorem Vl (l:List It)(i:Nat):(ZO (l.take i)).length<=(ZO l).length:=by
 have h:=congrArg List.length (QK (l.take i) (l.drop i))
 rw[List.take_append_drop,List.length_append]at h
 omega
theorem Na [Known]:∀(x:It),wfI x->okx x->∀(L:List E) (c:Nat),c=L.length->Uni 1 L->L.length+(ZI x).length<=1099511627776->AT Tryz.prog 114 [.sl (.own 0) L,itD x] [] [⟨c,1,5⟩] (.sl (.own 0) (L++(ZI x).map E.byte)) [] [⟨c+(ZI x).length,1,5⟩]:=by
 refine It.ind fun k n b l ih hw ho L c hc hUL hlim=>?_
 subst hc
 obtain⟨hn,hb,hl,hws⟩:=hw
 obtain⟨hk7,hos⟩:=ho
 have hlen:=Zw l
 have hr:Z0 (k,(It.mk k n b l).hn,false)=true:=by simp[Z0];exact hk7
 have hhn:(It.mk k n b l).hn<18446744073709551616:=by simp only[It.hn];(repeat' split)<;>omega
 have hput:ZI (.mk k n b l)=ZP (k,(It.mk k n b l).hn,false)++(b++ZO l):=by rw[ZI,if_pos hr]
 rw[hput]at hlim ⊢
 have hW:=GJ (k,(It.mk k n b l).hn,false) hhn
 rw[if_pos hr,if_pos hr]at hW
 obtain⟨c0,t0,hcw⟩:=X1 (k,(It.mk k n b l).hn,false)
 rw[hcw]at hW hlim ⊢
 have hU0:=Yr (c0::t0)
 have hU1:=Yr b
 have hU01:Uni 1 (L++(c0::t0).map E.byte):=hUL.append hU0
 have eb:IntKind.u64.wrap (((b.map E.byte).length:Nat):Int)=((b.length:Nat):Int):=by rw[List.length_map,IntKind.wrap_u64];omega
 have el:IntKind.u64.wrap (((Zv l).length:Nat):Int)=((l.length:Nat):Int):=by rw[hlen,IntKind.wrap_u64];omega
 have hS:∀(i:Nat),IntKind.i64.wrap ((i:Int)+1)=((i+1:Nat):Int)\/2199023255488<i:=fun i=>by
  rcases Nat.lt_or_ge 2199023255488 i with h|h
  ·exact .inr h
  ·left;rw[IntWalk.i64_in _ (by omega)];omega
 have hkc:(k=2/\(It.mk k n b l).hn=b.length)\/(k=3/\(It.mk k n b l).hn=b.length)\/(k=4/\(It.mk k n b l).hn=l.length)\/(k ≠ 2/\k ≠ 3/\k ≠ 4/\(It.mk k n b l).hn=n):=by
  by_cases h2:k=2
  ·subst h2;exact .inl ⟨rfl,rfl⟩
  by_cases h3:k=3
  ·subst h3;exact .inr (.inl ⟨rfl,rfl⟩)
  by_cases h4:k=4
  ·subst h4;exact .inr (.inr (.inl ⟨rfl,rfl⟩))
  ·exact .inr (.inr (.inr ⟨h2,h3,h4,by simp[It.hn,h2,h3,h4]⟩))
 clear hhn hr hcw hput
 generalize (It.mk k n b l).hn=hn0 at hkc hW
 have hbc:b=[]\/∃ c1 b1,b=c1::b1:=by cases b<;>simp
 have hne2:k ≠ 2->(k==2)=false:=fun h=>by simpa using h
 have hne3:k ≠ 3->(k==3)=false:=fun h=>by simpa using h
 have hne4:k ≠ 4->(k==4)=false:=fun h=>by simpa using h
 have hq:((k==2)=true/\hn0=b.length)\/((k==2)=false/\(k==3)=true/\hn0=b.length)\/((k==2)=false/\(k==3)=false/\(k==4)=true/\hn0=l.length)\/((k==2)=false/\(k==3)=false/\(k==4)=false/\hn0=n):=by
  rcases hkc with⟨e,h⟩ | ⟨e,h⟩ | ⟨e,h⟩ | ⟨k2,k3,k4,h⟩
  ·exact .inl ⟨by rw[e];rfl,h⟩
  ·exact .inr (.inl ⟨by rw[e];rfl,by rw[e];rfl,h⟩)
  ·exact .inr (.inr (.inl ⟨by rw[e];rfl,by rw[e];rfl,by rw[e];rfl,h⟩))
  ·exact .inr (.inr (.inr ⟨hne2 k2,hne3 k3,hne4 k4,h⟩))
 clear hkc
 rcases hbc with rfl|⟨c1,b1,rfl⟩
 ·rcases hq with⟨q2,hh⟩ | ⟨q2,q3,hh⟩ | ⟨q2,q3,q4,hh⟩ | ⟨q2,q3,q4,hh⟩
  all_goals
   rw[hh]at hW
   clear hh
   refine Zl Tryz.func114 rfl Tryz.ntmps114 rfl rfl ?_
   repeat'(first|rw[eb]|rw[el]|(apply Zb (hW);kernel_rfl;(iterate 4 exact U))|(apply Zi Za;exact U)|(apply Zg Za;exact U)|(apply Zp Za;exact U)|refine Zd U Qt ?_|refine Zf U Qt ?_|refine Zn Za U U U U ?_|(apply Zo 5 ZB;decide +kernel;kernel_rfl;kernel_rfl;kernel_rfl;exact U;exact U)|(apply Zs;(iterate 4 exact U))|exact AE.nil _ _ _ _|(apply Zx;exact U)|(apply Z1;exact U)|(apply Zz;exact U;exact U;decide +kernel;exact U)|(apply ZA;exact U)|(apply Ym;exact U)|exact AO.nil _ _ _|(apply Zr;(decide +kernel))|(apply ZU;(iterate 3 exact U))|exact AOs.nil|exact ZF rfl rfl|exact YK rfl rfl|refine ZX Za U U U U U U ?_|(apply ZR Za;(iterate 6 exact U);(first|with_reducible assumption|decide +kernel|exact U|rotate_left);exact U;exact U;(first|exact Zk rfl|with_reducible assumption|decide +kernel|rotate_left);(first|exact Zk rfl|with_reducible assumption|decide +kernel|rotate_left);(first|exact Qt|rotate_left);(first|exact Qt|rotate_left);(first|exact Qt|rotate_left);exact U;exact U))
   all_goals first|(first|rfl|(simp only[List.length_append,List.length_cons,List.length_nil,List.length_map,Zw];done)|(simp only[List.length_append,List.length_cons,List.length_nil,List.length_map,Zw]at *;(try unfold maxLen);(try simp only[Nat.add_mul]);omega))|skip
   refine ZJ (fun f tm bx fr=>∃(i c:Nat) (M:List E),f+i=l.length/\c=M.length/\M=L++((c0::t0)++(([]:List UInt8)++ZO (l.take i))).map E.byte/\tm=[(0,.sl (.own 0) M),(3,.ptr 0 0),(42,.sl .ext (Zv l)),(43,.int .i64 ((Zv l).length:Int)),(44,.int .i64 (i:Int))]/\bx=[itC k n ([]:List UInt8) l]/\fr=[⟨c,1,5⟩]) (l.length+1) (Lands.mk' (m:=l.length) (Nat.lt_succ_self _) ⟨0,L.length+((c0::t0).map E.byte).length,L++(c0::t0).map E.byte,rfl,by simp only[List.length_append],by simp[ZO],rfl,rfl,rfl⟩ ?_ rfl rfl rfl rfl rfl rfl) ?_
   ·exact .cons rfl (.cons rfl (.cons rfl (.cons rfl (.cons rfl .nil))))
   rintro f tm bx fr ⟨i,c,M,hf,hc,hM,rfl,rfl,rfl⟩
   subst hc
   have hU:=YE l
   have hUM:Uni 1 M:=by rw[hM];exact hUL.append (Yr _)
   have hMl:M.length=L.length+((c0::t0)++(([]:List UInt8)++ZO (l.take i))).length:=by rw[hM];simp only[List.length_append,List.length_map]
   rcases Nat.lt_or_ge i l.length with hlt|hge
   ·have hdl:decide ((i:Int)<((Zv l).length:Int))=true:=decide_eq_true (by omega)
    obtain⟨⟨k1,n1,b2,l1⟩,hy⟩:∃ y,l[i]?=some y:=⟨_,List.getElem?_eq_getElem hlt⟩
    have hv:(Zv l)[((i:Nat):Int).toNat]?=some (.agg [.int .i64 k1,.int .u64 (n1:Int),.sl (b2.map E.byte),.sl (Zv l1)]):=by
     rw[Int.toNat_natCast,Yl,List.getElem?_map,hy];rfl
    have hmem:=List.mem_of_getElem? hy
    have hps:=WQ hy
    have hpl:=Vl l (i+1)
    have hps2:=congrArg List.length hps
    rw[List.length_append]at hps2
    have hc:=ih _ hmem (Wh hws _ hmem) (QM hos _ hmem) M _ rfl hUM (by simp only[List.length_append]at hMl hlim;omega)
    have ei:IntKind.i64.wrap ((i:Int)+1)=((i+1:Nat):Int):=by rw[IntWalk.i64_in _ (by omega)];omega
    repeat'(first|rw[ei]|(apply Yq [] [0] (hc);kernel_rfl;(iterate 10 exact U))|(apply Zi Za;exact U)|(apply Zg Za;exact U)|refine Zd U Qt ?_|(apply Zu Za;(iterate 6 exact U);(first|exact Qt|rotate_left);(first|with_reducible assumption|decide +kernel|exact U);(first|exact Zk rfl|with_reducible assumption|decide +kernel|rotate_left)))
    refine Lands.mk' (m:=f-1) (by omega) ⟨i+1,M.length+(ZI (.mk k1 n1 b2 l1)).length,M++(ZI (.mk k1 n1 b2 l1)).map E.byte,by omega,by simp only[List.length_append,List.length_map],by rw[hM,hps];simp,rfl,rfl,rfl⟩ ?_ rfl rfl rfl rfl rfl rfl
    exact .cons rfl (.cons rfl (.cons rfl (.cons rfl (.cons rfl .nil))))
   ·have hdl:decide ((i:Int)<((Zv l).length:Int))=false:=decide_eq_false (by omega)
    rw[List.take_of_length_le hge]at hM hMl
    repeat'(first|(apply Zg Za;exact U)|refine Zf U Qt ?_)
    all_goals(apply Jz [] [0];(apply Zc Za;exact U);(iterate 7 exact U))
    ·rw[hM];rfl
    ·rfl
    ·rw[hMl];rfl
 ·rcases hq with⟨q2,hh⟩ | ⟨q2,q3,hh⟩ | ⟨q2,q3,q4,hh⟩ | ⟨q2,q3,q4,hh⟩
  all_goals
   rw[hh]at hW
   clear hh
   refine Zl Tryz.func114 rfl Tryz.ntmps114 rfl rfl ?_
   repeat'(first|rw[eb]|rw[el]|(apply Zb (hW);kernel_rfl;(iterate 4 exact U))|(apply Zi Za;exact U)|(apply Zg Za;exact U)|(apply Zp Za;exact U)|refine Zd U Qt ?_|refine Zf U Qt ?_|refine Zn Za U U U U ?_|(apply Zo 5 ZB;decide +kernel;kernel_rfl;kernel_rfl;kernel_rfl;exact U;exact U)|(apply Zs;(iterate 4 exact U))|exact AE.nil _ _ _ _|(apply Zx;exact U)|(apply Z1;exact U)|(apply Zz;exact U;exact U;decide +kernel;exact U)|(apply ZA;exact U)|(apply Ym;exact U)|exact AO.nil _ _ _|(apply Zr;(decide +kernel))|(apply ZU;(iterate 3 exact U))|exact AOs.nil|exact ZF rfl rfl|exact YK rfl rfl|(apply ZR Za;(iterate 6 exact U);(first|with_reducible assumption|decide +kernel|exact U|rotate_left);exact U;exact U;(first|exact Zk rfl|with_reducible assumption|decide +kernel|rotate_left);(first|exact Zk rfl|with_reducible assumption|decide +kernel|rotate_left);(first|exact Qt|rotate_left);(first|exact Qt|rotate_left);(first|exact Qt|rotate_left);exact U;exact U))
   all_goals first|(first|rfl|(simp only[List.length_append,List.length_cons,List.length_nil,List.length_map,Zw];done)|(simp only[List.length_append,List.length_cons,List.length_nil,List.length_map,Zw]at *;(try unfold maxLen);(try simp only[Nat.add_mul]);omega))|skip
   refine ZJ (fun f tm bx fr=>∃(i c:Nat) (M:List E),f+i=l.length/\c=M.length/\M=L++((c0::t0)++((c1::b1)++ZO (l.take i))).map E.byte/\tm=[(0,.sl (.own 0) M),(3,.ptr 0 0),(42,.sl .ext (Zv l)),(43,.int .i64 ((Zv l).length:Int)),(44,.int .i64 (i:Int))]/\bx=[itC k n (c1::b1) l]/\fr=[⟨c,1,5⟩]) (l.length+1) (Lands.mk' (m:=l.length) (Nat.lt_succ_self _) ⟨0,(L++(c0::t0).map E.byte).length+((c1::b1).map E.byte).length,(L++(c0::t0).map E.byte)++(c1::b1).map E.byte,rfl,by simp only[List.length_append],by simp[ZO],rfl,rfl,rfl⟩ ?_ rfl rfl rfl rfl rfl rfl) ?_
   ·exact .cons rfl (.cons rfl (.cons rfl (.cons rfl (.cons rfl .nil))))
   rintro f tm bx fr ⟨i,c,M,hf,hc,hM,rfl,rfl,rfl⟩
   subst hc
   have hU:=YE l
   have hUM:Uni 1 M:=by rw[hM];exact hUL.append (Yr _)
   have hMl:M.length=L.length+((c0::t0)++((c1::b1)++ZO (l.take i))).length:=by rw[hM];simp only[List.length_append,List.length_map]
   rcases Nat.lt_or_ge i l.length with hlt|hge
   ·have hdl:decide ((i:Int)<((Zv l).length:Int))=true:=decide_eq_true (by omega)
    obtain⟨⟨k1,n1,b2,l1⟩,hy⟩:∃ y,l[i]?=some y:=⟨_,List.getElem?_eq_getElem hlt⟩
    have hv:(Zv l)[((i:Nat):Int).toNat]?=some (.agg [.int .i64 k1,.int .u64 (n1:Int),.sl (b2.map E.byte),.sl (Zv l1)]):=by
     rw[Int.toNat_natCast,Yl,List.getElem?_map,hy];rfl
    have hmem:=List.mem_of_getElem? hy
    have hps:=WQ hy
    have hpl:=Vl l (i+1)
    have hps2:=congrArg List.length hps
    rw[List.length_append]at hps2
    have hc:=ih _ hmem (Wh hws _ hmem) (QM hos _ hmem) M _ rfl hUM (by simp only[List.length_append]at hMl hlim;omega)
    have ei:IntKind.i64.wrap ((i:Int)+1)=((i+1:Nat):Int):=by rw[IntWalk.i64_in _ (by omega)];omega
    repeat'(first|rw[ei]|(apply Yq [] [0] (hc);kernel_rfl;(iterate 10 exact U))|(apply Zi Za;exact U)|(apply Zg Za;exact U)|refine Zd U Qt ?_|(apply Zu Za;(iterate 6 exact U);(first|exact Qt|rotate_left);(first|with_reducible assumption|decide +kernel|exact U);(first|exact Zk rfl|with_reducible assumption|decide +kernel|rotate_left)))
    refine Lands.mk' (m:=f-1) (by omega) ⟨i+1,M.length+(ZI (.mk k1 n1 b2 l1)).length,M++(ZI (.mk k1 n1 b2 l1)).map E.byte,by omega,by simp only[List.length_append,List.length_map],by rw[hM,hps];simp,rfl,rfl,rfl⟩ ?_ rfl rfl rfl rfl rfl rfl
    exact .cons rfl (.cons rfl (.cons rfl (.cons rfl (.cons rfl .nil))))
   ·have hdl:decide ((i:Int)<((Zv l).length:Int))=false:=decide_eq_false (by omega)
    rw[List.take_of_length_le hge]at hM hMl
    repeat'(first|(apply Zg Za;exact U)|refine Zf U Qt ?_)
    all_goals(apply Jz [] [0];(apply Zc Za;exact U);(iterate 7 exact U))
    ·rw[hM];rfl
    ·rfl
    ·rw[hMl];rfl
theorem IK [Known](x:It)(hw:wfI x)(ho:okx x)(hlim:(ZI x).length<=1099511627776):AT Tryz.prog 114 [.sl .nil [],itD x] [] [] (.sl (.own 0) ((ZI x).map E.byte)) [] [⟨(ZI x).length,1,5⟩]:=by
 obtain⟨k,n,b,l⟩:=x
 obtain⟨hn,hb,hl,hws⟩:=hw
 obtain⟨hk7,hos⟩:=ho
 have hlen:=Zw l
 have hr:Z0 (k,(It.mk k n b l).hn,false)=true:=by simp[Z0];exact hk7
 have hhn:(It.mk k n b l).hn<18446744073709551616:=by simp only[It.hn];(repeat' split)<;>omega
 have hput:ZI (.mk k n b l)=ZP (k,(It.mk k n b l).hn,false)++(b++ZO l):=by rw[ZI,if_pos hr]
 rw[hput]at hlim ⊢
 have hW:=GJ (k,(It.mk k n b l).hn,false) hhn
 rw[if_pos hr,if_pos hr]at hW
 obtain⟨c0,t0,hcw⟩:=X1 (k,(It.mk k n b l).hn,false)
 rw[hcw]at hW hlim ⊢
 have hU0:=Yr (c0::t0)
 have hU1:=Yr b
 have eb:IntKind.u64.wrap (((b.map E.byte).length:Nat):Int)=((b.length:Nat):Int):=by rw[List.length_map,IntKind.wrap_u64];omega
 have el:IntKind.u64.wrap (((Zv l).length:Nat):Int)=((l.length:Nat):Int):=by rw[hlen,IntKind.wrap_u64];omega
 have hS:∀(i:Nat),IntKind.i64.wrap ((i:Int)+1)=((i+1:Nat):Int)\/2199023255488<i:=fun i=>by
  rcases Nat.lt_or_ge 2199023255488 i with h|h
  ·exact .inr h
  ·left;rw[IntWalk.i64_in _ (by omega)];omega
 have hkc:(k=2/\(It.mk k n b l).hn=b.length)\/(k=3/\(It.mk k n b l).hn=b.length)\/(k=4/\(It.mk k n b l).hn=l.length)\/(k ≠ 2/\k ≠ 3/\k ≠ 4/\(It.mk k n b l).hn=n):=by
  by_cases h2:k=2
  ·subst h2;exact .inl ⟨rfl,rfl⟩
  by_cases h3:k=3
  ·subst h3;exact .inr (.inl ⟨rfl,rfl⟩)
  by_cases h4:k=4
  ·subst h4;exact .inr (.inr (.inl ⟨rfl,rfl⟩))
  ·exact .inr (.inr (.inr ⟨h2,h3,h4,by simp[It.hn,h2,h3,h4]⟩))
 clear hhn hr hcw hput
 generalize (It.mk k n b l).hn=hn0 at hkc hW
 have hbc:b=[]\/∃ c1 b1,b=c1::b1:=by cases b<;>simp
 have hne2:k ≠ 2->(k==2)=false:=fun h=>by simpa using h
 have hne3:k ≠ 3->(k==3)=false:=fun h=>by simpa using h
 have hne4:k ≠ 4->(k==4)=false:=fun h=>by simpa using h
 have hq:((k==2)=true/\hn0=b.length)\/((k==2)=false/\(k==3)=true/\hn0=b.length)\/((k==2)=false/\(k==3)=false/\(k==4)=true/\hn0=l.length)\/((k==2)=false/\(k==3)=false/\(k==4)=false/\hn0=n):=by
  rcases hkc with⟨e,h⟩ | ⟨e,h⟩ | ⟨e,h⟩ | ⟨k2,k3,k4,h⟩
  ·exact .inl ⟨by rw[e];rfl,h⟩
  ·exact .inr (.inl ⟨by rw[e];rfl,by rw[e];rfl,h⟩)
  ·exact .inr (.inr (.inl ⟨by rw[e];rfl,by rw[e];rfl,by rw[e];rfl,h⟩))
  ·exact .inr (.inr (.inr ⟨hne2 k2,hne3 k3,hne4 k4,h⟩))
 clear hkc
 rcases hbc with rfl|⟨c1,b1,rfl⟩
 ·rcases hq with⟨q2,hh⟩ | ⟨q2,q3,hh⟩ | ⟨q2,q3,q4,hh⟩ | ⟨q2,q3,q4,hh⟩
  all_goals
   rw[hh]at hW
   clear hh
   refine Zl Tryz.func114 rfl Tryz.ntmps114 rfl rfl ?_
   repeat'(first|rw[eb]|rw[el]|(apply Zb (hW);kernel_rfl;(iterate 4 exact U))|(apply Zi Za;exact U)|(apply Zg Za;exact U)|(apply Zp Za;exact U)|refine Zd U Qt ?_|refine Zf U Qt ?_|refine Zn Za U U U U ?_|(apply Zo 5 ZB;decide +kernel;kernel_rfl;kernel_rfl;kernel_rfl;exact U;exact U)|(apply Zs;(iterate 4 exact U))|exact AE.nil _ _ _ _|(apply Zx;exact U)|(apply Z1;exact U)|(apply Zz;exact U;exact U;decide +kernel;exact U)|(apply ZA;exact U)|(apply Ym;exact U)|exact AO.nil _ _ _|(apply Zr;(decide +kernel))|(apply ZU;(iterate 3 exact U))|exact AOs.nil|exact ZF rfl rfl|exact YK rfl rfl|refine ZX Za U U U U U U ?_|(apply Ws Za;(iterate 6 exact U);(first|exact Zk rfl|with_reducible assumption|decide +kernel|rotate_left);(first|exact Qt|rotate_left);(first|exact Qt|rotate_left);(first|exact Qt|rotate_left);(iterate 3 exact U)))
   all_goals first|(first|rfl|(simp only[List.length_append,List.length_cons,List.length_nil,List.length_map,Zw];done)|(simp only[List.length_append,List.length_cons,List.length_nil,List.length_map,Zw]at *;(try unfold maxLen);(try simp only[Nat.add_mul]);omega))|skip
   refine ZJ (fun f tm bx fr=>∃(i c:Nat) (M:List E),f+i=l.length/\c=M.length/\M=((c0::t0)++(([]:List UInt8)++ZO (l.take i))).map E.byte/\tm=[(0,.sl (.own 0) M),(3,.ptr 0 0),(42,.sl .ext (Zv l)),(43,.int .i64 ((Zv l).length:Int)),(44,.int .i64 (i:Int))]/\bx=[itC k n ([]:List UInt8) l]/\fr=[⟨c,1,5⟩]) (l.length+1) (Lands.mk' (m:=l.length) (Nat.lt_succ_self _) ⟨0,((c0::t0).map E.byte).length,(c0::t0).map E.byte,rfl,by simp only[List.length_append],by simp[ZO],rfl,rfl,rfl⟩ ?_ rfl rfl rfl rfl rfl rfl) ?_
   ·exact .cons rfl (.cons rfl (.cons rfl (.cons rfl (.cons rfl .nil))))
   rintro f tm bx fr ⟨i,c,M,hf,hc,hM,rfl,rfl,rfl⟩
   subst hc
   have hU:=YE l
   have hUM:Uni 1 M:=by rw[hM];exact Yr _
   have hMl:M.length=((c0::t0)++(([]:List UInt8)++ZO (l.take i))).length:=by rw[hM];simp only[List.length_append,List.length_map]
   rcases Nat.lt_or_ge i l.length with hlt|hge
   ·have hdl:decide ((i:Int)<((Zv l).length:Int))=true:=decide_eq_true (by omega)
    obtain⟨⟨k1,n1,b2,l1⟩,hy⟩:∃ y,l[i]?=some y:=⟨_,List.getElem?_eq_getElem hlt⟩
    have hv:(Zv l)[((i:Nat):Int).toNat]?=some (.agg [.int .i64 k1,.int .u64 (n1:Int),.sl (b2.map E.byte),.sl (Zv l1)]):=by
     rw[Int.toNat_natCast,Yl,List.getElem?_map,hy];rfl
    have hmem:=List.mem_of_getElem? hy
    have hps:=WQ hy
    have hpl:=Vl l (i+1)
    have hps2:=congrArg List.length hps
    rw[List.length_append]at hps2
    have hc:=Na _ (Wh hws _ hmem) (QM hos _ hmem) M _ rfl hUM (by simp only[List.length_append]at hMl hlim;omega)
    have ei:IntKind.i64.wrap ((i:Int)+1)=((i+1:Nat):Int):=by rw[IntWalk.i64_in _ (by omega)];omega
    repeat'(first|rw[ei]|(apply Yq [] [0] (hc);kernel_rfl;(iterate 10 exact U))|(apply Zi Za;exact U)|(apply Zg Za;exact U)|refine Zd U Qt ?_|(apply Zu Za;(iterate 6 exact U);(first|exact Qt|rotate_left);(first|with_reducible assumption|decide +kernel|exact U);(first|exact Zk rfl|with_reducible assumption|decide +kernel|rotate_left)))
    refine Lands.mk' (m:=f-1) (by omega) ⟨i+1,M.length+(ZI (.mk k1 n1 b2 l1)).length,M++(ZI (.mk k1 n1 b2 l1)).map E.byte,by omega,by simp only[List.length_append,List.length_map],by rw[hM,hps];simp,rfl,rfl,rfl⟩ ?_ rfl rfl rfl rfl rfl rfl
    exact .cons rfl (.cons rfl (.cons rfl (.cons rfl (.cons rfl .nil))))
   ·have hdl:decide ((i:Int)<((Zv l).length:Int))=false:=decide_eq_false (by omega)
    rw[List.take_of_length_le hge]at hM hMl
    repeat'(first|(apply Zg Za;exact U)|refine Zf U Qt ?_)
    all_goals(apply Jz [] [0];(apply Zc Za;exact U);(iterate 7 exact U))
    ·rw[hM];rfl
    ·rfl
    ·rw[hMl];rfl
 ·rcases hq with⟨q2,hh⟩ | ⟨q2,q3,hh⟩ | ⟨q2,q3,q4,hh⟩ | ⟨q2,q3,q4,hh⟩
  all_goals
   rw[hh]at hW
   clear hh
   refine Zl Tryz.func114 rfl Tryz.ntmps114 rfl rfl ?_
   repeat'(first|rw[eb]|rw[el]|(apply Zb (hW);kernel_rfl;(iterate 4 exact U))|(apply Zi Za;exact U)|(apply Zg Za;exact U)|(apply Zp Za;exact U)|refine Zd U Qt ?_|refine Zf U Qt ?_|refine Zn Za U U U U ?_|(apply Zo 5 ZB;decide +kernel;kernel_rfl;kernel_rfl;kernel_rfl;exact U;exact U)|(apply Zs;(iterate 4 exact U))|exact AE.nil _ _ _ _|(apply Zx;exact U)|(apply Z1;exact U)|(apply Zz;exact U;exact U;decide +kernel;exact U)|(apply ZA;exact U)|(apply Ym;exact U)|exact AO.nil _ _ _|(apply Zr;(decide +kernel))|(apply ZU;(iterate 3 exact U))|exact AOs.nil|exact ZF rfl rfl|exact YK rfl rfl|(apply ZR Za;(iterate 6 exact U);(first|with_reducible assumption|decide +kernel|exact U|rotate_left);exact U;exact U;(first|exact Zk rfl|with_reducible assumption|decide +kernel|rotate_left);(first|exact Zk rfl|with_reducible assumption|decide +kernel|rotate_left);(first|exact Qt|rotate_left);(first|exact Qt|rotate_left);(first|exact Qt|rotate_left);exact U;exact U)|(apply Ws Za;(iterate 6 exact U);(first|exact Zk rfl|with_reducible assumption|decide +kernel|rotate_left);(first|exact Qt|rotate_left);(first|exact Qt|rotate_left);(first|exact Qt|rotate_left);(iterate 3 exact U)))
   all_goals first|(first|rfl|(simp only[List.length_append,List.length_cons,List.length_nil,List.length_map,Zw];done)|(simp only[List.length_append,List.length_cons,List.length_nil,List.length_map,Zw]at *;(try unfold maxLen);(try simp only[Nat.add_mul]);omega))|skip
   refine ZJ (fun f tm bx fr=>∃(i c:Nat) (M:List E),f+i=l.length/\c=M.length/\M=((c0::t0)++((c1::b1)++ZO (l.take i))).map E.byte/\tm=[(0,.sl (.own 0) M),(3,.ptr 0 0),(42,.sl .ext (Zv l)),(43,.int .i64 ((Zv l).length:Int)),(44,.int .i64 (i:Int))]/\bx=[itC k n (c1::b1) l]/\fr=[⟨c,1,5⟩]) (l.length+1) (Lands.mk' (m:=l.length) (Nat.lt_succ_self _) ⟨0,((c0::t0).map E.byte).length+((c1::b1).map E.byte).length,((c0::t0).map E.byte)++(c1::b1).map E.byte,rfl,by simp only[List.length_append],by simp[ZO],rfl,rfl,rfl⟩ ?_ rfl rfl rfl rfl rfl rfl) ?_
   ·exact .cons rfl (.cons rfl (.cons rfl (.cons rfl (.cons rfl .nil))))
   rintro f tm bx fr ⟨i,c,M,hf,hc,hM,rfl,rfl,rfl⟩
   subst hc
   have hU:=YE l
   have hUM:Uni 1 M:=by rw[hM];exact Yr _
   have hMl:M.length=((c0::t0)++((c1::b1)++ZO (l.take i))).length:=by rw[hM];simp only[List.length_append,List.length_map]
   rcases Nat.lt_or_ge i l.length with hlt|hge
   ·have hdl:decide ((i:Int)<((Zv l).length:Int))=true:=decide_eq_true (by omega)
    obtain⟨⟨k1,n1,b2,l1⟩,hy⟩:∃ y,l[i]?=some y:=⟨_,List.getElem?_eq_getElem hlt⟩
    have hv:(Zv l)[((i:Nat):Int).toNat]?=some (.agg [.int .i64 k1,.int .u64 (n1:Int),.sl (b2.map E.byte),.sl (Zv l1)]):=by
     rw[Int.toNat_natCast,Yl,List.getElem?_map,hy];rfl
    have hmem:=List.mem_of_getElem? hy
    have hps:=WQ hy
    have hpl:=Vl l (i+1)
    have hps2:=congrArg List.length hps
    rw[List.length_append]at hps2
    have hc:=Na _ (Wh hws _ hmem) (QM hos _ hmem) M _ rfl hUM (by simp only[List.length_append]at hMl hlim;omega)
    have ei:IntKind.i64.wrap ((i:Int)+1)=((i+1:Nat):Int):=by rw[IntWalk.i64_in _ (by omega)];omega
    repeat'(first|rw[ei]|(apply Yq [] [0] (hc);kernel_rfl;(iterate 10 exact U))|(apply Zi Za;exact U)|(apply Zg Za;exact U)|refine Zd U Qt ?_|(apply Zu Za;(iterate 6 exact U);(first|exact Qt|rotate_left);(first|with_reducible assumption|decide +kernel|exact U);(first|exact Zk rfl|with_reducible assumption|decide +kernel|rotate_left)))
    refine Lands.mk' (m:=f-1) (by omega) ⟨i+1,M.length+(ZI (.mk k1 n1 b2 l1)).length,M++(ZI (.mk k1 n1 b2 l1)).map E.byte,by omega,by simp only[List.length_append,List.length_map],by rw[hM,hps];simp,rfl,rfl,rfl⟩ ?_ rfl rfl rfl rfl rfl rfl
    exact .cons rfl (.cons rfl (.cons rfl (.cons rfl (.cons rfl .nil))))
   ·have hdl:decide ((i:Int)<((Zv l).length:Int))=false:=decide_eq_false (by omega)
    rw[List.take_of_length_le hge]at hM hMl
    repeat'(first|(apply Zg Za;exact U)|refine Zf U Qt ?_)
    all_goals(apply Jz [] [0];(apply Zc Za;exact U);(iterate 7 exact U))
    ·rw[hM];rfl
    ·rfl
    ·rw[hMl];rfl
theorem OV [Known][KnownU8](x:It)(hw:wfI x)(hlim:(ZI x).length<=1099511627776)(hR:AP Tryz.prog 113 [itD x] (.bool (ZC x)) []):AP Tryz.prog 63 [itD x] (.tup [byE (if ZC x then ZI x else []),.int .i64 (if ZC x then 0 else 3)]) []:=by
 cases hr:ZC x with
 | false=>
  rw[hr]at hR
  obtain⟨k,n,b,l⟩:=x
  refine AP.ofA (Zl Tryz.func63 U Tryz.ntmps63 U U ?_)
  repeat'(first|(apply Zb (hR);kernel_rfl;(iterate 4 exact U))|(apply Zi Za;exact U)|(apply Zg Za;exact U)|(apply Zp Za;exact U)|refine Zd U Qt ?_)
  all_goals exact Qe
 | true=>
  rw[hr]at hR
  have hp:=IK x hw (OU hr) hlim
  obtain⟨k,n,b,l⟩:=x
  refine AP.ofA (Zl Tryz.func63 U Tryz.ntmps63 U U ?_)
  repeat'(first|(apply Zb (hR);kernel_rfl;(iterate 4 exact U))|(apply Yq [] [] (hp);kernel_rfl;(iterate 10 exact U))|(apply Zi Za;exact U)|(apply Zg Za;exact U)|(apply Zp Za;exact U)|refine Zf U Qt ?_)
  all_goals exact Qe
end Go.Proofs.YtmljabhmajehnaaGreatDoor
end
section
open Go.RowKit Go.Pl Go.Av
namespace Go.Proofs.YtmljabhmajehnaaGreatDoor
set_option maxHeartbeats 4000000
def ZV (s:Nat)(l:List It):It:=.mk 4 0 [] (l++[.mk 2 0 (List.replicate (2*s) 0) []])
abbrev shU (k:IntKind)(z:Int)(q:Int):Int:=IntKind.u8.wrap (z.fdiv (2 ^ (min q.toNat k.bits)))
def Sb (s:Nat)(b:List UInt8):List E:=
 if s=1 then [.int .u8 (shU .u16 (Qg b) 8),.int .u8 (IntKind.u8.wrap (Qg b))]
 else [.int .u8 (shU .u32 (UJ b) 24),.int .u8 (shU .u32 (UJ b) 16),.int .u8 (shU .u32 (UJ b) 8),.int .u8 (IntKind.u8.wrap (UJ b))]
def by8 (z:Int):UInt8:=UInt8.ofNat (IntKind.u8.wrap z).toNat
theorem Dk (z:Int):E.byte (by8 z)=.int .u8 (IntKind.u8.wrap z):=by
 have h:0<=IntKind.u8.wrap z/\IntKind.u8.wrap z<256:=by
  rw[IntKind.wrap_u8];omega
 show E.int .u8 ((by8 z).toNat:Int)=_
 have e:((by8 z).toNat:Int)=IntKind.u8.wrap z:=by
  unfold by8
  rw[UInt8.toNat_ofNat']
  omega
 rw[e]
def Uw (s:Nat)(b:List UInt8):List UInt8:=
 if s=1 then [by8 ((Qg b).fdiv (2 ^ (min (8:Int).toNat IntKind.u16.bits))),by8 (Qg b)]
 else [by8 ((UJ b).fdiv (2 ^ (min (24:Int).toNat IntKind.u32.bits))),by8 ((UJ b).fdiv (2 ^ (min (16:Int).toNat IntKind.u32.bits))),by8 ((UJ b).fdiv (2 ^ (min (8:Int).toNat IntKind.u32.bits))),by8 (UJ b)]
theorem H7 (s:Nat)(b:List UInt8):(Uw s b).map E.byte=Sb s b:=by
 unfold Uw Sb
 split<;>simp only[List.map_cons,List.map_nil,Dk]
theorem KJ (s:Nat)(b:List UInt8)(hs:s=1\/s=2):(Uw s b).length=2*s:=by
 unfold Uw
 rcases hs with rfl|rfl<;>rfl
theorem Km:∀ {l r:List It},wfs l->wfs r->wfs (l++r)
 | [],r,_,h=>h
 | x::l,r,h1,h2=>⟨h1.1,Km h1.2 h2⟩
theorem Nb {s:Nat}{l:List It}(hs:s=1\/s=2)(hws:wfs l)(hl:l.length<=1000000):wfI (ZV s l):=by
 refine⟨by decide,by simp,by simp;omega,Km hws ⟨⟨by decide,?_,by simp,trivial⟩,trivial⟩⟩
 rcases hs with rfl|rfl<;>decide
theorem H8 [Known](s:Nat)(hs:s=1\/s=2):AP Tryz.prog 145 [.int .i64 (s:Int)] (.int .i64 ((2*s:Nat):Int)) []:=by
 rcases hs with rfl|rfl
 all_goals
  refine AP.ofA (Zl Tryz.func145 U Tryz.ntmps145 U U ?_)
  repeat'(first|(apply Zg Za;exact U))
  all_goals exact Qe
theorem Lv [Known][KnownU8](l:List It)(s:Nat)(hs:s=1\/s=2)(hne:l ≠ [])(hws:wfs l)(hl:l.length<=1000000)(hlim:(ZI (ZV s l)).length<=1000000000) :
  AP Tryz.prog 146 [.sl .ext (Zv l),.int .i64 (s:Int)] (match ZC (ZV s l) with|true=>.tup [byE (Uw s (ZI (ZV s l))),.int .i64 0]|false=>.tup [.sl .ext [],.int .i64 3]) []:=by
 have hwz:=Nb hs hws hl
 have hC:=NX l hne hl
 have hW:=OV (ZV s l) hwz (by omega) (WU _ hwz)
 have hU:=YE l
 have hlen:=Zw l
 have hmx:(Zv l).length<=1000000:=by omega
 have hZ:=H8 s hs
 have hB:=KC (List.replicate (2*s) 0) (by rcases hs with rfl|rfl<;>decide)
 have hL:=VG (l++[.mk 2 0 (List.replicate (2*s) 0) []]) (by simp;omega) hwz.2.2.2
 have hSh:=Ls (ZI (ZV s l)) hlim
 have hLo:=R6 (ZI (ZV s l)) hlim
 rw[WP]at hL
 have eZ:itD (.mk 4 0 [] (l++[.mk 2 0 (List.replicate (2*s) 0) []]))=itD (ZV s l):=rfl
 rw[eZ]at hL
 unfold byE
 rw[H7]
 rw[<- hlen]at hC
 cases hr:ZC (ZV s l) with
 | false=>
  rw[hr]at hW
  replace hW:AP Tryz.prog 63 [itD (ZV s l)] (.tup [.sl .ext [],.int .i64 3]) []:=hW
  have eL:itD (ZV s l)=.agg [.int .i64 4,.int .u64 0,.sl .ext [],.sl .ext (Zv (l++[.mk 2 0 (List.replicate (2*s) 0) []]))]:=rfl
  rw[eL]at hL hW
  generalize Zv (l++[.mk 2 0 (List.replicate (2*s) 0) []])=ZL at *
  clear hSh hLo hlim hwz eZ eL
  rcases hs with rfl|rfl
  all_goals
   refine AP.ofA (Zl Tryz.func146 U Tryz.ntmps146 U U ?_)
   repeat'(first|(apply Yq [] [] (hC);kernel_rfl;(iterate 10 exact U))|(apply Zb (hZ);kernel_rfl;(iterate 4 exact U))|(apply VL Za (l:=2);(iterate 12 exact U))|(apply VL Za (l:=4);(iterate 12 exact U))|(apply Zb (hB);kernel_rfl;(iterate 4 exact U))|(apply Zb (hL);kernel_rfl;(iterate 4 exact U))|(apply Zb (hW);kernel_rfl;(iterate 4 exact U))|(apply Zi Za;exact U)|(apply Zg Za;exact U)|(apply Zp Za;exact U)|refine Zd U Qt ?_|refine ZM Za U U U U U U U U U U U U ?_|(apply ZR Za;(iterate 6 exact U);(first|with_reducible assumption|decide +kernel|exact U|rotate_left);exact U;exact U;(first|exact Zk rfl|with_reducible assumption|decide +kernel|rotate_left);(first|exact Zk rfl|with_reducible assumption|decide +kernel|rotate_left);(first|exact Qt|rotate_left);(first|exact Qt|rotate_left);(first|exact Qt|rotate_left);exact U;exact U))
   all_goals first|((apply Zq [];(apply Zc Za;exact U);(iterate 4 exact U)))|skip
   all_goals first|rfl|(first|rfl|(simp only[List.length_append,List.length_cons,List.length_nil,List.length_map,Zw];done)|(simp only[List.length_append,List.length_cons,List.length_nil,List.length_map,Zw]at *;(try unfold maxLen);(try simp only[Nat.add_mul]);omega))|(simp;done)|(simp;omega)|(simp;unfold maxLen;omega)
 | true=>
  rw[hr]at hW
  replace hW:AP Tryz.prog 63 [itD (ZV s l)] (.tup [byE (ZI (ZV s l)),.int .i64 0]) []:=hW
  have eL:itD (ZV s l)=.agg [.int .i64 4,.int .u64 0,.sl .ext [],.sl .ext (Zv (l++[.mk 2 0 (List.replicate (2*s) 0) []]))]:=rfl
  rw[eL]at hL hW
  generalize Zv (l++[.mk 2 0 (List.replicate (2*s) 0) []])=ZL at *
  generalize ZI (ZV s l)=PZ at *
  clear hlim hwz eZ eL hr
  rcases hs with rfl|rfl
  all_goals
   refine AP.ofA (Zl Tryz.func146 U Tryz.ntmps146 U U ?_)
   repeat'(first|(apply Yq [] [] (hC);kernel_rfl;(iterate 10 exact U))|(apply Zb (hZ);kernel_rfl;(iterate 4 exact U))|(apply VL Za (l:=2);(iterate 12 exact U))|(apply VL Za (l:=4);(iterate 12 exact U))|(apply Zb (hB);kernel_rfl;(iterate 4 exact U))|(apply Zb (hL);kernel_rfl;(iterate 4 exact U))|(apply Zb (hW);kernel_rfl;(iterate 4 exact U))|(apply Zb (hSh);kernel_rfl;(iterate 4 exact U))|(apply Zb (hLo);kernel_rfl;(iterate 4 exact U))|(apply Zi Za;exact U)|(apply Zg Za;exact U)|refine Zd U Qt ?_|refine Zf U Qt ?_|refine ZM Za U U U U U U U U U U U U ?_|(apply ZR Za;(iterate 6 exact U);(first|with_reducible assumption|decide +kernel|exact U|rotate_left);exact U;exact U;(first|exact Zk rfl|with_reducible assumption|decide +kernel|rotate_left);(first|exact Zk rfl|with_reducible assumption|decide +kernel|rotate_left);(first|exact Qt|rotate_left);(first|exact Qt|rotate_left);(first|exact Qt|rotate_left);exact U;exact U)|(apply YQ;exact U;exact U;(first|exact Qt|rotate_left);exact U))
   all_goals first|((apply Zq [];(apply Zc Za;exact U);(iterate 4 exact U)))|skip
   all_goals first|rfl|(first|rfl|(simp only[List.length_append,List.length_cons,List.length_nil,List.length_map,Zw];done)|(simp only[List.length_append,List.length_cons,List.length_nil,List.length_map,Zw]at *;(try unfold maxLen);(try simp only[Nat.add_mul]);omega))|(simp;done)|(simp;omega)|(simp;unfold maxLen;omega)
end Go.Proofs.YtmljabhmajehnaaGreatDoor
end

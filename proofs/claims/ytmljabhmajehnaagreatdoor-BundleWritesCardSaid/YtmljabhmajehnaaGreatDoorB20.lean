/- Items: their bytes. -/
import Derived.Test.YtmljabhmajehnaaGreatDoorB13
import Derived.Test.YtmljabhmajehnaaGreatDoorB17
import Derived.Test.YtmljabhmajehnaaGreatDoorB19
import Derived.Test.YtmljabhmajehnaaGreatDoorB16
set_option linter.unusedVariables false
set_option linter.unusedSimpArgs false
section
open Go.RowKit Go.Pl Go.Av
namespace Go.Proofs.YtmljabhmajehnaaGreatDoor
set_option maxHeartbeats 4000000
mutual
def okx:It->Prop
 | .mk k _ _ l=>(0<=k/\k<=7)/\Sf l
def Sf:List It->Prop
 | []=>True
 | x::l=>okx x/\Sf l
end
theorem QJ:∀ {l:List It},Sf l->∀ y ∈ l,okx y
 | x::l,⟨h1,h2⟩,y,hy=>by
  rcases List.mem_cons.1 hy with rfl|hy
  ·exact h1
  ·exact QJ h2 y hy
mutual
theorem Kx:∀ {x:It} {d m m':Nat},Wf x d m=some m'->okx x
 | .mk k n b l,d,m,m',h=>by
  obtain⟨_,_,h3,h4⟩:=Vb h
  exact⟨QX h3,OK h4⟩
theorem OK:∀ {l:List It} {d m m':Nat},Yv l d m=some m'->Sf l
 | [],d,m,m',h=>trivial
 | x::l,d,m,m',h=>by
  obtain⟨m1,h1,h2⟩:=WM h
  exact⟨Kx h1,OK h2⟩
end
theorem OL {x:It}(h:ZB x=true):okx x:=by
 unfold ZB at h
 cases hw:Wf x 1 256 with
 | none=>rw[hw]at h;cases h
 | some m=>exact Kx hw
theorem XQ (h:Hd):∃ c t,ZQ h=c::t:=by
 unfold ZQ
 split
 ·exact⟨_,_,rfl⟩
 ·exact⟨_,_,rfl⟩
theorem WP {l:List It}{i:Nat}{y:It}(hy:l[i]?=some y):ZJ (l.take (i+1))=ZJ (l.take i)++ZM y:=by
 rw[List.take_add_one,hy,QH]
 simp[ZJ]
theorem WT (l:List It)(i:Nat):(ZJ (l.take i)).length<=(ZJ l).length:=by
 have h:=congrArg List.length (QH (l.take i) (l.drop i))
 rw[List.take_append_drop,List.length_append]at h
 omega
theorem T8 [Known]:∀(x:It),wfI x->okx x->∀(L:List E) (c:Nat),c=L.length->Uni 1 L->L.length+(ZM x).length<=1099511627776->AT Tryz.prog 114 [.sl (.own 0) L,itD x] [] [⟨c,1,5⟩] (.sl (.own 0) (L++(ZM x).map E.byte)) [] [⟨c+(ZM x).length,1,5⟩]:=by
 refine It.ind fun k n b l ih hw ho L c hc hUL hlim=>?_
 subst hc
 obtain⟨hn,hb,hl,hws⟩:=hw
 obtain⟨hk7,hos⟩:=ho
 have hlen:=Zw l
 have hr:Z0 (k,(It.mk k n b l).hn,false)=true:=by simp[Z0];exact hk7
 have hhn:(It.mk k n b l).hn<18446744073709551616:=by simp only[It.hn];(repeat' split)<;>omega
 have hput:ZM (.mk k n b l)=ZQ (k,(It.mk k n b l).hn,false)++(b++ZJ l):=by rw[ZM,if_pos hr]
 rw[hput]at hlim ⊢
 have hW:=GG (k,(It.mk k n b l).hn,false) hhn
 rw[if_pos hr,if_pos hr]at hW
 obtain⟨c0,t0,hcw⟩:=XQ (k,(It.mk k n b l).hn,false)
 rw[hcw]at hW hlim ⊢
 have hU0:=Ym (c0::t0)
 have hU1:=Ym b
 have hU01:Uni 1 (L++(c0::t0).map E.byte):=hUL.append hU0
 have eb:IntKind.u64.wrap (((b.map E.byte).length:Nat):Int)=((b.length:Nat):Int):=by rw[List.length_map,IntKind.wrap_u64];omega
 have el:IntKind.u64.wrap (((Zv l).length:Nat):Int)=((l.length:Nat):Int):=by rw[hlen,IntKind.wrap_u64];omega
 have hS:∀(i:Nat),IntKind.i64.wrap ((i:Int)+1)=((i+1:Nat):Int)\/2199023255488<i:=fun i=>by
  rcases Nat.lt_or_ge 2199023255488 i with h|h
  ·exact .inr h
  ·left;rw[IntWalk.i64_in _ (by omega)];omega
 have hkc:(k=2/\(It.mk k n b l).hn=b.length)\/(k=3/\(It.mk k n b l).hn=b.length)\/(k=4/\(It.mk k n b l).hn=l.length)\/(k ≠ 2/\k ≠ 3/\k ≠ 4/\(It.mk k n b l).hn=n):=by
  by_cases h2:k=2
  ·subst h2;exact .inl ⟨rfl,rfl⟩
  by_cases h3:k=3
  ·subst h3;exact .inr (.inl ⟨rfl,rfl⟩)
  by_cases h4:k=4
  ·subst h4;exact .inr (.inr (.inl ⟨rfl,rfl⟩))
  ·exact .inr (.inr (.inr ⟨h2,h3,h4,by simp[It.hn,h2,h3,h4]⟩))
 clear hhn hr hcw hput
 generalize (It.mk k n b l).hn=hn0 at hkc hW
 have hbc:b=[]\/∃ c1 b1,b=c1::b1:=by cases b<;>simp
 have hne2:k ≠ 2->(k==2)=false:=fun h=>by simpa using h
 have hne3:k ≠ 3->(k==3)=false:=fun h=>by simpa using h
 have hne4:k ≠ 4->(k==4)=false:=fun h=>by simpa using h
 have hq:((k==2)=true/\hn0=b.length)\/((k==2)=false/\(k==3)=true/\hn0=b.length)\/((k==2)=false/\(k==3)=false/\(k==4)=true/\hn0=l.length)\/((k==2)=false/\(k==3)=false/\(k==4)=false/\hn0=n):=by
  rcases hkc with⟨e,h⟩ | ⟨e,h⟩ | ⟨e,h⟩ | ⟨k2,k3,k4,h⟩
  ·exact .inl ⟨by rw[e];rfl,h⟩
  ·exact .inr (.inl ⟨by rw[e];rfl,by rw[e];rfl,h⟩)
  ·exact .inr (.inr (.inl ⟨by rw[e];rfl,by rw[e];rfl,by rw[e];rfl,h⟩))
  ·exact .inr (.inr (.inr ⟨hne2 k2,hne3 k3,hne4 k4,h⟩))
 clear hkc
 rcases hbc with rfl|⟨c1,b1,rfl⟩
 ·rcases hq with⟨q2,hh⟩ | ⟨q2,q3,hh⟩ | ⟨q2,q3,q4,hh⟩ | ⟨q2,q3,q4,hh⟩
  all_goals
   rw[hh]at hW
   clear hh
   refine Zl Tryz.func114 rfl Tryz.ntmps114 rfl rfl ?_
   repeat'(first|rw[eb]|rw[el]|(apply Zb (hW);kernel_rfl;(iterate 4 exact U))|(apply Zh Za;exact U)|(apply Zg Za;exact U)|(apply Zo Za;exact U)|refine Zd U Qt ?_|refine Zf U Qt ?_|refine Zm Za U U U U ?_|(apply Zq 5 ZE;decide +kernel;kernel_rfl;kernel_rfl;kernel_rfl;exact U;exact U)|(apply Zt;(iterate 4 exact U))|exact AE.nil _ _ _ _|(apply Zx;exact U)|(apply YD;exact U)|(apply Zz;exact U;exact U;decide +kernel;exact U)|(apply ZA;exact U)|(apply Y4;exact U)|exact AO.nil _ _ _|(apply Zs;(decide +kernel))|(apply Yj;(iterate 3 exact U))|exact AOs.nil|exact ZF rfl rfl|exact WL rfl rfl|refine ZY Za U U U U U U ?_|(apply ZS Za;(iterate 6 exact U);(first|with_reducible assumption|decide +kernel|exact U|rotate_left);exact U;exact U;(first|exact Zk rfl|with_reducible assumption|decide +kernel|rotate_left);(first|exact Zk rfl|with_reducible assumption|decide +kernel|rotate_left);(first|exact Qt|rotate_left);(first|exact Qt|rotate_left);(first|exact Qt|rotate_left);exact U;exact U))
   all_goals first|(first|rfl|(simp only[List.length_append,List.length_cons,List.length_nil,List.length_map,Zw];done)|(simp only[List.length_append,List.length_cons,List.length_nil,List.length_map,Zw]at *;(try unfold maxLen);(try simp only[Nat.add_mul]);omega))|skip
   refine ZI (fun f tm bx fr=>∃(i c:Nat) (M:List E),f+i=l.length/\c=M.length/\M=L++((c0::t0)++(([]:List UInt8)++ZJ (l.take i))).map E.byte/\tm=[(0,.sl (.own 0) M),(3,.ptr 0 0),(42,.sl .ext (Zv l)),(43,.int .i64 ((Zv l).length:Int)),(44,.int .i64 (i:Int))]/\bx=[itC k n ([]:List UInt8) l]/\fr=[⟨c,1,5⟩]) (l.length+1) (Lands.mk' (m:=l.length) (Nat.lt_succ_self _) ⟨0,L.length+((c0::t0).map E.byte).length,L++(c0::t0).map E.byte,rfl,by simp only[List.length_append],by simp[ZJ],rfl,rfl,rfl⟩ ?_ rfl rfl rfl rfl rfl rfl) ?_
   ·exact .cons rfl (.cons rfl (.cons rfl (.cons rfl (.cons rfl .nil))))
   rintro f tm bx fr ⟨i,c,M,hf,hc,hM,rfl,rfl,rfl⟩
   subst hc
   have hU:=YH l
   have hUM:Uni 1 M:=by rw[hM];exact hUL.append (Ym _)
   have hMl:M.length=L.length+((c0::t0)++(([]:List UInt8)++ZJ (l.take i))).length:=by rw[hM];simp only[List.length_append,List.length_map]
   rcases Nat.lt_or_ge i l.length with hlt|hge
   ·have hdl:decide ((i:Int)<((Zv l).length:Int))=true:=decide_eq_true (by omega)
    obtain⟨⟨k1,n1,b2,l1⟩,hy⟩:∃ y,l[i]?=some y:=⟨_,List.getElem?_eq_getElem hlt⟩
    have hv:(Zv l)[((i:Nat):Int).toNat]?=some (.agg [.int .i64 k1,.int .u64 (n1:Int),.sl (b2.map E.byte),.sl (Zv l1)]):=by
     rw[Int.toNat_natCast,Z8,List.getElem?_map,hy];rfl
    have hmem:=List.mem_of_getElem? hy
    have hps:=WP hy
    have hpl:=WT l (i+1)
    have hps2:=congrArg List.length hps
    rw[List.length_append]at hps2
    have hc:=ih _ hmem (Yt hws _ hmem) (QJ hos _ hmem) M _ rfl hUM (by simp only[List.length_append]at hMl hlim;omega)
    have ei:IntKind.i64.wrap ((i:Int)+1)=((i+1:Nat):Int):=by rw[IntWalk.i64_in _ (by omega)];omega
    repeat'(first|rw[ei]|(apply Yp [] [0] (hc);kernel_rfl;(iterate 10 exact U))|(apply Zh Za;exact U)|(apply Zg Za;exact U)|refine Zd U Qt ?_|(apply Zr Za;(iterate 6 exact U);(first|exact Qt|rotate_left);(first|with_reducible assumption|decide +kernel|exact U);(first|exact Zk rfl|with_reducible assumption|decide +kernel|rotate_left)))
    refine Lands.mk' (m:=f-1) (by omega) ⟨i+1,M.length+(ZM (.mk k1 n1 b2 l1)).length,M++(ZM (.mk k1 n1 b2 l1)).map E.byte,by omega,by simp only[List.length_append,List.length_map],by rw[hM,hps];simp,rfl,rfl,rfl⟩ ?_ rfl rfl rfl rfl rfl rfl
    exact .cons rfl (.cons rfl (.cons rfl (.cons rfl (.cons rfl .nil))))
   ·have hdl:decide ((i:Int)<((Zv l).length:Int))=false:=decide_eq_false (by omega)
    rw[List.take_of_length_le hge]at hM hMl
    repeat'(first|(apply Zg Za;exact U)|refine Zf U Qt ?_)
    all_goals(apply Js [] [0];(apply Zc Za;exact U);(iterate 7 exact U))
    ·rw[hM];rfl
    ·rfl
    ·rw[hMl];rfl
 ·rcases hq with⟨q2,hh⟩ | ⟨q2,q3,hh⟩ | ⟨q2,q3,q4,hh⟩ | ⟨q2,q3,q4,hh⟩
  all_goals
   rw[hh]at hW
   clear hh
   refine Zl Tryz.func114 rfl Tryz.ntmps114 rfl rfl ?_
   repeat'(first|rw[eb]|rw[el]|(apply Zb (hW);kernel_rfl;(iterate 4 exact U))|(apply Zh Za;exact U)|(apply Zg Za;exact U)|(apply Zo Za;exact U)|refine Zd U Qt ?_|refine Zf U Qt ?_|refine Zm Za U U U U ?_|(apply Zq 5 ZE;decide +kernel;kernel_rfl;kernel_rfl;kernel_rfl;exact U;exact U)|(apply Zt;(iterate 4 exact U))|exact AE.nil _ _ _ _|(apply Zx;exact U)|(apply YD;exact U)|(apply Zz;exact U;exact U;decide +kernel;exact U)|(apply ZA;exact U)|(apply Y4;exact U)|exact AO.nil _ _ _|(apply Zs;(decide +kernel))|(apply Yj;(iterate 3 exact U))|exact AOs.nil|exact ZF rfl rfl|exact WL rfl rfl|(apply ZS Za;(iterate 6 exact U);(first|with_reducible assumption|decide +kernel|exact U|rotate_left);exact U;exact U;(first|exact Zk rfl|with_reducible assumption|decide +kernel|rotate_left);(first|exact Zk rfl|with_reducible assumption|decide +kernel|rotate_left);(first|exact Qt|rotate_left);(first|exact Qt|rotate_left);(first|exact Qt|rotate_left);exact U;exact U))
   all_goals first|(first|rfl|(simp only[List.length_append,List.length_cons,List.length_nil,List.length_map,Zw];done)|(simp only[List.length_append,List.length_cons,List.length_nil,List.length_map,Zw]at *;(try unfold maxLen);(try simp only[Nat.add_mul]);omega))|skip
   refine ZI (fun f tm bx fr=>∃(i c:Nat) (M:List E),f+i=l.length/\c=M.length/\M=L++((c0::t0)++((c1::b1)++ZJ (l.take i))).map E.byte/\tm=[(0,.sl (.own 0) M),(3,.ptr 0 0),(42,.sl .ext (Zv l)),(43,.int .i64 ((Zv l).length:Int)),(44,.int .i64 (i:Int))]/\bx=[itC k n (c1::b1) l]/\fr=[⟨c,1,5⟩]) (l.length+1) (Lands.mk' (m:=l.length) (Nat.lt_succ_self _) ⟨0,(L++(c0::t0).map E.byte).length+((c1::b1).map E.byte).length,(L++(c0::t0).map E.byte)++(c1::b1).map E.byte,rfl,by simp only[List.length_append],by simp[ZJ],rfl,rfl,rfl⟩ ?_ rfl rfl rfl rfl rfl rfl) ?_
   ·exact .cons rfl (.cons rfl (.cons rfl (.cons rfl (.cons rfl .nil))))
   rintro f tm bx fr ⟨i,c,M,hf,hc,hM,rfl,rfl,rfl⟩
   subst hc
   have hU:=YH l
   have hUM:Uni 1 M:=by rw[hM];exact hUL.append (Ym _)
   have hMl:M.length=L.length+((c0::t0)++((c1::b1)++ZJ (l.take i))).length:=by rw[hM];simp only[List.length_append,List.length_map]
   rcases Nat.lt_or_ge i l.length with hlt|hge
   ·have hdl:decide ((i:Int)<((Zv l).length:Int))=true:=decide_eq_true (by omega)
    obtain⟨⟨k1,n1,b2,l1⟩,hy⟩:∃ y,l[i]?=some y:=⟨_,List.getElem?_eq_getElem hlt⟩
    have hv:(Zv l)[((i:Nat):Int).toNat]?=some (.agg [.int .i64 k1,.int .u64 (n1:Int),.sl (b2.map E.byte),.sl (Zv l1)]):=by
     rw[Int.toNat_natCast,Z8,List.getElem?_map,hy];rfl
    have hmem:=List.mem_of_getElem? hy
    have hps:=WP hy
    have hpl:=WT l (i+1)
    have hps2:=congrArg List.length hps
    rw[List.length_append]at hps2
    have hc:=ih _ hmem (Yt hws _ hmem) (QJ hos _ hmem) M _ rfl hUM (by simp only[List.length_append]at hMl hlim;omega)
    have ei:IntKind.i64.wrap ((i:Int)+1)=((i+1:Nat):Int):=by rw[IntWalk.i64_in _ (by omega)];omega
    repeat'(first|rw[ei]|(apply Yp [] [0] (hc);kernel_rfl;(iterate 10 exact U))|(apply Zh Za;exact U)|(apply Zg Za;exact U)|refine Zd U Qt ?_|(apply Zr Za;(iterate 6 exact U);(first|exact Qt|rotate_left);(first|with_reducible assumption|decide +kernel|exact U);(first|exact Zk rfl|with_reducible assumption|decide +kernel|rotate_left)))
    refine Lands.mk' (m:=f-1) (by omega) ⟨i+1,M.length+(ZM (.mk k1 n1 b2 l1)).length,M++(ZM (.mk k1 n1 b2 l1)).map E.byte,by omega,by simp only[List.length_append,List.length_map],by rw[hM,hps];simp,rfl,rfl,rfl⟩ ?_ rfl rfl rfl rfl rfl rfl
    exact .cons rfl (.cons rfl (.cons rfl (.cons rfl (.cons rfl .nil))))
   ·have hdl:decide ((i:Int)<((Zv l).length:Int))=false:=decide_eq_false (by omega)
    rw[List.take_of_length_le hge]at hM hMl
    repeat'(first|(apply Zg Za;exact U)|refine Zf U Qt ?_)
    all_goals(apply Js [] [0];(apply Zc Za;exact U);(iterate 7 exact U))
    ·rw[hM];rfl
    ·rfl
    ·rw[hMl];rfl
theorem II [Known](x:It)(hw:wfI x)(ho:okx x)(hlim:(ZM x).length<=1099511627776):AT Tryz.prog 114 [.sl .nil [],itD x] [] [] (.sl (.own 0) ((ZM x).map E.byte)) [] [⟨(ZM x).length,1,5⟩]:=by
 obtain⟨k,n,b,l⟩:=x
 obtain⟨hn,hb,hl,hws⟩:=hw
 obtain⟨hk7,hos⟩:=ho
 have hlen:=Zw l
 have hr:Z0 (k,(It.mk k n b l).hn,false)=true:=by simp[Z0];exact hk7
 have hhn:(It.mk k n b l).hn<18446744073709551616:=by simp only[It.hn];(repeat' split)<;>omega
 have hput:ZM (.mk k n b l)=ZQ (k,(It.mk k n b l).hn,false)++(b++ZJ l):=by rw[ZM,if_pos hr]
 rw[hput]at hlim ⊢
 have hW:=GG (k,(It.mk k n b l).hn,false) hhn
 rw[if_pos hr,if_pos hr]at hW
 obtain⟨c0,t0,hcw⟩:=XQ (k,(It.mk k n b l).hn,false)
 rw[hcw]at hW hlim ⊢
 have hU0:=Ym (c0::t0)
 have hU1:=Ym b
 have eb:IntKind.u64.wrap (((b.map E.byte).length:Nat):Int)=((b.length:Nat):Int):=by rw[List.length_map,IntKind.wrap_u64];omega
 have el:IntKind.u64.wrap (((Zv l).length:Nat):Int)=((l.length:Nat):Int):=by rw[hlen,IntKind.wrap_u64];omega
 have hS:∀(i:Nat),IntKind.i64.wrap ((i:Int)+1)=((i+1:Nat):Int)\/2199023255488<i:=fun i=>by
  rcases Nat.lt_or_ge 2199023255488 i with h|h
  ·exact .inr h
  ·left;rw[IntWalk.i64_in _ (by omega)];omega
 have hkc:(k=2/\(It.mk k n b l).hn=b.length)\/(k=3/\(It.mk k n b l).hn=b.length)\/(k=4/\(It.mk k n b l).hn=l.length)\/(k ≠ 2/\k ≠ 3/\k ≠ 4/\(It.mk k n b l).hn=n):=by
  by_cases h2:k=2
  ·subst h2;exact .inl ⟨rfl,rfl⟩
  by_cases h3:k=3
  ·subst h3;exact .inr (.inl ⟨rfl,rfl⟩)
  by_cases h4:k=4
  ·subst h4;exact .inr (.inr (.inl ⟨rfl,rfl⟩))
  ·exact .inr (.inr (.inr ⟨h2,h3,h4,by simp[It.hn,h2,h3,h4]⟩))
 clear hhn hr hcw hput
 generalize (It.mk k n b l).hn=hn0 at hkc hW
 have hbc:b=[]\/∃ c1 b1,b=c1::b1:=by cases b<;>simp
 have hne2:k ≠ 2->(k==2)=false:=fun h=>by simpa using h
 have hne3:k ≠ 3->(k==3)=false:=fun h=>by simpa using h
 have hne4:k ≠ 4->(k==4)=false:=fun h=>by simpa using h
 have hq:((k==2)=true/\hn0=b.length)\/((k==2)=false/\(k==3)=true/\hn0=b.length)\/((k==2)=false/\(k==3)=false/\(k==4)=true/\hn0=l.length)\/((k==2)=false/\(k==3)=false/\(k==4)=false/\hn0=n):=by
  rcases hkc with⟨e,h⟩ | ⟨e,h⟩ | ⟨e,h⟩ | ⟨k2,k3,k4,h⟩
  ·exact .inl ⟨by rw[e];rfl,h⟩
  ·exact .inr (.inl ⟨by rw[e];rfl,by rw[e];rfl,h⟩)
  ·exact .inr (.inr (.inl ⟨by rw[e];rfl,by rw[e];rfl,by rw[e];rfl,h⟩))
  ·exact .inr (.inr (.inr ⟨hne2 k2,hne3 k3,hne4 k4,h⟩))
 clear hkc
 rcases hbc with rfl|⟨c1,b1,rfl⟩
 ·rcases hq with⟨q2,hh⟩ | ⟨q2,q3,hh⟩ | ⟨q2,q3,q4,hh⟩ | ⟨q2,q3,q4,hh⟩
  all_goals
   rw[hh]at hW
   clear hh
   refine Zl Tryz.func114 rfl Tryz.ntmps114 rfl rfl ?_
   repeat'(first|rw[eb]|rw[el]|(apply Zb (hW);kernel_rfl;(iterate 4 exact U))|(apply Zh Za;exact U)|(apply Zg Za;exact U)|(apply Zo Za;exact U)|refine Zd U Qt ?_|refine Zf U Qt ?_|refine Zm Za U U U U ?_|(apply Zq 5 ZE;decide +kernel;kernel_rfl;kernel_rfl;kernel_rfl;exact U;exact U)|(apply Zt;(iterate 4 exact U))|exact AE.nil _ _ _ _|(apply Zx;exact U)|(apply YD;exact U)|(apply Zz;exact U;exact U;decide +kernel;exact U)|(apply ZA;exact U)|(apply Y4;exact U)|exact AO.nil _ _ _|(apply Zs;(decide +kernel))|(apply Yj;(iterate 3 exact U))|exact AOs.nil|exact ZF rfl rfl|exact WL rfl rfl|refine ZY Za U U U U U U ?_|(apply WC Za;(iterate 6 exact U);(first|exact Zk rfl|with_reducible assumption|decide +kernel|rotate_left);(first|exact Qt|rotate_left);(first|exact Qt|rotate_left);(first|exact Qt|rotate_left);(iterate 3 exact U)))
   all_goals first|(first|rfl|(simp only[List.length_append,List.length_cons,List.length_nil,List.length_map,Zw];done)|(simp only[List.length_append,List.length_cons,List.length_nil,List.length_map,Zw]at *;(try unfold maxLen);(try simp only[Nat.add_mul]);omega))|skip
   refine ZI (fun f tm bx fr=>∃(i c:Nat) (M:List E),f+i=l.length/\c=M.length/\M=((c0::t0)++(([]:List UInt8)++ZJ (l.take i))).map E.byte/\tm=[(0,.sl (.own 0) M),(3,.ptr 0 0),(42,.sl .ext (Zv l)),(43,.int .i64 ((Zv l).length:Int)),(44,.int .i64 (i:Int))]/\bx=[itC k n ([]:List UInt8) l]/\fr=[⟨c,1,5⟩]) (l.length+1) (Lands.mk' (m:=l.length) (Nat.lt_succ_self _) ⟨0,((c0::t0).map E.byte).length,(c0::t0).map E.byte,rfl,by simp only[List.length_append],by simp[ZJ],rfl,rfl,rfl⟩ ?_ rfl rfl rfl rfl rfl rfl) ?_
   ·exact .cons rfl (.cons rfl (.cons rfl (.cons rfl (.cons rfl .nil))))
   rintro f tm bx fr ⟨i,c,M,hf,hc,hM,rfl,rfl,rfl⟩
   subst hc
   have hU:=YH l
   have hUM:Uni 1 M:=by rw[hM];exact Ym _
   have hMl:M.length=((c0::t0)++(([]:List UInt8)++ZJ (l.take i))).length:=by rw[hM];simp only[List.length_append,List.length_map]
   rcases Nat.lt_or_ge i l.length with hlt|hge
   ·have hdl:decide ((i:Int)<((Zv l).length:Int))=true:=decide_eq_true (by omega)
    obtain⟨⟨k1,n1,b2,l1⟩,hy⟩:∃ y,l[i]?=some y:=⟨_,List.getElem?_eq_getElem hlt⟩
    have hv:(Zv l)[((i:Nat):Int).toNat]?=some (.agg [.int .i64 k1,.int .u64 (n1:Int),.sl (b2.map E.byte),.sl (Zv l1)]):=by
     rw[Int.toNat_natCast,Z8,List.getElem?_map,hy];rfl
    have hmem:=List.mem_of_getElem? hy
    have hps:=WP hy
    have hpl:=WT l (i+1)
    have hps2:=congrArg List.length hps
    rw[List.length_append]at hps2
    have hc:=T8 _ (Yt hws _ hmem) (QJ hos _ hmem) M _ rfl hUM (by simp only[List.length_append]at hMl hlim;omega)
    have ei:IntKind.i64.wrap ((i:Int)+1)=((i+1:Nat):Int):=by rw[IntWalk.i64_in _ (by omega)];omega
    repeat'(first|rw[ei]|(apply Yp [] [0] (hc);kernel_rfl;(iterate 10 exact U))|(apply Zh Za;exact U)|(apply Zg Za;exact U)|refine Zd U Qt ?_|(apply Zr Za;(iterate 6 exact U);(first|exact Qt|rotate_left);(first|with_reducible assumption|decide +kernel|exact U);(first|exact Zk rfl|with_reducible assumption|decide +kernel|rotate_left)))
    refine Lands.mk' (m:=f-1) (by omega) ⟨i+1,M.length+(ZM (.mk k1 n1 b2 l1)).length,M++(ZM (.mk k1 n1 b2 l1)).map E.byte,by omega,by simp only[List.length_append,List.length_map],by rw[hM,hps];simp,rfl,rfl,rfl⟩ ?_ rfl rfl rfl rfl rfl rfl
    exact .cons rfl (.cons rfl (.cons rfl (.cons rfl (.cons rfl .nil))))
   ·have hdl:decide ((i:Int)<((Zv l).length:Int))=false:=decide_eq_false (by omega)
    rw[List.take_of_length_le hge]at hM hMl
    repeat'(first|(apply Zg Za;exact U)|refine Zf U Qt ?_)
    all_goals(apply Js [] [0];(apply Zc Za;exact U);(iterate 7 exact U))
    ·rw[hM];rfl
    ·rfl
    ·rw[hMl];rfl
 ·rcases hq with⟨q2,hh⟩ | ⟨q2,q3,hh⟩ | ⟨q2,q3,q4,hh⟩ | ⟨q2,q3,q4,hh⟩
  all_goals
   rw[hh]at hW
   clear hh
   refine Zl Tryz.func114 rfl Tryz.ntmps114 rfl rfl ?_
   repeat'(first|rw[eb]|rw[el]|(apply Zb (hW);kernel_rfl;(iterate 4 exact U))|(apply Zh Za;exact U)|(apply Zg Za;exact U)|(apply Zo Za;exact U)|refine Zd U Qt ?_|refine Zf U Qt ?_|refine Zm Za U U U U ?_|(apply Zq 5 ZE;decide +kernel;kernel_rfl;kernel_rfl;kernel_rfl;exact U;exact U)|(apply Zt;(iterate 4 exact U))|exact AE.nil _ _ _ _|(apply Zx;exact U)|(apply YD;exact U)|(apply Zz;exact U;exact U;decide +kernel;exact U)|(apply ZA;exact U)|(apply Y4;exact U)|exact AO.nil _ _ _|(apply Zs;(decide +kernel))|(apply Yj;(iterate 3 exact U))|exact AOs.nil|exact ZF rfl rfl|exact WL rfl rfl|(apply ZS Za;(iterate 6 exact U);(first|with_reducible assumption|decide +kernel|exact U|rotate_left);exact U;exact U;(first|exact Zk rfl|with_reducible assumption|decide +kernel|rotate_left);(first|exact Zk rfl|with_reducible assumption|decide +kernel|rotate_left);(first|exact Qt|rotate_left);(first|exact Qt|rotate_left);(first|exact Qt|rotate_left);exact U;exact U)|(apply WC Za;(iterate 6 exact U);(first|exact Zk rfl|with_reducible assumption|decide +kernel|rotate_left);(first|exact Qt|rotate_left);(first|exact Qt|rotate_left);(first|exact Qt|rotate_left);(iterate 3 exact U)))
   all_goals first|(first|rfl|(simp only[List.length_append,List.length_cons,List.length_nil,List.length_map,Zw];done)|(simp only[List.length_append,List.length_cons,List.length_nil,List.length_map,Zw]at *;(try unfold maxLen);(try simp only[Nat.add_mul]);omega))|skip
   refine ZI (fun f tm bx fr=>∃(i c:Nat) (M:List E),f+i=l.length/\c=M.length/\M=((c0::t0)++((c1::b1)++ZJ (l.take i))).map E.byte/\tm=[(0,.sl (.own 0) M),(3,.ptr 0 0),(42,.sl .ext (Zv l)),(43,.int .i64 ((Zv l).length:Int)),(44,.int .i64 (i:Int))]/\bx=[itC k n (c1::b1) l]/\fr=[⟨c,1,5⟩]) (l.length+1) (Lands.mk' (m:=l.length) (Nat.lt_succ_self _) ⟨0,((c0::t0).map E.byte).length+((c1::b1).map E.byte).length,((c0::t0).map E.byte)++(c1::b1).map E.byte,rfl,by simp only[List.length_append],by simp[ZJ],rfl,rfl,rfl⟩ ?_ rfl rfl rfl rfl rfl rfl) ?_
   ·exact .cons rfl (.cons rfl (.cons rfl (.cons rfl (.cons rfl .nil))))
   rintro f tm bx fr ⟨i,c,M,hf,hc,hM,rfl,rfl,rfl⟩
   subst hc
   have hU:=YH l
   have hUM:Uni 1 M:=by rw[hM];exact Ym _
   have hMl:M.length=((c0::t0)++((c1::b1)++ZJ (l.take i))).length:=by rw[hM];simp only[List.length_append,List.length_map]
   rcases Nat.lt_or_ge i l.length with hlt|hge
   ·have hdl:decide ((i:Int)<((Zv l).length:Int))=true:=decide_eq_true (by omega)
    obtain⟨⟨k1,n1,b2,l1⟩,hy⟩:∃ y,l[i]?=some y:=⟨_,List.getElem?_eq_getElem hlt⟩
    have hv:(Zv l)[((i:Nat):Int).toNat]?=some (.agg [.int .i64 k1,.int .u64 (n1:Int),.sl (b2.map E.byte),.sl (Zv l1)]):=by
     rw[Int.toNat_natCast,Z8,List.getElem?_map,hy];rfl
    have hmem:=List.mem_of_getElem? hy
    have hps:=WP hy
    have hpl:=WT l (i+1)
    have hps2:=congrArg List.length hps
    rw[List.length_append]at hps2
    have hc:=T8 _ (Yt hws _ hmem) (QJ hos _ hmem) M _ rfl hUM (by simp only[List.length_append]at hMl hlim;omega)
    have ei:IntKind.i64.wrap ((i:Int)+1)=((i+1:Nat):Int):=by rw[IntWalk.i64_in _ (by omega)];omega
    repeat'(first|rw[ei]|(apply Yp [] [0] (hc);kernel_rfl;(iterate 10 exact U))|(apply Zh Za;exact U)|(apply Zg Za;exact U)|refine Zd U Qt ?_|(apply Zr Za;(iterate 6 exact U);(first|exact Qt|rotate_left);(first|with_reducible assumption|decide +kernel|exact U);(first|exact Zk rfl|with_reducible assumption|decide +kernel|rotate_left)))
    refine Lands.mk' (m:=f-1) (by omega) ⟨i+1,M.length+(ZM (.mk k1 n1 b2 l1)).length,M++(ZM (.mk k1 n1 b2 l1)).map E.byte,by omega,by simp only[List.length_append,List.length_map],by rw[hM,hps];simp,rfl,rfl,rfl⟩ ?_ rfl rfl rfl rfl rfl rfl
    exact .cons rfl (.cons rfl (.cons rfl (.cons rfl (.cons rfl .nil))))
   ·have hdl:decide ((i:Int)<((Zv l).length:Int))=false:=decide_eq_false (by omega)
    rw[List.take_of_length_le hge]at hM hMl
    repeat'(first|(apply Zg Za;exact U)|refine Zf U Qt ?_)
    all_goals(apply Js [] [0];(apply Zc Za;exact U);(iterate 7 exact U))
    ·rw[hM];rfl
    ·rfl
    ·rw[hMl];rfl
theorem OM [Known][KnownU8](x:It)(hw:wfI x)(hlim:(ZM x).length<=1099511627776)(hR:AP Tryz.prog 113 [itD x] (.bool (ZB x)) []):AP Tryz.prog 63 [itD x] (.tup [byE (if ZB x then ZM x else []),.int .i64 (if ZB x then 0 else 3)]) []:=by
 cases hr:ZB x with
 | false=>
  rw[hr]at hR
  obtain⟨k,n,b,l⟩:=x
  refine AP.ofA (Zl Tryz.func63 U Tryz.ntmps63 U U ?_)
  repeat'(first|(apply Zb (hR);kernel_rfl;(iterate 4 exact U))|(apply Zh Za;exact U)|(apply Zg Za;exact U)|(apply Zo Za;exact U)|refine Zd U Qt ?_)
  all_goals exact Qe
 | true=>
  rw[hr]at hR
  have hp:=II x hw (OL hr) hlim
  obtain⟨k,n,b,l⟩:=x
  refine AP.ofA (Zl Tryz.func63 U Tryz.ntmps63 U U ?_)
  repeat'(first|(apply Zb (hR);kernel_rfl;(iterate 4 exact U))|(apply Yp [] [] (hp);kernel_rfl;(iterate 10 exact U))|(apply Zh Za;exact U)|(apply Zg Za;exact U)|(apply Zo Za;exact U)|refine Zf U Qt ?_)
  all_goals exact Qe
end Go.Proofs.YtmljabhmajehnaaGreatDoor
end
section
open Go.RowKit Go.Pl Go.Av
namespace Go.Proofs.YtmljabhmajehnaaGreatDoor
set_option maxHeartbeats 4000000
theorem Bu {s:List UInt8}{e:Nat}(h:rdS s=.error e):e ≠ 0:=by
 cases s with
 | nil=>simp only[rdS,Except.error.injEq]at h;omega
 | cons c r=>
  simp only[rdS]at h
  repeat' split at h
  all_goals(cases h;try omega)
theorem ON {p:Hd}{s:List UInt8}{e:Nat}(h:Y5 p s=.error e):e ≠ 0:=by
 simp only[Y5]at h
 repeat' split at h
 all_goals(cases h;try omega)
theorem T9 (m:Int):∀(f:Nat) (acc s:List UInt8) (e:Nat),JS m f acc s=.error e->e ≠ 0
 | 0,_,_,e,h=>by simp only[JS,Except.error.injEq]at h;omega
 | f+1,acc,s,e,h=>by
  rw[JS]at h
  cases hb:Ua s<;>rw[hb]at h
  ·cases hr:rdS s with
   | error c=>rw[hr]at h;dsimp only at h;simp only[Except.error.injEq]at h;exact h ▸ Bu hr
   | ok y=>
    obtain⟨p,r⟩:=y
    rw[hr]at h;dsimp only at h
    split at h
    ·cases hp:Y5 p r with
     | error c=>rw[hp]at h;dsimp only at h;simp only[Except.error.injEq]at h;exact h ▸ ON hp
     | ok z=>rw[hp]at h;exact T9 m f _ _ e h
    ·simp only[Except.error.injEq]at h;omega
  ·exact nomatch h
theorem GL {it:Nat->List UInt8->Res (It × List UInt8 × Nat)}(hi:∀ m s e,it m s=.error e->e ≠ 0):∀(f:Nat) (acc:List It) (m:Nat) (s:List UInt8) (e:Nat),UG it f acc m s=.error e->e ≠ 0
 | 0,_,_,_,_,h=>nomatch h
 | f+1,acc,m,s,e,h=>by
  rw[UG]at h
  cases hr:it m s with
  | error c=>rw[hr]at h;dsimp only at h;simp only[Except.error.injEq]at h;exact h ▸ hi _ _ _ hr
  | ok y=>obtain⟨x,r,m'⟩:=y;rw[hr]at h;exact GL hi f _ _ _ e h
theorem GM {it:Nat->List UInt8->Res (It × List UInt8 × Nat)}(hi:∀ m s e,it m s=.error e->e ≠ 0):∀(f:Nat) (acc:List It) (m:Nat) (s:List UInt8) (e:Nat),QG it f acc m s=.error e->e ≠ 0
 | 0,_,_,_,e,h=>by simp only[QG,Except.error.injEq]at h;omega
 | f+1,acc,m,s,e,h=>by
  rw[QG]at h
  cases hb:Ua s<;>rw[hb]at h
  ·cases hr:it m s with
   | error c=>rw[hr]at h;dsimp only at h;simp only[Except.error.injEq]at h;exact h ▸ hi _ _ _ hr
   | ok y=>obtain⟨x,r,m'⟩:=y;rw[hr]at h;exact GM hi f _ _ _ e h
  ·exact nomatch h
theorem Lm {it:Nat->List UInt8->Res (It × List UInt8 × Nat)}(hi:∀ m s e,it m s=.error e->e ≠ 0){p:Hd}{m:Nat}{r:List UInt8}{e:Nat}(h:Wt it p m r=.error e):e ≠ 0:=by
 have h1:∀ e,U4 p r=.error e->e ≠ 0:=by
  intro e h;simp only[U4]at h
  split at h
  ·exact T9 _ _ _ _ _ h
  ·exact ON h
 have h2:∀ e,Je it p m r=.error e->e ≠ 0:=by
  intro e h;simp only[Je]at h
  split at h
  ·exact GM hi _ _ _ _ _ h
  ·split at h
   ·exact GL hi _ _ _ _ _ h
   ·cases h;omega
 simp only[Wt]at h
 repeat' split at h
 all_goals first
  | (cases h;done)
  | (rename_i hq;cases h;exact h1 _ hq)
  | (rename_i hq;cases h;exact h2 _ hq)
theorem Uc:∀(d m:Nat) (s:List UInt8) (e:Nat),ZN d m s=.error e->e ≠ 0
 | 0,m,s,e,h=>by
  rw[ZN]at h
  cases hr:rdS s with
  | error c=>rw[hr]at h;dsimp only at h;simp only[Except.error.injEq]at h;exact h ▸ Bu hr
  | ok y=>
   obtain⟨p,r⟩:=y
   rw[hr]at h;dsimp only at h
   split at h<;>(simp only[Except.error.injEq]at h;omega)
 | d+1,m,s,e,h=>by
  rw[ZN]at h
  cases hr:rdS s with
  | error c=>rw[hr]at h;dsimp only at h;simp only[Except.error.injEq]at h;exact h ▸ Bu hr
  | ok y=>
   obtain⟨p,r⟩:=y
   rw[hr]at h;dsimp only at h
   split at h
   ·simp only[Except.error.injEq]at h;omega
   ·split at h
    ·simp only[Except.error.injEq]at h;omega
    ·exact Lm (Uc d) h
theorem IJ [Known][KnownU8](b:List UInt8)(hb:b.length<4294967296):AP Tryz.prog 132 [byE b] (.bool (Wv b)) []:=by
 have hR:=Kw b 0 (by omega)
 have e:Ye b 0=match ZN 6 256 b with
   | .error e=>(.mk 0 0 [] [],0,e)
   | .ok (x,r,_)=>(x,b.length-r.length,0):=by rw[Ye,if_neg (by omega)];rfl
 rw[e]at hR
 unfold Wv
 cases hx:ZN 6 256 b with
 | error c=>
  rw[hx]at hR
  dsimp only
  have hc:((c:Int)==0)=false:=by
   have h0:=Uc _ _ _ _ hx
   rw[<- Bool.not_eq_true,beq_iff_eq];omega
  replace hR:AP Tryz.prog _ _ (.tup [itD (.mk 0 0 [] []),.int .i64 0,.int .i64 (c:Int)]) []:=hR
  refine AP.ofA (Zl Tryz.func132 U Tryz.ntmps132 U U ?_)
  repeat'(first|rw[hc]|(apply Zb (hR);kernel_rfl;(iterate 4 exact U))|(apply Zh Za;exact U)|(apply Zg Za;exact U)|refine Zu U U U Qt ?_|refine Zi U Qt U U ?_)
  all_goals exact Qe
 | ok y=>
  obtain⟨⟨k1,n1,b1,l1⟩,r,m1⟩:=y
  rw[hx]at hR
  replace hR:AP Tryz.prog _ _ (.tup [itD (.mk k1 n1 b1 l1),.int .i64 ((b.length-r.length:Nat):Int),.int .i64 0]) []:=hR
  obtain⟨hwk,hwf,pre,hpre,_,hlen⟩:=Q0 6 (Nat.le_refl _) _ _ _ _ _ hx (by omega)
  have hle:=hlen ⟨Nat.le_refl _,hb⟩
  have hpl:=congrArg List.length hpre
  rw[List.length_append]at hpl
  have hP:=II (.mk k1 n1 b1 l1) hwf (Kx hwk) (by omega)
  have hB:=Kp (ZM (.mk k1 n1 b1 l1)) b
  have hn:(((b.length-r.length:Nat):Int)==((b.map E.byte).length:Int))=r.isEmpty:=by
   rw[List.length_map]
   cases r with
   | nil=>simp
   | cons c r=>simp at hpl ⊢;omega
  dsimp only
  cases hr:r.isEmpty
  all_goals
   rw[hr]at hn
   refine AP.ofA (Zl Tryz.func132 U Tryz.ntmps132 U U ?_)
   repeat'(first|rw[hn]|(apply Zb (hR);kernel_rfl;(iterate 4 exact U))|(apply Yp [] [] (hP);kernel_rfl;(iterate 10 exact U))|(apply Zb (hB);kernel_rfl;(iterate 4 exact U))|(apply Zh Za;exact U)|(apply Zg Za;exact U)|refine Ze U U U Qt ?_|refine Zu U U U Qt ?_|refine Zj U Qt U U ?_|refine Zi U Qt U U ?_|refine Zm Za U U U U ?_)
   all_goals exact Qe
theorem NU [Known][KnownU8](x:It)(hw:wfI x)(hr:ZB x=true)(hlim:(ZM x).length<=1099511627776):AT Tryz.prog 63 [itD x] [] [] (.tup [.sl (.own 0) ((ZM x).map E.byte),.int .i64 0]) [] [⟨(ZM x).length,1,5⟩]:=by
 have hR:=WD x hw
 rw[hr]at hR
 have hp:=II x hw (OL hr) hlim
 obtain⟨k,n,b,l⟩:=x
 refine Zl Tryz.func63 rfl Tryz.ntmps63 rfl rfl ?_
 repeat'(first|(apply Zb (hR);kernel_rfl;(iterate 4 exact U))|(apply Yp [] [] (hp);kernel_rfl;(iterate 10 exact U))|(apply Zh Za;exact U)|(apply Zg Za;exact U)|(apply Zo Za;exact U)|refine Zf U Qt ?_)
 all_goals(apply Js [] [0];(apply Zc Za;exact U);(iterate 7 exact U))
 all_goals rfl
theorem Ln {x:It}(hw:wfI x)(hr:ZB x=true)(r:List UInt8):ZN 6 256 (ZM x++r)=.ok (x,r,((Wf x 1 256).getD 0)):=by
 unfold ZB at hr
 cases h:Wf x 1 256 with
 | none=>rw[h]at hr;cases hr
 | some m=>exact JT x 6 256 m r hw (Nat.le_refl _) h
theorem GN [Known][KnownU8](x:It)(hw:wfI x)(hlim:(ZM x).length<=1099511627776)(hr:ZB x=true):AP Tryz.prog 63 [itD x] (.tup [byE (ZM x),.int .i64 0]) []:=by
 have h:=OM x hw hlim (WD x hw)
 rw[hr]at h
 exact h
theorem Ky (x:It)(hw:wfI x)(hr:ZB x=true):∃ c t,ZM x=c::t:=by
 cases hp:ZM x with
 | cons c t=>exact⟨c,t,rfl⟩
 | nil=>
  have h:=Ln hw hr []
  rw[hp]at h
  have e:ZN 6 256 []=.error 8:=rfl
  rw[List.append_nil,e]at h
  cases h
end Go.Proofs.YtmljabhmajehnaaGreatDoor
end
section
open Go.RowKit Go.Pl Go.Av
namespace Go.Proofs.YtmljabhmajehnaaGreatDoor
mutual
def Yf:It->Nat
 | .mk _ _ _ l=>1+Z2 l
def Z2:List It->Nat
 | []=>0
 | x::l=>Yf x+Z2 l
end
mutual
def Yw:It->Bool
 | .mk k n b l=>Wl k n b l&&Y6 l
def Y6:List It->Bool
 | []=>true
 | x::l=>Yw x&&Y6 l
end
mutual
theorem Kz:∀(x:It) (d m:Nat),Wf x d m=if Yz x (7-d)=true/\Yf x<=m/\Yw x=true then some (m-Yf x) else none
 | .mk k n b l,d,m=>by
  rw[Wf]
  split
  ·rename_i h
   rw[if_neg]
   rintro⟨h1,_⟩
   rw[show 7-d=0 by omega,Yz]at h1
   cases h1
  rename_i hd
  rw[show 7-d=(7-(d+1))+1 by omega,Yz,Yf,Yw]
  split
  ·rename_i h
   rw[if_neg]
   rintro⟨_,h1,_⟩
   omega
  rename_i hm
  cases ho:Wl k n b l with
  | false=>
   dsimp only
   rw[if_neg]
   rintro⟨_,_,h1⟩
   simp at h1
  | true=>
   dsimp only
   rw[OO l (d+1) (m-1),Bool.true_and]
   by_cases h:YE l (7-(d+1))=true/\Z2 l<=m-1/\Y6 l=true
   ·rw[if_pos h,if_pos ⟨h.1,by omega,h.2.2⟩]
    congr 1;omega
   ·rw[if_neg h,if_neg]
    exact fun⟨a,b,c⟩=>h ⟨a,by omega,c⟩
theorem OO:∀(l:List It) (d m:Nat),Yv l d m=if YE l (7-d)=true/\Z2 l<=m/\Y6 l=true then some (m-Z2 l) else none
 | [],d,m=>by rw[Yv,if_pos ⟨by rw[YE],by rw[Z2];omega,by rw[Y6]⟩,Z2];rfl
 | x::l,d,m=>by
  rw[Yv,Kz x d m,YE,Z2,Y6]
  by_cases h:Yz x (7-d)=true/\Yf x<=m/\Yw x=true
  ·rw[if_pos h]
   dsimp only
   rw[OO l d (m-Yf x),h.1,h.2.2,Bool.true_and,Bool.true_and]
   by_cases h2:YE l (7-d)=true/\Z2 l<=m-Yf x/\Y6 l=true
   ·rw[if_pos h2,if_pos ⟨h2.1,by omega,h2.2.2⟩]
    congr 1;omega
   ·rw[if_neg h2,if_neg]
    exact fun⟨a,b,c⟩=>h2 ⟨a,by omega,c⟩
  ·rw[if_neg h]
   dsimp only
   rw[if_neg]
   rintro⟨a,b,c⟩
   rw[Bool.and_eq_true]at a c
   exact h ⟨a.1,by omega,c.1⟩
end
theorem Wc (x:It):ZB x=(Yz x 6&&(decide (Yf x<=256)&&Yw x)):=by
 unfold ZB
 rw[Kz]
 split
 ·rename_i h
  obtain⟨a,b,c⟩:=h
  rw[show 7-1=6 from rfl]at a
  simp[a,b,c]
 ·rename_i h
  rw[show 7-1=6 from rfl]at h
  show false=_
  cases h2:(Yz x 6&&(decide (Yf x<=256)&&Yw x)) with
  | false=>rfl
  | true=>
   simp only[Bool.and_eq_true,decide_eq_true_eq]at h2
   exact absurd ⟨h2.1,h2.2.1,h2.2.2⟩ h
mutual
theorem KA:∀(x:It) (d e:Nat),Yz x d=true->d<=e->Yz x e=true
 | .mk k n b l,0,e,h,_=>by rw[Yz]at h;cases h
 | .mk k n b l,d+1,0,h,hle=>by omega
 | .mk k n b l,d+1,e+1,h,hle=>by
  rw[Yz]at h ⊢
  exact KB l d e h (by omega)
theorem KB:∀(l:List It) (d e:Nat),YE l d=true->d<=e->YE l e=true
 | [],_,_,_,_=>by rw[YE]
 | x::l,d,e,h,hle=>by
  rw[YE,Bool.and_eq_true]at h ⊢
  exact⟨KA x d e h.1 hle,KB l d e h.2 hle⟩
end
mutual
theorem H7:∀(x:It) (d:Nat) (m:Int),0<=Wa x d m->(Yf x:Int)=m-Wa x d m
 | .mk k n b l,d,m,h=>by
  rw[Wa]at h ⊢
  split at h
  ·omega
  split at h
  ·omega
  rename_i h1 h2
  rw[if_neg h1,if_neg h2,Yf]
  have:=XR l (d+1) (m-1) h
  omega
theorem XR:∀(l:List It) (d:Nat) (m:Int),0<=WO l d m->(Z2 l:Int)=m-WO l d m
 | [],d,m,h=>by rw[WO,Z2];omega
 | x::l,d,m,h=>by
  rw[WO]at h ⊢
  split at h
  ·omega
  rename_i h1
  rw[if_neg h1,Z2]
  have h0:0<=Wa x d m:=by
   rcases Int.lt_or_le (Wa x d m) 0 with hlt|hge
   ·have:=Q6 l d (Wa x d m) (by have:=Q5 x d m (by omega);omega);omega
   ·exact hge
  have a:=H7 x d m h0
  have b:=XR l d _ h
  omega
end
end Go.Proofs.YtmljabhmajehnaaGreatDoor
end

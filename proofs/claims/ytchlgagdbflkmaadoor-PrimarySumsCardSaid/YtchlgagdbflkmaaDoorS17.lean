/- Items: their bytes. -/
import Derived.Test.YtchlgagdbflkmaaDoorS12
import Derived.Test.YtchlgagdbflkmaaDoorS16
set_option linter.unusedVariables false
set_option linter.unusedSimpArgs false
section
open Go.RowKit Go.Pl Go.Av
namespace Go.Proofs.YtchlgagdbflkmaaDoor
set_option maxHeartbeats 4000000
mutual
def okx:It->Prop
 | .mk k _ _ l=>(0<=k/\k<=7)/\Gh l
def Gh:List It->Prop
 | []=>True
 | x::l=>okx x/\Gh l
end
theorem Yf:∀ {l:List It},Gh l->∀ y ∈ l,okx y
 | x::l,⟨h1,h2⟩,y,hy=>by
  rcases List.mem_cons.1 hy with rfl|hy
  ·exact h1
  ·exact Yf h2 y hy
mutual
theorem Xh:∀ {x:It} {d m m':Nat},Yz x d m=some m'->okx x
 | .mk k n b l,d,m,m',h=>by
  obtain⟨_,_,h3,h4⟩:=WR h
  exact⟨Jx h3,Q9 h4⟩
theorem Q9:∀ {l:List It} {d m m':Nat},Yu l d m=some m'->Gh l
 | [],d,m,m',h=>trivial
 | x::l,d,m,m',h=>by
  obtain⟨m1,h1,h2⟩:=WA h
  exact⟨Xh h1,Q9 h2⟩
end
theorem K9 {x:It}(h:ZB x=true):okx x:=by
 unfold ZB at h
 cases hw:Yz x 1 256 with
 | none=>rw[hw]at h;cases h
 | some m=>exact Xh hw
theorem UR (h:Hd):∃ c t,Z6 h=c::t:=by
 unfold Z6
 split
 ·exact⟨_,_,rfl⟩
 ·exact⟨_,_,rfl⟩
theorem ZJ {l:List It}{i:Nat}{y:It}(hy:l[i]?=some y):ZH (l.take (i+1))=ZH (l.take i)++ZC y:=by
 rw[List.take_add_one,hy,Vs]
 simp[ZH]
theorem ZP (l:List It)(i:Nat):(ZH (l.take i)).length<=(ZH l).length:=by
 have h:=congrArg List.length (Vs (l.take i) (l.drop i))
 rw[List.take_append_drop,List.length_append]at h
 omega
theorem WG [Known]:∀(x:It),wfI x->okx x->∀(L:List E) (c:Nat),c=L.length->Uni 1 L->L.length+(ZC x).length<=140737488353280->AT Tryd.prog 42 [.sl (.own 0) L,itD x] [] [⟨c,1,5⟩] (.sl (.own 0) (L++(ZC x).map E.byte)) [] [⟨c+(ZC x).length,1,5⟩]:=by
 refine It.ind fun k n b l ih hw ho L c hc hUL hlim=>?_
 subst hc
 obtain⟨hn,hb,hl,hws⟩:=hw
 obtain⟨hk7,hos⟩:=ho
 have hlen:=Zl l
 have hr:Z5 (k,(It.mk k n b l).hn,false)=true:=by simp[Z5];exact hk7
 have hhn:(It.mk k n b l).hn<18446744073709551616:=by simp only[It.hn];(repeat' split)<;>omega
 have hput:ZC (.mk k n b l)=Z6 (k,(It.mk k n b l).hn,false)++(b++ZH l):=by rw[ZC,if_pos hr]
 rw[hput]at hlim ⊢
 have hW:=Xg (k,(It.mk k n b l).hn,false) hhn
 rw[if_pos hr,if_pos hr]at hW
 obtain⟨c0,t0,hcw⟩:=UR (k,(It.mk k n b l).hn,false)
 rw[hcw]at hW hlim ⊢
 have hU0:=Yo (c0::t0)
 have hU1:=Yo b
 have hU01:Uni 1 (L++(c0::t0).map E.byte):=hUL.append hU0
 have eb:IntKind.u64.wrap (((b.map E.byte).length:Nat):Int)=((b.length:Nat):Int):=by rw[List.length_map,IntKind.wrap_u64];omega
 have el:IntKind.u64.wrap (((Zh l).length:Nat):Int)=((l.length:Nat):Int):=by rw[hlen,IntKind.wrap_u64];omega
 have hS:∀(i:Nat),IntKind.i64.wrap ((i:Int)+1)=((i+1:Nat):Int)\/2199023255488<i:=fun i=>by
  rcases Nat.lt_or_ge 2199023255488 i with h|h
  ·exact .inr h
  ·left;rw[IntWalk.i64_in _ (by omega)];omega
 have hkc:(k=2/\(It.mk k n b l).hn=b.length)\/(k=3/\(It.mk k n b l).hn=b.length)\/(k=4/\(It.mk k n b l).hn=l.length)\/(k ≠ 2/\k ≠ 3/\k ≠ 4/\(It.mk k n b l).hn=n):=by
  by_cases h2:k=2
  ·subst h2;exact .inl ⟨rfl,rfl⟩
  by_cases h3:k=3
  ·subst h3;exact .inr (.inl ⟨rfl,rfl⟩)
  by_cases h4:k=4
  ·subst h4;exact .inr (.inr (.inl ⟨rfl,rfl⟩))
  ·exact .inr (.inr (.inr ⟨h2,h3,h4,by simp[It.hn,h2,h3,h4]⟩))
 clear hhn hr hcw hput
 generalize (It.mk k n b l).hn=hn0 at hkc hW
 have hbc:b=[]\/∃ c1 b1,b=c1::b1:=by cases b<;>simp
 have hne2:k ≠ 2->(k==2)=false:=fun h=>by simpa using h
 have hne3:k ≠ 3->(k==3)=false:=fun h=>by simpa using h
 have hne4:k ≠ 4->(k==4)=false:=fun h=>by simpa using h
 rcases hkc with⟨rfl,rfl⟩ | ⟨rfl,rfl⟩ | ⟨rfl,rfl⟩ | ⟨k2,k3,k4,hh⟩
 ·rcases hbc with rfl|⟨c1,b1,rfl⟩
  ·refine Zm Tryd.func42 rfl Tryd.ntmps42 rfl rfl ?_
   repeat'(first|rw[eb]|refine Zb hW Qk Z Z Z Z ?_|refine Zj Za Z ?_|refine Zg Za Z ?_|refine Zv Za Z ?_|refine Zd Z Qt ?_|refine Zn Za Z Z Z Z ?_|(apply Zo 5 ZG;decide +kernel;kernel_rfl;kernel_rfl;kernel_rfl;exact Z;exact Z)|(apply Zr;(iterate 4 exact Z))|exact AE.nil _ _ _ _|(apply Zt;exact Z)|(apply Z4;exact Z)|(apply Zx;exact Z;exact Z;decide +kernel;exact Z)|(apply Zz;exact Z)|(apply Yl;exact Z)|exact AO.nil _ _ _|(apply Zq;(decide +kernel))|(apply ZY;(iterate 3 exact Z))|exact AOs.nil|exact ZM rfl rfl|exact YM rfl rfl|refine Z0 Za Z Z Z Z Z Z ?_|(apply ZS Za;(iterate 6 exact Z);(first|with_reducible assumption|decide +kernel|exact Z|rotate_left);exact Z;exact Z;(first|exact Zf rfl|with_reducible assumption|decide +kernel|rotate_left);(first|exact Zf rfl|with_reducible assumption|decide +kernel|rotate_left);(first|exact Qt|rotate_left);(first|exact Qt|rotate_left);(first|exact Qt|rotate_left);exact Z;exact Z))
   all_goals first|(first|rfl|(simp only[List.length_append,List.length_cons,List.length_nil,List.length_map,Zl];done)|(simp only[List.length_append,List.length_cons,List.length_nil,List.length_map,Zl]at *;(try unfold maxLen);(try simp only[Nat.add_mul]);omega))|skip
   refine ZT (fun f tm bx fr=>∃(i c:Nat) (M:List E),f+i=l.length/\c=M.length/\M=L++((c0::t0)++(([]:List UInt8)++ZH (l.take i))).map E.byte/\tm=[(0,.sl (.own 0) M),(3,.ptr 0 0),(42,.sl .ext (Zh l)),(43,.int .i64 ((Zh l).length:Int)),(44,.int .i64 (i:Int))]/\bx=[itC (2) n ([]:List UInt8) l]/\fr=[⟨c,1,5⟩]) (l.length+1) (Lands.mk' (m:=l.length) (Nat.lt_succ_self _) ⟨0,L.length+((c0::t0).map E.byte).length,L++(c0::t0).map E.byte,rfl,by simp only[List.length_append],by simp[ZH],rfl,rfl,rfl⟩ ?_ rfl rfl rfl rfl rfl rfl) ?_
   ·exact .cons rfl (.cons rfl (.cons rfl (.cons rfl (.cons rfl .nil))))
   rintro f tm bx fr ⟨i,c,M,hf,hc,hM,rfl,rfl,rfl⟩
   subst hc
   have hU:=Yb l
   have hUM:Uni 1 M:=by rw[hM];exact hUL.append (Yo _)
   have hMl:M.length=L.length+((c0::t0)++(([]:List UInt8)++ZH (l.take i))).length:=by rw[hM];simp only[List.length_append,List.length_map]
   rcases Nat.lt_or_ge i l.length with hlt|hge
   ·have hdl:decide ((i:Int)<((Zh l).length:Int))=true:=decide_eq_true (by omega)
    obtain⟨⟨k1,n1,b2,l1⟩,hy⟩:∃ y,l[i]?=some y:=⟨_,List.getElem?_eq_getElem hlt⟩
    have hv:(Zh l)[((i:Nat):Int).toNat]?=some (.agg [.int .i64 k1,.int .u64 (n1:Int),.sl (b2.map E.byte),.sl (Zh l1)]):=by
     rw[Int.toNat_natCast,ZD,List.getElem?_map,hy];rfl
    have hmem:=List.mem_of_getElem? hy
    have hps:=ZJ hy
    have hpl:=ZP l (i+1)
    have hps2:=congrArg List.length hps
    rw[List.length_append]at hps2
    have hc:=ih _ hmem (ZX hws _ hmem) (Yf hos _ hmem) M _ rfl hUM (by simp only[List.length_append]at hMl hlim;omega)
    have ei:IntKind.i64.wrap ((i:Int)+1)=((i+1:Nat):Int):=by rw[IntWalk.i64_in _ (by omega)];omega
    repeat'(first|rw[ei]|refine ZZ [] [0] hc Qk Z Z Z Z Z Z Z Z Z Z ?_|refine Zj Za Z ?_|refine Zg Za Z ?_|refine Zd Z Qt ?_|(apply Zs Za;(iterate 6 exact Z);(first|exact Qt|rotate_left);(first|with_reducible assumption|decide +kernel|exact Z);(first|exact Zf rfl|with_reducible assumption|decide +kernel|rotate_left)))
    refine Lands.mk' (m:=f-1) (by omega) ⟨i+1,M.length+(ZC (.mk k1 n1 b2 l1)).length,M++(ZC (.mk k1 n1 b2 l1)).map E.byte,by omega,by simp only[List.length_append,List.length_map],by rw[hM,hps];simp,rfl,rfl,rfl⟩ ?_ rfl rfl rfl rfl rfl rfl
    exact .cons rfl (.cons rfl (.cons rfl (.cons rfl (.cons rfl .nil))))
   ·have hdl:decide ((i:Int)<((Zh l).length:Int))=false:=decide_eq_false (by omega)
    rw[List.take_of_length_le hge]at hM hMl
    repeat'(first|refine Zg Za Z ?_|refine Ze Z Qt ?_)
    all_goals(apply Vf [] [0];(apply Zc Za;exact Z);(iterate 7 exact Z))
    ·rw[hM];rfl
    ·rfl
    ·rw[hMl];rfl
  ·refine Zm Tryd.func42 rfl Tryd.ntmps42 rfl rfl ?_
   repeat'(first|rw[eb]|refine Zb hW Qk Z Z Z Z ?_|refine Zj Za Z ?_|refine Zg Za Z ?_|refine Zv Za Z ?_|refine Zd Z Qt ?_|refine Zn Za Z Z Z Z ?_|(apply Zo 5 ZG;decide +kernel;kernel_rfl;kernel_rfl;kernel_rfl;exact Z;exact Z)|(apply Zr;(iterate 4 exact Z))|exact AE.nil _ _ _ _|(apply Zt;exact Z)|(apply Z4;exact Z)|(apply Zx;exact Z;exact Z;decide +kernel;exact Z)|(apply Zz;exact Z)|(apply Yl;exact Z)|exact AO.nil _ _ _|(apply Zq;(decide +kernel))|(apply ZY;(iterate 3 exact Z))|exact AOs.nil|exact ZM rfl rfl|exact YM rfl rfl|(apply ZS Za;(iterate 6 exact Z);(first|with_reducible assumption|decide +kernel|exact Z|rotate_left);exact Z;exact Z;(first|exact Zf rfl|with_reducible assumption|decide +kernel|rotate_left);(first|exact Zf rfl|with_reducible assumption|decide +kernel|rotate_left);(first|exact Qt|rotate_left);(first|exact Qt|rotate_left);(first|exact Qt|rotate_left);exact Z;exact Z))
   all_goals first|(first|rfl|(simp only[List.length_append,List.length_cons,List.length_nil,List.length_map,Zl];done)|(simp only[List.length_append,List.length_cons,List.length_nil,List.length_map,Zl]at *;(try unfold maxLen);(try simp only[Nat.add_mul]);omega))|skip
   refine ZT (fun f tm bx fr=>∃(i c:Nat) (M:List E),f+i=l.length/\c=M.length/\M=L++((c0::t0)++((c1::b1)++ZH (l.take i))).map E.byte/\tm=[(0,.sl (.own 0) M),(3,.ptr 0 0),(42,.sl .ext (Zh l)),(43,.int .i64 ((Zh l).length:Int)),(44,.int .i64 (i:Int))]/\bx=[itC (2) n (c1::b1) l]/\fr=[⟨c,1,5⟩]) (l.length+1) (Lands.mk' (m:=l.length) (Nat.lt_succ_self _) ⟨0,(L++(c0::t0).map E.byte).length+((c1::b1).map E.byte).length,(L++(c0::t0).map E.byte)++(c1::b1).map E.byte,rfl,by simp only[List.length_append],by simp[ZH],rfl,rfl,rfl⟩ ?_ rfl rfl rfl rfl rfl rfl) ?_
   ·exact .cons rfl (.cons rfl (.cons rfl (.cons rfl (.cons rfl .nil))))
   rintro f tm bx fr ⟨i,c,M,hf,hc,hM,rfl,rfl,rfl⟩
   subst hc
   have hU:=Yb l
   have hUM:Uni 1 M:=by rw[hM];exact hUL.append (Yo _)
   have hMl:M.length=L.length+((c0::t0)++((c1::b1)++ZH (l.take i))).length:=by rw[hM];simp only[List.length_append,List.length_map]
   rcases Nat.lt_or_ge i l.length with hlt|hge
   ·have hdl:decide ((i:Int)<((Zh l).length:Int))=true:=decide_eq_true (by omega)
    obtain⟨⟨k1,n1,b2,l1⟩,hy⟩:∃ y,l[i]?=some y:=⟨_,List.getElem?_eq_getElem hlt⟩
    have hv:(Zh l)[((i:Nat):Int).toNat]?=some (.agg [.int .i64 k1,.int .u64 (n1:Int),.sl (b2.map E.byte),.sl (Zh l1)]):=by
     rw[Int.toNat_natCast,ZD,List.getElem?_map,hy];rfl
    have hmem:=List.mem_of_getElem? hy
    have hps:=ZJ hy
    have hpl:=ZP l (i+1)
    have hps2:=congrArg List.length hps
    rw[List.length_append]at hps2
    have hc:=ih _ hmem (ZX hws _ hmem) (Yf hos _ hmem) M _ rfl hUM (by simp only[List.length_append]at hMl hlim;omega)
    have ei:IntKind.i64.wrap ((i:Int)+1)=((i+1:Nat):Int):=by rw[IntWalk.i64_in _ (by omega)];omega
    repeat'(first|rw[ei]|refine ZZ [] [0] hc Qk Z Z Z Z Z Z Z Z Z Z ?_|refine Zj Za Z ?_|refine Zg Za Z ?_|refine Zd Z Qt ?_|(apply Zs Za;(iterate 6 exact Z);(first|exact Qt|rotate_left);(first|with_reducible assumption|decide +kernel|exact Z);(first|exact Zf rfl|with_reducible assumption|decide +kernel|rotate_left)))
    refine Lands.mk' (m:=f-1) (by omega) ⟨i+1,M.length+(ZC (.mk k1 n1 b2 l1)).length,M++(ZC (.mk k1 n1 b2 l1)).map E.byte,by omega,by simp only[List.length_append,List.length_map],by rw[hM,hps];simp,rfl,rfl,rfl⟩ ?_ rfl rfl rfl rfl rfl rfl
    exact .cons rfl (.cons rfl (.cons rfl (.cons rfl (.cons rfl .nil))))
   ·have hdl:decide ((i:Int)<((Zh l).length:Int))=false:=decide_eq_false (by omega)
    rw[List.take_of_length_le hge]at hM hMl
    repeat'(first|refine Zg Za Z ?_|refine Ze Z Qt ?_)
    all_goals(apply Vf [] [0];(apply Zc Za;exact Z);(iterate 7 exact Z))
    ·rw[hM];rfl
    ·rfl
    ·rw[hMl];rfl
 ·rcases hbc with rfl|⟨c1,b1,rfl⟩
  ·refine Zm Tryd.func42 rfl Tryd.ntmps42 rfl rfl ?_
   repeat'(first|rw[eb]|refine Zb hW Qk Z Z Z Z ?_|refine Zj Za Z ?_|refine Zg Za Z ?_|refine Zv Za Z ?_|refine Zd Z Qt ?_|refine Ze Z Qt ?_|refine Zn Za Z Z Z Z ?_|(apply Zo 5 ZG;decide +kernel;kernel_rfl;kernel_rfl;kernel_rfl;exact Z;exact Z)|(apply Zr;(iterate 4 exact Z))|exact AE.nil _ _ _ _|(apply Zt;exact Z)|(apply Z4;exact Z)|(apply Zx;exact Z;exact Z;decide +kernel;exact Z)|(apply Zz;exact Z)|(apply Yl;exact Z)|exact AO.nil _ _ _|(apply Zq;(decide +kernel))|(apply ZY;(iterate 3 exact Z))|exact AOs.nil|exact ZM rfl rfl|exact YM rfl rfl|refine Z0 Za Z Z Z Z Z Z ?_|(apply ZS Za;(iterate 6 exact Z);(first|with_reducible assumption|decide +kernel|exact Z|rotate_left);exact Z;exact Z;(first|exact Zf rfl|with_reducible assumption|decide +kernel|rotate_left);(first|exact Zf rfl|with_reducible assumption|decide +kernel|rotate_left);(first|exact Qt|rotate_left);(first|exact Qt|rotate_left);(first|exact Qt|rotate_left);exact Z;exact Z))
   all_goals first|(first|rfl|(simp only[List.length_append,List.length_cons,List.length_nil,List.length_map,Zl];done)|(simp only[List.length_append,List.length_cons,List.length_nil,List.length_map,Zl]at *;(try unfold maxLen);(try simp only[Nat.add_mul]);omega))|skip
   refine ZT (fun f tm bx fr=>∃(i c:Nat) (M:List E),f+i=l.length/\c=M.length/\M=L++((c0::t0)++(([]:List UInt8)++ZH (l.take i))).map E.byte/\tm=[(0,.sl (.own 0) M),(3,.ptr 0 0),(42,.sl .ext (Zh l)),(43,.int .i64 ((Zh l).length:Int)),(44,.int .i64 (i:Int))]/\bx=[itC (3) n ([]:List UInt8) l]/\fr=[⟨c,1,5⟩]) (l.length+1) (Lands.mk' (m:=l.length) (Nat.lt_succ_self _) ⟨0,L.length+((c0::t0).map E.byte).length,L++(c0::t0).map E.byte,rfl,by simp only[List.length_append],by simp[ZH],rfl,rfl,rfl⟩ ?_ rfl rfl rfl rfl rfl rfl) ?_
   ·exact .cons rfl (.cons rfl (.cons rfl (.cons rfl (.cons rfl .nil))))
   rintro f tm bx fr ⟨i,c,M,hf,hc,hM,rfl,rfl,rfl⟩
   subst hc
   have hU:=Yb l
   have hUM:Uni 1 M:=by rw[hM];exact hUL.append (Yo _)
   have hMl:M.length=L.length+((c0::t0)++(([]:List UInt8)++ZH (l.take i))).length:=by rw[hM];simp only[List.length_append,List.length_map]
   rcases Nat.lt_or_ge i l.length with hlt|hge
   ·have hdl:decide ((i:Int)<((Zh l).length:Int))=true:=decide_eq_true (by omega)
    obtain⟨⟨k1,n1,b2,l1⟩,hy⟩:∃ y,l[i]?=some y:=⟨_,List.getElem?_eq_getElem hlt⟩
    have hv:(Zh l)[((i:Nat):Int).toNat]?=some (.agg [.int .i64 k1,.int .u64 (n1:Int),.sl (b2.map E.byte),.sl (Zh l1)]):=by
     rw[Int.toNat_natCast,ZD,List.getElem?_map,hy];rfl
    have hmem:=List.mem_of_getElem? hy
    have hps:=ZJ hy
    have hpl:=ZP l (i+1)
    have hps2:=congrArg List.length hps
    rw[List.length_append]at hps2
    have hc:=ih _ hmem (ZX hws _ hmem) (Yf hos _ hmem) M _ rfl hUM (by simp only[List.length_append]at hMl hlim;omega)
    have ei:IntKind.i64.wrap ((i:Int)+1)=((i+1:Nat):Int):=by rw[IntWalk.i64_in _ (by omega)];omega
    repeat'(first|rw[ei]|refine ZZ [] [0] hc Qk Z Z Z Z Z Z Z Z Z Z ?_|refine Zj Za Z ?_|refine Zg Za Z ?_|refine Zd Z Qt ?_|(apply Zs Za;(iterate 6 exact Z);(first|exact Qt|rotate_left);(first|with_reducible assumption|decide +kernel|exact Z);(first|exact Zf rfl|with_reducible assumption|decide +kernel|rotate_left)))
    refine Lands.mk' (m:=f-1) (by omega) ⟨i+1,M.length+(ZC (.mk k1 n1 b2 l1)).length,M++(ZC (.mk k1 n1 b2 l1)).map E.byte,by omega,by simp only[List.length_append,List.length_map],by rw[hM,hps];simp,rfl,rfl,rfl⟩ ?_ rfl rfl rfl rfl rfl rfl
    exact .cons rfl (.cons rfl (.cons rfl (.cons rfl (.cons rfl .nil))))
   ·have hdl:decide ((i:Int)<((Zh l).length:Int))=false:=decide_eq_false (by omega)
    rw[List.take_of_length_le hge]at hM hMl
    repeat'(first|refine Zg Za Z ?_|refine Ze Z Qt ?_)
    all_goals(apply Vf [] [0];(apply Zc Za;exact Z);(iterate 7 exact Z))
    ·rw[hM];rfl
    ·rfl
    ·rw[hMl];rfl
  ·refine Zm Tryd.func42 rfl Tryd.ntmps42 rfl rfl ?_
   repeat'(first|rw[eb]|refine Zb hW Qk Z Z Z Z ?_|refine Zj Za Z ?_|refine Zg Za Z ?_|refine Zv Za Z ?_|refine Zd Z Qt ?_|refine Ze Z Qt ?_|refine Zn Za Z Z Z Z ?_|(apply Zo 5 ZG;decide +kernel;kernel_rfl;kernel_rfl;kernel_rfl;exact Z;exact Z)|(apply Zr;(iterate 4 exact Z))|exact AE.nil _ _ _ _|(apply Zt;exact Z)|(apply Z4;exact Z)|(apply Zx;exact Z;exact Z;decide +kernel;exact Z)|(apply Zz;exact Z)|(apply Yl;exact Z)|exact AO.nil _ _ _|(apply Zq;(decide +kernel))|(apply ZY;(iterate 3 exact Z))|exact AOs.nil|exact ZM rfl rfl|exact YM rfl rfl|(apply ZS Za;(iterate 6 exact Z);(first|with_reducible assumption|decide +kernel|exact Z|rotate_left);exact Z;exact Z;(first|exact Zf rfl|with_reducible assumption|decide +kernel|rotate_left);(first|exact Zf rfl|with_reducible assumption|decide +kernel|rotate_left);(first|exact Qt|rotate_left);(first|exact Qt|rotate_left);(first|exact Qt|rotate_left);exact Z;exact Z))
   all_goals first|(first|rfl|(simp only[List.length_append,List.length_cons,List.length_nil,List.length_map,Zl];done)|(simp only[List.length_append,List.length_cons,List.length_nil,List.length_map,Zl]at *;(try unfold maxLen);(try simp only[Nat.add_mul]);omega))|skip
   refine ZT (fun f tm bx fr=>∃(i c:Nat) (M:List E),f+i=l.length/\c=M.length/\M=L++((c0::t0)++((c1::b1)++ZH (l.take i))).map E.byte/\tm=[(0,.sl (.own 0) M),(3,.ptr 0 0),(42,.sl .ext (Zh l)),(43,.int .i64 ((Zh l).length:Int)),(44,.int .i64 (i:Int))]/\bx=[itC (3) n (c1::b1) l]/\fr=[⟨c,1,5⟩]) (l.length+1) (Lands.mk' (m:=l.length) (Nat.lt_succ_self _) ⟨0,(L++(c0::t0).map E.byte).length+((c1::b1).map E.byte).length,(L++(c0::t0).map E.byte)++(c1::b1).map E.byte,rfl,by simp only[List.length_append],by simp[ZH],rfl,rfl,rfl⟩ ?_ rfl rfl rfl rfl rfl rfl) ?_
   ·exact .cons rfl (.cons rfl (.cons rfl (.cons rfl (.cons rfl .nil))))
   rintro f tm bx fr ⟨i,c,M,hf,hc,hM,rfl,rfl,rfl⟩
   subst hc
   have hU:=Yb l
   have hUM:Uni 1 M:=by rw[hM];exact hUL.append (Yo _)
   have hMl:M.length=L.length+((c0::t0)++((c1::b1)++ZH (l.take i))).length:=by rw[hM];simp only[List.length_append,List.length_map]
   rcases Nat.lt_or_ge i l.length with hlt|hge
   ·have hdl:decide ((i:Int)<((Zh l).length:Int))=true:=decide_eq_true (by omega)
    obtain⟨⟨k1,n1,b2,l1⟩,hy⟩:∃ y,l[i]?=some y:=⟨_,List.getElem?_eq_getElem hlt⟩
    have hv:(Zh l)[((i:Nat):Int).toNat]?=some (.agg [.int .i64 k1,.int .u64 (n1:Int),.sl (b2.map E.byte),.sl (Zh l1)]):=by
     rw[Int.toNat_natCast,ZD,List.getElem?_map,hy];rfl
    have hmem:=List.mem_of_getElem? hy
    have hps:=ZJ hy
    have hpl:=ZP l (i+1)
    have hps2:=congrArg List.length hps
    rw[List.length_append]at hps2
    have hc:=ih _ hmem (ZX hws _ hmem) (Yf hos _ hmem) M _ rfl hUM (by simp only[List.length_append]at hMl hlim;omega)
    have ei:IntKind.i64.wrap ((i:Int)+1)=((i+1:Nat):Int):=by rw[IntWalk.i64_in _ (by omega)];omega
    repeat'(first|rw[ei]|refine ZZ [] [0] hc Qk Z Z Z Z Z Z Z Z Z Z ?_|refine Zj Za Z ?_|refine Zg Za Z ?_|refine Zd Z Qt ?_|(apply Zs Za;(iterate 6 exact Z);(first|exact Qt|rotate_left);(first|with_reducible assumption|decide +kernel|exact Z);(first|exact Zf rfl|with_reducible assumption|decide +kernel|rotate_left)))
    refine Lands.mk' (m:=f-1) (by omega) ⟨i+1,M.length+(ZC (.mk k1 n1 b2 l1)).length,M++(ZC (.mk k1 n1 b2 l1)).map E.byte,by omega,by simp only[List.length_append,List.length_map],by rw[hM,hps];simp,rfl,rfl,rfl⟩ ?_ rfl rfl rfl rfl rfl rfl
    exact .cons rfl (.cons rfl (.cons rfl (.cons rfl (.cons rfl .nil))))
   ·have hdl:decide ((i:Int)<((Zh l).length:Int))=false:=decide_eq_false (by omega)
    rw[List.take_of_length_le hge]at hM hMl
    repeat'(first|refine Zg Za Z ?_|refine Ze Z Qt ?_)
    all_goals(apply Vf [] [0];(apply Zc Za;exact Z);(iterate 7 exact Z))
    ·rw[hM];rfl
    ·rfl
    ·rw[hMl];rfl
 ·rcases hbc with rfl|⟨c1,b1,rfl⟩
  ·refine Zm Tryd.func42 rfl Tryd.ntmps42 rfl rfl ?_
   repeat'(first|rw[el]|refine Zb hW Qk Z Z Z Z ?_|refine Zj Za Z ?_|refine Zg Za Z ?_|refine Zv Za Z ?_|refine Zd Z Qt ?_|refine Ze Z Qt ?_|refine Zn Za Z Z Z Z ?_|(apply Zo 5 ZG;decide +kernel;kernel_rfl;kernel_rfl;kernel_rfl;exact Z;exact Z)|(apply Zr;(iterate 4 exact Z))|exact AE.nil _ _ _ _|(apply Zt;exact Z)|(apply Z4;exact Z)|(apply Zx;exact Z;exact Z;decide +kernel;exact Z)|(apply Zz;exact Z)|(apply Yl;exact Z)|exact AO.nil _ _ _|(apply Zq;(decide +kernel))|(apply ZY;(iterate 3 exact Z))|exact AOs.nil|exact ZM rfl rfl|exact YM rfl rfl|refine Z0 Za Z Z Z Z Z Z ?_|(apply ZS Za;(iterate 6 exact Z);(first|with_reducible assumption|decide +kernel|exact Z|rotate_left);exact Z;exact Z;(first|exact Zf rfl|with_reducible assumption|decide +kernel|rotate_left);(first|exact Zf rfl|with_reducible assumption|decide +kernel|rotate_left);(first|exact Qt|rotate_left);(first|exact Qt|rotate_left);(first|exact Qt|rotate_left);exact Z;exact Z))
   all_goals first|(first|rfl|(simp only[List.length_append,List.length_cons,List.length_nil,List.length_map,Zl];done)|(simp only[List.length_append,List.length_cons,List.length_nil,List.length_map,Zl]at *;(try unfold maxLen);(try simp only[Nat.add_mul]);omega))|skip
   refine ZT (fun f tm bx fr=>∃(i c:Nat) (M:List E),f+i=l.length/\c=M.length/\M=L++((c0::t0)++(([]:List UInt8)++ZH (l.take i))).map E.byte/\tm=[(0,.sl (.own 0) M),(3,.ptr 0 0),(42,.sl .ext (Zh l)),(43,.int .i64 ((Zh l).length:Int)),(44,.int .i64 (i:Int))]/\bx=[itC (4) n ([]:List UInt8) l]/\fr=[⟨c,1,5⟩]) (l.length+1) (Lands.mk' (m:=l.length) (Nat.lt_succ_self _) ⟨0,L.length+((c0::t0).map E.byte).length,L++(c0::t0).map E.byte,rfl,by simp only[List.length_append],by simp[ZH],rfl,rfl,rfl⟩ ?_ rfl rfl rfl rfl rfl rfl) ?_
   ·exact .cons rfl (.cons rfl (.cons rfl (.cons rfl (.cons rfl .nil))))
   rintro f tm bx fr ⟨i,c,M,hf,hc,hM,rfl,rfl,rfl⟩
   subst hc
   have hU:=Yb l
   have hUM:Uni 1 M:=by rw[hM];exact hUL.append (Yo _)
   have hMl:M.length=L.length+((c0::t0)++(([]:List UInt8)++ZH (l.take i))).length:=by rw[hM];simp only[List.length_append,List.length_map]
   rcases Nat.lt_or_ge i l.length with hlt|hge
   ·have hdl:decide ((i:Int)<((Zh l).length:Int))=true:=decide_eq_true (by omega)
    obtain⟨⟨k1,n1,b2,l1⟩,hy⟩:∃ y,l[i]?=some y:=⟨_,List.getElem?_eq_getElem hlt⟩
    have hv:(Zh l)[((i:Nat):Int).toNat]?=some (.agg [.int .i64 k1,.int .u64 (n1:Int),.sl (b2.map E.byte),.sl (Zh l1)]):=by
     rw[Int.toNat_natCast,ZD,List.getElem?_map,hy];rfl
    have hmem:=List.mem_of_getElem? hy
    have hps:=ZJ hy
    have hpl:=ZP l (i+1)
    have hps2:=congrArg List.length hps
    rw[List.length_append]at hps2
    have hc:=ih _ hmem (ZX hws _ hmem) (Yf hos _ hmem) M _ rfl hUM (by simp only[List.length_append]at hMl hlim;omega)
    have ei:IntKind.i64.wrap ((i:Int)+1)=((i+1:Nat):Int):=by rw[IntWalk.i64_in _ (by omega)];omega
    repeat'(first|rw[ei]|refine ZZ [] [0] hc Qk Z Z Z Z Z Z Z Z Z Z ?_|refine Zj Za Z ?_|refine Zg Za Z ?_|refine Zd Z Qt ?_|(apply Zs Za;(iterate 6 exact Z);(first|exact Qt|rotate_left);(first|with_reducible assumption|decide +kernel|exact Z);(first|exact Zf rfl|with_reducible assumption|decide +kernel|rotate_left)))
    refine Lands.mk' (m:=f-1) (by omega) ⟨i+1,M.length+(ZC (.mk k1 n1 b2 l1)).length,M++(ZC (.mk k1 n1 b2 l1)).map E.byte,by omega,by simp only[List.length_append,List.length_map],by rw[hM,hps];simp,rfl,rfl,rfl⟩ ?_ rfl rfl rfl rfl rfl rfl
    exact .cons rfl (.cons rfl (.cons rfl (.cons rfl (.cons rfl .nil))))
   ·have hdl:decide ((i:Int)<((Zh l).length:Int))=false:=decide_eq_false (by omega)
    rw[List.take_of_length_le hge]at hM hMl
    repeat'(first|refine Zg Za Z ?_|refine Ze Z Qt ?_)
    all_goals(apply Vf [] [0];(apply Zc Za;exact Z);(iterate 7 exact Z))
    ·rw[hM];rfl
    ·rfl
    ·rw[hMl];rfl
  ·refine Zm Tryd.func42 rfl Tryd.ntmps42 rfl rfl ?_
   repeat'(first|rw[el]|refine Zb hW Qk Z Z Z Z ?_|refine Zj Za Z ?_|refine Zg Za Z ?_|refine Zv Za Z ?_|refine Zd Z Qt ?_|refine Ze Z Qt ?_|refine Zn Za Z Z Z Z ?_|(apply Zo 5 ZG;decide +kernel;kernel_rfl;kernel_rfl;kernel_rfl;exact Z;exact Z)|(apply Zr;(iterate 4 exact Z))|exact AE.nil _ _ _ _|(apply Zt;exact Z)|(apply Z4;exact Z)|(apply Zx;exact Z;exact Z;decide +kernel;exact Z)|(apply Zz;exact Z)|(apply Yl;exact Z)|exact AO.nil _ _ _|(apply Zq;(decide +kernel))|(apply ZY;(iterate 3 exact Z))|exact AOs.nil|exact ZM rfl rfl|exact YM rfl rfl|(apply ZS Za;(iterate 6 exact Z);(first|with_reducible assumption|decide +kernel|exact Z|rotate_left);exact Z;exact Z;(first|exact Zf rfl|with_reducible assumption|decide +kernel|rotate_left);(first|exact Zf rfl|with_reducible assumption|decide +kernel|rotate_left);(first|exact Qt|rotate_left);(first|exact Qt|rotate_left);(first|exact Qt|rotate_left);exact Z;exact Z))
   all_goals first|(first|rfl|(simp only[List.length_append,List.length_cons,List.length_nil,List.length_map,Zl];done)|(simp only[List.length_append,List.length_cons,List.length_nil,List.length_map,Zl]at *;(try unfold maxLen);(try simp only[Nat.add_mul]);omega))|skip
   refine ZT (fun f tm bx fr=>∃(i c:Nat) (M:List E),f+i=l.length/\c=M.length/\M=L++((c0::t0)++((c1::b1)++ZH (l.take i))).map E.byte/\tm=[(0,.sl (.own 0) M),(3,.ptr 0 0),(42,.sl .ext (Zh l)),(43,.int .i64 ((Zh l).length:Int)),(44,.int .i64 (i:Int))]/\bx=[itC (4) n (c1::b1) l]/\fr=[⟨c,1,5⟩]) (l.length+1) (Lands.mk' (m:=l.length) (Nat.lt_succ_self _) ⟨0,(L++(c0::t0).map E.byte).length+((c1::b1).map E.byte).length,(L++(c0::t0).map E.byte)++(c1::b1).map E.byte,rfl,by simp only[List.length_append],by simp[ZH],rfl,rfl,rfl⟩ ?_ rfl rfl rfl rfl rfl rfl) ?_
   ·exact .cons rfl (.cons rfl (.cons rfl (.cons rfl (.cons rfl .nil))))
   rintro f tm bx fr ⟨i,c,M,hf,hc,hM,rfl,rfl,rfl⟩
   subst hc
   have hU:=Yb l
   have hUM:Uni 1 M:=by rw[hM];exact hUL.append (Yo _)
   have hMl:M.length=L.length+((c0::t0)++((c1::b1)++ZH (l.take i))).length:=by rw[hM];simp only[List.length_append,List.length_map]
   rcases Nat.lt_or_ge i l.length with hlt|hge
   ·have hdl:decide ((i:Int)<((Zh l).length:Int))=true:=decide_eq_true (by omega)
    obtain⟨⟨k1,n1,b2,l1⟩,hy⟩:∃ y,l[i]?=some y:=⟨_,List.getElem?_eq_getElem hlt⟩
    have hv:(Zh l)[((i:Nat):Int).toNat]?=some (.agg [.int .i64 k1,.int .u64 (n1:Int),.sl (b2.map E.byte),.sl (Zh l1)]):=by
     rw[Int.toNat_natCast,ZD,List.getElem?_map,hy];rfl
    have hmem:=List.mem_of_getElem? hy
    have hps:=ZJ hy
    have hpl:=ZP l (i+1)
    have hps2:=congrArg List.length hps
    rw[List.length_append]at hps2
    have hc:=ih _ hmem (ZX hws _ hmem) (Yf hos _ hmem) M _ rfl hUM (by simp only[List.length_append]at hMl hlim;omega)
    have ei:IntKind.i64.wrap ((i:Int)+1)=((i+1:Nat):Int):=by rw[IntWalk.i64_in _ (by omega)];omega
    repeat'(first|rw[ei]|refine ZZ [] [0] hc Qk Z Z Z Z Z Z Z Z Z Z ?_|refine Zj Za Z ?_|refine Zg Za Z ?_|refine Zd Z Qt ?_|(apply Zs Za;(iterate 6 exact Z);(first|exact Qt|rotate_left);(first|with_reducible assumption|decide +kernel|exact Z);(first|exact Zf rfl|with_reducible assumption|decide +kernel|rotate_left)))
    refine Lands.mk' (m:=f-1) (by omega) ⟨i+1,M.length+(ZC (.mk k1 n1 b2 l1)).length,M++(ZC (.mk k1 n1 b2 l1)).map E.byte,by omega,by simp only[List.length_append,List.length_map],by rw[hM,hps];simp,rfl,rfl,rfl⟩ ?_ rfl rfl rfl rfl rfl rfl
    exact .cons rfl (.cons rfl (.cons rfl (.cons rfl (.cons rfl .nil))))
   ·have hdl:decide ((i:Int)<((Zh l).length:Int))=false:=decide_eq_false (by omega)
    rw[List.take_of_length_le hge]at hM hMl
    repeat'(first|refine Zg Za Z ?_|refine Ze Z Qt ?_)
    all_goals(apply Vf [] [0];(apply Zc Za;exact Z);(iterate 7 exact Z))
    ·rw[hM];rfl
    ·rfl
    ·rw[hMl];rfl
 ·rw[hh]at hW
  clear hh
  have q2:=hne2 k2
  have q3:=hne3 k3
  have q4:=hne4 k4
  rcases hbc with rfl|⟨c1,b1,rfl⟩
  ·refine Zm Tryd.func42 rfl Tryd.ntmps42 rfl rfl ?_
   repeat'(first|refine Zb hW Qk Z Z Z Z ?_|refine Zj Za Z ?_|refine Zg Za Z ?_|refine Zv Za Z ?_|refine Ze Z Qt ?_|refine Zn Za Z Z Z Z ?_|(apply Zo 5 ZG;decide +kernel;kernel_rfl;kernel_rfl;kernel_rfl;exact Z;exact Z)|(apply Zr;(iterate 4 exact Z))|exact AE.nil _ _ _ _|(apply Zt;exact Z)|(apply Z4;exact Z)|(apply Zx;exact Z;exact Z;decide +kernel;exact Z)|(apply Zz;exact Z)|(apply Yl;exact Z)|exact AO.nil _ _ _|(apply Zq;(decide +kernel))|(apply ZY;(iterate 3 exact Z))|exact AOs.nil|exact ZM rfl rfl|exact YM rfl rfl|refine Z0 Za Z Z Z Z Z Z ?_|(apply ZS Za;(iterate 6 exact Z);(first|with_reducible assumption|decide +kernel|exact Z|rotate_left);exact Z;exact Z;(first|exact Zf rfl|with_reducible assumption|decide +kernel|rotate_left);(first|exact Zf rfl|with_reducible assumption|decide +kernel|rotate_left);(first|exact Qt|rotate_left);(first|exact Qt|rotate_left);(first|exact Qt|rotate_left);exact Z;exact Z))
   all_goals first|(first|rfl|(simp only[List.length_append,List.length_cons,List.length_nil,List.length_map,Zl];done)|(simp only[List.length_append,List.length_cons,List.length_nil,List.length_map,Zl]at *;(try unfold maxLen);(try simp only[Nat.add_mul]);omega))|skip
   refine ZT (fun f tm bx fr=>∃(i c:Nat) (M:List E),f+i=l.length/\c=M.length/\M=L++((c0::t0)++(([]:List UInt8)++ZH (l.take i))).map E.byte/\tm=[(0,.sl (.own 0) M),(3,.ptr 0 0),(42,.sl .ext (Zh l)),(43,.int .i64 ((Zh l).length:Int)),(44,.int .i64 (i:Int))]/\bx=[itC (k) n ([]:List UInt8) l]/\fr=[⟨c,1,5⟩]) (l.length+1) (Lands.mk' (m:=l.length) (Nat.lt_succ_self _) ⟨0,L.length+((c0::t0).map E.byte).length,L++(c0::t0).map E.byte,rfl,by simp only[List.length_append],by simp[ZH],rfl,rfl,rfl⟩ ?_ rfl rfl rfl rfl rfl rfl) ?_
   ·exact .cons rfl (.cons rfl (.cons rfl (.cons rfl (.cons rfl .nil))))
   rintro f tm bx fr ⟨i,c,M,hf,hc,hM,rfl,rfl,rfl⟩
   subst hc
   have hU:=Yb l
   have hUM:Uni 1 M:=by rw[hM];exact hUL.append (Yo _)
   have hMl:M.length=L.length+((c0::t0)++(([]:List UInt8)++ZH (l.take i))).length:=by rw[hM];simp only[List.length_append,List.length_map]
   rcases Nat.lt_or_ge i l.length with hlt|hge
   ·have hdl:decide ((i:Int)<((Zh l).length:Int))=true:=decide_eq_true (by omega)
    obtain⟨⟨k1,n1,b2,l1⟩,hy⟩:∃ y,l[i]?=some y:=⟨_,List.getElem?_eq_getElem hlt⟩
    have hv:(Zh l)[((i:Nat):Int).toNat]?=some (.agg [.int .i64 k1,.int .u64 (n1:Int),.sl (b2.map E.byte),.sl (Zh l1)]):=by
     rw[Int.toNat_natCast,ZD,List.getElem?_map,hy];rfl
    have hmem:=List.mem_of_getElem? hy
    have hps:=ZJ hy
    have hpl:=ZP l (i+1)
    have hps2:=congrArg List.length hps
    rw[List.length_append]at hps2
    have hc:=ih _ hmem (ZX hws _ hmem) (Yf hos _ hmem) M _ rfl hUM (by simp only[List.length_append]at hMl hlim;omega)
    have ei:IntKind.i64.wrap ((i:Int)+1)=((i+1:Nat):Int):=by rw[IntWalk.i64_in _ (by omega)];omega
    repeat'(first|rw[ei]|refine ZZ [] [0] hc Qk Z Z Z Z Z Z Z Z Z Z ?_|refine Zj Za Z ?_|refine Zg Za Z ?_|refine Zd Z Qt ?_|(apply Zs Za;(iterate 6 exact Z);(first|exact Qt|rotate_left);(first|with_reducible assumption|decide +kernel|exact Z);(first|exact Zf rfl|with_reducible assumption|decide +kernel|rotate_left)))
    refine Lands.mk' (m:=f-1) (by omega) ⟨i+1,M.length+(ZC (.mk k1 n1 b2 l1)).length,M++(ZC (.mk k1 n1 b2 l1)).map E.byte,by omega,by simp only[List.length_append,List.length_map],by rw[hM,hps];simp,rfl,rfl,rfl⟩ ?_ rfl rfl rfl rfl rfl rfl
    exact .cons rfl (.cons rfl (.cons rfl (.cons rfl (.cons rfl .nil))))
   ·have hdl:decide ((i:Int)<((Zh l).length:Int))=false:=decide_eq_false (by omega)
    rw[List.take_of_length_le hge]at hM hMl
    repeat'(first|refine Zg Za Z ?_|refine Ze Z Qt ?_)
    all_goals(apply Vf [] [0];(apply Zc Za;exact Z);(iterate 7 exact Z))
    ·rw[hM];rfl
    ·rfl
    ·rw[hMl];rfl
  ·refine Zm Tryd.func42 rfl Tryd.ntmps42 rfl rfl ?_
   repeat'(first|refine Zb hW Qk Z Z Z Z ?_|refine Zj Za Z ?_|refine Zg Za Z ?_|refine Zv Za Z ?_|refine Ze Z Qt ?_|refine Zn Za Z Z Z Z ?_|(apply Zo 5 ZG;decide +kernel;kernel_rfl;kernel_rfl;kernel_rfl;exact Z;exact Z)|(apply Zr;(iterate 4 exact Z))|exact AE.nil _ _ _ _|(apply Zt;exact Z)|(apply Z4;exact Z)|(apply Zx;exact Z;exact Z;decide +kernel;exact Z)|(apply Zz;exact Z)|(apply Yl;exact Z)|exact AO.nil _ _ _|(apply Zq;(decide +kernel))|(apply ZY;(iterate 3 exact Z))|exact AOs.nil|exact ZM rfl rfl|exact YM rfl rfl|(apply ZS Za;(iterate 6 exact Z);(first|with_reducible assumption|decide +kernel|exact Z|rotate_left);exact Z;exact Z;(first|exact Zf rfl|with_reducible assumption|decide +kernel|rotate_left);(first|exact Zf rfl|with_reducible assumption|decide +kernel|rotate_left);(first|exact Qt|rotate_left);(first|exact Qt|rotate_left);(first|exact Qt|rotate_left);exact Z;exact Z))
   all_goals first|(first|rfl|(simp only[List.length_append,List.length_cons,List.length_nil,List.length_map,Zl];done)|(simp only[List.length_append,List.length_cons,List.length_nil,List.length_map,Zl]at *;(try unfold maxLen);(try simp only[Nat.add_mul]);omega))|skip
   refine ZT (fun f tm bx fr=>∃(i c:Nat) (M:List E),f+i=l.length/\c=M.length/\M=L++((c0::t0)++((c1::b1)++ZH (l.take i))).map E.byte/\tm=[(0,.sl (.own 0) M),(3,.ptr 0 0),(42,.sl .ext (Zh l)),(43,.int .i64 ((Zh l).length:Int)),(44,.int .i64 (i:Int))]/\bx=[itC (k) n (c1::b1) l]/\fr=[⟨c,1,5⟩]) (l.length+1) (Lands.mk' (m:=l.length) (Nat.lt_succ_self _) ⟨0,(L++(c0::t0).map E.byte).length+((c1::b1).map E.byte).length,(L++(c0::t0).map E.byte)++(c1::b1).map E.byte,rfl,by simp only[List.length_append],by simp[ZH],rfl,rfl,rfl⟩ ?_ rfl rfl rfl rfl rfl rfl) ?_
   ·exact .cons rfl (.cons rfl (.cons rfl (.cons rfl (.cons rfl .nil))))
   rintro f tm bx fr ⟨i,c,M,hf,hc,hM,rfl,rfl,rfl⟩
   subst hc
   have hU:=Yb l
   have hUM:Uni 1 M:=by rw[hM];exact hUL.append (Yo _)
   have hMl:M.length=L.length+((c0::t0)++((c1::b1)++ZH (l.take i))).length:=by rw[hM];simp only[List.length_append,List.length_map]
   rcases Nat.lt_or_ge i l.length with hlt|hge
   ·have hdl:decide ((i:Int)<((Zh l).length:Int))=true:=decide_eq_true (by omega)
    obtain⟨⟨k1,n1,b2,l1⟩,hy⟩:∃ y,l[i]?=some y:=⟨_,List.getElem?_eq_getElem hlt⟩
    have hv:(Zh l)[((i:Nat):Int).toNat]?=some (.agg [.int .i64 k1,.int .u64 (n1:Int),.sl (b2.map E.byte),.sl (Zh l1)]):=by
     rw[Int.toNat_natCast,ZD,List.getElem?_map,hy];rfl
    have hmem:=List.mem_of_getElem? hy
    have hps:=ZJ hy
    have hpl:=ZP l (i+1)
    have hps2:=congrArg List.length hps
    rw[List.length_append]at hps2
    have hc:=ih _ hmem (ZX hws _ hmem) (Yf hos _ hmem) M _ rfl hUM (by simp only[List.length_append]at hMl hlim;omega)
    have ei:IntKind.i64.wrap ((i:Int)+1)=((i+1:Nat):Int):=by rw[IntWalk.i64_in _ (by omega)];omega
    repeat'(first|rw[ei]|refine ZZ [] [0] hc Qk Z Z Z Z Z Z Z Z Z Z ?_|refine Zj Za Z ?_|refine Zg Za Z ?_|refine Zd Z Qt ?_|(apply Zs Za;(iterate 6 exact Z);(first|exact Qt|rotate_left);(first|with_reducible assumption|decide +kernel|exact Z);(first|exact Zf rfl|with_reducible assumption|decide +kernel|rotate_left)))
    refine Lands.mk' (m:=f-1) (by omega) ⟨i+1,M.length+(ZC (.mk k1 n1 b2 l1)).length,M++(ZC (.mk k1 n1 b2 l1)).map E.byte,by omega,by simp only[List.length_append,List.length_map],by rw[hM,hps];simp,rfl,rfl,rfl⟩ ?_ rfl rfl rfl rfl rfl rfl
    exact .cons rfl (.cons rfl (.cons rfl (.cons rfl (.cons rfl .nil))))
   ·have hdl:decide ((i:Int)<((Zh l).length:Int))=false:=decide_eq_false (by omega)
    rw[List.take_of_length_le hge]at hM hMl
    repeat'(first|refine Zg Za Z ?_|refine Ze Z Qt ?_)
    all_goals(apply Vf [] [0];(apply Zc Za;exact Z);(iterate 7 exact Z))
    ·rw[hM];rfl
    ·rfl
    ·rw[hMl];rfl
theorem Gi [Known](x:It)(hw:wfI x)(ho:okx x)(hlim:(ZC x).length<=140737488353280):AT Tryd.prog 42 [.sl .nil [],itD x] [] [] (.sl (.own 0) ((ZC x).map E.byte)) [] [⟨(ZC x).length,1,5⟩]:=by
 obtain⟨k,n,b,l⟩:=x
 obtain⟨hn,hb,hl,hws⟩:=hw
 obtain⟨hk7,hos⟩:=ho
 have hlen:=Zl l
 have hr:Z5 (k,(It.mk k n b l).hn,false)=true:=by simp[Z5];exact hk7
 have hhn:(It.mk k n b l).hn<18446744073709551616:=by simp only[It.hn];(repeat' split)<;>omega
 have hput:ZC (.mk k n b l)=Z6 (k,(It.mk k n b l).hn,false)++(b++ZH l):=by rw[ZC,if_pos hr]
 rw[hput]at hlim ⊢
 have hW:=Xg (k,(It.mk k n b l).hn,false) hhn
 rw[if_pos hr,if_pos hr]at hW
 obtain⟨c0,t0,hcw⟩:=UR (k,(It.mk k n b l).hn,false)
 rw[hcw]at hW hlim ⊢
 have hU0:=Yo (c0::t0)
 have hU1:=Yo b
 have eb:IntKind.u64.wrap (((b.map E.byte).length:Nat):Int)=((b.length:Nat):Int):=by rw[List.length_map,IntKind.wrap_u64];omega
 have el:IntKind.u64.wrap (((Zh l).length:Nat):Int)=((l.length:Nat):Int):=by rw[hlen,IntKind.wrap_u64];omega
 have hS:∀(i:Nat),IntKind.i64.wrap ((i:Int)+1)=((i+1:Nat):Int)\/2199023255488<i:=fun i=>by
  rcases Nat.lt_or_ge 2199023255488 i with h|h
  ·exact .inr h
  ·left;rw[IntWalk.i64_in _ (by omega)];omega
 have hkc:(k=2/\(It.mk k n b l).hn=b.length)\/(k=3/\(It.mk k n b l).hn=b.length)\/(k=4/\(It.mk k n b l).hn=l.length)\/(k ≠ 2/\k ≠ 3/\k ≠ 4/\(It.mk k n b l).hn=n):=by
  by_cases h2:k=2
  ·subst h2;exact .inl ⟨rfl,rfl⟩
  by_cases h3:k=3
  ·subst h3;exact .inr (.inl ⟨rfl,rfl⟩)
  by_cases h4:k=4
  ·subst h4;exact .inr (.inr (.inl ⟨rfl,rfl⟩))
  ·exact .inr (.inr (.inr ⟨h2,h3,h4,by simp[It.hn,h2,h3,h4]⟩))
 clear hhn hr hcw hput
 generalize (It.mk k n b l).hn=hn0 at hkc hW
 have hbc:b=[]\/∃ c1 b1,b=c1::b1:=by cases b<;>simp
 have hne2:k ≠ 2->(k==2)=false:=fun h=>by simpa using h
 have hne3:k ≠ 3->(k==3)=false:=fun h=>by simpa using h
 have hne4:k ≠ 4->(k==4)=false:=fun h=>by simpa using h
 rcases hkc with⟨rfl,rfl⟩ | ⟨rfl,rfl⟩ | ⟨rfl,rfl⟩ | ⟨k2,k3,k4,hh⟩
 ·rcases hbc with rfl|⟨c1,b1,rfl⟩
  ·refine Zm Tryd.func42 rfl Tryd.ntmps42 rfl rfl ?_
   repeat'(first|rw[eb]|refine Zb hW Qk Z Z Z Z ?_|refine Zj Za Z ?_|refine Zg Za Z ?_|refine Zv Za Z ?_|refine Zd Z Qt ?_|refine Zn Za Z Z Z Z ?_|(apply Zo 5 ZG;decide +kernel;kernel_rfl;kernel_rfl;kernel_rfl;exact Z;exact Z)|(apply Zr;(iterate 4 exact Z))|exact AE.nil _ _ _ _|(apply Zt;exact Z)|(apply Z4;exact Z)|(apply Zx;exact Z;exact Z;decide +kernel;exact Z)|(apply Zz;exact Z)|(apply Yl;exact Z)|exact AO.nil _ _ _|(apply Zq;(decide +kernel))|(apply ZY;(iterate 3 exact Z))|exact AOs.nil|exact ZM rfl rfl|exact YM rfl rfl|refine Z0 Za Z Z Z Z Z Z ?_|(apply Ya Za;(iterate 6 exact Z);(first|exact Zf rfl|with_reducible assumption|decide +kernel|rotate_left);(first|exact Qt|rotate_left);(first|exact Qt|rotate_left);(first|exact Qt|rotate_left);(iterate 3 exact Z)))
   all_goals first|(first|rfl|(simp only[List.length_append,List.length_cons,List.length_nil,List.length_map,Zl];done)|(simp only[List.length_append,List.length_cons,List.length_nil,List.length_map,Zl]at *;(try unfold maxLen);(try simp only[Nat.add_mul]);omega))|skip
   refine ZT (fun f tm bx fr=>∃(i c:Nat) (M:List E),f+i=l.length/\c=M.length/\M=((c0::t0)++(([]:List UInt8)++ZH (l.take i))).map E.byte/\tm=[(0,.sl (.own 0) M),(3,.ptr 0 0),(42,.sl .ext (Zh l)),(43,.int .i64 ((Zh l).length:Int)),(44,.int .i64 (i:Int))]/\bx=[itC (2) n ([]:List UInt8) l]/\fr=[⟨c,1,5⟩]) (l.length+1) (Lands.mk' (m:=l.length) (Nat.lt_succ_self _) ⟨0,((c0::t0).map E.byte).length,(c0::t0).map E.byte,rfl,by simp only[List.length_append],by simp[ZH],rfl,rfl,rfl⟩ ?_ rfl rfl rfl rfl rfl rfl) ?_
   ·exact .cons rfl (.cons rfl (.cons rfl (.cons rfl (.cons rfl .nil))))
   rintro f tm bx fr ⟨i,c,M,hf,hc,hM,rfl,rfl,rfl⟩
   subst hc
   have hU:=Yb l
   have hUM:Uni 1 M:=by rw[hM];exact Yo _
   have hMl:M.length=((c0::t0)++(([]:List UInt8)++ZH (l.take i))).length:=by rw[hM];simp only[List.length_append,List.length_map]
   rcases Nat.lt_or_ge i l.length with hlt|hge
   ·have hdl:decide ((i:Int)<((Zh l).length:Int))=true:=decide_eq_true (by omega)
    obtain⟨⟨k1,n1,b2,l1⟩,hy⟩:∃ y,l[i]?=some y:=⟨_,List.getElem?_eq_getElem hlt⟩
    have hv:(Zh l)[((i:Nat):Int).toNat]?=some (.agg [.int .i64 k1,.int .u64 (n1:Int),.sl (b2.map E.byte),.sl (Zh l1)]):=by
     rw[Int.toNat_natCast,ZD,List.getElem?_map,hy];rfl
    have hmem:=List.mem_of_getElem? hy
    have hps:=ZJ hy
    have hpl:=ZP l (i+1)
    have hps2:=congrArg List.length hps
    rw[List.length_append]at hps2
    have hc:=WG _ (ZX hws _ hmem) (Yf hos _ hmem) M _ rfl hUM (by simp only[List.length_append]at hMl hlim;omega)
    have ei:IntKind.i64.wrap ((i:Int)+1)=((i+1:Nat):Int):=by rw[IntWalk.i64_in _ (by omega)];omega
    repeat'(first|rw[ei]|refine ZZ [] [0] hc Qk Z Z Z Z Z Z Z Z Z Z ?_|refine Zj Za Z ?_|refine Zg Za Z ?_|refine Zd Z Qt ?_|(apply Zs Za;(iterate 6 exact Z);(first|exact Qt|rotate_left);(first|with_reducible assumption|decide +kernel|exact Z);(first|exact Zf rfl|with_reducible assumption|decide +kernel|rotate_left)))
    refine Lands.mk' (m:=f-1) (by omega) ⟨i+1,M.length+(ZC (.mk k1 n1 b2 l1)).length,M++(ZC (.mk k1 n1 b2 l1)).map E.byte,by omega,by simp only[List.length_append,List.length_map],by rw[hM,hps];simp,rfl,rfl,rfl⟩ ?_ rfl rfl rfl rfl rfl rfl
    exact .cons rfl (.cons rfl (.cons rfl (.cons rfl (.cons rfl .nil))))
   ·have hdl:decide ((i:Int)<((Zh l).length:Int))=false:=decide_eq_false (by omega)
    rw[List.take_of_length_le hge]at hM hMl
    repeat'(first|refine Zg Za Z ?_|refine Ze Z Qt ?_)
    all_goals(apply Vf [] [0];(apply Zc Za;exact Z);(iterate 7 exact Z))
    ·rw[hM];rfl
    ·rfl
    ·rw[hMl];rfl
  ·refine Zm Tryd.func42 rfl Tryd.ntmps42 rfl rfl ?_
   repeat'(first|rw[eb]|refine Zb hW Qk Z Z Z Z ?_|refine Zj Za Z ?_|refine Zg Za Z ?_|refine Zv Za Z ?_|refine Zd Z Qt ?_|refine Zn Za Z Z Z Z ?_|(apply Zo 5 ZG;decide +kernel;kernel_rfl;kernel_rfl;kernel_rfl;exact Z;exact Z)|(apply Zr;(iterate 4 exact Z))|exact AE.nil _ _ _ _|(apply Zt;exact Z)|(apply Z4;exact Z)|(apply Zx;exact Z;exact Z;decide +kernel;exact Z)|(apply Zz;exact Z)|(apply Yl;exact Z)|exact AO.nil _ _ _|(apply Zq;(decide +kernel))|(apply ZY;(iterate 3 exact Z))|exact AOs.nil|exact ZM rfl rfl|exact YM rfl rfl|(apply ZS Za;(iterate 6 exact Z);(first|with_reducible assumption|decide +kernel|exact Z|rotate_left);exact Z;exact Z;(first|exact Zf rfl|with_reducible assumption|decide +kernel|rotate_left);(first|exact Zf rfl|with_reducible assumption|decide +kernel|rotate_left);(first|exact Qt|rotate_left);(first|exact Qt|rotate_left);(first|exact Qt|rotate_left);exact Z;exact Z)|(apply Ya Za;(iterate 6 exact Z);(first|exact Zf rfl|with_reducible assumption|decide +kernel|rotate_left);(first|exact Qt|rotate_left);(first|exact Qt|rotate_left);(first|exact Qt|rotate_left);(iterate 3 exact Z)))
   all_goals first|(first|rfl|(simp only[List.length_append,List.length_cons,List.length_nil,List.length_map,Zl];done)|(simp only[List.length_append,List.length_cons,List.length_nil,List.length_map,Zl]at *;(try unfold maxLen);(try simp only[Nat.add_mul]);omega))|skip
   refine ZT (fun f tm bx fr=>∃(i c:Nat) (M:List E),f+i=l.length/\c=M.length/\M=((c0::t0)++((c1::b1)++ZH (l.take i))).map E.byte/\tm=[(0,.sl (.own 0) M),(3,.ptr 0 0),(42,.sl .ext (Zh l)),(43,.int .i64 ((Zh l).length:Int)),(44,.int .i64 (i:Int))]/\bx=[itC (2) n (c1::b1) l]/\fr=[⟨c,1,5⟩]) (l.length+1) (Lands.mk' (m:=l.length) (Nat.lt_succ_self _) ⟨0,((c0::t0).map E.byte).length+((c1::b1).map E.byte).length,((c0::t0).map E.byte)++(c1::b1).map E.byte,rfl,by simp only[List.length_append],by simp[ZH],rfl,rfl,rfl⟩ ?_ rfl rfl rfl rfl rfl rfl) ?_
   ·exact .cons rfl (.cons rfl (.cons rfl (.cons rfl (.cons rfl .nil))))
   rintro f tm bx fr ⟨i,c,M,hf,hc,hM,rfl,rfl,rfl⟩
   subst hc
   have hU:=Yb l
   have hUM:Uni 1 M:=by rw[hM];exact Yo _
   have hMl:M.length=((c0::t0)++((c1::b1)++ZH (l.take i))).length:=by rw[hM];simp only[List.length_append,List.length_map]
   rcases Nat.lt_or_ge i l.length with hlt|hge
   ·have hdl:decide ((i:Int)<((Zh l).length:Int))=true:=decide_eq_true (by omega)
    obtain⟨⟨k1,n1,b2,l1⟩,hy⟩:∃ y,l[i]?=some y:=⟨_,List.getElem?_eq_getElem hlt⟩
    have hv:(Zh l)[((i:Nat):Int).toNat]?=some (.agg [.int .i64 k1,.int .u64 (n1:Int),.sl (b2.map E.byte),.sl (Zh l1)]):=by
     rw[Int.toNat_natCast,ZD,List.getElem?_map,hy];rfl
    have hmem:=List.mem_of_getElem? hy
    have hps:=ZJ hy
    have hpl:=ZP l (i+1)
    have hps2:=congrArg List.length hps
    rw[List.length_append]at hps2
    have hc:=WG _ (ZX hws _ hmem) (Yf hos _ hmem) M _ rfl hUM (by simp only[List.length_append]at hMl hlim;omega)
    have ei:IntKind.i64.wrap ((i:Int)+1)=((i+1:Nat):Int):=by rw[IntWalk.i64_in _ (by omega)];omega
    repeat'(first|rw[ei]|refine ZZ [] [0] hc Qk Z Z Z Z Z Z Z Z Z Z ?_|refine Zj Za Z ?_|refine Zg Za Z ?_|refine Zd Z Qt ?_|(apply Zs Za;(iterate 6 exact Z);(first|exact Qt|rotate_left);(first|with_reducible assumption|decide +kernel|exact Z);(first|exact Zf rfl|with_reducible assumption|decide +kernel|rotate_left)))
    refine Lands.mk' (m:=f-1) (by omega) ⟨i+1,M.length+(ZC (.mk k1 n1 b2 l1)).length,M++(ZC (.mk k1 n1 b2 l1)).map E.byte,by omega,by simp only[List.length_append,List.length_map],by rw[hM,hps];simp,rfl,rfl,rfl⟩ ?_ rfl rfl rfl rfl rfl rfl
    exact .cons rfl (.cons rfl (.cons rfl (.cons rfl (.cons rfl .nil))))
   ·have hdl:decide ((i:Int)<((Zh l).length:Int))=false:=decide_eq_false (by omega)
    rw[List.take_of_length_le hge]at hM hMl
    repeat'(first|refine Zg Za Z ?_|refine Ze Z Qt ?_)
    all_goals(apply Vf [] [0];(apply Zc Za;exact Z);(iterate 7 exact Z))
    ·rw[hM];rfl
    ·rfl
    ·rw[hMl];rfl
 ·rcases hbc with rfl|⟨c1,b1,rfl⟩
  ·refine Zm Tryd.func42 rfl Tryd.ntmps42 rfl rfl ?_
   repeat'(first|rw[eb]|refine Zb hW Qk Z Z Z Z ?_|refine Zj Za Z ?_|refine Zg Za Z ?_|refine Zv Za Z ?_|refine Zd Z Qt ?_|refine Ze Z Qt ?_|refine Zn Za Z Z Z Z ?_|(apply Zo 5 ZG;decide +kernel;kernel_rfl;kernel_rfl;kernel_rfl;exact Z;exact Z)|(apply Zr;(iterate 4 exact Z))|exact AE.nil _ _ _ _|(apply Zt;exact Z)|(apply Z4;exact Z)|(apply Zx;exact Z;exact Z;decide +kernel;exact Z)|(apply Zz;exact Z)|(apply Yl;exact Z)|exact AO.nil _ _ _|(apply Zq;(decide +kernel))|(apply ZY;(iterate 3 exact Z))|exact AOs.nil|exact ZM rfl rfl|exact YM rfl rfl|refine Z0 Za Z Z Z Z Z Z ?_|(apply Ya Za;(iterate 6 exact Z);(first|exact Zf rfl|with_reducible assumption|decide +kernel|rotate_left);(first|exact Qt|rotate_left);(first|exact Qt|rotate_left);(first|exact Qt|rotate_left);(iterate 3 exact Z)))
   all_goals first|(first|rfl|(simp only[List.length_append,List.length_cons,List.length_nil,List.length_map,Zl];done)|(simp only[List.length_append,List.length_cons,List.length_nil,List.length_map,Zl]at *;(try unfold maxLen);(try simp only[Nat.add_mul]);omega))|skip
   refine ZT (fun f tm bx fr=>∃(i c:Nat) (M:List E),f+i=l.length/\c=M.length/\M=((c0::t0)++(([]:List UInt8)++ZH (l.take i))).map E.byte/\tm=[(0,.sl (.own 0) M),(3,.ptr 0 0),(42,.sl .ext (Zh l)),(43,.int .i64 ((Zh l).length:Int)),(44,.int .i64 (i:Int))]/\bx=[itC (3) n ([]:List UInt8) l]/\fr=[⟨c,1,5⟩]) (l.length+1) (Lands.mk' (m:=l.length) (Nat.lt_succ_self _) ⟨0,((c0::t0).map E.byte).length,(c0::t0).map E.byte,rfl,by simp only[List.length_append],by simp[ZH],rfl,rfl,rfl⟩ ?_ rfl rfl rfl rfl rfl rfl) ?_
   ·exact .cons rfl (.cons rfl (.cons rfl (.cons rfl (.cons rfl .nil))))
   rintro f tm bx fr ⟨i,c,M,hf,hc,hM,rfl,rfl,rfl⟩
   subst hc
   have hU:=Yb l
   have hUM:Uni 1 M:=by rw[hM];exact Yo _
   have hMl:M.length=((c0::t0)++(([]:List UInt8)++ZH (l.take i))).length:=by rw[hM];simp only[List.length_append,List.length_map]
   rcases Nat.lt_or_ge i l.length with hlt|hge
   ·have hdl:decide ((i:Int)<((Zh l).length:Int))=true:=decide_eq_true (by omega)
    obtain⟨⟨k1,n1,b2,l1⟩,hy⟩:∃ y,l[i]?=some y:=⟨_,List.getElem?_eq_getElem hlt⟩
    have hv:(Zh l)[((i:Nat):Int).toNat]?=some (.agg [.int .i64 k1,.int .u64 (n1:Int),.sl (b2.map E.byte),.sl (Zh l1)]):=by
     rw[Int.toNat_natCast,ZD,List.getElem?_map,hy];rfl
    have hmem:=List.mem_of_getElem? hy
    have hps:=ZJ hy
    have hpl:=ZP l (i+1)
    have hps2:=congrArg List.length hps
    rw[List.length_append]at hps2
    have hc:=WG _ (ZX hws _ hmem) (Yf hos _ hmem) M _ rfl hUM (by simp only[List.length_append]at hMl hlim;omega)
    have ei:IntKind.i64.wrap ((i:Int)+1)=((i+1:Nat):Int):=by rw[IntWalk.i64_in _ (by omega)];omega
    repeat'(first|rw[ei]|refine ZZ [] [0] hc Qk Z Z Z Z Z Z Z Z Z Z ?_|refine Zj Za Z ?_|refine Zg Za Z ?_|refine Zd Z Qt ?_|(apply Zs Za;(iterate 6 exact Z);(first|exact Qt|rotate_left);(first|with_reducible assumption|decide +kernel|exact Z);(first|exact Zf rfl|with_reducible assumption|decide +kernel|rotate_left)))
    refine Lands.mk' (m:=f-1) (by omega) ⟨i+1,M.length+(ZC (.mk k1 n1 b2 l1)).length,M++(ZC (.mk k1 n1 b2 l1)).map E.byte,by omega,by simp only[List.length_append,List.length_map],by rw[hM,hps];simp,rfl,rfl,rfl⟩ ?_ rfl rfl rfl rfl rfl rfl
    exact .cons rfl (.cons rfl (.cons rfl (.cons rfl (.cons rfl .nil))))
   ·have hdl:decide ((i:Int)<((Zh l).length:Int))=false:=decide_eq_false (by omega)
    rw[List.take_of_length_le hge]at hM hMl
    repeat'(first|refine Zg Za Z ?_|refine Ze Z Qt ?_)
    all_goals(apply Vf [] [0];(apply Zc Za;exact Z);(iterate 7 exact Z))
    ·rw[hM];rfl
    ·rfl
    ·rw[hMl];rfl
  ·refine Zm Tryd.func42 rfl Tryd.ntmps42 rfl rfl ?_
   repeat'(first|rw[eb]|refine Zb hW Qk Z Z Z Z ?_|refine Zj Za Z ?_|refine Zg Za Z ?_|refine Zv Za Z ?_|refine Zd Z Qt ?_|refine Ze Z Qt ?_|refine Zn Za Z Z Z Z ?_|(apply Zo 5 ZG;decide +kernel;kernel_rfl;kernel_rfl;kernel_rfl;exact Z;exact Z)|(apply Zr;(iterate 4 exact Z))|exact AE.nil _ _ _ _|(apply Zt;exact Z)|(apply Z4;exact Z)|(apply Zx;exact Z;exact Z;decide +kernel;exact Z)|(apply Zz;exact Z)|(apply Yl;exact Z)|exact AO.nil _ _ _|(apply Zq;(decide +kernel))|(apply ZY;(iterate 3 exact Z))|exact AOs.nil|exact ZM rfl rfl|exact YM rfl rfl|(apply ZS Za;(iterate 6 exact Z);(first|with_reducible assumption|decide +kernel|exact Z|rotate_left);exact Z;exact Z;(first|exact Zf rfl|with_reducible assumption|decide +kernel|rotate_left);(first|exact Zf rfl|with_reducible assumption|decide +kernel|rotate_left);(first|exact Qt|rotate_left);(first|exact Qt|rotate_left);(first|exact Qt|rotate_left);exact Z;exact Z)|(apply Ya Za;(iterate 6 exact Z);(first|exact Zf rfl|with_reducible assumption|decide +kernel|rotate_left);(first|exact Qt|rotate_left);(first|exact Qt|rotate_left);(first|exact Qt|rotate_left);(iterate 3 exact Z)))
   all_goals first|(first|rfl|(simp only[List.length_append,List.length_cons,List.length_nil,List.length_map,Zl];done)|(simp only[List.length_append,List.length_cons,List.length_nil,List.length_map,Zl]at *;(try unfold maxLen);(try simp only[Nat.add_mul]);omega))|skip
   refine ZT (fun f tm bx fr=>∃(i c:Nat) (M:List E),f+i=l.length/\c=M.length/\M=((c0::t0)++((c1::b1)++ZH (l.take i))).map E.byte/\tm=[(0,.sl (.own 0) M),(3,.ptr 0 0),(42,.sl .ext (Zh l)),(43,.int .i64 ((Zh l).length:Int)),(44,.int .i64 (i:Int))]/\bx=[itC (3) n (c1::b1) l]/\fr=[⟨c,1,5⟩]) (l.length+1) (Lands.mk' (m:=l.length) (Nat.lt_succ_self _) ⟨0,((c0::t0).map E.byte).length+((c1::b1).map E.byte).length,((c0::t0).map E.byte)++(c1::b1).map E.byte,rfl,by simp only[List.length_append],by simp[ZH],rfl,rfl,rfl⟩ ?_ rfl rfl rfl rfl rfl rfl) ?_
   ·exact .cons rfl (.cons rfl (.cons rfl (.cons rfl (.cons rfl .nil))))
   rintro f tm bx fr ⟨i,c,M,hf,hc,hM,rfl,rfl,rfl⟩
   subst hc
   have hU:=Yb l
   have hUM:Uni 1 M:=by rw[hM];exact Yo _
   have hMl:M.length=((c0::t0)++((c1::b1)++ZH (l.take i))).length:=by rw[hM];simp only[List.length_append,List.length_map]
   rcases Nat.lt_or_ge i l.length with hlt|hge
   ·have hdl:decide ((i:Int)<((Zh l).length:Int))=true:=decide_eq_true (by omega)
    obtain⟨⟨k1,n1,b2,l1⟩,hy⟩:∃ y,l[i]?=some y:=⟨_,List.getElem?_eq_getElem hlt⟩
    have hv:(Zh l)[((i:Nat):Int).toNat]?=some (.agg [.int .i64 k1,.int .u64 (n1:Int),.sl (b2.map E.byte),.sl (Zh l1)]):=by
     rw[Int.toNat_natCast,ZD,List.getElem?_map,hy];rfl
    have hmem:=List.mem_of_getElem? hy
    have hps:=ZJ hy
    have hpl:=ZP l (i+1)
    have hps2:=congrArg List.length hps
    rw[List.length_append]at hps2
    have hc:=WG _ (ZX hws _ hmem) (Yf hos _ hmem) M _ rfl hUM (by simp only[List.length_append]at hMl hlim;omega)
    have ei:IntKind.i64.wrap ((i:Int)+1)=((i+1:Nat):Int):=by rw[IntWalk.i64_in _ (by omega)];omega
    repeat'(first|rw[ei]|refine ZZ [] [0] hc Qk Z Z Z Z Z Z Z Z Z Z ?_|refine Zj Za Z ?_|refine Zg Za Z ?_|refine Zd Z Qt ?_|(apply Zs Za;(iterate 6 exact Z);(first|exact Qt|rotate_left);(first|with_reducible assumption|decide +kernel|exact Z);(first|exact Zf rfl|with_reducible assumption|decide +kernel|rotate_left)))
    refine Lands.mk' (m:=f-1) (by omega) ⟨i+1,M.length+(ZC (.mk k1 n1 b2 l1)).length,M++(ZC (.mk k1 n1 b2 l1)).map E.byte,by omega,by simp only[List.length_append,List.length_map],by rw[hM,hps];simp,rfl,rfl,rfl⟩ ?_ rfl rfl rfl rfl rfl rfl
    exact .cons rfl (.cons rfl (.cons rfl (.cons rfl (.cons rfl .nil))))
   ·have hdl:decide ((i:Int)<((Zh l).length:Int))=false:=decide_eq_false (by omega)
    rw[List.take_of_length_le hge]at hM hMl
    repeat'(first|refine Zg Za Z ?_|refine Ze Z Qt ?_)
    all_goals(apply Vf [] [0];(apply Zc Za;exact Z);(iterate 7 exact Z))
    ·rw[hM];rfl
    ·rfl
    ·rw[hMl];rfl
 ·rcases hbc with rfl|⟨c1,b1,rfl⟩
  ·refine Zm Tryd.func42 rfl Tryd.ntmps42 rfl rfl ?_
   repeat'(first|rw[el]|refine Zb hW Qk Z Z Z Z ?_|refine Zj Za Z ?_|refine Zg Za Z ?_|refine Zv Za Z ?_|refine Zd Z Qt ?_|refine Ze Z Qt ?_|refine Zn Za Z Z Z Z ?_|(apply Zo 5 ZG;decide +kernel;kernel_rfl;kernel_rfl;kernel_rfl;exact Z;exact Z)|(apply Zr;(iterate 4 exact Z))|exact AE.nil _ _ _ _|(apply Zt;exact Z)|(apply Z4;exact Z)|(apply Zx;exact Z;exact Z;decide +kernel;exact Z)|(apply Zz;exact Z)|(apply Yl;exact Z)|exact AO.nil _ _ _|(apply Zq;(decide +kernel))|(apply ZY;(iterate 3 exact Z))|exact AOs.nil|exact ZM rfl rfl|exact YM rfl rfl|refine Z0 Za Z Z Z Z Z Z ?_|(apply Ya Za;(iterate 6 exact Z);(first|exact Zf rfl|with_reducible assumption|decide +kernel|rotate_left);(first|exact Qt|rotate_left);(first|exact Qt|rotate_left);(first|exact Qt|rotate_left);(iterate 3 exact Z)))
   all_goals first|(first|rfl|(simp only[List.length_append,List.length_cons,List.length_nil,List.length_map,Zl];done)|(simp only[List.length_append,List.length_cons,List.length_nil,List.length_map,Zl]at *;(try unfold maxLen);(try simp only[Nat.add_mul]);omega))|skip
   refine ZT (fun f tm bx fr=>∃(i c:Nat) (M:List E),f+i=l.length/\c=M.length/\M=((c0::t0)++(([]:List UInt8)++ZH (l.take i))).map E.byte/\tm=[(0,.sl (.own 0) M),(3,.ptr 0 0),(42,.sl .ext (Zh l)),(43,.int .i64 ((Zh l).length:Int)),(44,.int .i64 (i:Int))]/\bx=[itC (4) n ([]:List UInt8) l]/\fr=[⟨c,1,5⟩]) (l.length+1) (Lands.mk' (m:=l.length) (Nat.lt_succ_self _) ⟨0,((c0::t0).map E.byte).length,(c0::t0).map E.byte,rfl,by simp only[List.length_append],by simp[ZH],rfl,rfl,rfl⟩ ?_ rfl rfl rfl rfl rfl rfl) ?_
   ·exact .cons rfl (.cons rfl (.cons rfl (.cons rfl (.cons rfl .nil))))
   rintro f tm bx fr ⟨i,c,M,hf,hc,hM,rfl,rfl,rfl⟩
   subst hc
   have hU:=Yb l
   have hUM:Uni 1 M:=by rw[hM];exact Yo _
   have hMl:M.length=((c0::t0)++(([]:List UInt8)++ZH (l.take i))).length:=by rw[hM];simp only[List.length_append,List.length_map]
   rcases Nat.lt_or_ge i l.length with hlt|hge
   ·have hdl:decide ((i:Int)<((Zh l).length:Int))=true:=decide_eq_true (by omega)
    obtain⟨⟨k1,n1,b2,l1⟩,hy⟩:∃ y,l[i]?=some y:=⟨_,List.getElem?_eq_getElem hlt⟩
    have hv:(Zh l)[((i:Nat):Int).toNat]?=some (.agg [.int .i64 k1,.int .u64 (n1:Int),.sl (b2.map E.byte),.sl (Zh l1)]):=by
     rw[Int.toNat_natCast,ZD,List.getElem?_map,hy];rfl
    have hmem:=List.mem_of_getElem? hy
    have hps:=ZJ hy
    have hpl:=ZP l (i+1)
    have hps2:=congrArg List.length hps
    rw[List.length_append]at hps2
    have hc:=WG _ (ZX hws _ hmem) (Yf hos _ hmem) M _ rfl hUM (by simp only[List.length_append]at hMl hlim;omega)
    have ei:IntKind.i64.wrap ((i:Int)+1)=((i+1:Nat):Int):=by rw[IntWalk.i64_in _ (by omega)];omega
    repeat'(first|rw[ei]|refine ZZ [] [0] hc Qk Z Z Z Z Z Z Z Z Z Z ?_|refine Zj Za Z ?_|refine Zg Za Z ?_|refine Zd Z Qt ?_|(apply Zs Za;(iterate 6 exact Z);(first|exact Qt|rotate_left);(first|with_reducible assumption|decide +kernel|exact Z);(first|exact Zf rfl|with_reducible assumption|decide +kernel|rotate_left)))
    refine Lands.mk' (m:=f-1) (by omega) ⟨i+1,M.length+(ZC (.mk k1 n1 b2 l1)).length,M++(ZC (.mk k1 n1 b2 l1)).map E.byte,by omega,by simp only[List.length_append,List.length_map],by rw[hM,hps];simp,rfl,rfl,rfl⟩ ?_ rfl rfl rfl rfl rfl rfl
    exact .cons rfl (.cons rfl (.cons rfl (.cons rfl (.cons rfl .nil))))
   ·have hdl:decide ((i:Int)<((Zh l).length:Int))=false:=decide_eq_false (by omega)
    rw[List.take_of_length_le hge]at hM hMl
    repeat'(first|refine Zg Za Z ?_|refine Ze Z Qt ?_)
    all_goals(apply Vf [] [0];(apply Zc Za;exact Z);(iterate 7 exact Z))
    ·rw[hM];rfl
    ·rfl
    ·rw[hMl];rfl
  ·refine Zm Tryd.func42 rfl Tryd.ntmps42 rfl rfl ?_
   repeat'(first|rw[el]|refine Zb hW Qk Z Z Z Z ?_|refine Zj Za Z ?_|refine Zg Za Z ?_|refine Zv Za Z ?_|refine Zd Z Qt ?_|refine Ze Z Qt ?_|refine Zn Za Z Z Z Z ?_|(apply Zo 5 ZG;decide +kernel;kernel_rfl;kernel_rfl;kernel_rfl;exact Z;exact Z)|(apply Zr;(iterate 4 exact Z))|exact AE.nil _ _ _ _|(apply Zt;exact Z)|(apply Z4;exact Z)|(apply Zx;exact Z;exact Z;decide +kernel;exact Z)|(apply Zz;exact Z)|(apply Yl;exact Z)|exact AO.nil _ _ _|(apply Zq;(decide +kernel))|(apply ZY;(iterate 3 exact Z))|exact AOs.nil|exact ZM rfl rfl|exact YM rfl rfl|(apply ZS Za;(iterate 6 exact Z);(first|with_reducible assumption|decide +kernel|exact Z|rotate_left);exact Z;exact Z;(first|exact Zf rfl|with_reducible assumption|decide +kernel|rotate_left);(first|exact Zf rfl|with_reducible assumption|decide +kernel|rotate_left);(first|exact Qt|rotate_left);(first|exact Qt|rotate_left);(first|exact Qt|rotate_left);exact Z;exact Z)|(apply Ya Za;(iterate 6 exact Z);(first|exact Zf rfl|with_reducible assumption|decide +kernel|rotate_left);(first|exact Qt|rotate_left);(first|exact Qt|rotate_left);(first|exact Qt|rotate_left);(iterate 3 exact Z)))
   all_goals first|(first|rfl|(simp only[List.length_append,List.length_cons,List.length_nil,List.length_map,Zl];done)|(simp only[List.length_append,List.length_cons,List.length_nil,List.length_map,Zl]at *;(try unfold maxLen);(try simp only[Nat.add_mul]);omega))|skip
   refine ZT (fun f tm bx fr=>∃(i c:Nat) (M:List E),f+i=l.length/\c=M.length/\M=((c0::t0)++((c1::b1)++ZH (l.take i))).map E.byte/\tm=[(0,.sl (.own 0) M),(3,.ptr 0 0),(42,.sl .ext (Zh l)),(43,.int .i64 ((Zh l).length:Int)),(44,.int .i64 (i:Int))]/\bx=[itC (4) n (c1::b1) l]/\fr=[⟨c,1,5⟩]) (l.length+1) (Lands.mk' (m:=l.length) (Nat.lt_succ_self _) ⟨0,((c0::t0).map E.byte).length+((c1::b1).map E.byte).length,((c0::t0).map E.byte)++(c1::b1).map E.byte,rfl,by simp only[List.length_append],by simp[ZH],rfl,rfl,rfl⟩ ?_ rfl rfl rfl rfl rfl rfl) ?_
   ·exact .cons rfl (.cons rfl (.cons rfl (.cons rfl (.cons rfl .nil))))
   rintro f tm bx fr ⟨i,c,M,hf,hc,hM,rfl,rfl,rfl⟩
   subst hc
   have hU:=Yb l
   have hUM:Uni 1 M:=by rw[hM];exact Yo _
   have hMl:M.length=((c0::t0)++((c1::b1)++ZH (l.take i))).length:=by rw[hM];simp only[List.length_append,List.length_map]
   rcases Nat.lt_or_ge i l.length with hlt|hge
   ·have hdl:decide ((i:Int)<((Zh l).length:Int))=true:=decide_eq_true (by omega)
    obtain⟨⟨k1,n1,b2,l1⟩,hy⟩:∃ y,l[i]?=some y:=⟨_,List.getElem?_eq_getElem hlt⟩
    have hv:(Zh l)[((i:Nat):Int).toNat]?=some (.agg [.int .i64 k1,.int .u64 (n1:Int),.sl (b2.map E.byte),.sl (Zh l1)]):=by
     rw[Int.toNat_natCast,ZD,List.getElem?_map,hy];rfl
    have hmem:=List.mem_of_getElem? hy
    have hps:=ZJ hy
    have hpl:=ZP l (i+1)
    have hps2:=congrArg List.length hps
    rw[List.length_append]at hps2
    have hc:=WG _ (ZX hws _ hmem) (Yf hos _ hmem) M _ rfl hUM (by simp only[List.length_append]at hMl hlim;omega)
    have ei:IntKind.i64.wrap ((i:Int)+1)=((i+1:Nat):Int):=by rw[IntWalk.i64_in _ (by omega)];omega
    repeat'(first|rw[ei]|refine ZZ [] [0] hc Qk Z Z Z Z Z Z Z Z Z Z ?_|refine Zj Za Z ?_|refine Zg Za Z ?_|refine Zd Z Qt ?_|(apply Zs Za;(iterate 6 exact Z);(first|exact Qt|rotate_left);(first|with_reducible assumption|decide +kernel|exact Z);(first|exact Zf rfl|with_reducible assumption|decide +kernel|rotate_left)))
    refine Lands.mk' (m:=f-1) (by omega) ⟨i+1,M.length+(ZC (.mk k1 n1 b2 l1)).length,M++(ZC (.mk k1 n1 b2 l1)).map E.byte,by omega,by simp only[List.length_append,List.length_map],by rw[hM,hps];simp,rfl,rfl,rfl⟩ ?_ rfl rfl rfl rfl rfl rfl
    exact .cons rfl (.cons rfl (.cons rfl (.cons rfl (.cons rfl .nil))))
   ·have hdl:decide ((i:Int)<((Zh l).length:Int))=false:=decide_eq_false (by omega)
    rw[List.take_of_length_le hge]at hM hMl
    repeat'(first|refine Zg Za Z ?_|refine Ze Z Qt ?_)
    all_goals(apply Vf [] [0];(apply Zc Za;exact Z);(iterate 7 exact Z))
    ·rw[hM];rfl
    ·rfl
    ·rw[hMl];rfl
 ·rw[hh]at hW
  clear hh
  have q2:=hne2 k2
  have q3:=hne3 k3
  have q4:=hne4 k4
  rcases hbc with rfl|⟨c1,b1,rfl⟩
  ·refine Zm Tryd.func42 rfl Tryd.ntmps42 rfl rfl ?_
   repeat'(first|refine Zb hW Qk Z Z Z Z ?_|refine Zj Za Z ?_|refine Zg Za Z ?_|refine Zv Za Z ?_|refine Ze Z Qt ?_|refine Zn Za Z Z Z Z ?_|(apply Zo 5 ZG;decide +kernel;kernel_rfl;kernel_rfl;kernel_rfl;exact Z;exact Z)|(apply Zr;(iterate 4 exact Z))|exact AE.nil _ _ _ _|(apply Zt;exact Z)|(apply Z4;exact Z)|(apply Zx;exact Z;exact Z;decide +kernel;exact Z)|(apply Zz;exact Z)|(apply Yl;exact Z)|exact AO.nil _ _ _|(apply Zq;(decide +kernel))|(apply ZY;(iterate 3 exact Z))|exact AOs.nil|exact ZM rfl rfl|exact YM rfl rfl|refine Z0 Za Z Z Z Z Z Z ?_|(apply Ya Za;(iterate 6 exact Z);(first|exact Zf rfl|with_reducible assumption|decide +kernel|rotate_left);(first|exact Qt|rotate_left);(first|exact Qt|rotate_left);(first|exact Qt|rotate_left);(iterate 3 exact Z)))
   all_goals first|(first|rfl|(simp only[List.length_append,List.length_cons,List.length_nil,List.length_map,Zl];done)|(simp only[List.length_append,List.length_cons,List.length_nil,List.length_map,Zl]at *;(try unfold maxLen);(try simp only[Nat.add_mul]);omega))|skip
   refine ZT (fun f tm bx fr=>∃(i c:Nat) (M:List E),f+i=l.length/\c=M.length/\M=((c0::t0)++(([]:List UInt8)++ZH (l.take i))).map E.byte/\tm=[(0,.sl (.own 0) M),(3,.ptr 0 0),(42,.sl .ext (Zh l)),(43,.int .i64 ((Zh l).length:Int)),(44,.int .i64 (i:Int))]/\bx=[itC (k) n ([]:List UInt8) l]/\fr=[⟨c,1,5⟩]) (l.length+1) (Lands.mk' (m:=l.length) (Nat.lt_succ_self _) ⟨0,((c0::t0).map E.byte).length,(c0::t0).map E.byte,rfl,by simp only[List.length_append],by simp[ZH],rfl,rfl,rfl⟩ ?_ rfl rfl rfl rfl rfl rfl) ?_
   ·exact .cons rfl (.cons rfl (.cons rfl (.cons rfl (.cons rfl .nil))))
   rintro f tm bx fr ⟨i,c,M,hf,hc,hM,rfl,rfl,rfl⟩
   subst hc
   have hU:=Yb l
   have hUM:Uni 1 M:=by rw[hM];exact Yo _
   have hMl:M.length=((c0::t0)++(([]:List UInt8)++ZH (l.take i))).length:=by rw[hM];simp only[List.length_append,List.length_map]
   rcases Nat.lt_or_ge i l.length with hlt|hge
   ·have hdl:decide ((i:Int)<((Zh l).length:Int))=true:=decide_eq_true (by omega)
    obtain⟨⟨k1,n1,b2,l1⟩,hy⟩:∃ y,l[i]?=some y:=⟨_,List.getElem?_eq_getElem hlt⟩
    have hv:(Zh l)[((i:Nat):Int).toNat]?=some (.agg [.int .i64 k1,.int .u64 (n1:Int),.sl (b2.map E.byte),.sl (Zh l1)]):=by
     rw[Int.toNat_natCast,ZD,List.getElem?_map,hy];rfl
    have hmem:=List.mem_of_getElem? hy
    have hps:=ZJ hy
    have hpl:=ZP l (i+1)
    have hps2:=congrArg List.length hps
    rw[List.length_append]at hps2
    have hc:=WG _ (ZX hws _ hmem) (Yf hos _ hmem) M _ rfl hUM (by simp only[List.length_append]at hMl hlim;omega)
    have ei:IntKind.i64.wrap ((i:Int)+1)=((i+1:Nat):Int):=by rw[IntWalk.i64_in _ (by omega)];omega
    repeat'(first|rw[ei]|refine ZZ [] [0] hc Qk Z Z Z Z Z Z Z Z Z Z ?_|refine Zj Za Z ?_|refine Zg Za Z ?_|refine Zd Z Qt ?_|(apply Zs Za;(iterate 6 exact Z);(first|exact Qt|rotate_left);(first|with_reducible assumption|decide +kernel|exact Z);(first|exact Zf rfl|with_reducible assumption|decide +kernel|rotate_left)))
    refine Lands.mk' (m:=f-1) (by omega) ⟨i+1,M.length+(ZC (.mk k1 n1 b2 l1)).length,M++(ZC (.mk k1 n1 b2 l1)).map E.byte,by omega,by simp only[List.length_append,List.length_map],by rw[hM,hps];simp,rfl,rfl,rfl⟩ ?_ rfl rfl rfl rfl rfl rfl
    exact .cons rfl (.cons rfl (.cons rfl (.cons rfl (.cons rfl .nil))))
   ·have hdl:decide ((i:Int)<((Zh l).length:Int))=false:=decide_eq_false (by omega)
    rw[List.take_of_length_le hge]at hM hMl
    repeat'(first|refine Zg Za Z ?_|refine Ze Z Qt ?_)
    all_goals(apply Vf [] [0];(apply Zc Za;exact Z);(iterate 7 exact Z))
    ·rw[hM];rfl
    ·rfl
    ·rw[hMl];rfl
  ·refine Zm Tryd.func42 rfl Tryd.ntmps42 rfl rfl ?_
   repeat'(first|refine Zb hW Qk Z Z Z Z ?_|refine Zj Za Z ?_|refine Zg Za Z ?_|refine Zv Za Z ?_|refine Ze Z Qt ?_|refine Zn Za Z Z Z Z ?_|(apply Zo 5 ZG;decide +kernel;kernel_rfl;kernel_rfl;kernel_rfl;exact Z;exact Z)|(apply Zr;(iterate 4 exact Z))|exact AE.nil _ _ _ _|(apply Zt;exact Z)|(apply Z4;exact Z)|(apply Zx;exact Z;exact Z;decide +kernel;exact Z)|(apply Zz;exact Z)|(apply Yl;exact Z)|exact AO.nil _ _ _|(apply Zq;(decide +kernel))|(apply ZY;(iterate 3 exact Z))|exact AOs.nil|exact ZM rfl rfl|exact YM rfl rfl|(apply ZS Za;(iterate 6 exact Z);(first|with_reducible assumption|decide +kernel|exact Z|rotate_left);exact Z;exact Z;(first|exact Zf rfl|with_reducible assumption|decide +kernel|rotate_left);(first|exact Zf rfl|with_reducible assumption|decide +kernel|rotate_left);(first|exact Qt|rotate_left);(first|exact Qt|rotate_left);(first|exact Qt|rotate_left);exact Z;exact Z)|(apply Ya Za;(iterate 6 exact Z);(first|exact Zf rfl|with_reducible assumption|decide +kernel|rotate_left);(first|exact Qt|rotate_left);(first|exact Qt|rotate_left);(first|exact Qt|rotate_left);(iterate 3 exact Z)))
   all_goals first|(first|rfl|(simp only[List.length_append,List.length_cons,List.length_nil,List.length_map,Zl];done)|(simp only[List.length_append,List.length_cons,List.length_nil,List.length_map,Zl]at *;(try unfold maxLen);(try simp only[Nat.add_mul]);omega))|skip
   refine ZT (fun f tm bx fr=>∃(i c:Nat) (M:List E),f+i=l.length/\c=M.length/\M=((c0::t0)++((c1::b1)++ZH (l.take i))).map E.byte/\tm=[(0,.sl (.own 0) M),(3,.ptr 0 0),(42,.sl .ext (Zh l)),(43,.int .i64 ((Zh l).length:Int)),(44,.int .i64 (i:Int))]/\bx=[itC (k) n (c1::b1) l]/\fr=[⟨c,1,5⟩]) (l.length+1) (Lands.mk' (m:=l.length) (Nat.lt_succ_self _) ⟨0,((c0::t0).map E.byte).length+((c1::b1).map E.byte).length,((c0::t0).map E.byte)++(c1::b1).map E.byte,rfl,by simp only[List.length_append],by simp[ZH],rfl,rfl,rfl⟩ ?_ rfl rfl rfl rfl rfl rfl) ?_
   ·exact .cons rfl (.cons rfl (.cons rfl (.cons rfl (.cons rfl .nil))))
   rintro f tm bx fr ⟨i,c,M,hf,hc,hM,rfl,rfl,rfl⟩
   subst hc
   have hU:=Yb l
   have hUM:Uni 1 M:=by rw[hM];exact Yo _
   have hMl:M.length=((c0::t0)++((c1::b1)++ZH (l.take i))).length:=by rw[hM];simp only[List.length_append,List.length_map]
   rcases Nat.lt_or_ge i l.length with hlt|hge
   ·have hdl:decide ((i:Int)<((Zh l).length:Int))=true:=decide_eq_true (by omega)
    obtain⟨⟨k1,n1,b2,l1⟩,hy⟩:∃ y,l[i]?=some y:=⟨_,List.getElem?_eq_getElem hlt⟩
    have hv:(Zh l)[((i:Nat):Int).toNat]?=some (.agg [.int .i64 k1,.int .u64 (n1:Int),.sl (b2.map E.byte),.sl (Zh l1)]):=by
     rw[Int.toNat_natCast,ZD,List.getElem?_map,hy];rfl
    have hmem:=List.mem_of_getElem? hy
    have hps:=ZJ hy
    have hpl:=ZP l (i+1)
    have hps2:=congrArg List.length hps
    rw[List.length_append]at hps2
    have hc:=WG _ (ZX hws _ hmem) (Yf hos _ hmem) M _ rfl hUM (by simp only[List.length_append]at hMl hlim;omega)
    have ei:IntKind.i64.wrap ((i:Int)+1)=((i+1:Nat):Int):=by rw[IntWalk.i64_in _ (by omega)];omega
    repeat'(first|rw[ei]|refine ZZ [] [0] hc Qk Z Z Z Z Z Z Z Z Z Z ?_|refine Zj Za Z ?_|refine Zg Za Z ?_|refine Zd Z Qt ?_|(apply Zs Za;(iterate 6 exact Z);(first|exact Qt|rotate_left);(first|with_reducible assumption|decide +kernel|exact Z);(first|exact Zf rfl|with_reducible assumption|decide +kernel|rotate_left)))
    refine Lands.mk' (m:=f-1) (by omega) ⟨i+1,M.length+(ZC (.mk k1 n1 b2 l1)).length,M++(ZC (.mk k1 n1 b2 l1)).map E.byte,by omega,by simp only[List.length_append,List.length_map],by rw[hM,hps];simp,rfl,rfl,rfl⟩ ?_ rfl rfl rfl rfl rfl rfl
    exact .cons rfl (.cons rfl (.cons rfl (.cons rfl (.cons rfl .nil))))
   ·have hdl:decide ((i:Int)<((Zh l).length:Int))=false:=decide_eq_false (by omega)
    rw[List.take_of_length_le hge]at hM hMl
    repeat'(first|refine Zg Za Z ?_|refine Ze Z Qt ?_)
    all_goals(apply Vf [] [0];(apply Zc Za;exact Z);(iterate 7 exact Z))
    ·rw[hM];rfl
    ·rfl
    ·rw[hMl];rfl
theorem Oa [Known][KnownU8](x:It)(hw:wfI x)(hlim:(ZC x).length<=140737488353280)(hR:AP Tryd.prog 12 [itD x] (.bool (ZB x)) []):AP Tryd.prog 29 [itD x] (.tup [byE (if ZB x then ZC x else []),.int .i64 (if ZB x then 0 else 3)]) []:=by
 cases hr:ZB x with
 | false=>
  rw[hr]at hR
  obtain⟨k,n,b,l⟩:=x
  refine AP.ofA (Zm Tryd.func29 Z Tryd.ntmps29 Z Z ?_)
  repeat'(first|refine Zb hR Qk Z Z Z Z ?_|refine Zj Za Z ?_|refine Zg Za Z ?_|refine Zv Za Z ?_|refine Zd Z Qt ?_)
  all_goals exact Qe
 | true=>
  rw[hr]at hR
  have hp:=Gi x hw (K9 hr) hlim
  obtain⟨k,n,b,l⟩:=x
  refine AP.ofA (Zm Tryd.func29 Z Tryd.ntmps29 Z Z ?_)
  repeat'(first|refine Zb hR Qk Z Z Z Z ?_|refine ZZ [] [] hp Qk Z Z Z Z Z Z Z Z Z Z ?_|refine Zj Za Z ?_|refine Zg Za Z ?_|refine Zv Za Z ?_|refine Ze Z Qt ?_)
  all_goals exact Qe
end Go.Proofs.YtchlgagdbflkmaaDoor
end

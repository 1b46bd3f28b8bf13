/- Plain words and laws of heads: what may be, the shortest bytes, the reading; no program in sight. -/
import Derived.Test.YtchlgagdbflkmaaGreatDoorK01
set_option linter.unusedVariables false
set_option linter.unusedSimpArgs false
section
open Go.RowKit Go.Pl
namespace Go.Proofs.YtchlgagdbflkmaaGreatDoor
abbrev Hd:=Int × Nat × Bool
def hv (h:Hd):Value:=.agg #[.int .i64 h.1,.int .u64 (h.2.1:Int),.bool h.2.2]
def JV (m:Int):Bool:=decide (2<=m/\m<=5\/m=7)
def Z6 (h:Hd):Bool:=if h.2.2 then decide (h.2.1=0)&&JV h.1 else decide (0<=h.1/\h.1<=7)
def ZF (n:Nat):Nat:=if n<24 then 0 else if n<256 then 1 else if n<65536 then 2 else if n<4294967296 then 4 else 8
def YB (n:Nat):Nat:=if n<24 then n else if n<256 then 24 else if n<65536 then 25 else if n<4294967296 then 26 else 27
def U0 (h:Hd):Nat:=if Z6 h then(if h.2.2 then 1 else 1+ZF h.2.1) else 0
def beN (n k:Nat):List UInt8:=(List.range k).map (fun i=>UInt8.ofNat (n/256 ^ (k-1-i)))
def Vj (m i:Nat):UInt8:=UInt8.ofNat (32*m+i)
def ZY (h:Hd):List UInt8:=if h.2.2 then [Vj h.1.toNat 31] else Vj h.1.toNat (YB h.2.1)::beN h.2.1 (ZF h.2.1)
theorem X3 (n:Nat):ZF n<=8:=by
 unfold ZF
 repeat' split
 all_goals omega
theorem IQ (n:Nat):YB n<=27:=by
 unfold YB
 repeat' split
 all_goals omega
theorem BY (M i:Nat)(hM:M<=7)(hi:i<32):bits .or .u8 ((M:Int)*32) (i:Int)=((32*M+i:Nat):Int):=by
 have h:=u8_or ((M:Int)*32) (i:Int) (by omega) (by omega) (by omega) (by omega)
 rw[h,show((M:Int)*32).toNat=32*M from by omega,Int.toNat_natCast]
 rw[nat_join 5 (32*M) i (by omega) (by omega)]
theorem YG (n k:Nat):(beN n k).length=k:=by simp[beN]
theorem QX (n k i:Nat)(h:i<k):(beN n k).take (i+1)=(beN n k).take i++[UInt8.ofNat (n/256 ^ (k-1-i))]:=by
 rw[List.take_succ_eq_append_getElem (by rw[YG];exact h)]
 simp[beN]
def WJ (l:List UInt8):Nat:=l.foldl (fun a c=>256*a+c.toNat) 0
def YH (b:List UInt8)(p:Nat):Hd × Nat × Nat:=
 match b.drop p with
 | []=>((0,0,false),0,8)
 | c::r=>
  if c.toNat % 32<24 then(((c.toNat/32:Nat),c.toNat % 32,false),p+1,0)
  else if c.toNat % 32=31/\JV (c.toNat/32:Nat)=true then(((c.toNat/32:Nat),0,true),p+1,0)
  else if 27<c.toNat % 32 then((0,0,false),0,3)
  else if r.length<2 ^ (c.toNat % 32-24) then((0,0,false),0,8)
  else(((c.toNat/32:Nat),WJ (r.take (2 ^ (c.toNat % 32-24))),false),p+1+2 ^ (c.toNat % 32-24),0)
theorem Q5 (l:List UInt8)(c:UInt8):WJ (l++[c])=256*WJ l+c.toNat:=by simp[WJ]
theorem GW (l:List UInt8):∀ a,l.foldl (fun a c=>256*a+c.toNat) a<(a+1)*256 ^ l.length:=by
 induction l with
 | nil=>intro a;simp
 | cons c l ih=>
  intro a
  have h1:=ih (256*a+c.toNat)
  have h2:=c.toNat_lt
  have h3:(256*a+c.toNat+1)*256 ^ l.length<=((a+1)*256)*256 ^ l.length:=Nat.mul_le_mul_right _ (by omega)
  simp only[List.foldl_cons,List.length_cons]
  rw[Nat.pow_succ,Nat.mul_comm (256 ^ l.length) 256,<- Nat.mul_assoc]
  omega
theorem X4 (l:List UInt8):WJ l<256 ^ l.length:=by
 have:=GW l 0
 unfold WJ
 omega
theorem GX (v:Nat)(c:UInt8)(hv:v<72057594037927936):IntKind.u64.wrap ((v:Int)*256)=(v:Int)*256/\bits .or .u64 ((v:Int)*256) (c.toNat:Int)=((256*v+c.toNat:Nat):Int):=by
 have hc:=c.toNat_lt
 refine⟨by rw[IntKind.wrap_u64];omega,?_⟩
 have h:=u64_or_nat (256*v) c.toNat (by omega) (by omega)
 rw[nat_join 8 (256*v) c.toNat (by omega) (by omega)]at h
 rw[<- h]
 congr 1
 omega
theorem TG (r:List UInt8)(i:Nat)(h:i<r.length):WJ (r.take (i+1))=256*WJ (r.take i)+r[i].toNat:=by
 rw[List.take_succ_eq_append_getElem h,Q5]
theorem KO (r:List UInt8)(i:Nat)(h:i<8):WJ (r.take i)<72057594037927936:=by
 have h1:=X4 (r.take i)
 have h2:256 ^ (r.take i).length<=256 ^ 7:=Nat.pow_le_pow_right (by decide) (by rw[List.length_take];omega)
 omega
def X5 (b:List UInt8)(p:Int):Hd × Nat × Nat:=if p<0\/(b.length:Int)<p then((0,0,false),0,1) else YH b p.toNat
theorem Bd (c:UInt8):bits .and .u8 (c.toNat:Int) 31=((c.toNat % 32:Nat):Int):=by
 have h:=u8_and_nat c.toNat 31 c.toNat_lt (by decide)
 rw[show((31:Nat):Int)=31 from rfl]at h
 rw[h]
 congr 1
 exact Nat.and_two_pow_sub_one_eq_mod c.toNat 5
theorem IR (l:List UInt8)(p:Nat):(YH l p).2.1<=l.length/\(YH l p).1.2.1<18446744073709551616/\((YH l p).2.2=0->p<(YH l p).2.1):=by
 unfold YH
 split
 ·exact⟨Nat.zero_le _,by decide,fun h=>by simp at h⟩
 ·rename_i c r hd
  have hl:l.length-p=r.length+1:=by
   have:=congrArg List.length hd
   simpa using this
  have hc:=c.toNat_lt
  split
  ·exact⟨by dsimp only;omega,by dsimp only;omega,fun _=>by dsimp only;omega⟩
  split
  ·exact⟨by dsimp only;omega,by dsimp only;omega,fun _=>by dsimp only;omega⟩
  split
  ·exact⟨Nat.zero_le _,by decide,fun h=>by simp at h⟩
  split
  ·exact⟨Nat.zero_le _,by decide,fun h=>by simp at h⟩
  ·rename_i h1 h2 h3 h4
   have hk:2 ^ (c.toNat % 32-24)<=8:=by
    have:2 ^ (c.toNat % 32-24)<=2 ^ 3:=Nat.pow_le_pow_right (by decide) (by omega)
    omega
   have h0:=Nat.two_pow_pos (c.toNat % 32-24)
   refine⟨by dsimp only;omega,?_,fun _=>by dsimp only;omega⟩
   have h5:=X4 (r.take (2 ^ (c.toNat % 32-24)))
   have h6:256 ^ (r.take (2 ^ (c.toNat % 32-24))).length<=256 ^ 8:=Nat.pow_le_pow_right (by decide) (by rw[List.length_take];omega)
   dsimp only
   omega
theorem NV (h:Hd):U0 h<=9:=by
 unfold U0
 have:=X3 h.2.1
 split
 ·split<;>omega
 ·omega
theorem Y8 (m i:Nat)(hm:m<=7)(hi:i<32):(Vj m i).toNat=32*m+i:=Iq (by omega)
theorem TH (n k:Nat)(h:n<256 ^ k):WJ (beN n k)=n:=by
 have key:∀ i,i<=k->WJ ((beN n k).take i)=n/256 ^ (k-i):=by
  intro i
  induction i with
  | zero=>intro _;simp[WJ];exact(Nat.div_eq_of_lt h).symm
  | succ i ih=>
   intro hi
   rw[QX n k i (by omega),Q5,ih (by omega),UInt8.toNat_ofNat']
   have e:256 ^ (k-i)=256 ^ (k-1-i)*256:=by rw[<- Nat.pow_succ];congr 1;omega
   rw[e,<- Nat.div_div_eq_div_mul,show k-(i+1)=k-1-i from by omega]
   omega
 have:=key k (Nat.le_refl _)
 rwa [List.take_of_length_le (by rw[YG];exact Nat.le_refl _),Nat.sub_self,Nat.pow_zero,Nat.div_one]at this
theorem TI (l:List UInt8):beN (WJ l) l.length=l:=by
 have key:∀(l:List UInt8) (m:Nat),(l.length=m)->beN (WJ l) m=l:=by
  intro l
  induction hk:l.length generalizing l with
  | zero=>intro m hm;have:l=[]:=List.eq_nil_of_length_eq_zero hk;subst this;subst hm;rfl
  | succ k ih=>
   intro m hm
   obtain⟨l',c,rfl⟩:∃ l' c,l=l'++[c]:=⟨l.dropLast,l.getLast (by rintro rfl;simp at hk),(List.dropLast_concat_getLast _).symm⟩
   have hl':l'.length=k:=by simpa using hk
   have h1:=ih l' hl' k rfl
   subst hm
   rw[Q5]
   unfold beN at h1 ⊢
   have hc:=c.toNat_lt
   rw[List.range_succ,List.map_append]
   congr 1
   ·rw[<- h1]
    apply List.map_congr_left
    intro i hi
    have hi:i<k:=by simpa using hi
    congr 1
    have e:256 ^ (k+1-1-i)=256*256 ^ (k-1-i):=by rw[Nat.mul_comm,<- Nat.pow_succ];congr 1;omega
    rw[e,<- Nat.div_div_eq_div_mul,h1]
    congr 1
    omega
   ·simp only[List.map_cons,List.map_nil]
    congr 1
    rw[show k+1-1-k=0 from by omega,Nat.pow_zero,Nat.div_one]
    apply UInt8.toNat_inj.1
    rw[UInt8.toNat_ofNat']
    omega
 exact key l _ rfl
theorem Jt (n:Nat)(hn:n<18446744073709551616):(n<24/\ZF n=0/\YB n=n)\/(24<=n/\ZF n=2 ^ (YB n-24)/\24<=YB n/\YB n<=27/\n<256 ^ ZF n):=by
 unfold ZF YB
 by_cases h1:n<24
 ·simp[h1]
 right
 refine⟨by omega,?_⟩
 by_cases h2:n<256
 ·simp[h1,h2]
 by_cases h3:n<65536
 ·simp[h1,h2,h3]
 by_cases h4:n<4294967296
 ·simp[h1,h2,h3,h4]
 ·simp[h1,h2,h3,h4];omega
theorem YN (h:Hd)(hr:Z6 h=true):(ZY h).length=U0 h:=by
 unfold ZY U0
 rw[if_pos hr]
 split
 ·rfl
 ·simp[YG];omega
theorem Xg {h:Hd}(hr:Z6 h=true):0<=h.1/\h.1<=7:=by
 obtain⟨m,n,o⟩:=h
 cases o<;>simp[Z6,JV]at hr<;>dsimp only<;>omega
theorem Ju {m:Int}{n:Nat}(hr:Z6 (m,n,true)=true):n=0/\JV m=true:=by
 simpa[Z6]using hr
theorem GY (h:Hd)(hr:Z6 h=true)(hn:h.2.1<18446744073709551616)(a c:List UInt8):YH (a++ZY h++c) a.length=(h,a.length+(ZY h).length,0):=by
 obtain⟨m,n,o⟩:=h
 obtain⟨hm0,hm7⟩:=Xg hr
 dsimp only at hn hm0 hm7
 obtain⟨M,rfl⟩:∃ M:Nat,m=(M:Int):=⟨m.toNat,by omega⟩
 have hM:M<=7:=by omega
 unfold YH
 rw[List.append_assoc,List.drop_left]
 cases o with
 | true=>
  obtain⟨rfl,hmay⟩:=Ju hr
  simp only[ZY,if_true,Int.toNat_natCast,List.cons_append,List.nil_append]
  rw[Y8 M 31 hM (by decide)]
  rw[if_neg (by omega),show(32*M+31)/32=M from by omega,if_pos ⟨by omega,hmay⟩]
  rfl
 | false=>
  have hw:ZY ((M:Int),n,false)=Vj M (YB n)::beN n (ZF n):=by simp[ZY]
  rw[hw]
  simp only[List.cons_append]
  rcases Jt n hn with⟨h1,h2,h3⟩ | ⟨h1,h2,h3,h4,h5⟩
  ·rw[Y8 M (YB n) hM (by omega),h3,h2]
   rw[if_pos (by omega),show(32*M+n)/32=M from by omega,show(32*M+n) % 32=n from by omega]
   simp[beN]
  ·rw[Y8 M (YB n) hM (by omega)]
   have e1:(32*M+YB n)/32=M:=by omega
   have e2:(32*M+YB n) % 32=YB n:=by omega
   rw[e1,e2,if_neg (by omega),if_neg (by omega),if_neg (by omega),<- h2]
   rw[if_neg (by rw[List.length_append,YG];omega)]
   rw[List.take_append_of_le_length (by rw[YG];exact Nat.le_refl _),List.take_of_length_le (by rw[YG];exact Nat.le_refl _),TH n _ h5]
   rw[List.length_cons,YG]
   congr 2
   omega
theorem GZ (b:List UInt8)(p:Nat)(h0:(YH b p).2.2=0):Z6 (YH b p).1=true/\(ZY (YH b p).1).length<=(YH b p).2.1-p /\
  ((U0 (YH b p).1=(YH b p).2.1-p) ↔ ZY (YH b p).1=(b.drop p).take ((YH b p).2.1-p)):=by
 have hbd:=IR b p
 obtain⟨h,x,y,hr⟩:∃(h:Hd) (x y:Nat),YH b p=(h,x,y):=⟨_,_,_,rfl⟩
 rw[hr]at h0 hbd ⊢
 dsimp only at h0 hbd ⊢
 subst h0
 have key:∀(hrt:Z6 h=true) (hlen:(ZY h).length<=x-p) (heq:(ZY h).length=x-p->ZY h=(b.drop p).take (x-p)),Z6 h=true/\(ZY h).length<=x-p/\(U0 h=x-p ↔ ZY h=(b.drop p).take (x-p)):=by
  intro hrt hlen heq
  refine⟨hrt,hlen,fun e=>heq (by rw[YN h hrt];exact e),fun e=>?_⟩
  rw[<- YN h hrt,e,List.length_take,List.length_drop]
  have:=hbd.1
  omega
 unfold YH at hr
 split at hr
 ·simp at hr
 ·rename_i c r hd
  have hc:=c.toNat_lt
  have hl:b.length-p=r.length+1:=by
   have:=congrArg List.length hd
   simpa using this
  split at hr
  ·rename_i h1
   simp only[Prod.mk.injEq]at hr
   obtain⟨rfl,rfl,_⟩:=hr
   have hinfo:YB (c.toNat % 32)=c.toNat % 32/\ZF (c.toNat % 32)=0:=by unfold YB ZF;rw[if_pos h1,if_pos h1];exact⟨rfl,rfl⟩
   have hw:ZY (((c.toNat/32:Nat):Int),c.toNat % 32,false)=[c]:=by
    simp only[ZY,Bool.false_eq_true,if_false,Int.toNat_natCast,hinfo.1,hinfo.2]
    congr 1
    apply UInt8.toNat_inj.1
    rw[Y8 _ _ (by omega) (by omega)]
    omega
   refine key (by simp[Z6];omega) (by rw[hw];simp;try omega) fun _=>?_
   rw[hw,hd,show p+1-p=1 from by omega]
   rfl
  split at hr
  ·rename_i h1 h2
   simp only[Prod.mk.injEq]at hr
   obtain⟨rfl,rfl,_⟩:=hr
   have hw:ZY (((c.toNat/32:Nat):Int),0,true)=[c]:=by
    simp only[ZY,if_true,Int.toNat_natCast]
    congr 1
    apply UInt8.toNat_inj.1
    rw[Y8 _ _ (by omega) (by omega)]
    omega
   refine key (by simp[Z6];exact h2.2) (by rw[hw];simp;try omega) fun _=>?_
   rw[hw,hd,show p+1-p=1 from by omega]
   rfl
  split at hr
  ·simp at hr
  split at hr
  ·simp at hr
  ·rename_i h1 h2 h3 h4
   simp only[Prod.mk.injEq]at hr
   obtain⟨rfl,rfl,_⟩:=hr
   obtain⟨K,hK⟩:∃ K,2 ^ (c.toNat % 32-24)=K:=⟨_,rfl⟩
   rw[hK]at h4 hbd key ⊢
   have hK8:K=1/\c.toNat % 32=24\/K=2/\c.toNat % 32=25\/K=4/\c.toNat % 32=26\/K=8/\c.toNat % 32=27:=by
    have hk:c.toNat % 32=24\/c.toNat % 32=25\/c.toNat % 32=26\/c.toNat % 32=27:=by omega
    rcases hk with hk|hk|hk|hk<;>rw[hk]at hK<;>simp at hK<;>omega
   have hlt:=X4 (r.take K)
   rw[List.length_take,Nat.min_eq_left (by omega)]at hlt
   obtain⟨n,hn⟩:∃ n,n=WJ (r.take K):=⟨_,rfl⟩
   rw[<- hn]at hlt key ⊢
   have hfol:ZF n<=K/\(ZF n=K->YB n=c.toNat % 32):=by
    unfold ZF YB
    rcases hK8 with⟨rfl,hk⟩ | ⟨rfl,hk⟩ | ⟨rfl,hk⟩ | ⟨rfl,hk⟩
    all_goals
     rw[hk]
     simp only[Nat.reducePow]at hlt
     refine⟨by(repeat' split)<;>omega,fun e=>by(repeat' split at e)<;>(repeat' split)<;>omega⟩
   have hw:ZY (((c.toNat/32:Nat):Int),n,false)=Vj (c.toNat/32) (YB n)::beN n (ZF n):=by simp only[ZY,Bool.false_eq_true,if_false,Int.toNat_natCast]
   refine key (by simp[Z6];omega) (by rw[hw];simp[YG];omega) fun e=>?_
   rw[hw,List.length_cons,YG]at e
   have hfk:ZF n=K:=by omega
   rw[hw,hfol.2 hfk,hfk,hd,show p+1+K-p=K+1 from by omega,List.take_succ_cons]
   congr 1
   ·apply UInt8.toNat_inj.1
    rw[Y8 _ _ (by omega) (by omega)]
    omega
   ·have:=TI (r.take K)
    rw[List.length_take,Nat.min_eq_left (by omega),<- hn]at this
    exact this
end Go.Proofs.YtchlgagdbflkmaaGreatDoor
end
section
open Go.RowKit Go.Pl
namespace Go.Proofs.YtchlgagdbflkmaaGreatDoor
def inB (c lo hi:Nat):Bool:=decide (lo<=c)&&decide (c<=hi)
def ptN (c:Nat):Nat:=if c<128 then 1 else if inB c 194 223 then 2 else if inB c 224 239 then 3 else if inB c 240 244 then 4 else 0
def Y9 (c:Nat):Nat:=if c=224 then 160 else if c=240 then 144 else 128
def Wa (c:Nat):Nat:=if c=237 then 159 else if c=244 then 143 else 191
def pt:List UInt8->Nat
 | []=>0
 | c::r=>match ptN c.toNat with
  | 1=>1
  | 2=>(match r with|c1::_=>if inB c1.toNat (Y9 c.toNat) (Wa c.toNat) then 2 else 0|_=>0)
  | 3=>(match r with|c1::c2::_=>if inB c1.toNat (Y9 c.toNat) (Wa c.toNat)&&inB c2.toNat 128 191 then 3 else 0|_=>0)
  | 4=>(match r with|c1::c2::c3::_=>if inB c1.toNat (Y9 c.toNat) (Wa c.toNat)&&(inB c2.toNat 128 191&&inB c3.toNat 128 191) then 4 else 0|_=>0)
  | _=>0
def Qg:Nat->List UInt8->Bool
 | _,[]=>true
 | 0,_=>false
 | f+1,c::r=>match pt (c::r) with
  | 0=>false
  | k+1=>Qg f (r.drop k)
def ZI (b:List UInt8):Bool:=Qg b.length b
theorem Xh:∀(f g:Nat) (b:List UInt8),b.length<=f->b.length<=g->Qg f b=Qg g b
 | _,_,[],_,_=>by simp[Qg]
 | 0,_,c::r,h,_=>by simp at h
 | _+1,0,c::r,_,h=>by simp at h
 | f+1,g+1,c::r,h1,h2=>by
  simp only[Qg]
  split
  ·rfl
  ·rename_i k _
   simp at h1 h2
   exact Xh f g _ (by simp;omega) (by simp;omega)
theorem Yz (c:UInt8)(r:List UInt8):ZI (c::r)=match pt (c::r) with|0=>false|k+1=>ZI (r.drop k):=by
 show Qg (r.length+1) (c::r)=_
 rw[Qg]
 split
 ·rfl
 ·exact Xh _ _ _ (by simp) (Nat.le_refl _)
theorem Be (b:List UInt8):pt b<=b.length:=by
 unfold pt
 repeat' split
 all_goals simp
theorem TJ (a b:List UInt8)(h:pt a ≠ 0):pt (a++b)=pt a:=by
 match a with
 | []=>simp[pt]at h
 | [c]=>simp only[pt]at h ⊢;revert h;simp only[List.singleton_append,List.cons_append,List.nil_append];split<;>simp
 | [c,c1]=>simp only[pt]at h ⊢;revert h;simp only[List.cons_append,List.nil_append];split<;>simp
 | [c,c1,c2]=>simp only[pt]at h ⊢;revert h;simp only[List.cons_append,List.nil_append];split<;>simp
 | c::c1::c2::c3::r=>simp only[pt,List.cons_append]
theorem QY:∀(n:Nat) (a b:List UInt8),a.length<=n->ZI a=true->ZI (a++b)=ZI b
 | n,[],b,_,_=>rfl
 | 0,c::r,b,h,_=>by simp at h
 | n+1,c::r,b,h,ha=>by
  rw[Yz]at ha
  have hp:pt (c::r) ≠ 0:=by intro e;rw[e]at ha;simp at ha
  have hl:=Be (c::r)
  rw[List.cons_append,Yz,<- List.cons_append,TJ _ _ hp]
  obtain⟨k,hk⟩:∃ k,pt (c::r)=k+1:=⟨pt (c::r)-1,by omega⟩
  rw[hk]at ha hl ⊢
  simp at h hl ha ⊢
  rw[List.drop_append_of_le_length (by omega)]
  exact QY n _ b (by simp;omega) ha
inductive It where
 | mk (k:Int) (n:Nat) (b:List UInt8) (l:List It)
 deriving Inhabited
def It.k:It->Int | .mk k _ _ _=>k
def It.n:It->Nat | .mk _ n _ _=>n
def It.b:It->List UInt8 | .mk _ _ b _=>b
def It.l:It->List It | .mk _ _ _ l=>l
mutual
def It.beq:It->It->Bool
 | .mk k n b l,.mk k' n' b' l'=>(k==k')&&((n==n')&&((b==b')&&It.beqs l l'))
def It.beqs:List It->List It->Bool
 | [],[]=>true
 | x::l,y::l'=>match It.beq x y with|true=>It.beqs l l' | false=>false
 | _,_=>false
end
mutual
theorem It.beq_iff:∀ {x y:It},It.beq x y=true ↔ x=y
 | .mk k n b l,.mk k' n' b' l'=>by
  simp only[It.beq,Bool.and_eq_true,beq_iff_eq,It.mk.injEq]
  rw[It.beqs_iff]
theorem It.beqs_iff:∀ {l l':List It},It.beqs l l'=true ↔ l=l'
 | [],[]=>by simp[It.beqs]
 | [],y::l'=>by simp[It.beqs]
 | x::l,[]=>by simp[It.beqs]
 | x::l,y::l'=>by
  simp only[It.beqs,List.cons.injEq]
  cases h:It.beq x y with
  | true=>simp only[It.beq_iff.1 h,true_and];exact It.beqs_iff
  | false=>simp only[Bool.false_eq_true,false_iff,not_and];intro e;rw[It.beq_iff.2 e]at h;cases h
end
instance:DecidableEq It:=fun x y=>if h:It.beq x y=true then .isTrue (It.beq_iff.1 h) else .isFalse fun e=>h (It.beq_iff.2 e)
def VT (k:Int)(n:Nat)(b:List UInt8)(l:List It):Bool:=
 if k=0 then b.isEmpty&&l.isEmpty else if k=2 then decide (n=0)&&l.isEmpty else if k=3 then decide (n=0)&&(l.isEmpty&&ZI b) else if k=4 then decide (n=0)&&b.isEmpty else false
mutual
def Wi:It->Nat->Nat->Option Nat
 | .mk k n b l,d,m=>if 6<d then none else if m<1 then none else match VT k n b l with
  | false=>none
  | true=>YC l (d+1) (m-1)
def YC:List It->Nat->Nat->Option Nat
 | [],_,m=>some m
 | y::l,d,m=>match Wi y d m with
  | none=>none
  | some r=>YC l d r
end
def ZS (x:It):Bool:=(Wi x 1 256).isSome
mutual
def wfI:It->Prop
 | .mk _ n b l=>n<18446744073709551616/\b.length<=140737488351232/\l.length<=2199023255488/\wfs l
def wfs:List It->Prop
 | []=>True
 | x::l=>wfI x/\wfs l
end
def It.hn:It->Nat | .mk k n b l=>if k=2 then b.length else if k=3 then b.length else if k=4 then l.length else n
mutual
def ZU:It->List UInt8
 | .mk k n b l=>(if Z6 (k,(It.mk k n b l).hn,false) then ZY (k,(It.mk k n b l).hn,false) else [])++(b++ZQ l)
def ZQ:List It->List UInt8
 | []=>[]
 | x::l=>ZU x++ZQ l
end
abbrev Res (α:Type):=Except Nat α
def rdS:List UInt8->Res (Hd × List UInt8)
 | []=>.error 8
 | c::r=>
  if c.toNat % 32<24 then .ok (((c.toNat/32:Nat),c.toNat % 32,false),r)
  else if c.toNat % 32=31/\JV (c.toNat/32:Nat)=true then .ok (((c.toNat/32:Nat),0,true),r)
  else if 27<c.toNat % 32 then .error 3
  else if r.length<2 ^ (c.toNat % 32-24) then .error 8
  else .ok (((c.toNat/32:Nat),WJ (r.take (2 ^ (c.toNat % 32-24))),false),r.drop (2 ^ (c.toNat % 32-24)))
def WG (h:Hd)(s:List UInt8):Res (List UInt8 × List UInt8):=
 if h.2.1<=s.length then(if h.1=3/\ZI (s.take h.2.1)=false then .error 3 else .ok (s.take h.2.1,s.drop h.2.1)) else .error 8
def QR:List UInt8->Bool
 | c::_=>c==255
 | []=>false
def X6 (m:Int):Nat->List UInt8->List UInt8->Res (List UInt8 × List UInt8)
 | 0,_,_=>.error 99
 | f+1,acc,s=>match QR s with
  | true=>.ok (acc,s.tail)
  | false=>match rdS s with
   | .error e=>.error e
   | .ok (p,r)=>if p.1=m/\p.2.2=false then(match WG p r with
     | .error e=>.error e
     | .ok (c,r2)=>X6 m f (acc++c) r2) else .error 3
def QS (it:Nat->List UInt8->Res (It × List UInt8 × Nat)):Nat->List It->Nat->List UInt8->Res (List It × List UInt8 × Nat)
 | 0,acc,m,s=>.ok (acc,s,m)
 | f+1,acc,m,s=>match it m s with
  | .error e=>.error e
  | .ok (x,r,m')=>QS it f (acc++[x]) m' r
def X7 (it:Nat->List UInt8->Res (It × List UInt8 × Nat)):Nat->List It->Nat->List UInt8->Res (List It × List UInt8 × Nat)
 | 0,_,_,_=>.error 99
 | f+1,acc,m,s=>match QR s with
  | true=>.ok (acc,s.tail,m)
  | false=>match it m s with
   | .error e=>.error e
   | .ok (x,r,m')=>X7 it f (acc++[x]) m' r
def okK (k:Int):Bool:=k==0||(k==2||(k==3||k==4))
def Jv (h:Hd)(r:List UInt8):Res (List UInt8 × List UInt8):=match h.2.2 with
 | true=>X6 h.1 (r.length+1) [] r
 | false=>WG h r
def X8 (it:Nat->List UInt8->Res (It × List UInt8 × Nat))(h:Hd)(m:Nat)(r:List UInt8):Res (List It × List UInt8 × Nat):=match h.2.2 with
 | true=>X7 it (r.length+1) [] m r
 | false=>if h.2.1<=r.length then QS it h.2.1 [] m r else .error 8
def WS (it:Nat->List UInt8->Res (It × List UInt8 × Nat))(h:Hd)(m:Nat)(r:List UInt8):Res (It × List UInt8 × Nat):=
 if h.1=0 then .ok (.mk 0 h.2.1 [] [],r,m)
 else if h.1=4 then(match X8 it h m r with
  | .error e=>.error e
  | .ok (l,r2,m2)=>.ok (.mk 4 0 [] l,r2,m2))
 else match Jv h r with
  | .error e=>.error e
  | .ok (c,r2)=>.ok (.mk h.1 0 c [],r2,m)
def Yc:Nat->Nat->List UInt8->Res (It × List UInt8 × Nat)
 | 0,m,s=>match rdS s with
  | .error e=>.error e
  | .ok (h,r)=>if okK h.1=false then .error 3 else .error 9
 | d+1,m,s=>match rdS s with
  | .error e=>.error e
  | .ok (h,r)=>if okK h.1=false then .error 3 else if m=0 then .error 2 else WS (Yc d) h (m-1) r
def YI (b:List UInt8)(p:Int):It × Nat × Nat:=
 if p<0\/(b.length:Int)<p then(.mk 0 0 [] [],0,1) else match Yc 6 256 (b.drop p.toNat) with
  | .error e=>(.mk 0 0 [] [],0,e)
  | .ok (x,r,_)=>(x,b.length-r.length,0)
def W3 (b:List UInt8):Bool:=match Yc 6 256 b with
 | .error _=>false
 | .ok (x,r,_)=>r.isEmpty&&ZU x==b
end Go.Proofs.YtchlgagdbflkmaaGreatDoor
end
section
open Go.RowKit Go.Pl
namespace Go.Proofs.YtchlgagdbflkmaaGreatDoor
theorem X9 {s r:List UInt8}{h:Hd}(e:rdS s=.ok (h,r)):∃ pre,s=pre++r/\0<pre.length:=by
 cases s with
 | nil=>simp[rdS]at e
 | cons c t=>
  simp only[rdS]at e
  split at e
  ·injection e with e;injection e with e1 e2;subst e2;exact⟨[c],rfl,by simp⟩
  split at e
  ·injection e with e;injection e with e1 e2;subst e2;exact⟨[c],rfl,by simp⟩
  split at e
  ·cases e
  split at e
  ·cases e
  ·injection e with e;injection e with e1 e2;subst e2
   exact⟨c::t.take (2 ^ (c.toNat % 32-24)),by simp,by simp⟩
theorem JW (b:List UInt8)(p:Nat)(hp:p<=b.length):YH b p=match rdS (b.drop p) with
  | .error e=>((0,0,false),0,e)
  | .ok (h,r)=>(h,b.length-r.length,0):=by
 unfold YH
 have hl:(b.drop p).length=b.length-p:=List.length_drop ..
 cases hs:b.drop p with
 | nil=>simp[rdS]
 | cons c r=>
  rw[hs]at hl
  simp at hl
  simp only[rdS]
  by_cases h1:c.toNat % 32<24
  ·simp[h1];omega
  by_cases h2:c.toNat % 32=31/\JV (c.toNat/32:Nat)=true
  ·rw[if_neg h1,if_pos h2,if_neg h1,if_pos h2]
   simp;omega
  by_cases h3:27<c.toNat % 32
  ·rw[if_neg h1,if_neg h2,if_pos h3,if_neg h1,if_neg h2,if_pos h3]
  by_cases h4:r.length<2 ^ (c.toNat % 32-24)
  ·rw[if_neg h1,if_neg h2,if_neg h3,if_pos h4,if_neg h1,if_neg h2,if_neg h3,if_pos h4]
  ·rw[if_neg h1,if_neg h2,if_neg h3,if_neg h4,if_neg h1,if_neg h2,if_neg h3,if_neg h4]
   generalize 2 ^ (c.toNat % 32-24)=k at h4 ⊢
   simp;omega
theorem Oc (h:Hd)(hr:Z6 h=true)(hn:h.2.1<18446744073709551616)(s:List UInt8):rdS (ZY h++s)=.ok (h,s):=by
 have e:=GY h hr hn [] s
 simp only[List.nil_append,List.length_nil,Nat.zero_add]at e
 rw[JW _ 0 (Nat.zero_le _),List.drop_zero]at e
 cases hx:rdS (ZY h++s) with
 | error c => rw [hx] at e; simp at e; have := e.2.1; have := YN h hr; have : 0 < U0 h := by unfold U0; rw [if_pos hr]; split <;> omega
              omega
 | ok y=>
  obtain⟨h',r⟩:=y
  rw[hx]at e
  simp only[Prod.mk.injEq,and_true]at e
  obtain⟨e1,e2⟩:=e
  obtain⟨pre,hp,_⟩:=X9 hx
  have hl:=congrArg List.length hp
  simp at hl e2
  have:pre.length=(ZY h).length:=by omega
  have:=List.append_inj hp this.symm
  rw[<- this.2,e1]
theorem O6 {s r:List UInt8}{h:Hd}(e:rdS s=.ok (h,r)):Z6 h=true/\h.2.1<18446744073709551616/\∃ pre,s=pre++r/\(ZY h).length<=pre.length/\0<pre.length:=by
 have e0:=JW s 0 (Nat.zero_le _)
 rw[List.drop_zero,e]at e0
 dsimp only at e0
 have w:=GZ s 0 (by rw[e0])
 have bd:=IR s 0
 rw[e0]at w bd
 obtain⟨pre,hp,h0⟩:=X9 e
 have hl:=congrArg List.length hp
 simp at hl
 exact⟨w.1,bd.2.1,pre,hp,by have:=w.2.1;dsimp only at this;omega,h0⟩
theorem Lm (h:Hd)(hr:Z6 h=true)(hn:h.2.1<18446744073709551616)(c:Nat)(hc:c<(ZY h).length):rdS ((ZY h).take c)=.error 8:=by
 cases c with
 | zero=>rfl
 | succ c=>
  obtain⟨m,n,o⟩:=h
  obtain⟨hm0,hm7⟩:=Xg hr
  cases o with
  | true=>simp[ZY]at hc
  | false=>
   have hw:ZY (m,n,false)=Vj m.toNat (YB n)::beN n (ZF n):=rfl
   rw[hw]at hc ⊢
   simp only[List.length_cons,YG]at hc
   dsimp only at hm0 hm7 hn
   rw[List.take_succ_cons]
   have hi:=IQ n
   have ht:(Vj m.toNat (YB n)).toNat=32*m.toNat+YB n:=Y8 _ _ (by omega) (by omega)
   rcases Jt n hn with⟨_,hf,_⟩ | ⟨_,hf,h24,h27,_⟩
   ·omega
   ·simp only[rdS,ht]
    have e:(32*m.toNat+YB n) % 32=YB n:=by omega
    rw[e,if_neg (by omega),if_neg (by omega),if_neg (by omega),if_pos]
    rw[List.length_take,YG,<- hf]
    omega
theorem Ka {k:Int}{n:Nat}{b:List UInt8}{l:List It}(h:VT k n b l=true):(k=0/\b=[]/\l=[])\/(k=2/\n=0/\l=[])\/(k=3/\n=0/\l=[]/\ZI b=true)\/(k=4/\n=0/\b=[]):=by
 unfold VT at h
 by_cases h0:k=0
 ·simp[h0]at h;exact .inl ⟨h0,h⟩
 by_cases h2:k=2
 ·simp[h2]at h;exact .inr (.inl ⟨h2,h⟩)
 by_cases h3:k=3
 ·simp[h3]at h;exact .inr (.inr (.inl ⟨h3,h⟩))
 by_cases h4:k=4
 ·simp[h4]at h;exact .inr (.inr (.inr ⟨h4,h⟩))
 ·simp[h0,h2,h3,h4]at h
theorem NW {x:It}(h:0<=x.k/\x.k<=7):0<(ZU x).length:=by
 obtain⟨k,n,b,l⟩:=x
 simp only[It.k]at h
 have hr:Z6 (k,(It.mk k n b l).hn,false)=true:=by simp[Z6];exact h
 rw[ZU,if_pos hr,List.length_append,YN _ hr]
 unfold U0;rw[if_pos hr];simp;omega
theorem Uq {k:Int}{n:Nat}{b:List UInt8}{l:List It}{d m m':Nat}(h:Wi (.mk k n b l) d m=some m'):d<=6/\1<=m/\VT k n b l=true/\YC l (d+1) (m-1)=some m':=by
 rw[Wi]at h
 split at h
 ·cases h
 split at h
 ·cases h
 split at h
 ·cases h
 ·rename_i h3;exact⟨by omega,by omega,h3,h⟩
theorem Xy {k:Int}{n:Nat}{b:List UInt8}{l:List It}(h:VT k n b l=true):0<=k/\k<=7:=by
 rcases Ka h with⟨h,_⟩ | ⟨h,_⟩ | ⟨h,_⟩ | ⟨h,_⟩<;>omega
theorem Vk {x:It}{l:List It}{d m m':Nat}(h:YC (x::l) d m=some m'):∃ m1,Wi x d m=some m1/\YC l d m1=some m':=by
 rw[YC]at h
 split at h
 ·cases h
 ·rename_i m1 h1;exact⟨m1,h1,h⟩
theorem IS:∀ {l:List It} {d m m':Nat},YC l d m=some m'->l.length<=(ZQ l).length
 | [],_,_,_,_=>by simp
 | x::l,d,m,m',h=>by
  obtain⟨m1,h1,h2⟩:=Vk h
  have:=IS h2
  obtain⟨k,n,b,lx⟩:=x
  have:=NW (x:=.mk k n b lx) (Xy (Uq h1).2.2.1)
  rw[ZQ];simp;omega
theorem H1 {k:Int}{n:Nat}{b:List UInt8}{l:List It}(h:VT k n b l=true):okK k=true:=by
 rcases Ka h with⟨h,_⟩ | ⟨h,_⟩ | ⟨h,_⟩ | ⟨h,_⟩<;>subst h<;>rfl
theorem IT {k:Int}{n:Nat}{b:List UInt8}{l:List It}(h:VT k n b l=true)(hw:wfI (.mk k n b l)):Z6 (k,(It.mk k n b l).hn,false)=true/\(It.mk k n b l).hn<18446744073709551616:=by
 refine⟨by simp[Z6];exact Xy h,?_⟩
 obtain⟨h1,h2,h3,_⟩:=hw
 rcases Ka h with⟨h,_⟩ | ⟨h,_⟩ | ⟨h,_⟩ | ⟨h,_⟩<;>subst h<;>simp[It.hn]<;>omega
mutual
theorem Kb:∀(x:It) (d m m':Nat) (r:List UInt8),wfI x->d<=6->Wi x (7-d) m=some m'->Yc d m (ZU x++r)=.ok (x,r,m')
 | .mk k n b l,d,m,m',r,hw,hd,h=>by
  obtain⟨h1,h2,h3,h4⟩:=Uq h
  obtain⟨hr,hn⟩:=IT h3 hw
  obtain⟨d,rfl⟩:∃ e,d=e+1:=⟨d-1,by omega⟩
  have e7:7-(d+1)+1=7-d:=by omega
  rw[e7]at h4
  rw[ZU,if_pos hr,List.append_assoc,Yc,Oc _ hr hn]
  dsimp only
  rw[H1 h3,if_neg (by simp),if_neg (by omega)]
  obtain⟨w1,w2,w3,w4⟩:=hw
  rcases Ka h3 with⟨rfl,rfl,rfl⟩ | ⟨rfl,rfl,rfl⟩ | ⟨rfl,rfl,rfl,hv⟩ | ⟨rfl,rfl,rfl⟩
  ·simp only[YC,Option.some.injEq]at h4
   simp[WS,ZQ,It.hn,h4]
  ·simp only[YC,Option.some.injEq]at h4
   simp[WS,ZQ,It.hn,Jv,WG,h4]
  ·simp only[YC,Option.some.injEq]at h4
   simp[WS,ZQ,It.hn,Jv,WG,h4,hv]
  ·have hl:=IS h4
   have hq:=IU l d (m-1) m' [] r w4 (by omega) h4
   show WS (Yc d) (4,l.length,false) (m-1) ([]++ZQ l++r)=_
   rw[WS,if_neg (by simp),if_pos rfl]
   simp only[X8,List.nil_append]
   rw[if_pos (by rw[List.length_append];omega),hq]
   rfl
theorem IU:∀(l:List It) (d m m':Nat) (acc:List It) (r:List UInt8),wfs l->d<=6->YC l (7-d) m=some m'->QS (Yc d) l.length acc m (ZQ l++r)=.ok (acc++l,r,m')
 | [],d,m,m',acc,r,_,_,h=>by
  simp only[YC,Option.some.injEq]at h
  simp[QS,ZQ,h]
 | x::l,d,m,m',acc,r,hw,hd,h=>by
  obtain⟨m1,h1,h2⟩:=Vk h
  rw[ZQ,List.append_assoc,List.length_cons,QS,Kb x d m m1 _ hw.1 hd h1]
  dsimp only
  rw[IU l d m1 m' (acc++[x]) r hw.2 hd h2]
  simp
end
mutual
theorem NX:∀(x:It) (d m m' c:Nat),wfI x->d<=6->Wi x (7-d) m=some m'->c<(ZU x).length->Yc d m ((ZU x).take c)=.error 8
 | .mk k n b l,d,m,m',c,hw,hd,h,hc=>by
  obtain⟨h1,h2,h3,h4⟩:=Uq h
  obtain⟨hr,hn⟩:=IT h3 hw
  obtain⟨d,rfl⟩:∃ e,d=e+1:=⟨d-1,by omega⟩
  have e7:7-(d+1)+1=7-d:=by omega
  rw[e7]at h4
  rw[ZU,if_pos hr]at hc ⊢
  rw[Yc]
  rcases Nat.lt_or_ge c (ZY (k,(It.mk k n b l).hn,false)).length with hlt|hge
  ·rw[List.take_append_of_le_length (by omega),Lm _ hr hn _ hlt]
  ·rw[List.take_append,List.take_of_length_le hge,Oc _ hr hn]
   dsimp only
   rw[H1 h3,if_neg (by simp),if_neg (by omega)]
   obtain⟨w1,w2,w3,w4⟩:=hw
   generalize hc':c-(ZY (k,(It.mk k n b l).hn,false)).length=c'
   have hlt:c'<(b++ZQ l).length:=by rw[List.length_append]at hc;omega
   rcases Ka h3 with⟨rfl,rfl,rfl⟩ | ⟨rfl,rfl,rfl⟩ | ⟨rfl,rfl,rfl,hv⟩ | ⟨rfl,rfl,rfl⟩
   ·simp[ZQ]at hlt
   ·simp[ZQ]at hlt
    show WS (Yc d) (2,b.length,false) (m-1) ((b++[]).take c')=_
    have hx:¬ b.length<=min c' b.length:=by omega
    simp[WS,Jv,WG,List.length_take,hx]
   ·simp[ZQ]at hlt
    show WS (Yc d) (3,b.length,false) (m-1) ((b++[]).take c')=_
    have hx:¬ b.length<=min c' b.length:=by omega
    simp[WS,Jv,WG,List.length_take,hx]
   ·simp only[List.nil_append]at hlt
    have hq:=IV l d (m-1) m' c' [] w4 (by omega) h4 hlt
    show WS (Yc d) (4,l.length,false) (m-1) (([]++ZQ l).take c')=_
    rw[WS,if_neg (by simp),if_pos rfl]
    simp only[X8,List.nil_append]
    by_cases hx:l.length<=((ZQ l).take c').length
    ·rw[if_pos hx,hq]
    ·rw[if_neg hx]
theorem IV:∀(l:List It) (d m m' c:Nat) (acc:List It),wfs l->d<=6->YC l (7-d) m=some m'->c<(ZQ l).length->QS (Yc d) l.length acc m ((ZQ l).take c)=.error 8
 | [],d,m,m',c,acc,_,_,h,hc=>by simp[ZQ]at hc
 | x::l,d,m,m',c,acc,hw,hd,h,hc=>by
  obtain⟨m1,h1,h2⟩:=Vk h
  rw[ZQ]at hc ⊢
  rw[List.length_cons,QS]
  rcases Nat.lt_or_ge c (ZU x).length with hlt|hge
  ·rw[List.take_append_of_le_length (by omega),NX x d m m1 c hw.1 hd h1 hlt]
  ·rw[List.take_append,List.take_of_length_le hge,Kb x d m m1 _ hw.1 hd h1]
   dsimp only
   exact IV l d m1 m' _ _ hw.2 hd h2 (by rw[List.length_append]at hc;omega)
end
theorem JX {h:Hd}{s c r:List UInt8}(e:WG h s=.ok (c,r)):s=c++r/\c.length=h.2.1/\(h.1=3->ZI c=true):=by
 unfold WG at e
 split at e
 ·split at e
  ·cases e
  ·rename_i h1 h2
   injection e with e;injection e with e1 e2
   subst e1 e2
   refine⟨by simp,by simp;omega,fun h3=>?_⟩
   simpa[h3]using h2
 ·cases e
theorem Lo (a b:Nat)(h:a+b<4294967296):ZF (a+b)<=ZF a+ZF b+2:=by
 unfold ZF
 repeat' split
 all_goals omega
theorem H2 {m:Int}:∀(f:Nat) (acc s c r:List UInt8),X6 m f acc s=.ok (c,r)->(m=3->ZI acc=true)->∃(pre d:List UInt8) (q:Nat),s=pre++r/\c=acc++d/\(m=3->ZI c=true)/\pre.length=1+d.length+q /\
  (s.length<4294967296->ZF d.length<=1+q/\(d=[]\/ZF d.length+1<=q\/2<=q))
 | 0,_,_,_,_,h,_=>by simp[X6]at h
 | f+1,acc,s,c,r,h,ha=>by
  rw[X6]at h
  cases he:QR s with
  | true=>
   rw[he]at h
   injection h with h;injection h with h1 h2;subst h1 h2
   obtain⟨x,t,rfl⟩:∃ x t,s=x::t:=by cases s with|nil=>simp[QR]at he|cons x t=>exact⟨x,t,rfl⟩
   exact⟨[x],[],0,rfl,by simp,ha,by simp,fun _=>⟨by simp[ZF],.inl rfl⟩⟩
  | false=>
   rw[he]at h
   dsimp only at h
   cases hr:rdS s with
   | error e=>rw[hr]at h;cases h
   | ok y=>
    obtain⟨p,t⟩:=y
    rw[hr]at h
    dsimp only at h
    obtain⟨k1,k2,pre,k3,k4,k5⟩:=O6 hr
    by_cases hp:p.1=m/\p.2.2=false
    ·rw[if_pos hp]at h
     cases hc:WG p t with
     | error e=>rw[hc]at h;cases h
     | ok y=>
      obtain⟨c1,r2⟩:=y
      rw[hc]at h
      dsimp only at h
      obtain⟨q1,q2,q3⟩:=JX hc
      have hv:m=3->ZI (acc++c1)=true:=fun h3=>by
       rw[QY _ _ _ (Nat.le_refl _) (ha h3)]
       exact q3 (hp.1.trans h3)
      obtain⟨pre2,d2,q,e1,e2,e3,e4,e5⟩:=H2 f _ _ _ _ h hv
      have hw:(ZY p).length=1+ZF c1.length:=by
       rw[YN p k1];unfold U0;rw[if_pos k1,hp.2,<- q2];simp
      refine⟨pre++(c1++pre2),c1++d2,pre.length+q,by rw[k3,q1,e1];simp,by rw[e2];simp,e3,by simp;omega,fun hl=>?_⟩
      have hlen:=congrArg List.length k3
      have hlen2:=congrArg List.length q1
      have hlen3:=congrArg List.length e1
      simp only[List.length_append]at hlen hlen2 hlen3 ⊢
      obtain⟨f1,f2⟩:=e5 (by omega)
      have hadd:=Lo c1.length d2.length (by omega)
      have h4:ZF (c1.length+d2.length)<=4:=by
       unfold ZF
       repeat' split
       all_goals omega
      have hz:d2=[]->ZF (c1.length+d2.length)=ZF c1.length:=fun e=>by rw[e];rfl
      rcases f2 with e|f2|f2
      ·rw[hz e];omega
      ·omega
      ·omega
    ·rw[if_neg hp]at h;cases h
theorem Qh (s:List UInt8)(h:QR s=true):∃ x,s=x::s.tail:=by
 cases s with
 | nil=>simp[QR]at h
 | cons x t=>exact⟨x,rfl⟩
def NY (it:Nat->List UInt8->Res (It × List UInt8 × Nat))(D:Nat):Prop:=∀(m:Nat) (s:List UInt8) (x:It) (r:List UInt8) (m':Nat),it m s=.ok (x,r,m')->s.length<=140737488351232/\m<=256->Wi x D m=some m'/\wfI x/\∃ pre,s=pre++r/\0<pre.length/\(m<=256/\s.length<4294967296->(ZU x).length<=pre.length)/\(ZU x).length+8*m'<=pre.length+8*m
mutual
theorem Ur:∀ {x:It} {d m m':Nat},Wi x d m=some m'->m'+1<=m
 | .mk k n b l,d,m,m',h=>by
  obtain⟨_,h2,_,h4⟩:=Uq h
  have:=Jw h4
  omega
theorem Jw:∀ {l:List It} {d m m':Nat},YC l d m=some m'->m'+l.length<=m
 | [],d,m,m',h=>by simp only[YC,Option.some.injEq]at h;simp[h]
 | x::l,d,m,m',h=>by
  obtain⟨m1,h1,h2⟩:=Vk h
  have:=Ur h1
  have:=Jw h2
  simp;omega
end
theorem Q6:∀ {l:List It} {x:It} {D m m1 m2:Nat},YC l D m=some m1->Wi x D m1=some m2->YC (l++[x]) D m=some m2
 | [],x,D,m,m1,m2,h1,h2=>by
  simp only[YC,Option.some.injEq]at h1
  subst h1
  simp[YC,h2]
 | y::l,x,D,m,m1,m2,h1,h2=>by
  obtain⟨m3,h3,h4⟩:=Vk h1
  rw[List.cons_append,YC,h3]
  exact Q6 h4 h2
theorem Kc:∀ {l:List It} {x:It},wfs l->wfI x->wfs (l++[x])
 | [],x,_,h=>⟨h,trivial⟩
 | y::l,x,⟨h1,h2⟩,h=>⟨h1,Kc h2 h⟩
theorem Qi:∀(l l':List It),ZQ (l++l')=ZQ l++ZQ l'
 | [],l'=>rfl
 | x::l,l'=>by rw[List.cons_append,ZQ,ZQ,Qi l l',List.append_assoc]
theorem H3 {it:Nat->List UInt8->Res (It × List UInt8 × Nat)}{D:Nat}(hit:NY it D):∀(f:Nat) (acc:List It) (m0 m:Nat) (s:List UInt8) (l:List It) (r:List UInt8) (m':Nat),QS it f acc m s=.ok (l,r,m')->s.length<=140737488351232/\m<=256->YC acc D m0=some m->wfs acc ->
  YC l D m0=some m'/\wfs l/\l.length=acc.length+f/\∃ pre,s=pre++r/\(m<=256/\s.length<4294967296->(ZQ l).length<=(ZQ acc).length+pre.length)/\(ZQ l).length+8*m'<=(ZQ acc).length+pre.length+8*m
 | 0,acc,m0,m,s,l,r,m',h,hs,ha,hw=>by
  rw[QS]at h
  injection h with h;injection h with h1 h2;injection h2 with h2 h3
  subst h1 h2 h3
  exact⟨ha,hw,rfl,[],rfl,fun _=>by simp,by simp⟩
 | f+1,acc,m0,m,s,l,r,m',h,hs,ha,hw=>by
  rw[QS]at h
  cases hx:it m s with
  | error e=>rw[hx]at h;cases h
  | ok y=>
   obtain⟨x,r1,m1⟩:=y
   rw[hx]at h
   dsimp only at h
   obtain⟨k1,k2,pre,k3,k4,k5,k6⟩:=hit _ _ _ _ _ hx hs
   have hl:=congrArg List.length k3
   rw[List.length_append]at hl
   have hlt:=Ur k1
   obtain⟨q1,q2,q3,pre2,q4,q5,q6⟩:=H3 hit f _ m0 _ _ _ _ _ h (by omega) (Q6 ha k1) (Kc hw k2)
   rw[Qi]at q5 q6
   simp only[ZQ,List.append_nil,List.length_append]at q5 q6
   refine⟨q1,q2,by rw[q3];simp;omega,pre++pre2,by rw[k3,q4];simp,fun h4=>?_,by rw[List.length_append];omega⟩
   have:=q5 (by omega)
   have:=k5 h4
   rw[List.length_append]
   omega
theorem H4 {it:Nat->List UInt8->Res (It × List UInt8 × Nat)}{D:Nat}(hit:NY it D):∀(f:Nat) (acc:List It) (m0 m:Nat) (s:List UInt8) (l:List It) (r:List UInt8) (m':Nat),X7 it f acc m s=.ok (l,r,m')->s.length<=140737488351232/\m<=256->YC acc D m0=some m->wfs acc ->
  YC l D m0=some m'/\wfs l/\acc.length<=l.length/\∃ pre,s=pre++r/\l.length+1<=acc.length+pre.length/\(m<=256/\s.length<4294967296->(ZQ l).length+1<=(ZQ acc).length+pre.length)/\(ZQ l).length+8*m'<=(ZQ acc).length+pre.length+8*m
 | 0,acc,m0,m,s,l,r,m',h,hs,ha,hw=>by rw[X7]at h;cases h
 | f+1,acc,m0,m,s,l,r,m',h,hs,ha,hw=>by
  rw[X7]at h
  cases he:QR s with
  | true=>
   rw[he]at h
   injection h with h;injection h with h1 h2;injection h2 with h2 h3
   subst h1 h2 h3
   obtain⟨x,hx⟩:=Qh s he
   exact⟨ha,hw,Nat.le_refl _,[x],hx,by simp,fun _=>by simp,by simp⟩
  | false=>
   rw[he]at h
   dsimp only at h
   cases hx:it m s with
   | error e=>rw[hx]at h;cases h
   | ok y=>
    obtain⟨x,r1,m1⟩:=y
    rw[hx]at h
    dsimp only at h
    obtain⟨k1,k2,pre,k3,k4,k5,k6⟩:=hit _ _ _ _ _ hx hs
    have hl:=congrArg List.length k3
    rw[List.length_append]at hl
    have hlt:=Ur k1
    obtain⟨q1,q2,q3,pre2,q4,q5,q6,q7⟩:=H4 hit f _ m0 _ _ _ _ _ h (by omega) (Q6 ha k1) (Kc hw k2)
    rw[Qi]at q6 q7
    simp only[ZQ,List.append_nil,List.length_append]at q6 q7
    refine⟨q1,q2,by simp at q3;omega,pre++pre2,by rw[k3,q4];simp,by simp at q5 ⊢;omega,fun h4=>?_,by rw[List.length_append];omega⟩
    have:=q6 (by omega)
    have:=k5 h4
    rw[List.length_append]
    omega
theorem WK {k:Int}{n:Nat}{b:List UInt8}{l:List It}(hr:Z6 (k,(It.mk k n b l).hn,false)=true):(ZU (.mk k n b l)).length=1+ZF (It.mk k n b l).hn+(b.length+(ZQ l).length):=by
 rw[ZU,if_pos hr]
 simp only[List.length_append]
 rw[YN _ hr]
 unfold U0;rw[if_pos hr];simp
theorem IW (a:Nat):ZF a<=8:=by
 unfold ZF
 repeat' split
 all_goals omega
theorem QH {h:Hd}(hr:Z6 h=true)(ho:h.2.2=false):(ZY h).length=1+ZF h.2.1:=by
 rw[YN h hr];unfold U0;rw[if_pos hr,ho];rfl
theorem Od {k:Int}(h:okK k=true):k=0\/k=2\/k=3\/k=4:=by
 simpa[okK]using h
theorem Jx:∀(d:Nat),d<=6->NY (Yc d) (7-d)
 | 0,_=>fun m s x r m' h hs=>by
  rw[Yc]at h
  cases hr:rdS s with
  | error e=>rw[hr]at h;cases h
  | ok y=>obtain⟨hd,t⟩:=y;rw[hr]at h;dsimp only at h;split at h<;>cases h
 | d+1,hd=>fun m s x r m' h hs=>by
  rw[Yc]at h
  cases hr:rdS s with
  | error e=>rw[hr]at h;cases h
  | ok y=>
   obtain⟨⟨k,n,o⟩,t⟩:=y
   rw[hr]at h
   dsimp only at h
   obtain⟨k1,k2,pre,k3,k4,k5⟩:=O6 hr
   dsimp only at k2
   have hlen:=congrArg List.length k3
   rw[List.length_append]at hlen
   cases hk:okK k with
   | false=>rw[hk,if_pos rfl]at h;cases h
   | true=>
    rw[hk,if_neg (by simp)]at h
    by_cases hm:m=0
    ·rw[if_pos hm]at h;cases h
    ·rw[if_neg hm]at h
     have hwk:∀(k:Int) (n:Nat) (b:List UInt8) (l:List It),VT k n b l=true->YC l (7-d) (m-1)=some m'->Wi (.mk k n b l) (7-(d+1)) m=some m':=fun k n b l ho hl=>by
      rw[Wi,if_neg (by omega),if_neg (by omega),ho,show 7-(d+1)+1=7-d by omega]
      exact hl
     have hr0:∀(k:Int) (n:Nat) (b:List UInt8) (l:List It),VT k n b l=true->Z6 (k,(It.mk k n b l).hn,false)=true:=fun k n b l ho=>by
      have:=Xy ho
      simp[Z6];exact this
     unfold WS at h
     dsimp only at h
     by_cases h0:k=0
     ·subst h0
      rw[if_pos rfl]at h
      injection h with h;injection h with h1 h2;injection h2 with h2 h3
      subst h1 h2 h3
      have ho:VT 0 n [] []=true:=rfl
      have hf8:=IW n
      refine⟨hwk _ _ _ _ ho (by simp[YC]),⟨k2,by simp,by simp,trivial⟩,pre,k3,k5,fun _=>?_,by rw[WK (hr0 _ _ _ _ ho)];simp only[It.hn,ZQ,List.length_nil];simp;omega⟩
      rw[WK (hr0 _ _ _ _ ho)]
      have hof:o=false:=by cases o with
       | false=>rfl
       | true=>have:=(Ju k1).2;simp[JV]at this
      subst hof
      have:=QH k1 rfl
      simp[It.hn,ZQ]at this ⊢
      omega
     rw[if_neg h0]at h
     by_cases h4:k=4
     ·subst h4
      rw[if_pos rfl]at h
      cases hl:X8 (Yc d) (4,n,o) (m-1) t with
      | error e=>rw[hl]at h;cases h
      | ok y=>
       obtain⟨l,r2,m2⟩:=y
       rw[hl]at h
       dsimp only at h
       injection h with h;injection h with h1 h2;injection h2 with h2 h3
       subst h1 h2 h3
       have ho:VT 4 0 [] l=true:=rfl
       have hR:=Jx d (by omega)
       unfold X8 at hl
       dsimp only at hl
       cases o with
       | true=>
        dsimp only at hl
        obtain⟨q1,q2,q3,pre2,q4,q5,q6,q7⟩:=H4 hR _ _ (m-1) _ _ _ _ _ hl (by omega) rfl trivial
        have hl2:=congrArg List.length q4
        rw[List.length_append]at hl2
        simp at q5
        have hc:=Jw q1
        have hf8:=IW l.length
        simp only[ZQ,List.length_nil,Nat.zero_add]at q7
        refine⟨hwk _ _ _ _ ho q1,⟨by omega,by simp,by omega,q2⟩,pre++pre2,by rw[k3,q4];simp,by simp;omega,fun h4=>?_,by rw[WK (hr0 _ _ _ _ ho)];simp[It.hn];omega⟩
        have:=q6 (by omega)
        rw[WK (hr0 _ _ _ _ ho)]
        have hf:ZF l.length<=1:=by
         unfold ZF
         repeat' split
         all_goals omega
        simp[It.hn,ZQ]at this ⊢
        omega
       | false=>
        dsimp only at hl
        split at hl
        ·obtain⟨q1,q2,q3,pre2,q4,q5,q7⟩:=H3 hR _ _ (m-1) _ _ _ _ _ hl (by omega) rfl trivial
         have hl2:=congrArg List.length q4
         rw[List.length_append]at hl2
         simp at q3
         have hc:=Jw q1
         have hf8:=IW l.length
         simp only[ZQ,List.length_nil,Nat.zero_add]at q7
         refine⟨hwk _ _ _ _ ho q1,⟨by omega,by simp,by omega,q2⟩,pre++pre2,by rw[k3,q4];simp,by simp;omega,fun h4=>?_,by rw[WK (hr0 _ _ _ _ ho)];simp[It.hn];omega⟩
         have:=q5 (by omega)
         rw[WK (hr0 _ _ _ _ ho)]
         have:=QH k1 rfl
         simp[It.hn,ZQ,q3]at this ⊢
         simp[ZQ]at *
         omega
        ·cases hl
     ·rw[if_neg h4]at h
      cases hl:Jv (k,n,o) t with
      | error e=>rw[hl]at h;cases h
      | ok y=>
       obtain⟨c,r2⟩:=y
       rw[hl]at h
       dsimp only at h
       injection h with h;injection h with h1 h2;injection h2 with h2 h3
       subst h1 h2 h3
       have hk':k=2\/k=3:=by rcases Od hk with h|h|h|h<;>simp_all
       have hhn:(It.mk k 0 c []).hn=c.length:=by rcases hk' with rfl|rfl<;>rfl
       have ho:(k=3->ZI c=true)->VT k 0 c []=true:=fun hv=>by
        rcases hk' with rfl|rfl
        ·rfl
        ·simp[VT,hv]
       unfold Jv at hl
       dsimp only at hl
       cases o with
       | true=>
        dsimp only at hl
        obtain⟨pre2,d2,q,e1,e2,e3,e4,e5⟩:=H2 _ _ _ _ _ hl (fun _=>rfl)
        simp only[List.nil_append]at e2
        subst e2
        have hl2:=congrArg List.length e1
        rw[List.length_append]at hl2
        have hf8:=IW c.length
        refine⟨hwk _ _ _ _ (ho e3) rfl,⟨by omega,by omega,by simp,trivial⟩,pre++pre2,by rw[k3,e1];simp,by simp;omega,fun h4=>?_,by rw[WK (hr0 _ _ _ _ (ho e3)),hhn];simp[ZQ];omega⟩
        have:=e5 (by omega)
        rw[WK (hr0 _ _ _ _ (ho e3)),hhn]
        simp[ZQ]
        omega
       | false=>
        dsimp only at hl
        obtain⟨q1,q2,q3⟩:=JX hl
        dsimp only at q2 q3
        have hl2:=congrArg List.length q1
        rw[List.length_append]at hl2
        have hf8:=IW c.length
        refine⟨hwk _ _ _ _ (ho q3) rfl,⟨by omega,by omega,by simp,trivial⟩,pre++c,by rw[k3,q1];simp,by simp;omega,fun h4=>?_,by rw[WK (hr0 _ _ _ _ (ho q3)),hhn];simp[ZQ];omega⟩
        rw[WK (hr0 _ _ _ _ (ho q3)),hhn]
        have:=QH k1 rfl
        dsimp only at this
        have e:ZF c.length=ZF n:=by rw[q2]
        simp[ZQ]
        omega
end Go.Proofs.YtchlgagdbflkmaaGreatDoor
end

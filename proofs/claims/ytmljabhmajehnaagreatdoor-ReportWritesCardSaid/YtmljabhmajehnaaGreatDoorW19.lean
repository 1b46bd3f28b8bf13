/- The document's numbers and first blocks: which may be. -/
import Derived.Test.YtmljabhmajehnaaGreatDoorW18
import Derived.Lib.ItoaNum
import Derived.Test.YtmljabhmajehnaaGreatDoorW16
import Derived.Test.YtmljabhmajehnaaGreatDoorW09
import Derived.Lib.ParseIntBCases
import Derived.Test.YtmljabhmajehnaaGreatDoorW12
set_option linter.unusedVariables false
set_option linter.unusedSimpArgs false
section
open Go.RowKit Go.Pl Go.Av
namespace Go.Proofs.YtmljabhmajehnaaGreatDoor
set_option maxHeartbeats 4000000
theorem XP [Known](x:EidV)(t q:Nat)(hx:Fit x):AP Tryz.prog 74 [.agg (iC x t q)] (.bool (Yo x t q)) []:=by
 have hK:=W9 x hx
 have hg:=Xm x
 unfold Yo
 rw[<- hg]
 generalize Y4 x=κ at *
 clear hg hx
 obtain⟨xi,xn,xs,xh,xd⟩:=x
 cases t1:decide (κ ≥ 0)<;>cases t2:decide ((t:Int)<=1099511627776)<;>cases t3:decide ((q:Int)<=1099511627776)
 all_goals
  refine AP.ofA (Zl Tryz.func74 Z Tryz.ntmps74 Z Z ?_)
  repeat'(first|(apply Zb (hK);kernel_rfl;(iterate 4 exact Z))|(apply Zi Za;exact Z)|(apply Zf Za;exact Z)|refine Ze Z Z Z Qt ?_|refine Zt Z Z Z Qt ?_|refine Zj Z Qt Z Z ?_|refine Zh Z Qt Z Z ?_)
  all_goals(apply Zq [];(apply Zc Za;exact Z);(iterate 4 exact Z))
  all_goals first|rfl|(rw[t3];rfl)
theorem NA {n:Nat}(h:0<n/10):Lib.decDigits n=Lib.decDigits (n/10)++[UInt8.ofNat (48+n % 10)]:=by
 rw[Lib.decDigits,dif_neg (by omega)]
theorem Iq {n:Nat}(h:n/10=0):Lib.decDigits n=[UInt8.ofNat (48+n % 10)]:=by
 rw[Lib.decDigits,dif_pos (by omega),Nat.mod_eq_of_lt (by omega)]
theorem NB {k:Nat}(h:k<10):(UInt8.ofNat (48+k)).toNat=48+k:=by
 rw[UInt8.toNat_ofNat'];omega
theorem Gv:∀(k u:Nat),u<10 ^ (k+1)->(Lib.decDigits u).length<=k+1
 | 0,u,h=>by rw[Lib.decDigits,dif_pos (by simpa using h)];simp
 | k+1,u,h=>by
  rw[Lib.decDigits]
  by_cases h1:u<10
  ·rw[dif_pos h1];simp
  ·rw[dif_neg h1,List.length_append]
   have:=Gv k (u/10) (by rw[Nat.pow_succ]at h;omega)
   simp;omega
theorem KM [Known](N:Nat)(hN:N<18446744073709551616):AP Tryz.prog 193 [.int .u64 (N:Int)] (.str (Lib.decDigits N)) []:=by
 refine AP.ofA (Zl Tryz.func193 Z Tryz.ntmps193 Z Z ?_)
 repeat'(first|(apply Zf Za;exact Z))
 refine ZQ (fun k tm bx fr=>∃(n:Nat) (out:List UInt8),k=n+(if out=[] then 1 else 0)/\n<=N/\((out=[]/\n=N)\/(out ≠ []/\(if n=0 then out=Lib.decDigits N else Lib.decDigits n++out=Lib.decDigits N)))/\tm=[(0,.int .u64 (n:Int)),(2,.str []),(3,.str out)]/\bx=[]/\fr=[]) (N+2) (Lands.mk' (m:=N+1) (by omega) ⟨N,[],by simp,Nat.le_refl _,.inl ⟨rfl,rfl⟩,rfl,rfl,rfl⟩ ?_ rfl rfl rfl rfl rfl rfl) ?_
 ·exact .cons rfl (.cons rfl (.cons rfl .nil))
 rintro k tm bx fr ⟨n,out,hk,hn,hI,rfl,rfl,rfl⟩
 have hol:out.length<=20:=by
  have hd:=Gv 19 N (by omega)
  rcases hI with⟨rfl,_⟩ | ⟨_,h⟩
  ·simp
  ·split at h
   ·rw[h];exact hd
   ·rw[<- h,List.length_append]at hd;omega
 have e0:IntKind.u8.wrap (IntKind.u64.wrap (48+((n:Int)).tmod 10))=((UInt8.ofNat (48+n % 10)).toNat:Int):=by
  have hm:((n:Int)).tmod 10=((n % 10:Nat):Int):=by rw[Int.tmod_eq_emod_of_nonneg (by omega)];omega
  rw[hm,IntWalk.u64_in _ (by omega),NB (by omega),IntWalk.u8_in _ (by omega)];omega
 have e1:((n:Int)).tdiv 10=((n/10:Nat):Int):=by rw[Int.tdiv_eq_ediv_of_nonneg (by omega)];omega
 have e2:IntKind.u64.wrap ((n/10:Nat):Int)=((n/10:Nat):Int):=IntWalk.u64_in _ (by omega)
 have l1:[UInt8.ofNat (48+n % 10)].length+out.length<=maxLen:=by simp;unfold maxLen;omega
 have hgo:((out=[]/\n=N)\/(out ≠ []/\0<n/\Lib.decDigits n++out=Lib.decDigits N))->(if n/10=0 then [UInt8.ofNat (48+n % 10)]++out=Lib.decDigits N else Lib.decDigits (n/10)++([UInt8.ofNat (48+n % 10)]++out)=Lib.decDigits N):=fun h=>by
  have hh:Lib.decDigits n++out=Lib.decDigits N:=by
   rcases h with⟨rfl,rfl⟩ | ⟨_,_,h⟩
   ·simp
   ·exact h
  split
  ·rename_i h1;rw[<- hh,Iq h1]
  ·rename_i h1;rw[<- hh,NA (n:=n) (by omega),List.append_assoc]
 rcases Nat.eq_zero_or_pos n with h0|h0
 ·subst h0
  have t1:decide (((0:Nat):Int)>0)=false:=by decide
  cases out with
  | nil=>
   repeat'(first|rw[e0]|rw[e2]|rw[e1]|refine WC Za Z (show _=[UInt8.ofNat (48+0 % 10)].map E.byte from rfl) Z Z Z Z Z Z Z ?_|refine UM Z Z l1 Z ?_|(apply Zi Za;exact Z)|(apply Zf Za;exact Z)|(apply Zp Za;exact Z)|refine Ze Z Z Z Qt ?_|refine Zh Z Qt Z Z ?_|refine Zd Z Qt ?_|refine Yc ?_|refine UE Za Z Z Z Z Z Z Z Z Z Z Z Z ?_|(apply Xs;exact Z;exact Z;(first|exact Qt|rotate_left);exact Z)|(apply Xt;exact Z;exact Z;(first|exact Qt|rotate_left);exact Z))
   refine Lands.mk' (m:=0) (by simp at hk;omega) ⟨0,[UInt8.ofNat (48+0 % 10)]++[],by simp,by omega,.inr ⟨by simp,?_⟩,rfl,rfl,rfl⟩ ?_ rfl rfl rfl rfl rfl rfl
   ·rw[if_pos rfl]
    rcases hI with⟨_,rfl⟩ | ⟨h,_⟩
    ·rw[Iq (by omega)];rfl
    ·exact absurd rfl h
   ·exact .cons rfl (.cons rfl (.cons rfl .nil))
  | cons c r=>
   have t2:(c::r==[])=false:=by simp
   have hR:c::r=Lib.decDigits N:=by
    rcases hI with⟨h,_⟩ | ⟨_,h⟩
    ·cases h
    ·exact h
   repeat'(first|(apply Zi Za;exact Z)|(apply Zf Za;exact Z)|(apply Zp Za;exact Z)|refine Ze Z Z Z Qt ?_|refine Zh Z Qt Z Z ?_|refine Zg Z Qt ?_)
   all_goals(apply Zq [];(apply Zc Za;exact Z);(iterate 4 exact Z))
   all_goals first|rfl|(rw[hR];done)|(rw[<- hR];rfl)
 ·have t1:decide ((n:Int)>0)=true:=decide_eq_true (by omega)
  have hx:=hgo (by
   rcases hI with h|⟨h,h2⟩
   ·exact .inl h
   ·rw[if_neg (by omega)]at h2;exact .inr ⟨h,h0,h2⟩)
  repeat'(first|rw[e0]|rw[e2]|rw[e1]|refine WC Za Z (show _=[UInt8.ofNat (48+n % 10)].map E.byte from rfl) Z Z Z Z Z Z Z ?_|refine UM Z Z l1 Z ?_|(apply Zi Za;exact Z)|(apply Zf Za;exact Z)|(apply Zp Za;exact Z)|refine Zn Z Z Z Qt ?_|refine Zj Z Qt Z Z ?_|refine Zd Z Qt ?_|refine Yc ?_|refine UE Za Z Z Z Z Z Z Z Z Z Z Z Z ?_|(apply Xs;exact Z;exact Z;(first|exact Qt|rotate_left);exact Z)|(apply Xt;exact Z;exact Z;(first|exact Qt|rotate_left);exact Z))
  refine Lands.mk' (m:=n/10) (by omega) ⟨n/10,[UInt8.ofNat (48+n % 10)]++out,by simp,by omega,.inr ⟨by simp,hx⟩,rfl,rfl,rfl⟩ ?_ rfl rfl rfl rfl rfl rfl
  exact .cons rfl (.cons rfl (.cons rfl .nil))
def isD (c:UInt8):Bool:=decide ((c.toNat:Int) ≥ 48)&&decide ((c.toNat:Int)<=57)
def Wb:Nat->Nat->List UInt8->Nat × Nat
 | 0,a,_=>(a,0)
 | f+1,a,[]=>(a,0)
 | f+1,a,c::r=>if isD c then((Wb f (10*a+(c.toNat-48)) r).1,(Wb f (10*a+(c.toNat-48)) r).2+1) else(a,0)
theorem Xn {c:UInt8}:isD c=true ↔ 48<=c.toNat/\c.toNat<=57:=by
 simp only[isD,Bool.and_eq_true,decide_eq_true_eq];omega
def Wn (c:UInt8):List UInt8->List UInt8 × List UInt8 × Bool
 | []=>([],[],false)
 | x::s=>if x=c then([],s,true) else(x::(Wn c s).1,(Wn c s).2.1,(Wn c s).2.2)
theorem Hp {c:UInt8}:∀ {s:List UInt8},c ∉ s->Wn c s=(s,[],false)
 | [],_=>rfl
 | x::s,h=>by
  have h1:¬ x=c:=fun e=>h (by rw[e];exact List.mem_cons_self ..)
  have h2:=Hp (c:=c) (s:=s) fun hm=>h (List.mem_cons_of_mem _ hm)
  rw[Wn,if_neg h1,h2]
theorem VK {c:UInt8}:∀ {a b:List UInt8},c ∉ a->Wn c (a++c::b)=(a,b,true)
 | [],b,_=>by rw[List.nil_append,Wn,if_pos rfl]
 | x::a,b,h=>by
  have h1:¬ x=c:=fun e=>h (by rw[e];exact List.mem_cons_self ..)
  have h2:=VK (c:=c) (a:=a) (b:=b) fun hm=>h (List.mem_cons_of_mem _ hm)
  rw[List.cons_append,Wn,if_neg h1,h2]
theorem Ql {c:UInt8}:∀ {s:List UInt8},(Wn c s).2.2=true->s=(Wn c s).1++c::(Wn c s).2.1
 | [],h=>by rw[Wn]at h;cases h
 | x::s,h=>by
  rw[Wn]at h ⊢
  by_cases e:x=c
  ·rw[if_pos e];rw[e];rfl
  ·rw[if_neg e]at h ⊢
   have:=Ql (c:=c) (s:=s) h
   dsimp only
   rw[List.cons_append,<- this]
def WF (p s:List UInt8):List UInt8 × Bool:=if s.take p.length==p then(s.drop p.length,true) else(s,false)
theorem UX (p r:List UInt8):WF p (p++r)=(r,true):=by
 unfold WF
 rw[List.take_left,beq_self_eq_true,if_pos rfl,List.drop_left]
theorem Hq {p s:List UInt8}(h:(s.take p.length==p)=false):WF p s=(s,false):=by
 unfold WF;rw[h];rfl
theorem Qm {p s:List UInt8}(h:(WF p s).2=true):s=p++(WF p s).1:=by
 unfold WF at h ⊢
 split at h
 ·rename_i hp
  rw[if_pos hp]
  have:=beq_iff_eq.1 hp
  conv=>lhs;rw[<- List.take_append_drop p.length s,this]
 ·cases h
def ppV (s:List UInt8):EidV × Bool:=
 (⟨false,0,0,(Wn 47 (WF [47,47] s).1).1,(Wn 47 (WF [47,47] s).1).2.1⟩,(WF [47,47] s).2&&((Wn 47 (WF [47,47] s).1).2.2&&((Wn 47 (WF [47,47] s).1).1 != []&&ZM ⟨false,0,0,(Wn 47 (WF [47,47] s).1).1,(Wn 47 (WF [47,47] s).1).2.1⟩)))
def VU:List UInt8:=[100,116,110,58,110,111,110,101]
def WR:List UInt8:=[105,112,110,58]
def V1:List UInt8:=[100,116,110,58]
theorem WS {x:EidV}:isZ x=true ↔ x=Ye:=by
 obtain⟨i,n,s,h,d⟩:=x
 simp only[isZ,Ye,Bool.and_eq_true,beq_iff_eq,EidV.mk.injEq]
 constructor
 ·rintro⟨h1,h2,h3,h4,h5,_⟩
  exact⟨h1,by omega,by omega,h4,h5⟩
 ·rintro⟨h1,h2,h3,h4,h5⟩
  exact⟨h1,by omega,by omega,h4,h5,trivial⟩
theorem QL {m:Nat}{c:UInt8}{l:List UInt8}(hl:l.all (okB m)=true)(h:okB m c=false):c ∉ l:=fun hm=>by
 have:=List.all_eq_true.1 hl c hm
 rw[h]at this;cases this
def YR (x:EidV):List UInt8:=[47,47]++x.h++[47]++x.d
theorem Wf {x:EidV}(h:ZM x=true)(hz:isZ x=false)(hi:x.i=true):x.n<=4294967295/\x.s<=4294967295/\x.h=[]/\x.d=[]/\1<=x.n:=by
 rw[XK hz hi]at h
 simp only[Bool.and_eq_true,decide_eq_true_eq,beq_iff_eq]at h
 obtain⟨⟨⟨⟨_,_,_,h1,h2,_⟩,h3⟩,h4⟩,h5⟩:=h
 exact⟨by omega,by omega,h1,h2,by omega⟩
theorem YS {x:EidV}(h:ZM x=true)(hz:isZ x=false)(hi:x.i=false):x.n=0/\x.s=0/\1<=x.h.length/\x.h.length<=16/\x.d.length<=24/\x.h.all (okB 45)=true/\x.d.all (okB 47)=true:=by
 rw[XL hz hi]at h
 simp only[Bool.and_eq_true,decide_eq_true_eq,beq_iff_eq]at h
 obtain⟨⟨⟨⟨⟨⟨_,h1,h2,_⟩,h3⟩,h4⟩,h5⟩,h6⟩,h7⟩:=h
 exact⟨by omega,by omega,by omega,by omega,by omega,h6,h7⟩
theorem MT [Known](x:EidV)(h1:x.h.length<=16)(h2:x.d.length<=24):AP Tryz.prog 135 [.agg (eC x)] (.str (YR x)) []:=by
 have l1:[(47:UInt8),47].length+x.h.length<=maxLen:=by simp;unfold maxLen;omega
 have l2:([(47:UInt8),47]++x.h).length + [(47:UInt8)].length<=maxLen:=by simp;unfold maxLen;omega
 have l3:([(47:UInt8),47]++x.h++[47]).length+x.d.length<=maxLen:=by simp;unfold maxLen;omega
 refine AP.ofA (Zl Tryz.func135 Z Tryz.ntmps135 Z Z ?_)
 repeat'(first|(apply UM;exact Z;exact Z;(first|exact l1|exact l2|exact l3);exact Z)|(apply Zi Za;exact Z)|(apply Zf Za;exact Z))
 all_goals exact Qe
theorem Hr (n:Nat)(hn:n<18446744073709551616):(Lib.decDigits n).length<=20:=by
 rw[Lib.decDigits_length]
 rcases Nat.eq_zero_or_pos n with rfl|h
 ·rw[Lib.nDigits_small (by omega)];omega
 ·have:=Lib.numDigits_eq n h hn;split at this<;>omega
def Wr (x:EidV):List UInt8:=
 if isZ x then [100,116,110,58,110,111,110,101]
 else if x.i then [105,112,110,58]++Lib.decDigits x.n++[46]++Lib.decDigits x.s
 else [100,116,110,58]++YR x
def puN (s:List UInt8):Nat:=match Lib.parseUintB 32 s with
 | .ok u=>u
 | .range=>4294967295
 | _=>0
def puB (s:List UInt8):Bool:=match Lib.parseUintB 32 s with
 | .ok _=>true
 | _=>false
theorem Hs {M:Nat}:∀ {l r:List UInt8} {acc v:Nat},Lib.parseUintM M acc l=.ok v->Lib.parseUintM M acc (l++r)=Lib.parseUintM M v r
 | [],r,acc,v,h=>by
  rw[Lib.parseUintM]at h
  injection h with h
  rw[List.nil_append,h]
 | c::l,r,acc,v,h=>by
  rw[Lib.parseUintM]at h
  rw[List.cons_append,Lib.parseUintM]
  split at h
  ·rename_i h1
   rw[if_pos h1]
   split at h
   ·cases h
   ·rename_i h2
    rw[if_neg h2]
    split at h
    ·cases h
    ·rename_i h3
     rw[if_neg h3]
     exact Hs h
  ·cases h
theorem Qn {k:Nat}(h:k<10):(UInt8.ofNat (48+k)).toNat=48+k:=by
 rw[UInt8.toNat_ofNat'];omega
theorem MU:∀(u:Nat),u<=4294967295->Lib.parseUintM 4294967295 0 (Lib.decDigits u)=.ok u:=by
 intro u
 induction u using Nat.strongRecOn with
 | _ u ih=>
  intro hu
  rw[Lib.decDigits]
  by_cases h:u<10
  ·rw[dif_pos h,Lib.parseUintM,Qn h,if_pos (by omega),if_neg (by omega),if_neg (by omega),Lib.parseUintM]
   congr 1;omega
  ·rw[dif_neg h,Hs (ih (u/10) (by omega) (by omega)),Lib.parseUintM,Qn (by omega),if_pos (by omega),if_neg (by omega),if_neg (by omega),Lib.parseUintM]
   congr 1;omega
theorem LV (u:Nat):Lib.decDigits u ≠ []:=by
 intro h
 have:=congrArg List.length h
 rw[Lib.decDigits_length]at this
 have:=Lib.nDigits_pos u
 simp at *;omega
theorem Oy {u:Nat}(h:u<=4294967295):puN (Lib.decDigits u)=u/\puB (Lib.decDigits u)=true:=by
 have e:Lib.parseUintB 32 (Lib.decDigits u)=.ok u:=by
  unfold Lib.parseUintB
  rw[if_neg (LV u)]
  exact MU u h
 unfold puN puB
 rw[e]
 exact⟨rfl,rfl⟩
theorem KN:∀(u:Nat) (c:UInt8),c ∈ Lib.decDigits u->48<=c.toNat/\c.toNat<=57:=by
 intro u
 induction u using Nat.strongRecOn with
 | _ u ih=>
  intro c hc
  rw[Lib.decDigits]at hc
  by_cases h:u<10
  ·rw[dif_pos h]at hc
   rw[List.mem_singleton]at hc
   subst hc
   have:=Qn h
   rw[this];omega
  ·rw[dif_neg h]at hc
   rcases List.mem_append.1 hc with hc|hc
   ·exact ih (u/10) (by omega) c hc
   ·rw[List.mem_singleton]at hc
    subst hc
    have:=Qn (k:=u % 10) (by omega)
    rw[this];omega
def pnV (s:List UInt8):EidV × Bool:=
 (⟨true,puN (Wn 46 s).1,puN (Wn 46 s).2.1,[],[]⟩,(Wn 46 s).2.2&&(puB (Wn 46 s).1&&(puB (Wn 46 s).2.1&&(ZM ⟨true,puN (Wn 46 s).1,puN (Wn 46 s).2.1,[],[]⟩&&(Lib.decDigits (puN (Wn 46 s).1)==(Wn 46 s).1&&Lib.decDigits (puN (Wn 46 s).2.1)==(Wn 46 s).2.1)))))
def Z3 (s:List UInt8):EidV × Bool:=
 if s==VU then(Ye,true)
 else if(WF WR s).2 then pnV (WF WR s).1
 else if(WF V1 s).2 then ppV (WF V1 s).1
 else(Ye,false)
theorem W6 {s:List UInt8}(h:(Z3 s).2=true):ZM (Z3 s).1=true/\Wr (Z3 s).1=s:=by
 unfold Z3 at h ⊢
 by_cases h0:(s==VU)=true
 ·rw[if_pos h0]
  refine⟨by decide,?_⟩
  rw[beq_iff_eq.1 h0];decide
 rw[if_neg h0]at h ⊢
 by_cases h1:(WF WR s).2=true
 ·rw[if_pos h1]at h ⊢
  have e1:=Qm h1
  generalize (WF WR s).1=r at *
  unfold pnV at h ⊢
  dsimp only at h ⊢
  simp only[Bool.and_eq_true,beq_iff_eq]at h
  obtain⟨h2,h3,h4,h5,h6,h7⟩:=h
  refine⟨h5,?_⟩
  unfold Wr
  rw[if_neg (by simp[isZ]),if_pos rfl,h6,h7,e1]
  have:=Ql h2
  conv=>rhs;rw[this]
  simp[WR]
 rw[if_neg h1]at h ⊢
 by_cases h2:(WF V1 s).2=true
 ·rw[if_pos h2]at h ⊢
  have e1:=Qm h2
  generalize (WF V1 s).1=r at *
  unfold ppV at h ⊢
  dsimp only at h ⊢
  simp only[Bool.and_eq_true,bne_iff_ne]at h
  obtain⟨h3,h4,h5,h6⟩:=h
  have e2:=Qm h3
  generalize (WF [47,47] r).1=q at *
  refine⟨h6,?_⟩
  unfold Wr
  rw[if_neg (by rw[WS];intro e;exact h5 (congrArg EidV.h e)),if_neg (by simp),e1,e2]
  have:=Ql h4
  conv=>rhs;rw[this]
  simp[YR,V1]
 ·rw[if_neg h2]at h;cases h
theorem Ir {c:UInt8}(h:c.toNat<48\/57<c.toNat)(u:Nat):c ∉ Lib.decDigits u:=fun hm=>by
 have:=KN u c hm
 omega
theorem QM {x:EidV}(h:ZM x=true):Z3 (Wr x)=(x,true):=by
 unfold Wr
 cases hz:isZ x with
 | true=>
  rw[if_pos rfl]
  rw[WS.1 hz]
  decide
 | false=>
  rw[if_neg (by simp)]
  cases hi:x.i with
  | true=>
   obtain⟨b1,b2,b3,b4,b5⟩:=Wf h hz hi
   rw[if_pos rfl]
   have e1:[105,112,110,58]++Lib.decDigits x.n++[46]++Lib.decDigits x.s=WR++(Lib.decDigits x.n++46::Lib.decDigits x.s):=by simp[WR]
   rw[e1]
   unfold Z3
   have e2:(WR++(Lib.decDigits x.n++46::Lib.decDigits x.s)==VU)=false:=by simp[WR,VU]
   rw[e2,UX,if_neg (by simp),if_pos rfl]
   unfold pnV
   dsimp only
   rw[VK (Ir (by decide) x.n)]
   dsimp only
   rw[(Oy b1).1,(Oy b1).2,(Oy b2).1,(Oy b2).2]
   have ex:(⟨true,x.n,x.s,[],[]⟩:EidV)=x:=by
    obtain⟨i,n,s,hh,d⟩:=x
    simp only at hi b3 b4
    rw[hi,b3,b4]
   rw[ex,h]
   simp
  | false=>
   obtain⟨b1,b2,b3,b4,b5,b6,b7⟩:=YS h hz hi
   rw[if_neg (by simp)]
   have e1:[100,116,110,58]++YR x=V1++([47,47]++(x.h++47::x.d)):=by simp[YR,V1]
   rw[e1]
   unfold Z3
   have e2:(V1++([47,47]++(x.h++47::x.d))==VU)=false:=by simp[V1,VU]
   have e3:WF WR (V1++([47,47]++(x.h++47::x.d)))=(V1++([47,47]++(x.h++47::x.d)),false):=Hq (by simp[V1,WR])
   rw[e2,e3,UX,if_neg (by simp),if_neg (by simp),if_pos rfl]
   unfold ppV
   rw[UX]
   dsimp only
   rw[VK (QL b6 (by decide))]
   dsimp only
   have ex:(⟨false,0,0,x.h,x.d⟩:EidV)=x:=by
    obtain⟨i,n,s,hh,d⟩:=x
    simp only at hi b1 b2
    rw[hi,b1,b2]
   rw[ex,h]
   have:(x.h != [])=true:=by
    rw[bne_iff_ne]
    intro e
    rw[e]at b3
    simp at b3
   rw[this]
   rfl
theorem Is:∀(l r:List UInt8) (f a:Nat),l.all isD=true->l.length<=f->Wb f a (l++r)=((Wb (f-l.length) (l.foldl (fun a c=>10*a+(c.toNat-48)) a) r).1,(Wb (f-l.length) (l.foldl (fun a c=>10*a+(c.toNat-48)) a) r).2+l.length)
 | [],r,f,a,_,_=>by simp
 | c::l,r,0,a,_,h=>by simp at h
 | c::l,r,f+1,a,ha,h=>by
  rw[List.all_cons,Bool.and_eq_true]at ha
  rw[List.cons_append,Wb,if_pos ha.1,Is l r f _ ha.2 (by simpa using h),List.foldl_cons]
  simp[Nat.add_assoc]
theorem MV (u:Nat):(Lib.decDigits u).all isD=true:=List.all_eq_true.2 fun c hc=>Xn.2 (KN u c hc)
theorem NC:∀ u:Nat,(Lib.decDigits u).foldl (fun a c=>10*a+(c.toNat-48)) 0=u:=by
 intro u
 induction u using Nat.strongRecOn with
 | _ u ih=>
  rw[Lib.decDigits]
  by_cases h:u<10
  ·rw[dif_pos h,List.foldl_cons,List.foldl_nil,Qn h];omega
  ·rw[dif_neg h,List.foldl_append,ih (u/10) (by omega),List.foldl_cons,List.foldl_nil,Qn (by omega)];omega
theorem Iu {u:Nat}(hu:u<=4294967295)(r:List UInt8)(hr:∀ c t,r=c::t->isD c=false):Wb 11 0 (Lib.decDigits u++r)=(u,(Lib.decDigits u).length):=by
 have hl:=Gv 9 u (by omega)
 rw[Is _ _ _ _ (MV u) (by omega),NC]
 have e:∀ f,Wb f u r=(u,0):=fun f=>by
  match f,r,hr with
  | 0,r,_=>rfl
  | f+1,[],_=>rfl
  | f+1,c::t,hr=>rw[Wb,hr c t rfl];rfl
 rw[e]
 simp
def J6 (r:List UInt8):EidV:=⟨true,(Wb 11 0 r).1,if 4+(Wb 11 0 r).2<4+r.length then(Wb 11 0 (r.drop ((Wb 11 0 r).2+1))).1 else 0,[],[]⟩
theorem Xo:Wr Ye=VU:=by decide
theorem QN {y:EidV}(h:ZM y=true)(hz:isZ y=false):(y.i=true/\Wr y=WR++(Lib.decDigits y.n++46::Lib.decDigits y.s)/\y.n<=4294967295/\y.s<=4294967295/\y.h=[]/\y.d=[])\/(y.i=false/\Wr y=[100,116,110,58,47,47]++(y.h++47::y.d)/\y.n=0/\y.s=0/\y.h ≠ []/\(47:UInt8) ∉ y.h):=by
 cases hi:y.i with
 | true=>
  obtain⟨b1,b2,b3,b4,b5⟩:=Wf h hz hi
  refine .inl ⟨rfl,?_,b1,b2,b3,b4⟩
  unfold Wr
  rw[hz,if_neg (by simp),hi,if_pos rfl]
  simp[WR]
 | false=>
  obtain⟨b1,b2,b3,b4,b5,b6,b7⟩:=YS h hz hi
  refine .inr ⟨rfl,?_,b1,b2,fun e=>(by rw[e]at b3;simp at b3),QL b6 (by decide)⟩
  unfold Wr
  rw[hz,if_neg (by simp),hi,if_neg (by simp)]
  simp[YR]
theorem ND {r:List UInt8}(h:(Z3 (WR++r)).2=true):J6 r=(Z3 (WR++r)).1:=by
 obtain⟨h1,h2⟩:=W6 h
 generalize (Z3 (WR++r)).1=y at *
 cases hz:isZ y with
 | true=>rw[WS.1 hz,Xo]at h2;exact absurd h2 (by simp[VU,WR])
 | false=>
  rcases QN h1 hz with⟨hi,ht,b1,b2,b3,b4⟩ | ⟨hi,ht,b⟩
  ·rw[ht]at h2
   have hr:r=Lib.decDigits y.n++46::Lib.decDigits y.s:=(List.append_cancel_left h2).symm
   have e1:=Iu b1 (46::Lib.decDigits y.s) (fun c t hc=>by cases hc;decide)
   have e2:=Iu b2 [] (fun c t hc=>by cases hc)
   rw[List.append_nil]at e2
   unfold J6
   rw[hr,e1]
   have e3:(Lib.decDigits y.n++46::Lib.decDigits y.s).drop ((Lib.decDigits y.n).length+1)=Lib.decDigits y.s:=by
    rw[List.drop_append,List.drop_of_length_le (by omega)];simp
   dsimp only
   rw[e3,e2,if_pos (by simp)]
   obtain⟨i,n,s,hh,dd⟩:=y
   simp only at hi b3 b4
   rw[hi,b3,b4]
  ·rw[ht]at h2;exact absurd h2 (by simp[WR])
theorem NE {h d:List UInt8}(hn:(47:UInt8) ∉ h)(hp:(Z3 ([100,116,110,58,47,47]++(h++47::d))).2=true):(⟨false,0,0,h,d⟩:EidV)=(Z3 ([100,116,110,58,47,47]++(h++47::d))).1:=by
 obtain⟨h1,h2⟩:=W6 hp
 generalize (Z3 ([100,116,110,58,47,47]++(h++47::d))).1=y at *
 cases hz:isZ y with
 | true=>rw[WS.1 hz,Xo]at h2;exact absurd h2 (by simp[VU])
 | false=>
  rcases QN h1 hz with⟨hi,ht,b⟩ | ⟨hi,ht,b1,b2,b3,b4⟩
  ·rw[ht]at h2;exact absurd h2 (by simp[WR])
  ·rw[ht]at h2
   have e:=List.append_cancel_left h2
   have e1:=VK (b:=y.d) b4
   rw[e,VK hn]at e1
   obtain⟨i,n,s,hh,dd⟩:=y
   simp only[Prod.mk.injEq,and_true]at e1
   simp only at hi b1 b2
   rw[e1.1,e1.2,hi,b1,b2]
theorem Iv {s:List UInt8}(h0:s ≠ VU)(h1:∀ r,r ≠ []->s ≠ WR++r)(h2:∀ h d,(47:UInt8) ∉ h->s ≠ [100,116,110,58,47,47]++(h++47::d)):(Z3 s).2=false:=by
 cases hp:(Z3 s).2 with
 | false=>rfl
 | true=>
  obtain⟨k1,k2⟩:=W6 hp
  generalize (Z3 s).1=y at *
  cases hz:isZ y with
  | true=>rw[WS.1 hz,Xo]at k2;exact absurd k2.symm h0
  | false=>
   rcases QN k1 hz with⟨hi,ht,b⟩ | ⟨hi,ht,b1,b2,b3,b4⟩
   ·exact absurd (k2.symm.trans ht) (h1 _ (by intro e;have:=congrArg List.length e;simp at this))
   ·exact absurd (k2.symm.trans ht) (h2 _ _ b4)
abbrev QO (s:List UInt8):D:=.tup [.agg (eC (match(Z3 s).2 with|true=>(Z3 s).1|false=>Ye)),.bool (Z3 s).2]
theorem Ub {s:List UInt8}(h:(Z3 s).2=false):QO s=.tup [.agg (eC Ye),.bool false]:=by unfold QO;rw[h]
theorem XQ {s:List UInt8}{y:EidV}(h:Z3 s=(y,true)):QO s=.tup [.agg (eC y),.bool true]:=by unfold QO;rw[h]
theorem LW {s:List UInt8}{c:EidV}(h0:s ≠ VU)(hc:(Z3 s).2=true->c=(Z3 s).1)(hk:decide (Y4 c<1)=true):(Z3 s).2=false:=by
 cases hp:(Z3 s).2 with
 | false=>rfl
 | true=>
  obtain⟨k1,k2⟩:=W6 hp
  rw[<- hc hp]at k1 k2
  rw[Ox,k1]at hk
  simp only[Bool.not_true,Bool.false_or]at hk
  rw[WS.1 hk,Xo]at k2
  exact absurd k2.symm h0
theorem LX {s:List UInt8}{c:EidV}(hc:(Z3 s).2=true->c=(Z3 s).1)(ht:(Wr c != s)=true):(Z3 s).2=false:=by
 cases hp:(Z3 s).2 with
 | false=>rfl
 | true=>
  obtain⟨k1,k2⟩:=W6 hp
  rw[<- hc hp]at k2
  rw[bne_iff_ne]at ht
  exact absurd k2 ht
theorem LY {s:List UInt8}{c:EidV}(hk:decide (Y4 c<1)=false)(ht:(Wr c != s)=false):Z3 s=(c,true):=by
 rw[Ox]at hk
 simp only[Bool.or_eq_false_iff,Bool.not_eq_false']at hk
 have e:Wr c=s:=by simpa using ht
 rw[<- e,QM hk.1]
theorem Uc {x:EidV}(h:ZM x=true):Fit x:=by
 cases hz:isZ x with
 | true=>rw[WS.1 hz];exact⟨by decide,by decide⟩
 | false=>
  cases hi:x.i with
  | true=>
   obtain⟨_,_,h1,h2,_⟩:=Wf h hz hi
   unfold Fit;rw[h1,h2];exact⟨by decide,by decide⟩
  | false=>
   obtain⟨_,_,_,h1,h2,_⟩:=YS h hz hi
   exact⟨by omega,by omega⟩
theorem NF {x:EidV}(h:isZ x=true):Y4 x=0:=by rw[WS.1 h];decide
theorem NG {x:EidV}(h:ZM x=true)(hi:x.i=true):Y4 x=1:=by unfold Y4;rw[hi,h];rfl
theorem NH {x:EidV}(h:ZM x=true)(hz:isZ x=false)(hi:x.i=false):Y4 x=2:=by unfold Y4;rw[hi,hz,h];rfl
theorem QP [Known](x:EidV)(h:ZM x=true):AP Tryz.prog 179 [.agg (eC x)] (.str (Wr x)) []:=by
 have hK:=W9 x (Uc h)
 unfold Wr
 cases hz:isZ x with
 | true=>
  rw[NF hz]at hK
  rw[if_pos rfl]
  refine AP.ofA (Zl Tryz.func179 Z Tryz.ntmps179 Z Z ?_)
  repeat'(first|(apply Zb (hK);kernel_rfl;(iterate 4 exact Z))|(apply Zi Za;exact Z)|(apply Zf Za;exact Z)|(apply Zp Za;exact Z)|refine Zd Z Qt ?_)
  all_goals exact Qe
 | false=>
  rw[if_neg (by simp)]
  cases hi:x.i with
  | true=>
   obtain⟨b1,b2,_⟩:=Wf h hz hi
   rw[NG h hi]at hK
   rw[if_pos rfl]
   have d1:=Hr x.n (by omega)
   have d2:=Hr x.s (by omega)
   have hD1:=KM x.n (by omega)
   have hD2:=KM x.s (by omega)
   have l1:[(105:UInt8),112,110,58].length+(Lib.decDigits x.n).length<=maxLen:=by simp;unfold maxLen;omega
   have l2:([(105:UInt8),112,110,58]++Lib.decDigits x.n).length + [(46:UInt8)].length<=maxLen:=by simp;unfold maxLen;omega
   have l3:([(105:UInt8),112,110,58]++Lib.decDigits x.n++[46]).length+(Lib.decDigits x.s).length<=maxLen:=by simp;unfold maxLen;omega
   refine AP.ofA (Zl Tryz.func179 Z Tryz.ntmps179 Z Z ?_)
   repeat'(first|(apply Zb (hK);kernel_rfl;(iterate 4 exact Z))|(apply Zb (hD1);kernel_rfl;(iterate 4 exact Z))|(apply Zb (hD2);kernel_rfl;(iterate 4 exact Z))|(apply UM;exact Z;exact Z;(first|exact l1|exact l2|exact l3);exact Z)|(apply Zi Za;exact Z)|(apply Zf Za;exact Z)|refine Zd Z Qt ?_|refine Zg Z Qt ?_|(apply ZP 8 ZD;decide +kernel;kernel_rfl;kernel_rfl;exact Z;exact Z)|(apply ZZ;(iterate 3 exact Z))|refine AD.nil _|exact Ym rfl)
   all_goals exact Qe
  | false=>
   obtain⟨_,_,_,b1,b2,_⟩:=YS h hz hi
   rw[NH h hz hi]at hK
   rw[if_neg (by simp)]
   have l1:[(100:UInt8),116,110,58,47,47].length+x.h.length<=maxLen:=by simp;unfold maxLen;omega
   have l2:([(100:UInt8),116,110,58,47,47]++x.h).length + [(47:UInt8)].length<=maxLen:=by simp;unfold maxLen;omega
   have l3:([(100:UInt8),116,110,58,47,47]++x.h++[47]).length+x.d.length<=maxLen:=by simp;unfold maxLen;omega
   refine AP.ofA (Zl Tryz.func179 Z Tryz.ntmps179 Z Z ?_)
   repeat'(first|(apply Zb (hK);kernel_rfl;(iterate 4 exact Z))|(apply UM;exact Z;exact Z;(first|exact l1|exact l2|exact l3);exact Z)|(apply Zi Za;exact Z)|(apply Zf Za;exact Z)|refine Zg Z Qt ?_)
   all_goals exact Qe
def Z1 (x:EidV):It:=
 if isZ x then .mk 4 0 [] [.mk 0 1 [] [],.mk 0 0 [] []]
 else if x.i then .mk 4 0 [] [.mk 0 2 [] [],.mk 4 0 [] [.mk 0 x.n [] [],.mk 0 x.s [] []]]
 else .mk 4 0 [] [.mk 0 1 [] [],.mk 3 0 (YR x) []]
theorem JJ [Known](x:EidV):AP Tryz.prog 99 [.agg (eC x)] (.tup [itD (if ZM x then Z1 x else .mk 0 0 [] []),.int .i64 (if ZM x then 0 else 3)]) []:=by
 have hR:=Vz x
 cases hr:ZM x with
 | false=>
  rw[hr]at hR
  refine AP.ofA (Zl Tryz.func99 Z Tryz.ntmps99 Z Z ?_)
  repeat'(first|(apply Zb (hR);kernel_rfl;(iterate 4 exact Z))|(apply Zi Za;exact Z)|(apply Zf Za;exact Z)|(apply Zp Za;exact Z)|refine Zd Z Qt ?_)
  all_goals exact Qe
 | true=>
  rw[hr]at hR
  rw[if_pos rfl,if_pos rfl]
  unfold Z1
  cases hz:isZ x with
  | true=>
   rw[if_pos rfl]
   have n1:=YF 1
   have n0:=YF 0
   have hL:=W8 [.mk 0 1 [] [],.mk 0 0 [] []] (by decide) (by simp[wfI,wfs])
   replace n1:AP Tryz.prog _ [.int .u64 1] (.agg [.int .i64 0,.int .u64 1,.sl .ext [],.sl .ext []]) []:=n1
   replace n0:AP Tryz.prog _ [.int .u64 0] (.agg [.int .i64 0,.int .u64 0,.sl .ext [],.sl .ext []]) []:=n0
   unfold isZ at hz
   refine AP.ofA (Zl Tryz.func99 Z Tryz.ntmps99 Z Z ?_)
   repeat'(first|(apply Zb (hR);kernel_rfl;(iterate 4 exact Z))|(apply Zb (n1);kernel_rfl;(iterate 4 exact Z))|(apply Zb (n0);kernel_rfl;(iterate 4 exact Z))|(apply Zb (hL);kernel_rfl;(iterate 4 exact Z))|(apply Zi Za;exact Z)|(apply Zf Za;exact Z)|(apply Zp Za;exact Z)|refine Zd Z Qt ?_|refine Zg Z Qt ?_|refine ZR Za Z Z Z Z Z Z Z Z Z Z Z Z ?_|refine Vl Za Z Z Z Z Qk Qk Z Z Z ?_)
   all_goals exact Qe
  | false=>
   rw[if_neg (by simp)]
   cases hi:x.i with
   | true=>
    obtain⟨b1,b2,_⟩:=Wf hr hz hi
    rw[if_pos rfl]
    have n2:=YF 2
    have nn:=YF x.n
    have ns:=YF x.s
    have hL1:=W8 [.mk 0 x.n [] [],.mk 0 x.s [] []] (by simp) (by simp[wfI,wfs];omega)
    have hL:=W8 [.mk 0 2 [] [],.mk 4 0 [] [.mk 0 x.n [] [],.mk 0 x.s [] []]] (by simp) (by simp[wfI,wfs];omega)
    replace n2:AP Tryz.prog _ [.int .u64 2] (.agg [.int .i64 0,.int .u64 2,.sl .ext [],.sl .ext []]) []:=n2
    replace nn:AP Tryz.prog _ [.int .u64 (x.n:Int)] (.agg [.int .i64 0,.int .u64 (x.n:Int),.sl .ext [],.sl .ext []]) []:=nn
    replace ns:AP Tryz.prog _ [.int .u64 (x.s:Int)] (.agg [.int .i64 0,.int .u64 (x.s:Int),.sl .ext [],.sl .ext []]) []:=ns
    replace hL1:AP Tryz.prog _ _ (.agg [.int .i64 4,.int .u64 0,.sl .ext [],.sl .ext [.agg [.int .i64 0,.int .u64 (x.n:Int),.sl [],.sl []],.agg [.int .i64 0,.int .u64 (x.s:Int),.sl [],.sl []]]]) []:=hL1
    unfold isZ at hz
    refine AP.ofA (Zl Tryz.func99 Z Tryz.ntmps99 Z Z ?_)
    repeat'(first|(apply Zb (hR);kernel_rfl;(iterate 4 exact Z))|(apply Zb (n2);kernel_rfl;(iterate 4 exact Z))|(apply Zb (nn);kernel_rfl;(iterate 4 exact Z))|(apply Zb (ns);kernel_rfl;(iterate 4 exact Z))|(apply Zb (hL1);kernel_rfl;(iterate 4 exact Z))|(apply Zb (hL);kernel_rfl;(iterate 4 exact Z))|(apply Zi Za;exact Z)|(apply Zf Za;exact Z)|(apply Zp Za;exact Z)|refine Zd Z Qt ?_|refine Zg Z Qt ?_|refine ZR Za Z Z Z Z Z Z Z Z Z Z Z Z ?_|refine Vl Za Z Z Z Z Qk Qk Z Z Z ?_|(apply Zo 6 ZD;decide +kernel;kernel_rfl;kernel_rfl;kernel_rfl;exact Z;exact Z)|(apply Zs;(iterate 4 exact Z))|exact AE.nil _ _ _ _|(apply Zw;exact Z)|(apply Zz;exact Z;exact Z;decide +kernel;exact Z)|(apply ZA;exact Z)|exact AO.nil _ _ _|(apply Zr;(decide +kernel))|exact AOs.nil|exact ZF rfl rfl)
    all_goals exact Qe
   | false=>
    obtain⟨_,_,_,b1,b2,_⟩:=YS hr hz hi
    rw[if_neg (by simp)]
    have n1:=YF 1
    have hP:=MT x b1 b2
    have hT:=MI (YR x)
    have hpl:(YR x).length<=1099511627776:=by unfold YR;simp;omega
    generalize YR x=p at *
    have hL:=W8 [.mk 0 1 [] [],.mk 3 0 p []] (by simp) (by simp[wfI,wfs];omega)
    replace n1:AP Tryz.prog _ [.int .u64 1] (.agg [.int .i64 0,.int .u64 1,.sl .ext [],.sl .ext []]) []:=n1
    replace hT:AP Tryz.prog _ [.str p] (.agg [.int .i64 3,.int .u64 0,byE p,.sl .ext []]) []:=hT
    unfold isZ at hz
    refine AP.ofA (Zl Tryz.func99 Z Tryz.ntmps99 Z Z ?_)
    repeat'(first|(apply Zb (hR);kernel_rfl;(iterate 4 exact Z))|(apply Zb (n1);kernel_rfl;(iterate 4 exact Z))|(apply Zb (hP);kernel_rfl;(iterate 4 exact Z))|(apply Zb (hT);kernel_rfl;(iterate 4 exact Z))|(apply Zb (hL);kernel_rfl;(iterate 4 exact Z))|(apply Zi Za;exact Z)|(apply Zf Za;exact Z)|(apply Zp Za;exact Z)|refine Zg Z Qt ?_|refine ZR Za Z Z Z Z Z Z Z Z Z Z Z Z ?_|refine Vl Za Z Z Z Z Qk Qk Z Z Z ?_|(apply Zo 2 ZD;decide +kernel;kernel_rfl;kernel_rfl;kernel_rfl;exact Z;exact Z)|(apply Zs;(iterate 4 exact Z))|exact AE.nil _ _ _ _|(apply Zw;exact Z)|(apply Zz;exact Z;exact Z;decide +kernel;exact Z)|(apply ZA;exact Z)|exact AO.nil _ _ _|(apply Zr;(decide +kernel))|exact AOs.nil|exact ZF rfl rfl)
    all_goals exact Qe
theorem VA [Known](n:Nat):AP Tryz.prog 129 [.int .u64 (n:Int)] (.agg [.int .i64 0,.int .u64 (n:Int),.sl .ext [],.sl .ext []]) []:=by
 refine AP.ofA (Zl Tryz.func129 Z Tryz.ntmps129 Z Z ?_)
 repeat'(first|(apply Zf Za;exact Z))
 all_goals exact Qe
theorem Vt [Known](x:EidV)(h:ZM x=true):AP Tryz.prog 90 [.agg (eC x)] (itD (Z1 x)) []:=by
 have hK:=W9 x (Uc h)
 unfold Z1
 cases hz:isZ x with
 | true=>
  rw[NF hz]at hK
  rw[if_pos rfl]
  have n1:=VA 1
  have n0:=VA 0
  replace n1:AP Tryz.prog _ [.int .u64 1] (.agg [.int .i64 0,.int .u64 1,.sl .ext [],.sl .ext []]) []:=n1
  replace n0:AP Tryz.prog _ [.int .u64 0] (.agg [.int .i64 0,.int .u64 0,.sl .ext [],.sl .ext []]) []:=n0
  refine AP.ofA (Zl Tryz.func90 Z Tryz.ntmps90 Z Z ?_)
  repeat'(first|(apply Zb (hK);kernel_rfl;(iterate 4 exact Z))|(apply Zb (n1);kernel_rfl;(iterate 4 exact Z))|(apply Zb (n0);kernel_rfl;(iterate 4 exact Z))|(apply Zi Za;exact Z)|(apply Zf Za;exact Z)|refine Zd Z Qt ?_|refine ZR Za Z Z Z Z Z Z Z Z Z Z Z Z ?_)
  all_goals exact Qe
 | false=>
  rw[if_neg (by simp)]
  cases hi:x.i with
  | true=>
   obtain⟨b1,b2,_⟩:=Wf h hz hi
   rw[NG h hi]at hK
   rw[if_pos rfl]
   have n2:=VA 2
   have nn:=VA x.n
   have ns:=VA x.s
   replace n2:AP Tryz.prog _ [.int .u64 2] (.agg [.int .i64 0,.int .u64 2,.sl .ext [],.sl .ext []]) []:=n2
   refine AP.ofA (Zl Tryz.func90 Z Tryz.ntmps90 Z Z ?_)
   repeat'(first|(apply Zb (hK);kernel_rfl;(iterate 4 exact Z))|(apply Zb (n2);kernel_rfl;(iterate 4 exact Z))|(apply Zb (nn);kernel_rfl;(iterate 4 exact Z))|(apply Zb (ns);kernel_rfl;(iterate 4 exact Z))|(apply Zi Za;exact Z)|(apply Zf Za;exact Z)|refine Zd Z Qt ?_|refine Zg Z Qt ?_|refine ZR Za Z Z Z Z Z Z Z Z Z Z Z Z ?_|(apply Zo 6 ZD;decide +kernel;kernel_rfl;kernel_rfl;kernel_rfl;exact Z;exact Z)|(apply Zs;(iterate 4 exact Z))|exact AE.nil _ _ _ _|(apply Zw;exact Z)|(apply Zz;exact Z;exact Z;decide +kernel;exact Z)|(apply ZA;exact Z)|exact AO.nil _ _ _|(apply Zr;(decide +kernel))|exact AOs.nil|exact ZF rfl rfl)
   all_goals exact Qe
  | false=>
   obtain⟨_,_,_,b1,b2,_⟩:=YS h hz hi
   rw[NH h hz hi]at hK
   rw[if_neg (by simp)]
   have n1:=VA 1
   replace n1:AP Tryz.prog _ [.int .u64 1] (.agg [.int .i64 0,.int .u64 1,.sl .ext [],.sl .ext []]) []:=n1
   have l1:[(47:UInt8),47].length+x.h.length<=maxLen:=by simp;unfold maxLen;omega
   have l2:([(47:UInt8),47]++x.h).length + [(47:UInt8)].length<=maxLen:=by simp;unfold maxLen;omega
   have l3:([(47:UInt8),47]++x.h++[47]).length+x.d.length<=maxLen:=by simp;unfold maxLen;omega
   refine AP.ofA (Zl Tryz.func90 Z Tryz.ntmps90 Z Z ?_)
   repeat'(first|(apply Zb (hK);kernel_rfl;(iterate 4 exact Z))|(apply Zb (n1);kernel_rfl;(iterate 4 exact Z))|(apply UM;exact Z;exact Z;(first|exact l1|exact l2|exact l3);exact Z)|refine T5 Za Z Z Z Z Z Z Z Z ?_|(apply Zi Za;exact Z)|(apply Zf Za;exact Z)|refine Zg Z Qt ?_|refine ZR Za Z Z Z Z Z Z Z Z Z Z Z Z ?_|(apply Zo 10 ZD;decide +kernel;kernel_rfl;kernel_rfl;kernel_rfl;exact Z;exact Z)|(apply Zs;(iterate 4 exact Z))|exact AE.nil _ _ _ _|(apply Zw;exact Z)|(apply Zz;exact Z;exact Z;decide +kernel;exact Z)|(apply ZA;exact Z)|exact AO.nil _ _ _|(apply Zr;(decide +kernel))|exact AOs.nil|exact ZF rfl rfl)
   all_goals exact Qe
end Go.Proofs.YtmljabhmajehnaaGreatDoor
end

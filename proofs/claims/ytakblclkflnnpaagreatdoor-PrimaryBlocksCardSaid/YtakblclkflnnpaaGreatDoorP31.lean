/- First blocks: what is read may be written. -/
import Derived.Test.YtakblclkflnnpaaGreatDoorP29
import Derived.Test.YtakblclkflnnpaaGreatDoorP30
import Derived.Test.YtakblclkflnnpaaGreatDoorP26
import Derived.Test.YtakblclkflnnpaaGreatDoorP20
import Derived.Lib.ItoaNum
import Derived.Lib.ParseIntBCases
set_option linter.unusedVariables false
set_option linter.unusedSimpArgs false
section
open Go.RowKit Go.Pl Go.Av
namespace Go.Proofs.YtakblclkflnnpaaGreatDoor
set_option maxHeartbeats 4000000
theorem Zdx {p:PriV}{x:It}(h:ZbF p=(x,0)):Zbc p=true/\Zfp (Za6 p) 2=(x,0):=by
 unfold ZbF at h
 cases hr:Zbc p with
 | true=>rw[hr]at h;exact⟨rfl,h⟩
 | false=>rw[hr]at h;simp at h
abbrev ZpL (p:PriV):Bool:=(((p.fl:Int)==(p.fl:Int))&&((p.sum==p.sum)&&((p.dest.i==p.dest.i)&&(((p.dest.n:Int)==(p.dest.n:Int))&&(((p.dest.s:Int)==(p.dest.s:Int))&&((p.dest.h==p.dest.h)&&((p.dest.d==p.dest.d)&&((p.rep.i==p.rep.i)&&(((p.rep.n:Int)==(p.rep.n:Int))&&(((p.rep.s:Int)==(p.rep.s:Int))&&((p.rep.h==p.rep.h)&&((p.rep.d==p.rep.d)&&((p.src.i==p.src.i)&&(((p.src.n:Int)==(p.src.n:Int))&&(((p.src.s:Int)==(p.src.s:Int))&&((p.src.h==p.src.h)&&((p.src.d==p.src.d)&&(((p.t:Int)==(p.t:Int))&&(((p.q:Int)==(p.q:Int))&&(((p.life:Int)==(p.life:Int))&&true))))))))))))))))))))
theorem Zlp (p:PriV):(!ZpL p)=false:=by simp[ZpL]
theorem ZjS {p:PriV}(h:Zbc p=true):(Za0 (Za6 p)).length<=1000000:=by
 obtain⟨h1,h2,h3,h4,h5,h6⟩:=ZbT h
 obtain⟨i1,_,_⟩:=ZbM.1 h5
 have n1:=Zcn 7
 have n2:=Zcn p.fl
 have n3:=Zcn p.sum.toNat
 have n4:=ZdL h3
 have n5:=ZdL i1
 have n6:=ZdL h4
 have n7:=ZgD p.t p.q
 have n8:=Zcn p.life
 have e7:ZoJ p.t p.q=.mk 4 0 [] [.mk 0 p.t [] [],.mk 0 p.q [] []]:=rfl
 rw[e7]at n7
 simp only[Za6,Za0,List.length_append,List.length_nil,Nat.add_zero]
 omega
theorem ZdZ {x:EidV}(h:ZaL x=true):Zbt (Za2 x)<=5/\Zbr (Za2 x) 5=true/\ZbB (Za2 x)=true:=by
 refine⟨?_,?_,?_⟩
 ·unfold Za2
  repeat' split
  all_goals simp[Zbt,Za9]
 ·unfold Za2
  repeat' split
  all_goals simp[Zbr,ZbQ]
 ·have:=Zbu h
  rw[ZbR]at this
  simp only[Bool.and_eq_true]at this
  exact this.2.2
theorem ZfB (p:PriV):(Za6 p).length=8:=rfl
theorem Zd0 {p:PriV}(h:Zbc p=true):Za9 (Za6 p)<=25/\ZbQ (Za6 p) 5=true/\Zce (Za6 p)=true:=by
 obtain⟨h1,h2,h3,h4,h5,h6⟩:=ZbT h
 obtain⟨i1,_,_⟩:=ZbM.1 h5
 obtain⟨a1,a2,a3⟩:=ZdZ h3
 obtain⟨b1,b2,b3⟩:=ZdZ h4
 obtain⟨c1,c2,c3⟩:=ZdZ i1
 refine⟨?_,?_,?_⟩
 ·simp only[Za6,Za9,Zbt]
  omega
 ·simp only[Za6,ZbQ,a2,b2,c2,Zbr,Bool.and_self]
 ·simp only[Za6,Zce,a3,b3,c3]
  simp[ZbB,Zce,ZdF]
theorem ZfC {p:PriV}(h:Zbc p=true)(x:List It)(hx:Za9 x<=4/\ZbQ x 5=true/\Zce x=true):Zaw (.mk 4 0 [] (Za6 p++x))=true:=by
 obtain⟨h1,h2,h3⟩:=Zd0 h
 rw[ZbR,Zbr,Zbt,ZbB,Zeh,Zdt,Zei,hx.2.1,hx.2.2,h2,h3]
 have h4:ZdF 4 0 [] (Za6 p++x)=true:=by simp[ZdF]
 rw[h4]
 simp
 omega
def ZbA (p:PriV):It:=(Zbs (Za6 p) p.sum.toNat).1
theorem Zij {p:PriV}(h0:0<=p.sum)(h2:p.sum<=2):ZaM (Za6 p) 2=p.sum:=by
 unfold ZaM Za6
 rw[if_neg (by omega)]
 show(match decide (((p.sum.toNat:Nat):Int)>2) with|true=>(-1:Int)|false=>match It.beq (.mk 0 p.sum.toNat [] []) (.mk 0 p.sum.toNat [] []) with|true=>((p.sum.toNat:Nat):Int)|false => -1)=p.sum
 rw[show decide (((p.sum.toNat:Nat):Int)>2)=false from decide_eq_false (by omega),It.beq_iff.2 rfl]
 dsimp only
 exact Int.toNat_of_nonneg h0
theorem ZjT {p:PriV}(h:Zbc p=true)(s:Nat):(Zbs (Za6 p) s).2=true:=by
 cases s with
 | zero=>
  unfold Zbs
  have:=ZfC h [] ⟨by simp[Za9],rfl,rfl⟩
  rw[List.append_nil]at this
  exact this
 | succ s=>
  unfold Zbs
  dsimp only
  have:Zaw (ZaJ (s+1) (Za6 p))=true:=ZfC h [.mk 2 0 (List.replicate (2*(s+1)) 0) []] ⟨by simp[Za9,Zbt],by simp[ZbQ,Zbr],by simp[Zce,ZbB,ZdF]⟩
  rw[this]
theorem Zep {p:PriV}(h:Zbc p=true):ZbF p=(ZbA p,0):=by
 obtain⟨h3,h4,_⟩:=ZbT h
 unfold ZbF
 rw[h]
 dsimp only
 rw[ZnR]
 unfold ZnQ ZbA
 rw[Zij h3 h4,ZfB]
 rw[show(decide ((2:Int)<0)||decide ((2:Int) ≥ ((8:Nat):Int)))=false from by decide]
 dsimp only
 rw[decide_eq_true (show p.sum ≥ 0 from h3),ZjT h]
theorem Zf9 {p:PriV}(h:Zbc p=true)(hfl:p.fl<18446744073709551616):wfI (ZbA p):=by
 obtain⟨h1,h2,_⟩:=ZbT h
 exact Zja (by omega) (Zlm h hfl) (by rw[ZfB];omega)
theorem ZoL {p:PriV}(h:Zbc p=true)(s:Nat)(hs:s<=2):(Za1 (ZaJ s (Za6 p))).length<=1000000000:=by
 have h1:=ZjS h
 have h0:=Zbi 4 0 [] (Za6 p++[.mk 2 0 (List.replicate (2*s) 0) []])
 have hb:=Zbi 2 0 (List.replicate (2*s) 0) []
 rw[Zhz]at h0
 simp only[Za0,List.length_append,List.length_nil,List.length_replicate,Nat.add_zero,Nat.zero_add]at h0 hb
 show(Za1 (.mk 4 0 [] (Za6 p++[.mk 2 0 (List.replicate (2*s) 0) []]))).length<=1000000000
 omega
def ZnY (m1 m2 m3 m4 m5 t q m7:It):PriV:=⟨m1.n,IntKind.i64.wrap (m2.n:Int),eZ m3,eZ m5,eZ m4,t.n,q.n,m7.n⟩
def Zdh (x:It)(o:List It × Int):PriV × Int:=match o.2 != 0 with
 | true=>(pr0,o.2)
 | false=>match o.1 with
  | [_,m1,m2,m3,m4,m5,.mk _ _ _ [t,q],m7]=>(match(ZaQ m3).2&&((ZaQ m4).2&&((ZaQ m5).2&&(Zbc (ZnY m1 m2 m3 m4 m5 t q m7)&&It.beq (ZbA (ZnY m1 m2 m3 m4 m5 t q m7)) x))) with
   | false=>(pr0,3)
   | true=>(ZnY m1 m2 m3 m4 m5 t q m7,0))
  | _=>(pr0,3)
def Zga (x:It):PriV × Int:=Zdh x (Zhs x 2)
theorem ZhC (x:It)(o:List It × Int)(h:(o.2 != 0)=false):Zdh x o=(pr0,3)\/∃ p,Zbc p=true/\ZbA p=x/\Zdh x o=(p,0):=by
 unfold Zdh
 rw[h]
 dsimp only
 split
 ·rename_i m0 m1 m2 m3 m4 m5 k6 n6 b6 t q m7 _
  generalize ZnY m1 m2 m3 m4 m5 t q m7=p
  cases hc:(ZaQ m3).2&&((ZaQ m4).2&&((ZaQ m5).2&&(Zbc p&&It.beq (ZbA p) x))) with
  | false=>exact .inl rfl
  | true=>
   simp only[Bool.and_eq_true]at hc
   exact .inr ⟨_,hc.2.2.2.1,It.beq_iff.1 hc.2.2.2.2,rfl⟩
 ·exact .inl rfl
theorem Zik (x:It)(o:List It × Int)(h:(o.2 != 0)=false):ZhB x o=(pr0,3)\/∃ p,ZhB x o=(p,0):=by
 unfold ZhB
 rw[h]
 dsimp only
 repeat' split
 all_goals first|exact .inl rfl|exact .inr ⟨_,rfl⟩
theorem Zil {x:EidV}(h:ZaL x=true):eZ (Za2 x)=x:=by
 unfold eZ
 rw[ZbE h (Zbu h)]
theorem ZhD {s:Int}(h0:0<=s)(h2:s<=2):IntKind.i64.wrap ((s.toNat:Nat):Int)=s:=by
 rw[IntWalk.i64_in _ (by omega)]
 omega
theorem Zim {p:PriV}(h:Zbc p=true):Zga (ZbA p)=(p,0):=by
 obtain⟨h1,h2,h3,h4,h5,h6⟩:=ZbT h
 obtain⟨i1,_,_⟩:=ZbM.1 h5
 have hw:=Zep h
 obtain⟨_,hs⟩:=Zdx hw
 have ho:=Zhx hs
 unfold Zga
 rw[<- ZgA,ho]
 unfold Zdh
 have e:ZnY (.mk 0 p.fl [] []) (.mk 0 p.sum.toNat [] []) (Za2 p.dest) (Za2 p.src) (Za2 p.rep) (.mk 0 p.t [] []) (.mk 0 p.q [] []) (.mk 0 p.life [] [])=p:=by
  unfold ZnY
  rw[Zil h3,Zil h4,Zil i1]
  simp only[It.n]
  rw[ZhD h1 h2]
 rw[show((0:Int) != 0)=false from rfl]
 unfold Za6
 dsimp only
 rw[e,h,It.beq_iff.2 rfl,ZbE h3 (Zbu h3),ZbE h4 (Zbu h4),ZbE i1 (Zbu i1)]
 rfl
theorem ZmA (x:It):Zdw x=Zga x:=by
 cases t1:((Zee x 2).2 != 0) with
 | true=>
  unfold Zdw Zga ZhB Zdh
  rw[<- ZgA,t1]
 | false=>
  have t2:((Zhs x 2).2 != 0)=false:=by rw[<- ZgA];exact t1
  rcases ZhC x (Zhs x 2) t2 with hd|⟨p,hr,hw,hd⟩
  ·rcases Zik x (Zee x 2) t1 with hp|⟨p,hp⟩
   ·unfold Zdw Zga
    rw[hd,hp]
   ·have h1:Zdw x=(p,0):=hp
    have h2:=ZgG h1
    obtain⟨hr,_⟩:=Zdx h2
    rw[Zep hr]at h2
    have h3:ZbA p=x:=congrArg Prod.fst h2
    rw[h1,<- h3,Zim hr]
  ·have h0:=Zep hr
   rw[hw]at h0
   obtain⟨a1,a2,_⟩:=ZbT hr
   rw[ZgF (ZhD a1 a2).symm h0]
   exact hd.symm
theorem ZmB {n:Nat}(h:0<n/10):Lib.decDigits n=Lib.decDigits (n/10)++[UInt8.ofNat (48+n % 10)]:=by
 rw[Lib.decDigits,dif_neg (by omega)]
theorem Zje {n:Nat}(h:n/10=0):Lib.decDigits n=[UInt8.ofNat (48+n % 10)]:=by
 rw[Lib.decDigits,dif_pos (by omega),Nat.mod_eq_of_lt (by omega)]
theorem ZmC {k:Nat}(h:k<10):(UInt8.ofNat (48+k)).toNat=48+k:=by
 rw[UInt8.toNat_ofNat'];omega
theorem Zlq:∀(k u:Nat),u<10 ^ (k+1)->(Lib.decDigits u).length<=k+1
 | 0,u,h=>by rw[Lib.decDigits,dif_pos (by simpa using h)];simp
 | k+1,u,h=>by
  rw[Lib.decDigits]
  by_cases h1:u<10
  ·rw[dif_pos h1];simp
  ·rw[dif_neg h1,List.length_append]
   have:=Zlq k (u/10) (by rw[Nat.pow_succ]at h;omega)
   simp;omega
theorem ZhE [Known](N:Nat)(hN:N<18446744073709551616):AP Tryz.prog 194 [.int .u64 (N:Int)] (.str (Lib.decDigits N)) []:=by
 refine AP.ofA ?_
 refine Zap Tryz.func194 rfl Tryz.ntmps194 rfl rfl ?_
 repeat'(first|(apply Zai Zab;exact Z))
 refine ZaC (fun k tm bx fr=>∃(n:Nat) (out:List UInt8),k=n+(if out=[] then 1 else 0)/\n<=N/\((out=[]/\n=N)\/(out ≠ []/\(if n=0 then out=Lib.decDigits N else Lib.decDigits n++out=Lib.decDigits N)))/\tm=[(0,.int .u64 (n:Int)),(2,.str []),(3,.str out)]/\bx=[]/\fr=[]) (N+2) (Lands.mk' (m:=N+1) (by omega) ⟨N,[],by simp,Nat.le_refl _,.inl ⟨rfl,rfl⟩,rfl,rfl,rfl⟩ ?_ rfl rfl rfl rfl rfl rfl) ?_
 ·exact .cons rfl (.cons rfl (.cons rfl .nil))
 rintro k tm bx fr ⟨n,out,hk,hn,hI,rfl,rfl,rfl⟩
 have hol:out.length<=20:=by
  have hd:=Zlq 19 N (by omega)
  rcases hI with⟨rfl,_⟩ | ⟨_,h⟩
  ·simp
  ·split at h
   ·rw[h];exact hd
   ·rw[<- h,List.length_append]at hd;omega
 have e0:IntKind.u8.wrap (IntKind.u64.wrap (48+((n:Int)).tmod 10))=((UInt8.ofNat (48+n % 10)).toNat:Int):=by
  have hm:((n:Int)).tmod 10=((n % 10:Nat):Int):=by rw[Int.tmod_eq_emod_of_nonneg (by omega)];omega
  rw[hm,IntWalk.u64_in _ (by omega),ZmC (by omega),IntWalk.u8_in _ (by omega)];omega
 have e1:((n:Int)).tdiv 10=((n/10:Nat):Int):=by rw[Int.tdiv_eq_ediv_of_nonneg (by omega)];omega
 have e2:IntKind.u64.wrap ((n/10:Nat):Int)=((n/10:Nat):Int):=IntWalk.u64_in _ (by omega)
 have l1:[UInt8.ofNat (48+n % 10)].length+out.length<=maxLen:=by simp;unfold maxLen;omega
 have hgo:((out=[]/\n=N)\/(out ≠ []/\0<n/\Lib.decDigits n++out=Lib.decDigits N))->(if n/10=0 then [UInt8.ofNat (48+n % 10)]++out=Lib.decDigits N else Lib.decDigits (n/10)++([UInt8.ofNat (48+n % 10)]++out)=Lib.decDigits N):=fun h=>by
  have hh:Lib.decDigits n++out=Lib.decDigits N:=by
   rcases h with⟨rfl,rfl⟩ | ⟨_,_,h⟩
   ·simp
   ·exact h
  split
  ·rename_i h1;rw[<- hh,Zje h1]
  ·rename_i h1;rw[<- hh,ZmB (n:=n) (by omega),List.append_assoc]
 rcases Nat.eq_zero_or_pos n with h0|h0
 ·subst h0
  have t1:decide (((0:Nat):Int)>0)=false:=by decide
  cases out with
  | nil=>
   repeat'(first|rw[e0]|rw[e2]|rw[e1]|(apply Zdo Zab;exact Z;exact(show _=[UInt8.ofNat (48+0 % 10)].map E.byte from rfl);(iterate 7 exact Z))|(apply ZeG;exact Z;exact Z;exact l1;exact Z)|(apply Zaj Zab;exact Z)|(apply Zai Zab;exact Z)|(apply Zay Zab;exact Z)|(apply Zaf;(iterate 3 exact Z);exact Go.Zqn)|(apply Zah;exact Z;exact Go.Zqn;exact Z;exact Z)|(apply Zac;exact Z;exact Go.Zqn)|refine ZbZ ?_|(apply ZfM Zab;(iterate 12 exact Z))|(apply ZeE;exact Z;exact Z;(first|exact Go.Zqn|rotate_left);exact Z)|(apply ZeF;exact Z;exact Z;(first|exact Go.Zqn|rotate_left);exact Z))
   refine Lands.mk' (m:=0) (by simp at hk;omega) ⟨0,[UInt8.ofNat (48+0 % 10)]++[],by simp,by omega,.inr ⟨by simp,?_⟩,rfl,rfl,rfl⟩ ?_ rfl rfl rfl rfl rfl rfl
   ·rw[if_pos rfl]
    rcases hI with⟨_,rfl⟩ | ⟨h,_⟩
    ·rw[Zje (by omega)];rfl
    ·exact absurd rfl h
   ·exact .cons rfl (.cons rfl (.cons rfl .nil))
  | cons c r=>
   have t2:(c::r==[])=false:=by simp
   have hR:c::r=Lib.decDigits N:=by
    rcases hI with⟨h,_⟩ | ⟨_,h⟩
    ·cases h
    ·exact h
   repeat'(first|(apply Zaj Zab;exact Z)|(apply Zai Zab;exact Z)|(apply Zay Zab;exact Z)|(apply Zaf;(iterate 3 exact Z);exact Go.Zqn)|(apply Zah;exact Z;exact Go.Zqn;exact Z;exact Z)|(apply Zae;exact Z;exact Go.Zqn))
   all_goals(apply Zax [];(apply Zad Zab;exact Z);(iterate 4 exact Z))
   all_goals first|rfl|(rw[hR];done)|(rw[<- hR];rfl)
 ·have t1:decide ((n:Int)>0)=true:=decide_eq_true (by omega)
  have hx:=hgo (by
   rcases hI with h|⟨h,h2⟩
   ·exact .inl h
   ·rw[if_neg (by omega)]at h2;exact .inr ⟨h,h0,h2⟩)
  repeat'(first|rw[e0]|rw[e2]|rw[e1]|(apply Zdo Zab;exact Z;exact(show _=[UInt8.ofNat (48+n % 10)].map E.byte from rfl);(iterate 7 exact Z))|(apply ZeG;exact Z;exact Z;exact l1;exact Z)|(apply Zaj Zab;exact Z)|(apply Zai Zab;exact Z)|(apply Zay Zab;exact Z)|(apply Zao;(iterate 3 exact Z);exact Go.Zqn)|(apply Zak;exact Z;exact Go.Zqn;exact Z;exact Z)|(apply Zac;exact Z;exact Go.Zqn)|refine ZbZ ?_|(apply ZfM Zab;(iterate 12 exact Z))|(apply ZeE;exact Z;exact Z;(first|exact Go.Zqn|rotate_left);exact Z)|(apply ZeF;exact Z;exact Z;(first|exact Go.Zqn|rotate_left);exact Z))
  refine Lands.mk' (m:=n/10) (by omega) ⟨n/10,[UInt8.ofNat (48+n % 10)]++out,by simp,by omega,.inr ⟨by simp,hx⟩,rfl,rfl,rfl⟩ ?_ rfl rfl rfl rfl rfl rfl
  exact .cons rfl (.cons rfl (.cons rfl .nil))
def isD (c:UInt8):Bool:=decide ((c.toNat:Int) ≥ 48)&&decide ((c.toNat:Int)<=57)
def Zc7:Nat->Nat->List UInt8->Nat × Nat
 | 0,a,_=>(a,0)
 | f+1,a,[]=>(a,0)
 | f+1,a,c::r=>if isD c then((Zc7 f (10*a+(c.toNat-48)) r).1,(Zc7 f (10*a+(c.toNat-48)) r).2+1) else(a,0)
theorem ZgH {c:UInt8}:isD c=true ↔ 48<=c.toNat/\c.toNat<=57:=by
 simp only[isD,Bool.and_eq_true,decide_eq_true_eq];omega
theorem Zlr (n:Nat)(hn:n<18446744073709551616):(Lib.decDigits n).length<=20:=by
 rw[Lib.decDigits_length]
 rcases Nat.eq_zero_or_pos n with rfl|h
 ·rw[Lib.nDigits_small (by omega)];omega
 ·have:=Lib.numDigits_eq n h hn;split at this<;>omega
def ZcG (x:EidV):List UInt8:=
 if isZ x then [100,116,110,58,110,111,110,101]
 else if x.i then [105,112,110,58]++Lib.decDigits x.n++[46]++Lib.decDigits x.s
 else [100,116,110,58]++Zcg x
def puN (s:List UInt8):Nat:=match Lib.parseUintB 32 s with
 | .ok u=>u
 | .range=>4294967295
 | _=>0
def puB (s:List UInt8):Bool:=match Lib.parseUintB 32 s with
 | .ok _=>true
 | _=>false
theorem Zls {M:Nat}:∀ {l r:List UInt8} {acc v:Nat},Lib.parseUintM M acc l=.ok v->Lib.parseUintM M acc (l++r)=Lib.parseUintM M v r
 | [],r,acc,v,h=>by
  rw[Lib.parseUintM]at h
  injection h with h
  rw[List.nil_append,h]
 | c::l,r,acc,v,h=>by
  rw[Lib.parseUintM]at h
  rw[List.cons_append,Lib.parseUintM]
  split at h
  ·rename_i h1
   rw[if_pos h1]
   split at h
   ·cases h
   ·rename_i h2
    rw[if_neg h2]
    split at h
    ·cases h
    ·rename_i h3
     rw[if_neg h3]
     exact Zls h
  ·cases h
theorem Zez {k:Nat}(h:k<10):(UInt8.ofNat (48+k)).toNat=48+k:=by
 rw[UInt8.toNat_ofNat'];omega
theorem ZnZ:∀(u:Nat),u<=4294967295->Lib.parseUintM 4294967295 0 (Lib.decDigits u)=.ok u:=by
 intro u
 induction u using Nat.strongRecOn with
 | _ u ih=>
  intro hu
  rw[Lib.decDigits]
  by_cases h:u<10
  ·rw[dif_pos h,Lib.parseUintM,Zez h,if_pos (by omega),if_neg (by omega),if_neg (by omega),Lib.parseUintM]
   congr 1;omega
  ·rw[dif_neg h,Zls (ih (u/10) (by omega) (by omega)),Lib.parseUintM,Zez (by omega),if_pos (by omega),if_neg (by omega),if_neg (by omega),Lib.parseUintM]
   congr 1;omega
theorem ZoM (u:Nat):Lib.decDigits u ≠ []:=by
 intro h
 have:=congrArg List.length h
 rw[Lib.decDigits_length]at this
 have:=Lib.nDigits_pos u
 simp at *;omega
theorem Zjf {u:Nat}(h:u<=4294967295):puN (Lib.decDigits u)=u/\puB (Lib.decDigits u)=true:=by
 have e:Lib.parseUintB 32 (Lib.decDigits u)=.ok u:=by
  unfold Lib.parseUintB
  rw[if_neg (ZoM u)]
  exact ZnZ u h
 unfold puN puB
 rw[e]
 exact⟨rfl,rfl⟩
theorem ZhF:∀(u:Nat) (c:UInt8),c ∈ Lib.decDigits u->48<=c.toNat/\c.toNat<=57:=by
 intro u
 induction u using Nat.strongRecOn with
 | _ u ih=>
  intro c hc
  rw[Lib.decDigits]at hc
  by_cases h:u<10
  ·rw[dif_pos h]at hc
   rw[List.mem_singleton]at hc
   subst hc
   have:=Zez h
   rw[this];omega
  ·rw[dif_neg h]at hc
   rcases List.mem_append.1 hc with hc|hc
   ·exact ih (u/10) (by omega) c hc
   ·rw[List.mem_singleton]at hc
    subst hc
    have:=Zez (k:=u % 10) (by omega)
    rw[this];omega
def pnV (s:List UInt8):EidV × Bool:=
 (⟨true,puN (Zdk 46 s).1,puN (Zdk 46 s).2.1,[],[]⟩,(Zdk 46 s).2.2&&(puB (Zdk 46 s).1&&(puB (Zdk 46 s).2.1&&(ZaL ⟨true,puN (Zdk 46 s).1,puN (Zdk 46 s).2.1,[],[]⟩&&(Lib.decDigits (puN (Zdk 46 s).1)==(Zdk 46 s).1&&Lib.decDigits (puN (Zdk 46 s).2.1)==(Zdk 46 s).2.1)))))
def Za4 (s:List UInt8):EidV × Bool:=
 if s==Zem then(Zcf,true)
 else if(ZdX Zen s).2 then pnV (ZdX Zen s).1
 else if(ZdX ZfN s).2 then ppV (ZdX ZfN s).1
 else(Zcf,false)
theorem Zcw {s:List UInt8}(h:(Za4 s).2=true):ZaL (Za4 s).1=true/\ZcG (Za4 s).1=s:=by
 unfold Za4 at h ⊢
 by_cases h0:(s==Zem)=true
 ·rw[if_pos h0]
  refine⟨by decide,?_⟩
  rw[beq_iff_eq.1 h0];decide
 rw[if_neg h0]at h ⊢
 by_cases h1:(ZdX Zen s).2=true
 ·rw[if_pos h1]at h ⊢
  have e1:=Zel h1
  generalize (ZdX Zen s).1=r at *
  unfold pnV at h ⊢
  dsimp only at h ⊢
  simp only[Bool.and_eq_true,beq_iff_eq]at h
  obtain⟨h2,h3,h4,h5,h6,h7⟩:=h
  refine⟨h5,?_⟩
  unfold ZcG
  rw[if_neg (by simp[isZ]),if_pos rfl,h6,h7,e1]
  have:=Zej h2
  conv=>rhs;rw[this]
  simp[Zen]
 rw[if_neg h1]at h ⊢
 by_cases h2:(ZdX ZfN s).2=true
 ·rw[if_pos h2]at h ⊢
  have e1:=Zel h2
  generalize (ZdX ZfN s).1=r at *
  unfold ppV at h ⊢
  dsimp only at h ⊢
  simp only[Bool.and_eq_true,bne_iff_ne]at h
  obtain⟨h3,h4,h5,h6⟩:=h
  have e2:=Zel h3
  generalize (ZdX [47,47] r).1=q at *
  refine⟨h6,?_⟩
  unfold ZcG
  rw[if_neg (by rw[ZcF];intro e;exact h5 (congrArg EidV.h e)),if_neg (by simp),e1,e2]
  have:=Zej h4
  conv=>rhs;rw[this]
  simp[Zcg,ZfN]
 ·rw[if_neg h2]at h;cases h
theorem Zin {c:UInt8}(h:c.toNat<48\/57<c.toNat)(u:Nat):c ∉ Lib.decDigits u:=fun hm=>by
 have:=ZhF u c hm
 omega
theorem ZeA {x:EidV}(h:ZaL x=true):Za4 (ZcG x)=(x,true):=by
 unfold ZcG
 cases hz:isZ x with
 | true=>
  rw[if_pos rfl]
  rw[ZcF.1 hz]
  decide
 | false=>
  rw[if_neg (by simp)]
  cases hi:x.i with
  | true=>
   obtain⟨b1,b2,b3,b4,b5⟩:=ZbL h hz hi
   rw[if_pos rfl]
   have e1:[105,112,110,58]++Lib.decDigits x.n++[46]++Lib.decDigits x.s=Zen++(Lib.decDigits x.n++46::Lib.decDigits x.s):=by simp[Zen]
   rw[e1]
   unfold Za4
   have e2:(Zen++(Lib.decDigits x.n++46::Lib.decDigits x.s)==Zem)=false:=by simp[Zen,Zem]
   rw[e2,Zek,if_neg (by simp),if_pos rfl]
   unfold pnV
   dsimp only
   rw[Zdd (Zin (by decide) x.n)]
   dsimp only
   rw[(Zjf b1).1,(Zjf b1).2,(Zjf b2).1,(Zjf b2).2]
   have ex:(⟨true,x.n,x.s,[],[]⟩:EidV)=x:=by
    obtain⟨i,n,s,hh,d⟩:=x
    simp only at hi b3 b4
    rw[hi,b3,b4]
   rw[ex,h]
   simp
  | false=>
   obtain⟨b1,b2,b3,b4,b5,b6,b7⟩:=Zbx h hz hi
   rw[if_neg (by simp)]
   have e1:[100,116,110,58]++Zcg x=ZfN++([47,47]++(x.h++47::x.d)):=by simp[Zcg,ZfN]
   rw[e1]
   unfold Za4
   have e2:(ZfN++([47,47]++(x.h++47::x.d))==Zem)=false:=by simp[ZfN,Zem]
   have e3:ZdX Zen (ZfN++([47,47]++(x.h++47::x.d)))=(ZfN++([47,47]++(x.h++47::x.d)),false):=Zld (by simp[ZfN,Zen])
   rw[e2,e3,Zek,if_neg (by simp),if_neg (by simp),if_pos rfl]
   unfold ppV
   rw[Zek]
   dsimp only
   rw[Zdd (Zex b6 (by decide))]
   dsimp only
   have ex:(⟨false,0,0,x.h,x.d⟩:EidV)=x:=by
    obtain⟨i,n,s,hh,d⟩:=x
    simp only at hi b1 b2
    rw[hi,b1,b2]
   rw[ex,h]
   have:(x.h != [])=true:=by
    rw[bne_iff_ne]
    intro e
    rw[e]at b3
    simp at b3
   rw[this]
   rfl
theorem Zjg:∀(l r:List UInt8) (f a:Nat),l.all isD=true->l.length<=f->Zc7 f a (l++r)=((Zc7 (f-l.length) (l.foldl (fun a c=>10*a+(c.toNat-48)) a) r).1,(Zc7 (f-l.length) (l.foldl (fun a c=>10*a+(c.toNat-48)) a) r).2+l.length)
 | [],r,f,a,_,_=>by simp
 | c::l,r,0,a,_,h=>by simp at h
 | c::l,r,f+1,a,ha,h=>by
  rw[List.all_cons,Bool.and_eq_true]at ha
  rw[List.cons_append,Zc7,if_pos ha.1,Zjg l r f _ ha.2 (by simpa using h),List.foldl_cons]
  simp[Nat.add_assoc]
theorem Zn0 (u:Nat):(Lib.decDigits u).all isD=true:=List.all_eq_true.2 fun c hc=>ZgH.2 (ZhF u c hc)
theorem ZmD:∀ u:Nat,(Lib.decDigits u).foldl (fun a c=>10*a+(c.toNat-48)) 0=u:=by
 intro u
 induction u using Nat.strongRecOn with
 | _ u ih=>
  rw[Lib.decDigits]
  by_cases h:u<10
  ·rw[dif_pos h,List.foldl_cons,List.foldl_nil,Zez h];omega
  ·rw[dif_neg h,List.foldl_append,ih (u/10) (by omega),List.foldl_cons,List.foldl_nil,Zez (by omega)];omega
theorem Zjh {u:Nat}(hu:u<=4294967295)(r:List UInt8)(hr:∀ c t,r=c::t->isD c=false):Zc7 11 0 (Lib.decDigits u++r)=(u,(Lib.decDigits u).length):=by
 have hl:=Zlq 9 u (by omega)
 rw[Zjg _ _ _ _ (Zn0 u) (by omega),ZmD]
 have e:∀ f,Zc7 f u r=(u,0):=fun f=>by
  match f,r,hr with
  | 0,r,_=>rfl
  | f+1,[],_=>rfl
  | f+1,c::t,hr=>rw[Zc7,hr c t rfl];rfl
 rw[e]
 simp
def ZhG (r:List UInt8):EidV:=⟨true,(Zc7 11 0 r).1,if 4+(Zc7 11 0 r).2<4+r.length then(Zc7 11 0 (r.drop ((Zc7 11 0 r).2+1))).1 else 0,[],[]⟩
theorem ZgI:ZcG Zcf=Zem:=by decide
theorem ZeB {y:EidV}(h:ZaL y=true)(hz:isZ y=false):(y.i=true/\ZcG y=Zen++(Lib.decDigits y.n++46::Lib.decDigits y.s)/\y.n<=4294967295/\y.s<=4294967295/\y.h=[]/\y.d=[])\/(y.i=false/\ZcG y=[100,116,110,58,47,47]++(y.h++47::y.d)/\y.n=0/\y.s=0/\y.h ≠ []/\(47:UInt8) ∉ y.h):=by
 cases hi:y.i with
 | true=>
  obtain⟨b1,b2,b3,b4,b5⟩:=ZbL h hz hi
  refine .inl ⟨rfl,?_,b1,b2,b3,b4⟩
  unfold ZcG
  rw[hz,if_neg (by simp),hi,if_pos rfl]
  simp[Zen]
 | false=>
  obtain⟨b1,b2,b3,b4,b5,b6,b7⟩:=Zbx h hz hi
  refine .inr ⟨rfl,?_,b1,b2,fun e=>(by rw[e]at b3;simp at b3),Zex b6 (by decide)⟩
  unfold ZcG
  rw[hz,if_neg (by simp),hi,if_neg (by simp)]
  simp[Zcg]
theorem ZmE {r:List UInt8}(h:(Za4 (Zen++r)).2=true):ZhG r=(Za4 (Zen++r)).1:=by
 obtain⟨h1,h2⟩:=Zcw h
 generalize (Za4 (Zen++r)).1=y at *
 cases hz:isZ y with
 | true=>rw[ZcF.1 hz,ZgI]at h2;exact absurd h2 (by simp[Zem,Zen])
 | false=>
  rcases ZeB h1 hz with⟨hi,ht,b1,b2,b3,b4⟩ | ⟨hi,ht,b⟩
  ·rw[ht]at h2
   have hr:r=Lib.decDigits y.n++46::Lib.decDigits y.s:=(List.append_cancel_left h2).symm
   have e1:=Zjh b1 (46::Lib.decDigits y.s) (fun c t hc=>by cases hc;decide)
   have e2:=Zjh b2 [] (fun c t hc=>by cases hc)
   rw[List.append_nil]at e2
   unfold ZhG
   rw[hr,e1]
   have e3:(Lib.decDigits y.n++46::Lib.decDigits y.s).drop ((Lib.decDigits y.n).length+1)=Lib.decDigits y.s:=by
    rw[List.drop_append,List.drop_of_length_le (by omega)];simp
   dsimp only
   rw[e3,e2,if_pos (by simp)]
   obtain⟨i,n,s,hh,dd⟩:=y
   simp only at hi b3 b4
   rw[hi,b3,b4]
  ·rw[ht]at h2;exact absurd h2 (by simp[Zen])
theorem ZmF {h d:List UInt8}(hn:(47:UInt8) ∉ h)(hp:(Za4 ([100,116,110,58,47,47]++(h++47::d))).2=true):(⟨false,0,0,h,d⟩:EidV)=(Za4 ([100,116,110,58,47,47]++(h++47::d))).1:=by
 obtain⟨h1,h2⟩:=Zcw hp
 generalize (Za4 ([100,116,110,58,47,47]++(h++47::d))).1=y at *
 cases hz:isZ y with
 | true=>rw[ZcF.1 hz,ZgI]at h2;exact absurd h2 (by simp[Zem])
 | false=>
  rcases ZeB h1 hz with⟨hi,ht,b⟩ | ⟨hi,ht,b1,b2,b3,b4⟩
  ·rw[ht]at h2;exact absurd h2 (by simp[Zen])
  ·rw[ht]at h2
   have e:=List.append_cancel_left h2
   have e1:=Zdd (b:=y.d) b4
   rw[e,Zdd hn]at e1
   obtain⟨i,n,s,hh,dd⟩:=y
   simp only[Prod.mk.injEq,and_true]at e1
   simp only at hi b1 b2
   rw[e1.1,e1.2,hi,b1,b2]
theorem Zji {s:List UInt8}(h0:s ≠ Zem)(h1:∀ r,r ≠ []->s ≠ Zen++r)(h2:∀ h d,(47:UInt8) ∉ h->s ≠ [100,116,110,58,47,47]++(h++47::d)):(Za4 s).2=false:=by
 cases hp:(Za4 s).2 with
 | false=>rfl
 | true=>
  obtain⟨k1,k2⟩:=Zcw hp
  generalize (Za4 s).1=y at *
  cases hz:isZ y with
  | true=>rw[ZcF.1 hz,ZgI]at k2;exact absurd k2.symm h0
  | false=>
   rcases ZeB k1 hz with⟨hi,ht,b⟩ | ⟨hi,ht,b1,b2,b3,b4⟩
   ·exact absurd (k2.symm.trans ht) (h1 _ (by intro e;have:=congrArg List.length e;simp at this))
   ·exact absurd (k2.symm.trans ht) (h2 _ _ b4)
abbrev ZfD (s:List UInt8):D:=.tup [.agg (eC (match(Za4 s).2 with|true=>(Za4 s).1|false=>Zcf)),.bool (Za4 s).2]
theorem Zdy {s:List UInt8}(h:(Za4 s).2=false):ZfD s=.tup [.agg (eC Zcf),.bool false]:=by unfold ZfD;rw[h]
theorem Zgb {s:List UInt8}{y:EidV}(h:Za4 s=(y,true)):ZfD s=.tup [.agg (eC y),.bool true]:=by unfold ZfD;rw[h]
theorem ZoN {s:List UInt8}{c:EidV}(h0:s ≠ Zem)(hc:(Za4 s).2=true->c=(Za4 s).1)(hk:decide (ZbS c<1)=true):(Za4 s).2=false:=by
 cases hp:(Za4 s).2 with
 | false=>rfl
 | true=>
  obtain⟨k1,k2⟩:=Zcw hp
  rw[<- hc hp]at k1 k2
  rw[Zh8,k1]at hk
  simp only[Bool.not_true,Bool.false_or]at hk
  rw[ZcF.1 hk,ZgI]at k2
  exact absurd k2.symm h0
theorem ZoO {s:List UInt8}{c:EidV}(hc:(Za4 s).2=true->c=(Za4 s).1)(ht:(ZcG c != s)=true):(Za4 s).2=false:=by
 cases hp:(Za4 s).2 with
 | false=>rfl
 | true=>
  obtain⟨k1,k2⟩:=Zcw hp
  rw[<- hc hp]at k2
  rw[bne_iff_ne]at ht
  exact absurd k2 ht
theorem ZoP {s:List UInt8}{c:EidV}(hk:decide (ZbS c<1)=false)(ht:(ZcG c != s)=false):Za4 s=(c,true):=by
 rw[Zh8]at hk
 simp only[Bool.or_eq_false_iff,Bool.not_eq_false']at hk
 have e:ZcG c=s:=by simpa using ht
 rw[<- e,ZeA hk.1]
theorem Zeq {x:EidV}(h:ZaL x=true):Fit x:=by
 cases hz:isZ x with
 | true=>rw[ZcF.1 hz];exact⟨by decide,by decide⟩
 | false=>
  cases hi:x.i with
  | true=>
   obtain⟨_,_,h1,h2,_⟩:=ZbL h hz hi
   unfold Fit;rw[h1,h2];exact⟨by decide,by decide⟩
  | false=>
   obtain⟨_,_,_,h1,h2,_⟩:=Zbx h hz hi
   exact⟨by omega,by omega⟩
theorem ZmX {x:EidV}(h:isZ x=true):ZbS x=0:=by rw[ZcF.1 h];decide
theorem ZmY {x:EidV}(h:ZaL x=true)(hi:x.i=true):ZbS x=1:=by unfold ZbS;rw[hi,h];rfl
theorem ZmZ {x:EidV}(h:ZaL x=true)(hz:isZ x=false)(hi:x.i=false):ZbS x=2:=by unfold ZbS;rw[hi,hz,h];rfl
theorem ZeC [Known](x:EidV)(h:ZaL x=true):AP Tryz.prog 177 [.agg (eC x)] (.str (ZcG x)) []:=by
 have hK:=Zcm x (Zeq h)
 unfold ZcG
 cases hz:isZ x with
 | true=>
  rw[ZmX hz]at hK
  rw[if_pos rfl]
  refine AP.ofA ?_
  refine Zap Tryz.func177 rfl Tryz.ntmps177 rfl rfl ?_
  repeat'(first|(apply Zaa (hK);kernel_rfl;(iterate 4 exact Z))|(apply Zaj Zab;exact Z)|(apply Zai Zab;exact Z)|(apply Zay Zab;exact Z)|(apply Zac;exact Z;exact Go.Zqn))
  all_goals(apply Zax [];(apply Zad Zab;exact Z);(iterate 4 exact Z))
  all_goals rfl
 | false=>
  rw[if_neg (by simp)]
  cases hi:x.i with
  | true=>
   obtain⟨b1,b2,_⟩:=ZbL h hz hi
   rw[ZmY h hi]at hK
   rw[if_pos rfl]
   have d1:=Zlr x.n (by omega)
   have d2:=Zlr x.s (by omega)
   have hD1:=ZhE x.n (by omega)
   have hD2:=ZhE x.s (by omega)
   have l1:[(105:UInt8),112,110,58].length+(Lib.decDigits x.n).length<=maxLen:=by simp;unfold maxLen;omega
   have l2:([(105:UInt8),112,110,58]++Lib.decDigits x.n).length + [(46:UInt8)].length<=maxLen:=by simp;unfold maxLen;omega
   have l3:([(105:UInt8),112,110,58]++Lib.decDigits x.n++[46]).length+(Lib.decDigits x.s).length<=maxLen:=by simp;unfold maxLen;omega
   refine AP.ofA ?_
   refine Zap Tryz.func177 rfl Tryz.ntmps177 rfl rfl ?_
   repeat'(first|(apply Zaa (hK);kernel_rfl;(iterate 4 exact Z))|(apply Zaa (hD1);kernel_rfl;(iterate 4 exact Z))|(apply Zaa (hD2);kernel_rfl;(iterate 4 exact Z))|(apply ZeG;exact Z;exact Z;(first|exact l1|exact l2|exact l3);exact Z)|(apply Zaj Zab;exact Z)|(apply Zai Zab;exact Z)|(apply Zac;exact Z;exact Go.Zqn)|(apply Zae;exact Z;exact Go.Zqn)|(apply ZaO 8 ZaR;decide +kernel;kernel_rfl;kernel_rfl;exact Z;exact Z)|(apply ZaY;(iterate 3 exact Z))|refine AD.nil _|exact ZbO rfl)
   all_goals(apply Zax [];(apply Zad Zab;exact Z);(iterate 4 exact Z))
   all_goals rfl
  | false=>
   obtain⟨_,_,_,b1,b2,_⟩:=Zbx h hz hi
   rw[ZmZ h hz hi]at hK
   rw[if_neg (by simp)]
   have l1:[(100:UInt8),116,110,58,47,47].length+x.h.length<=maxLen:=by simp;unfold maxLen;omega
   have l2:([(100:UInt8),116,110,58,47,47]++x.h).length + [(47:UInt8)].length<=maxLen:=by simp;unfold maxLen;omega
   have l3:([(100:UInt8),116,110,58,47,47]++x.h++[47]).length+x.d.length<=maxLen:=by simp;unfold maxLen;omega
   refine AP.ofA ?_
   refine Zap Tryz.func177 rfl Tryz.ntmps177 rfl rfl ?_
   repeat'(first|(apply Zaa (hK);kernel_rfl;(iterate 4 exact Z))|(apply ZeG;exact Z;exact Z;(first|exact l1|exact l2|exact l3);exact Z)|(apply Zaj Zab;exact Z)|(apply Zai Zab;exact Z)|(apply Zae;exact Z;exact Go.Zqn))
   all_goals(apply Zax [];(apply Zad Zab;exact Z);(iterate 4 exact Z))
   all_goals rfl
theorem Zc5 [Known](n:Nat):AP Tryz.prog 111 [.int .u64 (n:Int)] (.agg [.int .i64 0,.int .u64 (n:Int),.sl .ext [],.sl .ext []]) []:=by
 refine AP.ofA ?_
 refine Zap Tryz.func111 rfl Tryz.ntmps111 rfl rfl ?_
 repeat'(first|(apply Zai Zab;exact Z))
 all_goals(apply Zax [];(apply Zad Zab;exact Z);(iterate 4 exact Z))
 all_goals rfl
theorem ZbV [Known](x:EidV)(h:ZaL x=true):AP Tryz.prog 47 [.agg (eC x)] (itD (Za2 x)) []:=by
 have hK:=Zcm x (Zeq h)
 unfold Za2
 cases hz:isZ x with
 | true=>
  rw[ZmX hz]at hK
  rw[if_pos rfl]
  have n1:=Zc5 1
  have n0:=Zc5 0
  replace n1:AP Tryz.prog _ [.int .u64 1] (.agg [.int .i64 0,.int .u64 1,.sl .ext [],.sl .ext []]) []:=n1
  replace n0:AP Tryz.prog _ [.int .u64 0] (.agg [.int .i64 0,.int .u64 0,.sl .ext [],.sl .ext []]) []:=n0
  refine AP.ofA ?_
  refine Zap Tryz.func47 rfl Tryz.ntmps47 rfl rfl ?_
  repeat'(first|(apply Zaa (hK);kernel_rfl;(iterate 4 exact Z))|(apply Zaa (n1);kernel_rfl;(iterate 4 exact Z))|(apply Zaa (n0);kernel_rfl;(iterate 4 exact Z))|(apply Zaj Zab;exact Z)|(apply Zai Zab;exact Z)|(apply Zac;exact Z;exact Go.Zqn)|(apply Za5 Zab;(iterate 12 exact Z)))
  all_goals(apply Zax [];(apply Zad Zab;exact Z);(iterate 4 exact Z))
  all_goals rfl
 | false=>
  rw[if_neg (by simp)]
  cases hi:x.i with
  | true=>
   obtain⟨b1,b2,_⟩:=ZbL h hz hi
   rw[ZmY h hi]at hK
   rw[if_pos rfl]
   have n2:=Zc5 2
   have nn:=Zc5 x.n
   have ns:=Zc5 x.s
   replace n2:AP Tryz.prog _ [.int .u64 2] (.agg [.int .i64 0,.int .u64 2,.sl .ext [],.sl .ext []]) []:=n2
   refine AP.ofA ?_
   refine Zap Tryz.func47 rfl Tryz.ntmps47 rfl rfl ?_
   repeat'(first|(apply Zaa (hK);kernel_rfl;(iterate 4 exact Z))|(apply Zaa (n2);kernel_rfl;(iterate 4 exact Z))|(apply Zaa (nn);kernel_rfl;(iterate 4 exact Z))|(apply Zaa (ns);kernel_rfl;(iterate 4 exact Z))|(apply Zaj Zab;exact Z)|(apply Zai Zab;exact Z)|(apply Zac;exact Z;exact Go.Zqn)|(apply Zae;exact Z;exact Go.Zqn)|(apply Za5 Zab;(iterate 12 exact Z))|(apply Zam 6 ZaR;decide +kernel;kernel_rfl;kernel_rfl;kernel_rfl;exact Z;exact Z)|(apply Zar;(iterate 4 exact Z))|exact AE.nil _ _ _ _|(apply Zav;exact Z)|(apply Zaz;exact Z;exact Z;decide +kernel;exact Z)|(apply ZaA;exact Z)|exact AO.nil _ _ _|(apply Zaq;(decide +kernel))|exact AOs.nil|exact ZaI rfl rfl)
   all_goals(apply Zax [];(apply Zad Zab;exact Z);(iterate 4 exact Z))
   all_goals rfl
  | false=>
   obtain⟨_,_,_,b1,b2,_⟩:=Zbx h hz hi
   rw[ZmZ h hz hi]at hK
   rw[if_neg (by simp)]
   have n1:=Zc5 1
   replace n1:AP Tryz.prog _ [.int .u64 1] (.agg [.int .i64 0,.int .u64 1,.sl .ext [],.sl .ext []]) []:=n1
   have l1:[(47:UInt8),47].length+x.h.length<=maxLen:=by simp;unfold maxLen;omega
   have l2:([(47:UInt8),47]++x.h).length + [(47:UInt8)].length<=maxLen:=by simp;unfold maxLen;omega
   have l3:([(47:UInt8),47]++x.h++[47]).length+x.d.length<=maxLen:=by simp;unfold maxLen;omega
   refine AP.ofA ?_
   refine Zap Tryz.func47 rfl Tryz.ntmps47 rfl rfl ?_
   repeat'(first|(apply Zaa (hK);kernel_rfl;(iterate 4 exact Z))|(apply Zaa (n1);kernel_rfl;(iterate 4 exact Z))|(apply ZeG;exact Z;exact Z;(first|exact l1|exact l2|exact l3);exact Z)|(apply ZmP Zab;(iterate 8 exact Z))|(apply Zaj Zab;exact Z)|(apply Zai Zab;exact Z)|(apply Zae;exact Z;exact Go.Zqn)|(apply Za5 Zab;(iterate 12 exact Z))|(apply Zam 10 ZaR;decide +kernel;kernel_rfl;kernel_rfl;kernel_rfl;exact Z;exact Z)|(apply Zar;(iterate 4 exact Z))|exact AE.nil _ _ _ _|(apply Zav;exact Z)|(apply Zaz;exact Z;exact Z;decide +kernel;exact Z)|(apply ZaA;exact Z)|exact AO.nil _ _ _|(apply Zaq;(decide +kernel))|exact AOs.nil|exact ZaI rfl rfl)
   all_goals(apply Zax [];(apply Zad Zab;exact Z);(iterate 4 exact Z))
   all_goals rfl
theorem ZpY [Known](fl sm t q life:Nat)(sum:Int)(di:Bool)(dn ds:Nat)(dh dd:List UInt8)(ri:Bool)(rn rs:Nat)(rh rd:List UInt8)(xi:Bool)(xn xs:Nat)(xh xd:List UInt8)(ak:Int)(an:Nat)(ab:List UInt8)(al:List It)(bk:Int)(bn:Nat)(bb:List UInt8)(bl:List It)(ck:Int)(cn:Nat)(cb:List UInt8)(cl:List It)(sk:Int)(sn:Nat)(sb:List UInt8)(sl:List It)(ok:Bool)(e2:IntKind.u64.wrap sum=(sm:Int))
  (hL:AP Tryz.prog 94 [.sl .ext [nmE t,nmE q]] (.agg [.int .i64 4,.int .u64 0,.sl .ext [],.sl .ext [nmE t,nmE q]]) [])
  (hD:AP Tryz.prog 47 [.agg [.bool di,.int .u64 (dn:Int),.int .u64 (ds:Int),.str dh,.str dd]] (.agg (itC ak an ab al)) [])
  (hX:AP Tryz.prog 47 [.agg [.bool xi,.int .u64 (xn:Int),.int .u64 (xs:Int),.str xh,.str xd]] (.agg (itC ck cn cb cl)) [])
  (hR:AP Tryz.prog 47 [.agg [.bool ri,.int .u64 (rn:Int),.int .u64 (rs:Int),.str rh,.str rd]] (.agg (itC bk bn bb bl)) [])
  (hS:AP Tryz.prog 95 [.sl .ext [nmE 7,nmE fl,nmE sm,.agg [.int .i64 ak,.int .u64 (an:Int),.sl (ab.map E.byte),.sl (Zas al)],.agg [.int .i64 ck,.int .u64 (cn:Int),.sl (cb.map E.byte),.sl (Zas cl)],.agg [.int .i64 bk,.int .u64 (bn:Int),.sl (bb.map E.byte),.sl (Zas bl)],.agg [.int .i64 4,.int .u64 0,.sl [],.sl [nmE t,nmE q]],nmE life],.int .i64 sum] (.tup [.agg (itC sk sn sb sl),.bool ok]) []) :
  AP Tryz.prog 23 [.agg [.int .u64 (fl:Int),.int .i64 sum,.bool di,.int .u64 (dn:Int),.int .u64 (ds:Int),.str dh,.str dd,.bool ri,.int .u64 (rn:Int),.int .u64 (rs:Int),.str rh,.str rd,.bool xi,.int .u64 (xn:Int),.int .u64 (xs:Int),.str xh,.str xd,.int .u64 (t:Int),.int .u64 (q:Int),.int .u64 (life:Int)]] (.agg (itC sk sn sb sl)) []:=by
 refine AP.ofA ?_
 refine Zap Tryz.func23 rfl Tryz.ntmps23 rfl rfl ?_
 repeat'(first|(apply Zaa (hL);kernel_rfl;(iterate 4 exact Z))|rw[e2]|(apply Zaa (hD);kernel_rfl;(iterate 4 exact Z))|(apply Zaa (hX);kernel_rfl;(iterate 4 exact Z))|(apply Zaa (hR);kernel_rfl;(iterate 4 exact Z))|(apply Zaa (hS);kernel_rfl;(iterate 4 exact Z))|(apply Zaj Zab;exact Z)|(apply Zai Zab;exact Z)|(apply Za5 Zab;(iterate 12 exact Z))|(apply Zam 22 ZaR;decide +kernel;kernel_rfl;kernel_rfl;kernel_rfl;exact Z;exact Z)|(apply Zar;(iterate 4 exact Z))|exact AE.nil _ _ _ _|(apply Zav;exact Z)|(apply Zaz;exact Z;exact Z;decide +kernel;exact Z)|(apply ZaA;exact Z)|exact AO.nil _ _ _|(apply Zaq;(decide +kernel))|exact AOs.nil|exact ZaI rfl rfl)
 all_goals(apply Zax [];(apply Zad Zab;exact Z);(iterate 4 exact Z))
 all_goals rfl
theorem Zgc [Known][KnownU8](p:PriV)(h:Zbc p=true)(hfl:p.fl<18446744073709551616):AP Tryz.prog 23 [.agg (prC p)] (itD (ZbA p)) []:=by
 obtain⟨h1,h2,h3,h4,h5,h6⟩:=ZbT h
 obtain⟨i1,_,_⟩:=ZbM.1 h5
 have hS:=Zf5 (Za6 p) p.sum.toNat (by omega) (Zlm h hfl) (by rw[ZfB];omega) (by have:=(Zd0 h).1;omega) (ZoL h p.sum.toNat (by omega))
 have e1:((p.sum.toNat:Nat):Int)=p.sum:=by omega
 have e2:IntKind.u64.wrap p.sum=((p.sum.toNat:Nat):Int):=by rw[IntKind.wrap_u64];omega
 rw[e1]at hS
 have hD:=ZbV p.dest h3
 have hR:=ZbV p.rep h4
 have hX:=ZbV p.src i1
 have hL:=Zfu [nmE p.t,nmE p.q]
 unfold ZbA
 generalize Zbs (Za6 p) p.sum.toNat=S at *
 unfold Za6 at hS
 obtain⟨fl,sum,d,r,x,t,q,life⟩:=p
 dsimp only at *
 generalize Za2 d=I1 at *
 generalize Za2 r=I2 at *
 generalize Za2 x=I3 at *
 obtain⟨di,dn,ds,dh,dd⟩:=d
 obtain⟨ri,rn,rs,rh,rd⟩:=r
 obtain⟨xi,xn,xs,xh,xd⟩:=x
 obtain⟨ak,an,ab,al⟩:=I1
 obtain⟨bk,bn,bb,bl⟩:=I2
 obtain⟨ck,cn,cb,cl⟩:=I3
 obtain⟨⟨k,n,b,l⟩,ok⟩:=S
 exact ZpY fl sum.toNat t q life sum di dn ds dh dd ri rn rs rh rd xi xn xs xh xd ak an ab al bk bn bb bl ck cn cb cl k n b l ok e2 hL hD hX hR hS
end Go.Proofs.YtakblclkflnnpaaGreatDoor
end

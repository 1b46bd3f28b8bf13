/- The document's fields: numbers and texts as bytes. -/
import Derived.Test.YtchlgagdbflkmaaGreatDoorL14
import Derived.Test.YtchlgagdbflkmaaGreatDoorL17
set_option linter.unusedVariables false
set_option linter.unusedSimpArgs false
section
open Go.RowKit Go.Pl Go.Av
namespace Go.Proofs.YtchlgagdbflkmaaGreatDoor
set_option maxHeartbeats 4000000
theorem Na (m:Nat):IntKind.u8.wrap (IntKind.u64.wrap (128+((m:Int)).tmod 128))=((UInt8.ofNat (m % 128+128)).toNat:Int):=by
 have hm:((m:Int)).tmod 128=((m % 128:Nat):Int):=by rw[Int.tmod_eq_emod_of_nonneg (by omega)];omega
 have hc:(UInt8.ofNat (m % 128+128)).toNat=m % 128+128:=by rw[UInt8.toNat_ofNat'];omega
 rw[hm,IntWalk.u64_in _ (by omega),hc,IntKind.wrap_u8]
 omega
theorem WH [Known](n:Nat)(hn:n<18446744073709551616):AP Tryz.prog 86 [.int .u64 (n:Int)] (byE (vn n)) []:=by
 refine AP.ofA (Zp Tryz.func86 Z Tryz.ntmps86 Z Z ?_)
 repeat'(first|(apply Zj Zb;exact Z))
 refine Yr (fun k tm bx fr=>∃(m c:Nat) (M:List UInt8) (K:List E),K=M.map E.byte/\c=K.length/\m<18446744073709551616/\k<=9/\m<128 ^ (k+1)/\M++vnF k m=vn n/\bx=[]/\((M=[]/\tm=[(0,.int .u64 (m:Int)),(2,.sl .nil []),(3,.sl .nil [])]/\fr=[])\/(tm=[(0,.int .u64 (m:Int)),(2,.sl .nil []),(3,.sl (.own 1) K)]/\fr=[⟨1,1,5⟩,⟨c,1,5⟩]))) 10 (Lands.mk' (m:=9) (by omega) ⟨n,0,[],[],rfl,rfl,hn,Nat.le_refl _,Nat.lt_of_lt_of_le hn (by decide),rfl,rfl,.inl ⟨rfl,rfl,rfl⟩⟩ ?_ rfl rfl rfl rfl rfl rfl) ?_
 ·exact .cons rfl (.cons rfl (.cons rfl .nil))
 rintro k tm bx fr ⟨m,c,M,K,hK,hc,hm,hk,hmk,hM,rfl,⟨rfl,rfl,rfl⟩ | ⟨rfl,rfl⟩⟩
 all_goals
  have e1:((m:Int)).tdiv 128=((m/128:Nat):Int):=by rw[Int.tdiv_eq_ediv_of_nonneg (by omega)];omega
  have e2:IntKind.u64.wrap ((m/128:Nat):Int)=((m/128:Nat):Int):=IntWalk.u64_in _ (by omega)
  have e0:=Na m
 ·obtain rfl:K=[]:=hK
  subst hc
  rcases Nat.lt_or_ge 127 m with hgt|hle
  ·have t1:decide ((m:Int)>127)=true:=decide_eq_true (by omega)
   cases k with
   | zero=>exfalso;simp at hmk;omega
   | succ k=>
    rw[vnF,if_pos hgt]at hM
    repeat'(first|rw[e0]|rw[e1]|rw[e2]|refine ZL Zb Z Z Z Z Z Z (Zk rfl) (List.cons_ne_nil _ _) Z Qd Qd Z Z Z ?_|(apply Zl Zb;exact Z)|(apply Zj Zb;exact Z)|(apply Zt Zb;exact Z)|(apply Zf;exact Z;(first|with_reducible assumption|decide +kernel|(solve|simp only[bn])))|refine ZU ?_|refine Z8 Zb Z Z Z Z Z Z Z Z Z Z Z Z ?_|(apply WB;exact Z;exact Z;(first|exact Qt|rotate_left);exact Z)|(apply YK;exact Z;exact Z;(first|exact Qt|rotate_left);exact Z))
    refine Lands.mk' (m:=k) (by omega) ⟨m/128,1,[UInt8.ofNat (m % 128+128)],[E.byte (UInt8.ofNat (m % 128+128))],rfl,rfl,by omega,by omega,by rw[Nat.pow_succ]at hmk;omega,by rw[List.nil_append]at hM;exact hM,rfl,.inr ⟨rfl,rfl⟩⟩ ?_ rfl rfl rfl rfl rfl rfl
    exact .cons rfl (.cons rfl (.cons rfl .nil))
  ·have t1:decide ((m:Int)>127)=false:=decide_eq_false (by omega)
   have hv:vnF k m=[UInt8.ofNat m]:=by
    cases k with
    | zero=>rfl
    | succ k=>rw[vnF,if_neg (by omega)]
   have hF:[E.int .u8 (IntKind.u8.wrap (m:Int))]=(vn n).map E.byte:=by
    rw[UZ m (by omega),<- hM,hv];rfl
   repeat'(first|refine ZL Zb Z Z Z Z Z Z (Zk rfl) (List.cons_ne_nil _ _) Z Qd Qd Z Z Z ?_|(apply Zl Zb;exact Z)|(apply Zj Zb;exact Z)|(apply Zg;exact Z;(first|with_reducible assumption|decide +kernel|(solve|simp only[bn])))|refine Z8 Zb Z Z Z Z Z Z Z Z Z Z Z Z ?_)
   all_goals(apply Zw [];(apply Zd Zb;exact Z);(iterate 4 exact Z))
   all_goals first|rfl|exact congrArg (fun l=>D.sl .ext l) hF
 ·have hU:Uni 1 K:=hK ▸ YD M
  have hKl:K.length=M.length:=by rw[hK,List.length_map]
  have hMl:M.length<=1000:=by
   have:=congrArg List.length hM
   have h1:=W1 9 n
   rw[List.length_append,vn]at this
   omega
  subst hc
  rcases Nat.lt_or_ge 127 m with hgt|hle
  ·have t1:decide ((m:Int)>127)=true:=decide_eq_true (by omega)
   cases k with
   | zero=>exfalso;simp at hmk;omega
   | succ k=>
    rw[vnF,if_pos hgt]at hM
    repeat'(first|rw[e0]|rw[e1]|rw[e2]|(apply Zl Zb;exact Z)|(apply Zj Zb;exact Z)|(apply Zt Zb;exact Z)|(apply Zf;exact Z;(first|with_reducible assumption|decide +kernel|(solve|simp only[bn])))|refine ZU ?_|refine Z8 Zb Z Z Z Z Z Z Z Z Z Z Z Z ?_|(apply ZJ Zb;(iterate 6 exact Z);(first|with_reducible assumption|decide +kernel|exact Z|rotate_left);exact Z;exact Z;(first|exact Zk rfl|with_reducible assumption|decide +kernel|rotate_left);(first|exact Zk rfl|with_reducible assumption|decide +kernel|rotate_left);(first|exact Qt|rotate_left);(first|exact Qt|rotate_left);(first|exact Qt|rotate_left);exact Z;exact Z)|(apply WB;exact Z;exact Z;(first|exact Qt|rotate_left);exact Z)|(apply YK;exact Z;exact Z;(first|exact Qt|rotate_left);exact Z))
    ·refine Lands.mk' (m:=k) (by omega) ⟨m/128,K.length+1,M++[UInt8.ofNat (m % 128+128)],K++[E.byte (UInt8.ofNat (m % 128+128))],by rw[hK,Ui],by simp,by omega,by omega,by rw[Nat.pow_succ]at hmk;omega,by rw[List.append_assoc];exact hM,rfl,.inr ⟨rfl,rfl⟩⟩ ?_ rfl rfl rfl rfl rfl rfl
     exact .cons rfl (.cons rfl (.cons rfl .nil))
    all_goals first|decide|(simp only[List.length_cons,List.length_nil]at *;(try unfold maxLen);omega)
  ·have t1:decide ((m:Int)>127)=false:=decide_eq_false (by omega)
   have hv:vnF k m=[UInt8.ofNat m]:=by
    cases k with
    | zero=>rfl
    | succ k=>rw[vnF,if_neg (by omega)]
   have hF:K++[E.int .u8 (IntKind.u8.wrap (m:Int))]=(vn n).map E.byte:=by
    rw[UZ m (by omega),hK,Ui,<- hv,hM]
   repeat'(first|(apply Zl Zb;exact Z)|(apply Zj Zb;exact Z)|(apply Zg;exact Z;(first|with_reducible assumption|decide +kernel|(solve|simp only[bn])))|refine Z8 Zb Z Z Z Z Z Z Z Z Z Z Z Z ?_|(apply ZJ Zb;(iterate 6 exact Z);(first|with_reducible assumption|decide +kernel|exact Z|rotate_left);exact Z;exact Z;(first|exact Zk rfl|with_reducible assumption|decide +kernel|rotate_left);(first|exact Zk rfl|with_reducible assumption|decide +kernel|rotate_left);(first|exact Qt|rotate_left);(first|exact Qt|rotate_left);(first|exact Qt|rotate_left);exact Z;exact Z))
   all_goals first|(apply Zw [];(apply Zd Zb;exact Z);(iterate 4 exact Z))|(simp only[List.length_cons,List.length_nil]at *;(try unfold maxLen);omega)
   all_goals first|rfl|exact congrArg (fun l=>D.sl .ext l) hF
theorem Jx [Known](n:Nat)(hn:n<18446744073709551616):AT Tryz.prog 86 [.int .u64 (n:Int)] [] [] (.sl (.own 0) ((vn n).map E.byte)) [] [⟨(vn n).length,1,5⟩]:=by
 refine Zp Tryz.func86 rfl Tryz.ntmps86 rfl rfl ?_
 repeat'(first|(apply Zj Zb;exact Z))
 refine Yr (fun k tm bx fr=>∃(m c:Nat) (M:List UInt8) (K:List E),K=M.map E.byte/\c=K.length/\m<18446744073709551616/\k<=9/\m<128 ^ (k+1)/\M++vnF k m=vn n/\bx=[]/\((M=[]/\tm=[(0,.int .u64 (m:Int)),(2,.sl .nil []),(3,.sl .nil [])]/\fr=[])\/(tm=[(0,.int .u64 (m:Int)),(2,.sl .nil []),(3,.sl (.own 1) K)]/\fr=[⟨1,1,5⟩,⟨c,1,5⟩]))) 10 (Lands.mk' (m:=9) (by omega) ⟨n,0,[],[],rfl,rfl,hn,Nat.le_refl _,Nat.lt_of_lt_of_le hn (by decide),rfl,rfl,.inl ⟨rfl,rfl,rfl⟩⟩ ?_ rfl rfl rfl rfl rfl rfl) ?_
 ·exact .cons rfl (.cons rfl (.cons rfl .nil))
 rintro k tm bx fr ⟨m,c,M,K,hK,hc,hm,hk,hmk,hM,rfl,⟨rfl,rfl,rfl⟩ | ⟨rfl,rfl⟩⟩
 all_goals
  have e1:((m:Int)).tdiv 128=((m/128:Nat):Int):=by rw[Int.tdiv_eq_ediv_of_nonneg (by omega)];omega
  have e2:IntKind.u64.wrap ((m/128:Nat):Int)=((m/128:Nat):Int):=IntWalk.u64_in _ (by omega)
  have e0:=Na m
 ·obtain rfl:K=[]:=hK
  subst hc
  rcases Nat.lt_or_ge 127 m with hgt|hle
  ·have t1:decide ((m:Int)>127)=true:=decide_eq_true (by omega)
   cases k with
   | zero=>exfalso;simp at hmk;omega
   | succ k=>
    rw[vnF,if_pos hgt]at hM
    repeat'(first|rw[e0]|rw[e1]|rw[e2]|refine ZL Zb Z Z Z Z Z Z (Zk rfl) (List.cons_ne_nil _ _) Z Qd Qd Z Z Z ?_|(apply Zl Zb;exact Z)|(apply Zj Zb;exact Z)|(apply Zt Zb;exact Z)|(apply Zf;exact Z;(first|with_reducible assumption|decide +kernel|(solve|simp only[bn])))|refine ZU ?_|refine Z8 Zb Z Z Z Z Z Z Z Z Z Z Z Z ?_|(apply WB;exact Z;exact Z;(first|exact Qt|rotate_left);exact Z)|(apply YK;exact Z;exact Z;(first|exact Qt|rotate_left);exact Z))
    refine Lands.mk' (m:=k) (by omega) ⟨m/128,1,[UInt8.ofNat (m % 128+128)],[E.byte (UInt8.ofNat (m % 128+128))],rfl,rfl,by omega,by omega,by rw[Nat.pow_succ]at hmk;omega,by rw[List.nil_append]at hM;exact hM,rfl,.inr ⟨rfl,rfl⟩⟩ ?_ rfl rfl rfl rfl rfl rfl
    exact .cons rfl (.cons rfl (.cons rfl .nil))
  ·have t1:decide ((m:Int)>127)=false:=decide_eq_false (by omega)
   have hv:vnF k m=[UInt8.ofNat m]:=by
    cases k with
    | zero=>rfl
    | succ k=>rw[vnF,if_neg (by omega)]
   have hF:[E.int .u8 (IntKind.u8.wrap (m:Int))]=(vn n).map E.byte:=by
    rw[UZ m (by omega),<- hM,hv];rfl
   have hFl:1=(vn n).length:=by
    have:=congrArg List.length hF
    simpa using this
   repeat'(first|refine ZL Zb Z Z Z Z Z Z (Zk rfl) (List.cons_ne_nil _ _) Z Qd Qd Z Z Z ?_|(apply Zl Zb;exact Z)|(apply Zj Zb;exact Z)|(apply Zg;exact Z;(first|with_reducible assumption|decide +kernel|(solve|simp only[bn])))|refine Z8 Zb Z Z Z Z Z Z Z Z Z Z Z Z ?_)
   all_goals(apply Yc [] [1];(apply Zd Zb;exact Z);(iterate 7 exact Z))
   all_goals first|rfl|exact congrArg (fun l=>D.sl (.own 0) l) hF|exact congrArg (fun c=>[(⟨c,1,5⟩:Fr)]) hFl
 ·have hU:Uni 1 K:=hK ▸ YD M
  have hKl:K.length=M.length:=by rw[hK,List.length_map]
  have hMl:M.length<=1000:=by
   have:=congrArg List.length hM
   have h1:=W1 9 n
   rw[List.length_append,vn]at this
   omega
  subst hc
  rcases Nat.lt_or_ge 127 m with hgt|hle
  ·have t1:decide ((m:Int)>127)=true:=decide_eq_true (by omega)
   cases k with
   | zero=>exfalso;simp at hmk;omega
   | succ k=>
    rw[vnF,if_pos hgt]at hM
    repeat'(first|rw[e0]|rw[e1]|rw[e2]|(apply Zl Zb;exact Z)|(apply Zj Zb;exact Z)|(apply Zt Zb;exact Z)|(apply Zf;exact Z;(first|with_reducible assumption|decide +kernel|(solve|simp only[bn])))|refine ZU ?_|refine Z8 Zb Z Z Z Z Z Z Z Z Z Z Z Z ?_|(apply ZJ Zb;(iterate 6 exact Z);(first|with_reducible assumption|decide +kernel|exact Z|rotate_left);exact Z;exact Z;(first|exact Zk rfl|with_reducible assumption|decide +kernel|rotate_left);(first|exact Zk rfl|with_reducible assumption|decide +kernel|rotate_left);(first|exact Qt|rotate_left);(first|exact Qt|rotate_left);(first|exact Qt|rotate_left);exact Z;exact Z)|(apply WB;exact Z;exact Z;(first|exact Qt|rotate_left);exact Z)|(apply YK;exact Z;exact Z;(first|exact Qt|rotate_left);exact Z))
    ·refine Lands.mk' (m:=k) (by omega) ⟨m/128,K.length+1,M++[UInt8.ofNat (m % 128+128)],K++[E.byte (UInt8.ofNat (m % 128+128))],by rw[hK,Ui],by simp,by omega,by omega,by rw[Nat.pow_succ]at hmk;omega,by rw[List.append_assoc];exact hM,rfl,.inr ⟨rfl,rfl⟩⟩ ?_ rfl rfl rfl rfl rfl rfl
     exact .cons rfl (.cons rfl (.cons rfl .nil))
    all_goals first|decide|(simp only[List.length_cons,List.length_nil]at *;(try unfold maxLen);omega)
  ·have t1:decide ((m:Int)>127)=false:=decide_eq_false (by omega)
   have hv:vnF k m=[UInt8.ofNat m]:=by
    cases k with
    | zero=>rfl
    | succ k=>rw[vnF,if_neg (by omega)]
   have hF:K++[E.int .u8 (IntKind.u8.wrap (m:Int))]=(vn n).map E.byte:=by
    rw[UZ m (by omega),hK,Ui,<- hv,hM]
   have hFl:K.length+1=(vn n).length:=by
    have:=congrArg List.length hF
    simpa using this
   repeat'(first|(apply Zl Zb;exact Z)|(apply Zj Zb;exact Z)|(apply Zg;exact Z;(first|with_reducible assumption|decide +kernel|(solve|simp only[bn])))|refine Z8 Zb Z Z Z Z Z Z Z Z Z Z Z Z ?_|(apply ZJ Zb;(iterate 6 exact Z);(first|with_reducible assumption|decide +kernel|exact Z|rotate_left);exact Z;exact Z;(first|exact Zk rfl|with_reducible assumption|decide +kernel|rotate_left);(first|exact Zk rfl|with_reducible assumption|decide +kernel|rotate_left);(first|exact Qt|rotate_left);(first|exact Qt|rotate_left);(first|exact Qt|rotate_left);exact Z;exact Z))
   all_goals first|(apply Yc [] [1];(apply Zd Zb;exact Z);(iterate 7 exact Z))|(simp only[List.length_cons,List.length_nil]at *;(try unfold maxLen);omega)
   all_goals first|rfl|exact congrArg (fun l=>D.sl (.own 0) l) hF|exact congrArg (fun c=>[(⟨c,1,5⟩:Fr)]) hFl
def OJ (i c:Nat):Bool:=decide ((i:Int)<9)||(((i:Int)==9)&&decide ((c:Int)<2))
theorem HE [Known](i:Nat)(c:UInt8):AP Tryz.prog 107 [.int .i64 (i:Int),.int .u8 (c.toNat:Int)] (.bool (OJ i c.toNat)) []:=by
 unfold OJ
 cases t1:decide ((i:Int)<9) with
 | true=>
  refine AP.ofA (Zp Tryz.func107 Z Tryz.ntmps107 Z Z ?_)
  repeat'(first|(apply Zl Zb;exact Z)|(apply Zj Zb;exact Z)|(apply Zq;(iterate 3 exact Z);(first|with_reducible assumption|decide +kernel|(solve|simp only[bn])))|refine Yh Z Z Z ?_|(apply Zo;exact Z;(first|with_reducible assumption|decide +kernel|(solve|simp only[bn]));exact Z;exact Z))
  all_goals exact Qe
 | false=>
  cases t2:((i:Int)==9)
  all_goals
   refine AP.ofA (Zp Tryz.func107 Z Tryz.ntmps107 Z Z ?_)
   repeat'(first|(apply Zl Zb;exact Z)|(apply Zj Zb;exact Z)|(apply Zi;(iterate 3 exact Z);(first|with_reducible assumption|decide +kernel|(solve|simp only[bn])))|(apply Zs;(iterate 3 exact Z);(first|with_reducible assumption|decide +kernel|(solve|simp only[bn])))|(apply Zo;exact Z;(first|with_reducible assumption|decide +kernel|(solve|simp only[bn]));exact Z;exact Z)|(apply Zn;exact Z;(first|with_reducible assumption|decide +kernel|(solve|simp only[bn]));exact Z;exact Z))
   all_goals exact Qe
theorem Ia:∀(b:List UInt8) (i a:Nat),∃ k,k<=b.length/\(rnF b i a).2.2=b.drop k
 | [],_,_=>⟨0,by simp,by simp[rnF]⟩
 | c::r,i,a=>by
  rw[rnF]
  split
  ·exact⟨1,by simp,rfl⟩
  ·split
   ·exact⟨1,by simp,rfl⟩
   ·obtain⟨k,h1,h2⟩:=Ia r (i+1) (a+c.toNat % 128*2 ^ (7*i))
    exact⟨k+1,by simp;omega,h2⟩
abbrev rfD (B:List UInt8)(a e:Nat):List (List D):=[[byE B,.int .i64 (a:Int),.int .i64 (e:Int)]]
theorem II [Known](B:List UInt8)(a e:Nat)(ha:a<=B.length)(hB:B.length<=1000000):AQ Tryz.prog 76 [.ptr 0 0] (rfD B a e) (.int .u64 ((ZA (e,B.drop a)).1:Int)) (rfD B (B.length-(ZA (e,B.drop a)).2.2.length) (ZA (e,B.drop a)).2.1):=by
 unfold ZA
 have hBl:(B.map E.byte).length=B.length:=List.length_map ..
 have hU:=YD B
 cases t:(e:Int)==0 with
 | false=>
  have t1:((e:Int) != 0)=true:=by rw[bne,t];rfl
  dsimp only
  have ea:B.length-(B.drop a).length=a:=by rw[List.length_drop];omega
  rw[ea]
  refine AQ.weak (Zp Tryz.func76 Z Tryz.ntmps76 Z Z ?_)
  repeat'(first|(apply Zj Zb;exact Z)|(apply Zt Zb;exact Z)|(apply Zf;exact Z;(first|with_reducible assumption|decide +kernel|(solve|simp only[bn]))))
  all_goals(apply Zw [0];(apply Zd Zb;exact Z);(iterate 4 exact Z))
  all_goals rfl
 | true=>
  obtain rfl:e=0:=by simpa using t
  clear t
  dsimp only
  generalize hR:rnF (B.drop a) 0 0=R
  obtain⟨R1,R2,R3⟩:=R
  dsimp only
  refine AQ.weak (Zp Tryz.func76 Z Tryz.ntmps76 Z Z ?_)
  repeat'(first|(apply Zj Zb;exact Z)|(apply Zg;exact Z;(first|with_reducible assumption|decide +kernel|(solve|simp only[bn]))))
  refine Yr (fun k tm bx fr=>∃(i v p w:Nat),k+p=B.length/\p<=B.length/\v<2 ^ (7*i)/\i<=10/\(i<=9->w=2 ^ (7*i))/\w<18446744073709551616/\rnF (B.drop p) i v=(R1,R2,R3)/\tm=[(0,.ptr 0 0),(2,.int .u64 0),(3,.int .u64 (v:Int)),(4,.int .u64 (w:Int)),(5,.int .i64 (i:Int))]/\bx=[[byE B,.int .i64 (p:Int),.int .i64 0]]/\fr=[]) (B.length+1) (Lands.mk' (m:=B.length-a) (by omega) ⟨0,0,a,1,by omega,ha,by decide,by omega,fun _=>rfl,by omega,hR,rfl,rfl,rfl⟩ ?_ rfl rfl rfl rfl rfl rfl) ?_
  ·exact .cons rfl (.cons rfl (.cons rfl (.cons rfl (.cons rfl .nil))))
  rintro k tm bx fr ⟨i,v,p,w,hk,hp,hv,hi,hw,hw2,hr,rfl,rfl,rfl⟩
  rcases Nat.lt_or_ge p B.length with hlt|hge
  ·have t2:decide ((p:Int) ≥ ((B.map E.byte).length:Int))=false:=decide_eq_false (by omega)
   obtain⟨c,hc⟩:∃ c,B[p]?=some c:=⟨_,List.getElem?_eq_getElem hlt⟩
   have hidx:(B.map E.byte)[((p:Nat):Int).toNat]?=some (E.byte c):=by
    rw[Int.toNat_natCast,List.getElem?_map,hc];rfl
   have hdr:B.drop p=c::B.drop (p+1):=by
    rw[List.drop_eq_getElem_cons hlt];congr 1
    exact(List.getElem?_eq_some_iff.1 hc).2
   have hF:=HE i c
   have ep:IntKind.i64.wrap ((p:Int)+1)=((p+1:Nat):Int):=by rw[IntWalk.i64_in _ (by omega)];omega
   have el:B.length-(B.drop (p+1)).length=p+1:=by rw[List.length_drop];omega
   rw[hdr,rnF]at hr
   have hcl:=c.toNat_lt
   by_cases hbad:i=10\/(i=9/\c.toNat>1)\/(c.toNat=0/\i>0)
   ·rw[if_pos hbad]at hr
    cases hr
    rw[el]
    by_cases hf:OJ i c.toNat=true
    ·have h0:c.toNat=0/\i>0:=by
      unfold OJ at hf
      simp only[Bool.or_eq_true,Bool.and_eq_true,decide_eq_true_eq,beq_iff_eq]at hf
      omega
     rw[hf]at hF
     have z4:((c.toNat:Int)==0)=true:=by simp;omega
     have z5:decide ((i:Int)>0)=true:=decide_eq_true (by omega)
     repeat'(first|rw[ep]|(apply Zc (hF);kernel_rfl;(iterate 4 exact Z))|(apply Zl Zb;exact Z)|(apply Zj Zb;exact Z)|(apply Zt Zb;exact Z)|(apply Zi;(iterate 3 exact Z);(first|with_reducible assumption|decide +kernel|(solve|simp only[bn])))|(apply Zo;exact Z;(first|with_reducible assumption|decide +kernel|(solve|simp only[bn]));exact Z;exact Z)|(apply Zn;exact Z;(first|with_reducible assumption|decide +kernel|(solve|simp only[bn]));exact Z;exact Z)|(apply Zf;exact Z;(first|with_reducible assumption|decide +kernel|(solve|simp only[bn])))|(apply Zg;exact Z;(first|with_reducible assumption|decide +kernel|(solve|simp only[bn])))|refine Zz Zb Z Z Z Z ?_|(apply Za 8 Ze;decide +kernel;kernel_rfl;kernel_rfl;kernel_rfl;exact Z;exact Z)|(apply Za 9 Ze;decide +kernel;kernel_rfl;kernel_rfl;kernel_rfl;exact Z;exact Z)|(apply Zv;(iterate 4 exact Z))|exact AE.nil _ _ _ _|(apply ZB;exact Z)|(apply ZD;exact Z;exact Z;decide +kernel;exact Z)|(apply ZE;exact Z)|exact AO.nil _ _ _|(apply Zu;(decide +kernel))|exact AOs.nil|exact ZR rfl rfl|(apply ZF Zb;(iterate 6 exact Z);(first|exact Qt|rotate_left);(first|with_reducible assumption|decide +kernel|exact Z);(first|exact Zk rfl|with_reducible assumption|decide +kernel|rotate_left)))
     all_goals(apply Zw [0];(apply Zd Zb;exact Z);(iterate 4 exact Z))
     all_goals rfl
    ·have hf:OJ i c.toNat=false:=by simpa using hf
     rw[hf]at hF
     repeat'(first|rw[ep]|(apply Zc (hF);kernel_rfl;(iterate 4 exact Z))|(apply Zl Zb;exact Z)|(apply Zj Zb;exact Z)|(apply Zt Zb;exact Z)|(apply Zq;(iterate 3 exact Z);(first|with_reducible assumption|decide +kernel|(solve|simp only[bn])))|refine Yh Z Z Z ?_|(apply Zo;exact Z;(first|with_reducible assumption|decide +kernel|(solve|simp only[bn]));exact Z;exact Z)|(apply Zf;exact Z;(first|with_reducible assumption|decide +kernel|(solve|simp only[bn])))|(apply Zg;exact Z;(first|with_reducible assumption|decide +kernel|(solve|simp only[bn])))|refine Zz Zb Z Z Z Z ?_|(apply Za 8 Ze;decide +kernel;kernel_rfl;kernel_rfl;kernel_rfl;exact Z;exact Z)|(apply Za 9 Ze;decide +kernel;kernel_rfl;kernel_rfl;kernel_rfl;exact Z;exact Z)|(apply Zv;(iterate 4 exact Z))|exact AE.nil _ _ _ _|(apply ZB;exact Z)|(apply ZD;exact Z;exact Z;decide +kernel;exact Z)|(apply ZE;exact Z)|exact AO.nil _ _ _|(apply Zu;(decide +kernel))|exact AOs.nil|exact ZR rfl rfl|(apply ZF Zb;(iterate 6 exact Z);(first|exact Qt|rotate_left);(first|with_reducible assumption|decide +kernel|exact Z);(first|exact Zk rfl|with_reducible assumption|decide +kernel|rotate_left)))
     all_goals(apply Zw [0];(apply Zd Zb;exact Z);(iterate 4 exact Z))
     all_goals rfl
   ·rw[if_neg hbad]at hr
    have hf:OJ i c.toNat=true:=by
     unfold OJ
     simp only[Bool.or_eq_true,Bool.and_eq_true,decide_eq_true_eq,beq_iff_eq]
     omega
    rw[hf]at hF
    have hw:=hw (by omega)
    subst hw
    have h9:i=9->c.toNat<=1:=by omega
    have hpow:2 ^ (7*(i+1))=128*2 ^ (7*i):=by rw[Nat.mul_add,Nat.pow_add,Nat.mul_comm]
    have hlt2:c.toNat % 128*2 ^ (7*i)<18446744073709551616/\v+c.toNat % 128*2 ^ (7*i)<18446744073709551616:=by
     rcases Nat.lt_or_ge i 9 with h8|h8
     ·have h1:2 ^ (7*i)<=2 ^ 56:=Nat.pow_le_pow_right (by decide) (by omega)
      have h2:c.toNat % 128*2 ^ (7*i)<=127*2 ^ 56:=Nat.mul_le_mul (by omega) h1
      omega
     ·obtain rfl:i=9:=by omega
      have:=h9 rfl
      have h2:v<9223372036854775808:=hv
      have h3:c.toNat % 128*9223372036854775808<=9223372036854775808:=by
       have:c.toNat % 128<=1:=by omega
       omega
      have e:2 ^ (7*9)=9223372036854775808:=by decide
      rw[e]
      omega
    have e1:IntKind.u64.wrap (((c.toNat:Int)).tmod 128)=((c.toNat % 128:Nat):Int):=by
     have hm:((c.toNat:Int)).tmod 128=((c.toNat % 128:Nat):Int):=by rw[Int.tmod_eq_emod_of_nonneg (by omega)];omega
     rw[hm,IntWalk.u64_in _ (by omega)]
    have e2:IntKind.u64.wrap (((2 ^ (7*i):Nat):Int)*((c.toNat % 128:Nat):Int))=((c.toNat % 128*2 ^ (7*i):Nat):Int):=by
     have e:(((2 ^ (7*i):Nat):Int)*((c.toNat % 128:Nat):Int))=((c.toNat % 128*2 ^ (7*i):Nat):Int):=by rw[Nat.mul_comm (c.toNat % 128) (2 ^ (7*i)),Int.natCast_mul]
     rw[e,IntWalk.u64_in _ (by omega)]
    have e3:IntKind.u64.wrap ((v:Int)+((c.toNat % 128*2 ^ (7*i):Nat):Int))=((v+c.toNat % 128*2 ^ (7*i):Nat):Int):=by
     rw[IntWalk.u64_in _ (by omega)];omega
    obtain⟨w',e4,hw3,hw4⟩:∃ w':Nat,IntKind.u64.wrap (((2 ^ (7*i):Nat):Int)*128)=(w':Int)/\w'<18446744073709551616/\(i<=8->w'=2 ^ (7*(i+1))):=by
     refine⟨2 ^ (7*i)*128 % 18446744073709551616,?_,Nat.mod_lt _ (by decide),fun h8=>?_⟩
     ·rw[IntKind.wrap_u64];omega
     ·have h1:2 ^ (7*i)<=2 ^ 56:=Nat.pow_le_pow_right (by decide) (by omega)
      rw[Nat.mod_eq_of_lt (by omega),hpow,Nat.mul_comm]
    have hv2:v+c.toNat % 128*2 ^ (7*i)<2 ^ (7*(i+1)):=by
     rw[hpow]
     have:c.toNat % 128*2 ^ (7*i)<=127*2 ^ (7*i):=Nat.mul_le_mul_right _ (by omega)
     omega
    have ei:IntKind.i64.wrap ((i:Int)+1)=((i+1:Nat):Int):=by rw[IntWalk.i64_in _ (by omega)];omega
    generalize v+c.toNat % 128*2 ^ (7*i)=v2 at *
    generalize hqq:c.toNat % 128*2 ^ (7*i)=q2 at *
    generalize 2 ^ (7*i)=w at *
    by_cases h128:c.toNat<128
    ·have z6:decide ((c.toNat:Int)<128)=true:=decide_eq_true (by omega)
     rw[if_pos h128]at hr
     cases hr
     rw[el]
     by_cases h0:c.toNat=0
     ·have z4:((c.toNat:Int)==0)=true:=by simp;omega
      have z5:decide ((i:Int)>0)=false:=decide_eq_false (by omega)
      repeat'(first|rw[ep]|rw[e1]|rw[e2]|rw[e3]|rw[e4]|(apply Zc (hF);kernel_rfl;(iterate 4 exact Z))|(apply Zl Zb;exact Z)|(apply Zj Zb;exact Z)|(apply Zt Zb;exact Z)|(apply Zi;(iterate 3 exact Z);(first|with_reducible assumption|decide +kernel|(solve|simp only[bn])))|(apply Zo;exact Z;(first|with_reducible assumption|decide +kernel|(solve|simp only[bn]));exact Z;exact Z)|(apply Zn;exact Z;(first|with_reducible assumption|decide +kernel|(solve|simp only[bn]));exact Z;exact Z)|(apply Zf;exact Z;(first|with_reducible assumption|decide +kernel|(solve|simp only[bn])))|(apply Zg;exact Z;(first|with_reducible assumption|decide +kernel|(solve|simp only[bn])))|refine Zz Zb Z Z Z Z ?_|(apply Za 8 Ze;decide +kernel;kernel_rfl;kernel_rfl;kernel_rfl;exact Z;exact Z)|(apply Za 9 Ze;decide +kernel;kernel_rfl;kernel_rfl;kernel_rfl;exact Z;exact Z)|(apply Zv;(iterate 4 exact Z))|exact AE.nil _ _ _ _|(apply ZB;exact Z)|(apply ZD;exact Z;exact Z;decide +kernel;exact Z)|(apply ZE;exact Z)|exact AO.nil _ _ _|(apply Zu;(decide +kernel))|exact AOs.nil|exact ZR rfl rfl|(apply ZF Zb;(iterate 6 exact Z);(first|exact Qt|rotate_left);(first|with_reducible assumption|decide +kernel|exact Z);(first|exact Zk rfl|with_reducible assumption|decide +kernel|rotate_left))|(apply YK;exact Z;exact Z;(first|exact Qt|rotate_left);exact Z))
      all_goals(apply Zw [0];(apply Zd Zb;exact Z);(iterate 4 exact Z))
      all_goals rfl
     ·have z4:((c.toNat:Int)==0)=false:=by simp;omega
      repeat'(first|rw[ep]|rw[e1]|rw[e2]|rw[e3]|rw[e4]|(apply Zc (hF);kernel_rfl;(iterate 4 exact Z))|(apply Zl Zb;exact Z)|(apply Zj Zb;exact Z)|(apply Zt Zb;exact Z)|(apply Zi;(iterate 3 exact Z);(first|with_reducible assumption|decide +kernel|(solve|simp only[bn])))|(apply Zs;(iterate 3 exact Z);(first|with_reducible assumption|decide +kernel|(solve|simp only[bn])))|(apply Zn;exact Z;(first|with_reducible assumption|decide +kernel|(solve|simp only[bn]));exact Z;exact Z)|(apply Zf;exact Z;(first|with_reducible assumption|decide +kernel|(solve|simp only[bn])))|(apply Zg;exact Z;(first|with_reducible assumption|decide +kernel|(solve|simp only[bn])))|refine Zz Zb Z Z Z Z ?_|(apply Za 8 Ze;decide +kernel;kernel_rfl;kernel_rfl;kernel_rfl;exact Z;exact Z)|(apply Za 9 Ze;decide +kernel;kernel_rfl;kernel_rfl;kernel_rfl;exact Z;exact Z)|(apply Zv;(iterate 4 exact Z))|exact AE.nil _ _ _ _|(apply ZB;exact Z)|(apply ZD;exact Z;exact Z;decide +kernel;exact Z)|(apply ZE;exact Z)|exact AO.nil _ _ _|(apply Zu;(decide +kernel))|exact AOs.nil|exact ZR rfl rfl|(apply ZF Zb;(iterate 6 exact Z);(first|exact Qt|rotate_left);(first|with_reducible assumption|decide +kernel|exact Z);(first|exact Zk rfl|with_reducible assumption|decide +kernel|rotate_left))|(apply YK;exact Z;exact Z;(first|exact Qt|rotate_left);exact Z))
      all_goals(apply Zw [0];(apply Zd Zb;exact Z);(iterate 4 exact Z))
      all_goals rfl
    ·have z6:decide ((c.toNat:Int)<128)=false:=decide_eq_false (by omega)
     have z4:((c.toNat:Int)==0)=false:=by simp;omega
     rw[if_neg h128]at hr
     repeat'(first|rw[ep]|rw[e1]|rw[e2]|rw[e3]|rw[e4]|rw[ei]|(apply Zc (hF);kernel_rfl;(iterate 4 exact Z))|(apply Zl Zb;exact Z)|(apply Zj Zb;exact Z)|(apply Zt Zb;exact Z)|(apply Zi;(iterate 3 exact Z);(first|with_reducible assumption|decide +kernel|(solve|simp only[bn])))|(apply Zs;(iterate 3 exact Z);(first|with_reducible assumption|decide +kernel|(solve|simp only[bn])))|(apply Zn;exact Z;(first|with_reducible assumption|decide +kernel|(solve|simp only[bn]));exact Z;exact Z)|(apply Zg;exact Z;(first|with_reducible assumption|decide +kernel|(solve|simp only[bn])))|refine ZU ?_|refine Zz Zb Z Z Z Z ?_|(apply Za 8 Ze;decide +kernel;kernel_rfl;kernel_rfl;kernel_rfl;exact Z;exact Z)|(apply Za 9 Ze;decide +kernel;kernel_rfl;kernel_rfl;kernel_rfl;exact Z;exact Z)|(apply Zv;(iterate 4 exact Z))|exact AE.nil _ _ _ _|(apply ZB;exact Z)|(apply ZD;exact Z;exact Z;decide +kernel;exact Z)|(apply ZE;exact Z)|exact AO.nil _ _ _|(apply Zu;(decide +kernel))|exact AOs.nil|exact ZR rfl rfl|(apply ZF Zb;(iterate 6 exact Z);(first|exact Qt|rotate_left);(first|with_reducible assumption|decide +kernel|exact Z);(first|exact Zk rfl|with_reducible assumption|decide +kernel|rotate_left))|(apply YK;exact Z;exact Z;(first|exact Qt|rotate_left);exact Z))
     refine Lands.mk' (m:=k-1) (by omega) ⟨i+1,v2,p+1,w',by omega,by omega,hv2,by omega,fun h=>hw4 (by omega),hw3,hr,rfl,rfl,rfl⟩ ?_ rfl rfl rfl rfl rfl rfl
     exact .cons rfl (.cons rfl (.cons rfl (.cons rfl (.cons rfl .nil))))
  ·obtain rfl:p=B.length:=by omega
   have t2:decide (((B.length:Nat):Int) ≥ ((B.map E.byte).length:Int))=true:=decide_eq_true (by omega)
   rw[List.drop_length,rnF]at hr
   cases hr
   repeat'(first|(apply Zl Zb;exact Z)|(apply Zj Zb;exact Z)|(apply Zt Zb;exact Z)|(apply Zf;exact Z;(first|with_reducible assumption|decide +kernel|(solve|simp only[bn])))|refine Zz Zb Z Z Z Z ?_|(apply Za 9 Ze;decide +kernel;kernel_rfl;kernel_rfl;kernel_rfl;exact Z;exact Z)|(apply Zv;(iterate 4 exact Z))|exact AE.nil _ _ _ _|(apply ZB;exact Z)|(apply ZD;exact Z;exact Z;decide +kernel;exact Z)|(apply ZE;exact Z)|exact AO.nil _ _ _|(apply Zu;(decide +kernel))|exact AOs.nil|exact ZR rfl rfl)
   all_goals(apply Zw [0];(apply Zd Zb;exact Z);(iterate 4 exact Z))
   all_goals rfl
def Suf (B:List UInt8)(s:Nat × List UInt8):Prop:=s.2.length<=B.length/\s.2=B.drop (B.length-s.2.length)
theorem K1 {B:List UInt8}{k e:Nat}:Suf B (e,B.drop k):=by
 refine⟨by simp,?_⟩
 dsimp only
 rcases Nat.lt_or_ge k B.length with h|h
 ·rw[List.length_drop,show B.length-(B.length-k)=k by omega]
 ·rw[List.drop_of_length_le h];simp
theorem Yt {B:List UInt8}{s:Nat × List UInt8}(h:Suf B s):Suf B (ZA s).2:=by
 unfold ZA
 split
 ·obtain⟨k,h1,h2⟩:=Ia s.2 0 0
  have e:(rnF s.2 0 0).2=((rnF s.2 0 0).2.1,B.drop (B.length-s.2.length+k)):=by
   rw[<- List.drop_drop,<- h.2,<- h2]
  rw[e]
  exact K1
 ·exact h
theorem K2 {B:List UInt8}{f:Nat}{s:Nat × List UInt8}(h:Suf B s):Suf B (V4 f s):=by
 unfold Suf
 rw[Jv]
 exact h
theorem Yj {B:List UInt8}{t:Nat}{s:Nat × List UInt8}(h:Suf B s):Suf B (Z2 t s).2:=by
 unfold Z2
 split
 ·exact K2 (Yt h)
 ·exact Yt h
theorem Um {B:List UInt8}{s:Nat × List UInt8}(h:Suf B s):Suf B (Vj s).2:=by
 unfold Vj
 split
 ·exact Yt h
 ·split
  ·exact K2 (Yt h)
  ·have h2:=(Yt h).2
   rw[h2,List.drop_drop]
   exact K1
abbrev rfS (B:List UInt8)(s:Nat × List UInt8):List (List D):=rfD B (B.length-s.2.length) s.1
theorem WS [Known](B:List UInt8)(s:Nat × List UInt8)(hs:Suf B s)(hB:B.length<=1000000):AQ Tryz.prog 76 [.ptr 0 0] (rfS B s) (.int .u64 ((ZA s).1:Int)) (rfS B (ZA s).2):=by
 obtain⟨e,q⟩:=s
 have h:=II B (B.length-q.length) e (by omega) hB
 rw[<- hs.2]at h
 exact h
theorem Yb [Known](B:List UInt8)(top:Nat)(s:Nat × List UInt8)(hs:Suf B s)(hB:B.length<=1000000):AQ Tryz.prog 77 [.ptr 0 0,.int .u64 (top:Int)] (rfS B s) (.int .u64 ((Z2 top s).1:Int)) (rfS B (Z2 top s).2):=by
 have hN:=WS B s hs hB
 have hE:(ZA s).1>0->((ZA s).2.1:Int)==0:=fun h=>by
  unfold ZA at h ⊢
  split at h
  ·rename_i h1
   have key:∀(b:List UInt8) (i a:Nat),(rnF b i a).1>0->(rnF b i a).2.1=0:=by
    intro b
    induction b with
    | nil=>intro i a h;simp[rnF]at h
    | cons c r ih=>
     intro i a h
     rw[rnF]at h ⊢
     split
     ·rename_i hb;rw[if_pos hb]at h;simp at h
     ·rename_i hb
      rw[if_neg hb]at h
      split
      ·rfl
      ·rename_i hc;rw[if_neg hc]at h;exact ih _ _ h
   rw[key _ _ _ h];rfl
  ·simp at h
 unfold Z2
 have hL:=Yt hs
 generalize ZA s=p at *
 obtain⟨n,e,q⟩:=p
 obtain⟨e0,b⟩:=s
 dsimp only at hN hE ⊢
 cases t:decide ((n:Int)>(top:Int)) with
 | true=>
  have h0:=hE (by have:=of_decide_eq_true t;omega)
  have e1:V4 3 (e,q)=(3,q):=by unfold V4;rw[h0]
  dsimp only
  rw[e1]
  refine AQ.weak (Zp Tryz.func77 Z Tryz.ntmps77 Z Z ?_)
  repeat'(first|(apply Zh [0] (hN);kernel_rfl;(iterate 7 exact Z))|(apply Zl Zb;exact Z)|(apply Zj Zb;exact Z)|(apply Zt Zb;exact Z)|(apply Zf;exact Z;(first|with_reducible assumption|decide +kernel|(solve|simp only[bn]))))
  all_goals(apply Zw [0];(apply Zd Zb;exact Z);(iterate 4 exact Z))
  all_goals rfl
 | false=>
  dsimp only
  refine AQ.weak (Zp Tryz.func77 Z Tryz.ntmps77 Z Z ?_)
  repeat'(first|(apply Zh [0] (hN);kernel_rfl;(iterate 7 exact Z))|(apply Zl Zb;exact Z)|(apply Zj Zb;exact Z)|(apply Zg;exact Z;(first|with_reducible assumption|decide +kernel|(solve|simp only[bn]))))
  all_goals(apply Zw [0];(apply Zd Zb;exact Z);(iterate 4 exact Z))
  all_goals rfl
theorem QD [Known](b:List UInt8)(hb:b.length<=1000000):AP Tryz.prog 87 [byE b] (byE (vn b.length++b)) []:=by
 have hbl:(b.map E.byte).length=b.length:=List.length_map ..
 have hN:=Jx b.length (by omega)
 have e2:IntKind.u64.wrap (((b.map E.byte).length:Nat):Int)=(b.length:Int):=by rw[hbl];exact IntWalk.u64_in _ (by omega)
 have hvl:=W1 9 b.length
 have hMl:(vn b.length).length<=10:=hvl.1
 generalize vn b.length=M at *
 have hU1:=YD b
 have hU2:=YD M
 have hMm:(M.map E.byte).length=M.length:=List.length_map ..
 cases b with
 | nil=>
  rw[List.append_nil]
  refine AP.ofA (Zp Tryz.func87 Z Tryz.ntmps87 Z Z ?_)
  repeat'(first|rw[e2]|(apply Zm [] [] (hN);kernel_rfl;(iterate 10 exact Z))|(apply Zl Zb;exact Z)|(apply Zj Zb;exact Z)|refine Zz Zb Z Z Z Z ?_|refine ZN Zb Z Z Z Z Z Z ?_)
  all_goals exact Qe
 | cons c b=>
  have hne:(c::b).map E.byte ≠ []:=List.cons_ne_nil _ _
  have hf1:M.length=(M.map E.byte).length:=hMm.symm
  have hF:M.map E.byte++(c::b).map E.byte=(M++c::b).map E.byte:=by simp
  refine AP.ofA (Zp Tryz.func87 Z Tryz.ntmps87 Z Z ?_)
  repeat'(first|rw[e2]|(apply Zm [] [] (hN);kernel_rfl;(iterate 10 exact Z))|(apply Zl Zb;exact Z)|(apply Zj Zb;exact Z)|refine Zz Zb Z Z Z Z ?_|(apply ZJ Zb;(iterate 6 exact Z);(first|with_reducible assumption|decide +kernel|exact Z|rotate_left);exact Z;exact Z;(first|exact Zk rfl|with_reducible assumption|decide +kernel|rotate_left);(first|exact Zk rfl|with_reducible assumption|decide +kernel|rotate_left);(first|exact Qt|rotate_left);(first|exact Qt|rotate_left);(first|exact Qt|rotate_left);exact Z;exact Z))
  all_goals first|(apply Zw [];(apply Zd Zb;exact Z);(iterate 4 exact Z))|exact hne|exact hf1|exact hU1|exact hU2|(rw[hMm,hbl];unfold maxLen;omega)|(rw[hMm,hbl];show(_+_)*1<=_;omega)
  all_goals first|rfl|exact congrArg (fun l=>D.sl .ext l) hF
end Go.Proofs.YtchlgagdbflkmaaGreatDoor
end

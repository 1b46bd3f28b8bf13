/- The reader of items: bytes and texts. -/
import Derived.Test.YtchlgagdbflkmaaGreatDoorK18
import Derived.Test.YtchlgagdbflkmaaGreatDoorK19
set_option linter.unusedVariables false
set_option linter.unusedSimpArgs false
section
open Go.RowKit Go.Pl Go.Av
namespace Go.Proofs.YtchlgagdbflkmaaGreatDoor
set_option maxHeartbeats 4000000
theorem VW {b pre r:List UInt8}{p:Nat}(hp:p<=b.length)(h:b.drop p=pre++r):b.drop (b.length-r.length)=r/\b.length-r.length<=b.length/\p+pre.length=b.length-r.length:=by
 have hl:=congrArg List.length h
 rw[List.length_drop,List.length_append]at hl
 have e:b.length-r.length=p+pre.length:=by omega
 refine⟨?_,by omega,e.symm⟩
 rw[e,<- List.drop_drop,h,List.drop_left]
abbrev txB (b:List UInt8)(p m:Nat)(k:Int)(n:Nat)(tk:Tok)(acc:List E):List (List D):=[rdC b p m,[.int .i64 k,.int .u64 (n:Int),.bool true],[.int .i64 0,.int .u64 0,.sl .nil [],.sl .nil []],[.int .i64 k,.int .u64 0,.sl tk acc,.sl .nil []]]
theorem Oh [Known][KnownU8](h:Hd)(b:List UInt8)(p m:Nat)(hb:b.length<=140737488351232)(hp:p<=b.length)(hn:h.2.1<18446744073709551616):AR Tryz.prog 205 [.ptr 0 0,hd h] [rdC b p m] (match Jv h (b.drop p) with
  | .error e=>.error (VV e)
  | .ok (c,r)=>.ok (itD (.mk h.1 0 c []),[rdC b (b.length-r.length) m])):=by
 obtain⟨k,n,o⟩:=h
 dsimp only at hn
 show AR Tryz.prog _ [.ptr 0 0,.agg [.int .i64 k,.int .u64 (n:Int),.bool o]] _ _
 cases o with
 | false=>
  have hpc:=I7 (k,n,false) b p m hb hp hn
  unfold Jv
  dsimp only at hpc ⊢
  cases hc:WG (k,n,false) (b.drop p) with
  | error e=>
   rw[hc]at hpc
   refine Zl Tryz.func205 rfl Tryz.ntmps205 rfl rfl ?_
   repeat'(first|(apply Yd [0] (hpc.x rfl);kernel_rfl;(iterate 6 exact Z);intro bx2 fr2 hle2)|(apply Zh Za;exact Z)|(apply Zs Za;exact Z)|refine Ze Z Qt ?_)
   all_goals(apply VC;exact Z;(first|exact Nat.zero_le _|exact Nat.le_trans (Nat.le_of_ble_eq_true rfl) (by assumption));exact Z)
  | ok y=>
   obtain⟨c,r⟩:=y
   rw[hc]at hpc
   refine Zl Tryz.func205 rfl Tryz.ntmps205 rfl rfl ?_
   repeat'(first|(apply ZC [0] (hpc.q rfl);kernel_rfl;(iterate 7 exact Z))|(apply Zg Za;exact Z)|(apply Zh Za;exact Z)|(apply Zs Za;exact Z)|refine Z7 ?_|refine Ze Z Qt ?_)
   all_goals(apply Jo (rfl) [0];(apply Zc Za;exact Z);(iterate 4 exact Z))
   all_goals rfl
 | true=>
  unfold Jv
  dsimp only
  generalize ho:X6 k ((b.drop p).length+1) [] (b.drop p)=o
  refine Zl Tryz.func205 rfl Tryz.ntmps205 rfl rfl ?_
  repeat'(first|(apply Zh Za;exact Z)|refine Zf Z Qt ?_)
  refine Yf (fun f tm bx fr=>∃(acc:List UInt8) (p' c:Nat) (L:List E),p'<=b.length/\c=L.length/\L=acc.map E.byte/\acc.length+(b.length-p')<=b.length/\(b.drop p').length<f/\X6 k f acc (b.drop p')=o/\tm=[(0,.ptr 0 0),(3,.ptr 1 0),(4,.ptr 2 0),(5,.ptr 3 0)] /\
   ((acc=[]/\bx=txB b p' m k n .nil []/\fr=[])\/(bx=txB b p' m k n (.own 0) L/\fr=[⟨c,1,5⟩]))) ((b.drop p).length+2) (Lands.mk' (m:=(b.drop p).length+1) (Nat.lt_succ_self _) ⟨[],p,0,[],hp,rfl,rfl,by simp,by omega,ho,rfl,.inl ⟨rfl,rfl,rfl⟩⟩ ?_ rfl rfl rfl rfl rfl rfl) ?_
  ·exact .cons rfl (.cons rfl (.cons rfl (.cons rfl .nil)))
  rintro f tm bx fr ⟨acc,p',c,L,hp',hc,hL,hsum,hf,hS,rfl,hst⟩
  obtain⟨f,rfl⟩:∃ g,f=g+1:=⟨f-1,by omega⟩
  have hends:=H5 b p' m hb hp'
  rw[X6]at hS
  have hlp:(b.drop p').length=b.length-p':=List.length_drop ..
  cases he:QR (b.drop p') with
  | true=>
   rw[he]at hS hends
   dsimp only at hS
   rw[if_pos rfl]at hends
   subst hS
   dsimp only
   obtain⟨x,hx⟩:=Qh _ he
   obtain⟨q1,q2,q3⟩:=VW (pre:=[x]) hp' hx
   have q3:b.length-(b.drop p').tail.length=p'+1:=q3.symm
   rw[q3]
   subst hL
   rcases hst with⟨rfl,rfl,rfl⟩ | ⟨rfl,rfl⟩
   ·repeat'(first|(apply ZC [0] (hends);kernel_rfl;(iterate 7 exact Z))|(apply Zg Za;exact Z)|(apply Zh Za;exact Z)|(apply Zs Za;exact Z)|refine Z7 ?_|refine Zf Z Qt ?_)
    all_goals(apply Jo (rfl) [0];(apply Zc Za;exact Z);(iterate 4 exact Z))
    all_goals rfl
   ·repeat'(first|(apply ZC [0] (hends);kernel_rfl;(iterate 7 exact Z))|(apply Zg Za;exact Z)|(apply Zh Za;exact Z)|(apply Zs Za;exact Z)|refine Z7 ?_|refine Zf Z Qt ?_)
    all_goals(apply Jo (rfl) [0];(apply Zc Za;exact Z);(iterate 4 exact Z))
    all_goals rfl
  | false=>
   rw[he]at hS hends
   dsimp only at hS
   rw[if_neg (by simp)]at hends
   have hhd:=I6 b p' m hb hp'
   cases hr:rdS (b.drop p') with
   | error e=>
    rw[hr]at hS hhd
    dsimp only at hS hhd
    subst hS
    dsimp only
    rcases hst with⟨rfl,rfl,rfl⟩ | ⟨rfl,rfl⟩
    ·repeat'(first|(apply ZC [0] (hends);kernel_rfl;(iterate 7 exact Z))|(apply Yd [0] (hhd.x rfl);kernel_rfl;(iterate 6 exact Z);intro bx2 fr2 hle2)|(apply Zg Za;exact Z)|(apply Zh Za;exact Z)|(apply Zs Za;exact Z)|refine Z7 ?_|refine Ze Z Qt ?_)
     all_goals(apply VC;exact Z;(first|exact Nat.zero_le _|exact Nat.le_trans (Nat.le_of_ble_eq_true rfl) (by assumption));exact Z)
    ·repeat'(first|(apply ZC [0] (hends);kernel_rfl;(iterate 7 exact Z))|(apply Yd [0] (hhd.x rfl);kernel_rfl;(iterate 6 exact Z);intro bx2 fr2 hle2)|(apply Zg Za;exact Z)|(apply Zh Za;exact Z)|(apply Zs Za;exact Z)|refine Z7 ?_|refine Ze Z Qt ?_)
     all_goals(apply VC;exact Z;(first|exact Nat.zero_le _|exact Nat.le_trans (Nat.le_of_ble_eq_true rfl) (by assumption));exact Z)
   | ok y=>
    obtain⟨⟨k1,n1,o1⟩,r⟩:=y
    rw[hr]at hS hhd
    dsimp only at hS hhd
    obtain⟨_,hn1,pre,hpre,_,hpos⟩:=O6 hr
    obtain⟨q1,q2,q3⟩:=VW hp' hpre
    generalize hp2:b.length-r.length=p2 at q1 q2 q3 hhd
    by_cases hcond:k1=k/\o1=false
    ·rw[if_pos hcond]at hS
     obtain⟨rfl,rfl⟩:=hcond
     have tk:(k1==k1)=true:=beq_self_eq_true k1
     have hpc:=I7 (k1,n1,false) b p2 m hb q2 hn1
     rw[q1]at hpc
     cases hc1:WG (k1,n1,false) r with
     | error e=>
      rw[hc1]at hS hpc
      dsimp only at hS hpc
      subst hS
      dsimp only
      rcases hst with⟨rfl,rfl,rfl⟩ | ⟨rfl,rfl⟩
      ·repeat'(first|(apply ZC [0] (hends);kernel_rfl;(iterate 7 exact Z))|(apply ZC [0] (hhd.q rfl);kernel_rfl;(iterate 7 exact Z))|(apply Zb (ZV 3);kernel_rfl;(iterate 4 exact Z))|(apply Yd [0] (hpc.x rfl);kernel_rfl;(iterate 6 exact Z);intro bx2 fr2 hle2)|(apply Uo 7 4 ZG;decide +kernel;kernel_rfl;decide +kernel;exact Z;exact Z)|exact ADX.nil _ _|(apply Up;decide +kernel;exact Z)|(apply QG;(iterate 3 exact Z))|(apply JT;(iterate 4 exact Z))|exact JS rfl (by assumption)|intro tm2 bx2 fr2 hle2|(apply Zg Za;exact Z)|(apply Zh Za;exact Z)|(apply Zs Za;exact Z)|refine Z7 ?_|refine Zd Z Z Z Qt ?_|refine Zj Z Qt Z Z ?_|refine Ze Z Qt ?_|exact Yv rfl)
       all_goals(apply VC;exact Z;(first|exact Nat.zero_le _|exact Nat.le_trans (Nat.le_of_ble_eq_true rfl) (by assumption));exact Z)
      ·repeat'(first|(apply ZC [0] (hends);kernel_rfl;(iterate 7 exact Z))|(apply ZC [0] (hhd.q rfl);kernel_rfl;(iterate 7 exact Z))|(apply Zb (ZV 3);kernel_rfl;(iterate 4 exact Z))|(apply Yd [0] (hpc.x rfl);kernel_rfl;(iterate 6 exact Z);intro bx2 fr2 hle2)|(apply Uo 7 4 ZG;decide +kernel;kernel_rfl;decide +kernel;exact Z;exact Z)|exact ADX.nil _ _|(apply Up;decide +kernel;exact Z)|(apply QG;(iterate 3 exact Z))|(apply JT;(iterate 4 exact Z))|exact JS rfl (by assumption)|intro tm2 bx2 fr2 hle2|(apply Zg Za;exact Z)|(apply Zh Za;exact Z)|(apply Zs Za;exact Z)|refine Z7 ?_|refine Zd Z Z Z Qt ?_|refine Zj Z Qt Z Z ?_|refine Ze Z Qt ?_|exact Yv rfl)
       all_goals(apply VC;exact Z;(first|exact Nat.zero_le _|exact Nat.le_trans (Nat.le_of_ble_eq_true rfl) (by assumption));exact Z)
     | ok y=>
      obtain⟨c1,r2⟩:=y
      rw[hc1]at hS hpc
      dsimp only at hS hpc
      obtain⟨w1,w2,w3⟩:=JX hc1
      obtain⟨z1,z2,z3⟩:=VW q2 (q1.trans w1)
      generalize hp3:b.length-r2.length=p3 at z1 z2 z3 hpc
      have hpl:=congrArg List.length hpre
      have hrl:=congrArg List.length w1
      have hdl:(b.drop p3).length=r2.length:=by rw[z1]
      rw[List.length_append]at hpl hrl
      rw[<- z1]at hS
      rw[List.length_drop]at hdl
      have hf3:(b.drop p3).length<f:=by rw[List.length_drop];omega
      have hsum3:(acc++c1).length+(b.length-p3)<=b.length:=by rw[List.length_append];omega
      cases c1 with
      | nil=>
       rw[List.append_nil]at hS hsum3
       rcases hst with⟨rfl,rfl,rfl⟩ | ⟨rfl,rfl⟩
       ·repeat'(first|(apply ZC [0] (hends);kernel_rfl;(iterate 7 exact Z))|(apply ZC [0] (hhd.q rfl);kernel_rfl;(iterate 7 exact Z))|(apply Zb (ZV 3);kernel_rfl;(iterate 4 exact Z))|(apply ZC [0] (hpc.q rfl);kernel_rfl;(iterate 7 exact Z))|(apply Zg Za;exact Z)|(apply Zh Za;exact Z)|(apply Zs Za;exact Z)|refine Z7 ?_|refine Zd Z Z Z Qt ?_|refine Zj Z Qt Z Z ?_|refine Ze Z Qt ?_|refine ZD ?_|(apply Zm 5 ZG;decide +kernel;kernel_rfl;kernel_rfl;kernel_rfl;exact Z;exact Z)|(apply Zq;(iterate 4 exact Z))|exact AE.nil _ _ _ _|(apply Zv;exact Z)|(apply Yj;exact Z)|(apply ZA;exact Z;exact Z;decide +kernel;exact Z)|(apply ZB;exact Z)|(apply Yr;exact Z)|exact AO.nil _ _ _|(apply Zp;(decide +kernel))|(apply ZZ;(iterate 3 exact Z))|exact AOs.nil|exact ZJ rfl rfl|exact Y2 rfl rfl|refine Wq Za Z Z Z Z Z Z ?_)
        refine Lands.mk' (m:=f) (Nat.lt_succ_self _) ⟨[],p3,0,[],z2,rfl,rfl,hsum3,hf3,hS,rfl,.inl ⟨rfl,rfl,rfl⟩⟩ ?_ rfl rfl rfl rfl rfl rfl
        exact .cons rfl (.cons rfl (.cons rfl (.cons rfl .nil)))
       ·subst hc
        repeat'(first|(apply ZC [0] (hends);kernel_rfl;(iterate 7 exact Z))|(apply ZC [0] (hhd.q rfl);kernel_rfl;(iterate 7 exact Z))|(apply Zb (ZV 3);kernel_rfl;(iterate 4 exact Z))|(apply ZC [0] (hpc.q rfl);kernel_rfl;(iterate 7 exact Z))|(apply Zg Za;exact Z)|(apply Zh Za;exact Z)|(apply Zs Za;exact Z)|refine Z7 ?_|refine Zd Z Z Z Qt ?_|refine Zj Z Qt Z Z ?_|refine Ze Z Qt ?_|refine ZD ?_|(apply Zm 5 ZG;decide +kernel;kernel_rfl;kernel_rfl;kernel_rfl;exact Z;exact Z)|(apply Zq;(iterate 4 exact Z))|exact AE.nil _ _ _ _|(apply Zv;exact Z)|(apply Yj;exact Z)|(apply ZA;exact Z;exact Z;decide +kernel;exact Z)|(apply ZB;exact Z)|(apply Yr;exact Z)|exact AO.nil _ _ _|(apply Zp;(decide +kernel))|(apply ZZ;(iterate 3 exact Z))|exact AOs.nil|exact ZJ rfl rfl|exact Y2 rfl rfl|refine Wq Za Z Z Z Z Z Z ?_)
        refine Lands.mk' (m:=f) (Nat.lt_succ_self _) ⟨acc,p3,_,L,z2,rfl,hL,hsum3,hf3,hS,rfl,.inr ⟨rfl,rfl⟩⟩ ?_ rfl rfl rfl rfl rfl rfl
        exact .cons rfl (.cons rfl (.cons rfl (.cons rfl .nil)))
      | cons x c1=>
       have hU1:=Y7 (x::c1)
       rcases hst with⟨rfl,rfl,rfl⟩ | ⟨rfl,rfl⟩
       ·repeat'(first|(apply ZC [0] (hends);kernel_rfl;(iterate 7 exact Z))|(apply ZC [0] (hhd.q rfl);kernel_rfl;(iterate 7 exact Z))|(apply Zb (ZV 3);kernel_rfl;(iterate 4 exact Z))|(apply ZC [0] (hpc.q rfl);kernel_rfl;(iterate 7 exact Z))|(apply Zg Za;exact Z)|(apply Zh Za;exact Z)|(apply Zs Za;exact Z)|refine Z7 ?_|refine Zd Z Z Z Qt ?_|refine Zj Z Qt Z Z ?_|refine Ze Z Qt ?_|refine ZD ?_|(apply Zm 5 ZG;decide +kernel;kernel_rfl;kernel_rfl;kernel_rfl;exact Z;exact Z)|(apply Zq;(iterate 4 exact Z))|exact AE.nil _ _ _ _|(apply Zv;exact Z)|(apply Yj;exact Z)|(apply ZA;exact Z;exact Z;decide +kernel;exact Z)|(apply ZB;exact Z)|(apply Yr;exact Z)|exact AO.nil _ _ _|(apply Zp;(decide +kernel))|(apply ZZ;(iterate 3 exact Z))|exact AOs.nil|exact ZJ rfl rfl|exact Y2 rfl rfl|(apply Vn Za;(iterate 6 exact Z);(first|exact Zk rfl|with_reducible assumption|decide +kernel|rotate_left);(first|exact Qt|rotate_left);(first|exact Qt|rotate_left);(first|exact Qt|rotate_left);(iterate 3 exact Z)))
        ·refine Lands.mk' (m:=f) (Nat.lt_succ_self _) ⟨x::c1,p3,_,_,z2,rfl,rfl,hsum3,hf3,hS,rfl,.inr ⟨rfl,rfl⟩⟩ ?_ rfl rfl rfl rfl rfl rfl
         exact .cons rfl (.cons rfl (.cons rfl (.cons rfl .nil)))
        all_goals(first|rfl|(simp only[List.length_append,List.length_cons,List.length_nil,List.length_map,Zz];done)|(simp only[List.length_append,List.length_cons,List.length_nil,List.length_map,Zz]at *;(try unfold maxLen);(try simp only[Nat.add_mul]);omega))
       ·subst hc
        have hUa:Uni 1 L:=hL ▸ Y7 acc
        have hLl:L.length=acc.length:=by rw[hL,List.length_map]
        repeat'(first|(apply ZC [0] (hends);kernel_rfl;(iterate 7 exact Z))|(apply ZC [0] (hhd.q rfl);kernel_rfl;(iterate 7 exact Z))|(apply Zb (ZV 3);kernel_rfl;(iterate 4 exact Z))|(apply ZC [0] (hpc.q rfl);kernel_rfl;(iterate 7 exact Z))|(apply Zg Za;exact Z)|(apply Zh Za;exact Z)|(apply Zs Za;exact Z)|refine Z7 ?_|refine Zd Z Z Z Qt ?_|refine Zj Z Qt Z Z ?_|refine Ze Z Qt ?_|refine ZD ?_|(apply Zm 5 ZG;decide +kernel;kernel_rfl;kernel_rfl;kernel_rfl;exact Z;exact Z)|(apply Zq;(iterate 4 exact Z))|exact AE.nil _ _ _ _|(apply Zv;exact Z)|(apply Yj;exact Z)|(apply ZA;exact Z;exact Z;decide +kernel;exact Z)|(apply ZB;exact Z)|(apply Yr;exact Z)|exact AO.nil _ _ _|(apply Zp;(decide +kernel))|(apply ZZ;(iterate 3 exact Z))|exact AOs.nil|exact ZJ rfl rfl|exact Y2 rfl rfl|(apply Z3 Za;(iterate 6 exact Z);(first|with_reducible assumption|decide +kernel|exact Z|rotate_left);exact Z;exact Z;(first|exact Zk rfl|with_reducible assumption|decide +kernel|rotate_left);(first|exact Zk rfl|with_reducible assumption|decide +kernel|rotate_left);(first|exact Qt|rotate_left);(first|exact Qt|rotate_left);(first|exact Qt|rotate_left);exact Z;exact Z))
        ·refine Lands.mk' (m:=f) (Nat.lt_succ_self _) ⟨acc++(x::c1),p3,L.length+((x::c1).map E.byte).length,L++(x::c1).map E.byte,z2,by rw[List.length_append],by rw[hL,List.map_append],hsum3,hf3,hS,rfl,.inr ⟨rfl,rfl⟩⟩ ?_ rfl rfl rfl rfl rfl rfl
         exact .cons rfl (.cons rfl (.cons rfl (.cons rfl .nil)))
        all_goals(first|rfl|(simp only[List.length_append,List.length_cons,List.length_nil,List.length_map,Zz];done)|(simp only[List.length_append,List.length_cons,List.length_nil,List.length_map,Zz]at *;(try unfold maxLen);(try simp only[Nat.add_mul]);omega))
    ·rw[if_neg hcond]at hS
     subst hS
     dsimp only
     cases o1 with
     | true=>
      rcases hst with⟨rfl,rfl,rfl⟩ | ⟨rfl,rfl⟩
      ·repeat'(first|(apply ZC [0] (hends);kernel_rfl;(iterate 7 exact Z))|(apply ZC [0] (hhd.q rfl);kernel_rfl;(iterate 7 exact Z))|(apply Yd [] (W6 3);kernel_rfl;(iterate 6 exact Z);intro bx2 fr2 hle2)|(apply Zg Za;exact Z)|(apply Zh Za;exact Z)|(apply Zs Za;exact Z)|refine Z7 ?_|refine Zd Z Z Z Qt ?_|refine Zr Z Z Z Qt ?_|(apply Ym;exact Z;exact Z;all_goals intro hb)|refine Zj Z Qt Z Z ?_|refine Zi Z Qt Z Z ?_|refine Ze Z Qt ?_)
       all_goals(apply VC;exact Z;(first|exact Nat.zero_le _|exact Nat.le_trans (Nat.le_of_ble_eq_true rfl) (by assumption));exact Z)
      ·repeat'(first|(apply ZC [0] (hends);kernel_rfl;(iterate 7 exact Z))|(apply ZC [0] (hhd.q rfl);kernel_rfl;(iterate 7 exact Z))|(apply Yd [] (W6 3);kernel_rfl;(iterate 6 exact Z);intro bx2 fr2 hle2)|(apply Zg Za;exact Z)|(apply Zh Za;exact Z)|(apply Zs Za;exact Z)|refine Z7 ?_|refine Zd Z Z Z Qt ?_|refine Zr Z Z Z Qt ?_|(apply Ym;exact Z;exact Z;all_goals intro hb)|refine Zj Z Qt Z Z ?_|refine Zi Z Qt Z Z ?_|refine Ze Z Qt ?_)
       all_goals(apply VC;exact Z;(first|exact Nat.zero_le _|exact Nat.le_trans (Nat.le_of_ble_eq_true rfl) (by assumption));exact Z)
     | false=>
      have tk:(k1==k)=false:=by simpa using fun h=>hcond ⟨h,rfl⟩
      rcases hst with⟨rfl,rfl,rfl⟩ | ⟨rfl,rfl⟩
      ·repeat'(first|(apply ZC [0] (hends);kernel_rfl;(iterate 7 exact Z))|(apply ZC [0] (hhd.q rfl);kernel_rfl;(iterate 7 exact Z))|(apply Yd [] (W6 3);kernel_rfl;(iterate 6 exact Z);intro bx2 fr2 hle2)|(apply Zg Za;exact Z)|(apply Zh Za;exact Z)|(apply Zs Za;exact Z)|refine Z7 ?_|refine Zr Z Z Z Qt ?_|refine Zi Z Qt Z Z ?_|refine Ze Z Qt ?_)
       all_goals(apply VC;exact Z;(first|exact Nat.zero_le _|exact Nat.le_trans (Nat.le_of_ble_eq_true rfl) (by assumption));exact Z)
      ·repeat'(first|(apply ZC [0] (hends);kernel_rfl;(iterate 7 exact Z))|(apply ZC [0] (hhd.q rfl);kernel_rfl;(iterate 7 exact Z))|(apply Yd [] (W6 3);kernel_rfl;(iterate 6 exact Z);intro bx2 fr2 hle2)|(apply Zg Za;exact Z)|(apply Zh Za;exact Z)|(apply Zs Za;exact Z)|refine Z7 ?_|refine Zr Z Z Z Qt ?_|refine Zi Z Qt Z Z ?_|refine Ze Z Qt ?_)
       all_goals(apply VC;exact Z;(first|exact Nat.zero_le _|exact Nat.le_trans (Nat.le_of_ble_eq_true rfl) (by assumption));exact Z)
abbrev itR (b:List UInt8)(d p m:Nat):Except D (D × List (List D)):=match Yc d m (b.drop p) with
 | .error e=>.error (VV e)
 | .ok (x,r,m')=>.ok (itD x,[rdC b (b.length-r.length) m'])
abbrev liB (b:List UInt8)(p m n:Nat)(o:Bool)(tk:Tok)(acc:List E):List (List D):=[rdC b p m,[.int .i64 4,.int .u64 (n:Int),.bool o],[.int .i64 0,.int .u64 0,.sl .nil [],.sl .nil []],[.int .i64 4,.int .u64 0,.sl .nil [],.sl tk acc]]
theorem N4 [Known][KnownU8](d deep:Nat)(hdd:deep+d=6)(b:List UInt8)(hb:b.length<=140737488351232)
  (IH:∀ p m,p<=b.length->m<=256->AR Tryz.prog 170 [.ptr 0 0,.int .i64 ((deep+1:Nat):Int)] [rdC b p m] (itR b d p m))
  (n:Nat) (o:Bool) (p m:Nat) (hp:p<=b.length) (hm:m<=256) (hn:n<18446744073709551616):AR Tryz.prog 204 [.ptr 0 0,hd (4,n,o),.int .i64 (deep:Int)] [rdC b p m] (match X8 (Yc d) (4,n,o) m (b.drop p) with
  | .error e=>.error (VV e)
  | .ok (l,r,m')=>.ok (itD (.mk 4 0 [] l),[rdC b (b.length-r.length) m'])):=by
 show AR Tryz.prog _ [.ptr 0 0,.agg [.int .i64 4,.int .u64 (n:Int),.bool o],.int .i64 (deep:Int)] _ _
 have hR:=Jx d (by omega)
 have ed:IntKind.i64.wrap ((deep:Int)+1)=((deep+1:Nat):Int):=by rw[IntWalk.i64_in _ (by omega)];omega
 cases o with
 | true=>
  unfold X8
  dsimp only
  generalize ho:X7 (Yc d) ((b.drop p).length+1) [] m (b.drop p)=o
  refine Zl Tryz.func204 rfl Tryz.ntmps204 rfl rfl ?_
  repeat'(first|(apply Zh Za;exact Z)|refine Ze Z Qt ?_)
  refine Yf (fun f tm bx fr=>∃(acc:List It) (p' m' c:Nat) (L:List E),p'<=b.length/\m'<=256/\c=L.length/\L=Zu acc/\(acc.length+(b.length-p')<=b.length/\acc.length+m'<=256)/\(b.drop p').length<f/\X7 (Yc d) f acc m' (b.drop p')=o/\tm=[(0,.ptr 0 0),(2,.int .i64 (deep:Int)),(4,.ptr 1 0),(6,.ptr 2 0),(7,.ptr 3 0)] /\
   ((acc=[]/\bx=liB b p' m' n true .nil []/\fr=[])\/(bx=liB b p' m' n true (.own 0) L/\fr=[⟨c,4,230⟩]))) ((b.drop p).length+2) (Lands.mk' (m:=(b.drop p).length+1) (Nat.lt_succ_self _) ⟨[],p,m,0,[],hp,hm,rfl,rfl,⟨by simp,by simpa using hm⟩,by omega,ho,rfl,.inl ⟨rfl,rfl,rfl⟩⟩ ?_ rfl rfl rfl rfl rfl rfl) ?_
  ·exact .cons rfl (.cons rfl (.cons rfl (.cons rfl (.cons rfl .nil))))
  rintro f tm bx fr ⟨acc,p',m',c,L,hp',hm',hc,hL,hsum,hf,hS,rfl,hst⟩
  obtain⟨f,rfl⟩:∃ g,f=g+1:=⟨f-1,by omega⟩
  have hends:=H5 b p' m' hb hp'
  rw[X7]at hS
  have hlp:(b.drop p').length=b.length-p':=List.length_drop ..
  cases he:QR (b.drop p') with
  | true=>
   rw[he]at hS hends
   dsimp only at hS
   rw[if_pos rfl]at hends
   subst hS
   dsimp only
   obtain⟨x,hx⟩:=Qh _ he
   obtain⟨q1,q2,q3⟩:=VW (pre:=[x]) hp' hx
   have q3:b.length-(b.drop p').tail.length=p'+1:=q3.symm
   rw[q3]
   subst hL
   rcases hst with⟨rfl,rfl,rfl⟩ | ⟨rfl,rfl⟩
   ·repeat'(first|(apply ZC [0] (hends);kernel_rfl;(iterate 7 exact Z))|(apply Zg Za;exact Z)|(apply Zh Za;exact Z)|(apply Zs Za;exact Z)|refine Z7 ?_|refine Zf Z Qt ?_)
    all_goals(apply Jo (rfl) [0];(apply Zc Za;exact Z);(iterate 4 exact Z))
    all_goals rfl
   ·repeat'(first|(apply ZC [0] (hends);kernel_rfl;(iterate 7 exact Z))|(apply Zg Za;exact Z)|(apply Zh Za;exact Z)|(apply Zs Za;exact Z)|refine Z7 ?_|refine Zf Z Qt ?_)
    all_goals(apply Jo (rfl) [0];(apply Zc Za;exact Z);(iterate 4 exact Z))
    all_goals rfl
  | false=>
   rw[he]at hS hends
   dsimp only at hS
   rw[if_neg (by simp)]at hends
   have hit:=IH p' m' hp' hm'
   unfold itR at hit
   cases hr:Yc d m' (b.drop p') with
   | error e=>
    rw[hr]at hS hit
    dsimp only at hS hit
    subst hS
    dsimp only
    rcases hst with⟨rfl,rfl,rfl⟩ | ⟨rfl,rfl⟩
    ·repeat'(first|rw[ed]|(apply ZC [0] (hends);kernel_rfl;(iterate 7 exact Z))|(apply Yd [0] (hit.x rfl);kernel_rfl;(iterate 6 exact Z);intro bx2 fr2 hle2)|(apply Uo 9 5 ZG;decide +kernel;kernel_rfl;decide +kernel;exact Z;exact Z)|exact ADX.nil _ _|(apply Up;decide +kernel;exact Z)|(apply QG;(iterate 3 exact Z))|(apply JT;(iterate 4 exact Z))|exact JS rfl (by assumption)|intro tm2 bx2 fr2 hle2|(apply Zg Za;exact Z)|(apply Zh Za;exact Z)|(apply Zs Za;exact Z)|refine Z7 ?_|refine Ze Z Qt ?_|exact Yv rfl)
     all_goals(apply VC;exact Z;(first|exact Nat.zero_le _|exact Nat.le_trans (Nat.le_of_ble_eq_true rfl) (by assumption));exact Z)
    ·repeat'(first|rw[ed]|(apply ZC [0] (hends);kernel_rfl;(iterate 7 exact Z))|(apply Yd [0] (hit.x rfl);kernel_rfl;(iterate 6 exact Z);intro bx2 fr2 hle2)|(apply Uo 9 5 ZG;decide +kernel;kernel_rfl;decide +kernel;exact Z;exact Z)|exact ADX.nil _ _|(apply Up;decide +kernel;exact Z)|(apply QG;(iterate 3 exact Z))|(apply JT;(iterate 4 exact Z))|exact JS rfl (by assumption)|intro tm2 bx2 fr2 hle2|(apply Zg Za;exact Z)|(apply Zh Za;exact Z)|(apply Zs Za;exact Z)|refine Z7 ?_|refine Ze Z Qt ?_|exact Yv rfl)
     all_goals(apply VC;exact Z;(first|exact Nat.zero_le _|exact Nat.le_trans (Nat.le_of_ble_eq_true rfl) (by assumption));exact Z)
   | ok y=>
    obtain⟨⟨k1,n1,b1,l1⟩,r,m1⟩:=y
    rw[hr]at hS hit
    dsimp only at hS hit
    obtain⟨hwk,_,pre,hpre,hpos,_⟩:=hR _ _ _ _ _ hr (by omega)
    have hm1:=Ur hwk
    obtain⟨z1,z2,z3⟩:=VW hp' hpre
    generalize hp3:b.length-r.length=p3 at z1 z2 z3 hit
    have hpl:=congrArg List.length hpre
    have hdl:(b.drop p3).length=r.length:=by rw[z1]
    rw[List.length_append]at hpl
    rw[<- z1]at hS
    rw[List.length_drop]at hdl
    have hf3:(b.drop p3).length<f:=by rw[List.length_drop];omega
    have hsum3:(acc++[It.mk k1 n1 b1 l1]).length+(b.length-p3)<=b.length/\(acc++[It.mk k1 n1 b1 l1]).length+m1<=256:=by rw[List.length_append];simp only[List.length_cons,List.length_nil];omega
    rcases hst with⟨rfl,rfl,rfl⟩ | ⟨rfl,rfl⟩
    ·repeat'(first|rw[ed]|(apply ZC [0] (hends);kernel_rfl;(iterate 7 exact Z))|(apply ZC [0] (hit.q rfl);kernel_rfl;(iterate 7 exact Z))|refine Z9 Za Z Z Z Z Z Z (Zk rfl) (List.cons_ne_nil _ _) Z Qd Qd Z Z Z ?_|(apply Zg Za;exact Z)|(apply Zh Za;exact Z)|(apply Zs Za;exact Z)|refine Z7 ?_|refine Ze Z Qt ?_|refine ZD ?_|refine ZO Za Z Z Z Z Z Z Z Z Z Z Z Z ?_|(apply Zm 7 ZG;decide +kernel;kernel_rfl;kernel_rfl;kernel_rfl;exact Z;exact Z)|(apply Zq;(iterate 4 exact Z))|exact AE.nil _ _ _ _|(apply Zv;exact Z)|(apply Yj;exact Z)|(apply ZA;exact Z;exact Z;decide +kernel;exact Z)|(apply ZB;exact Z)|(apply Yr;exact Z)|exact AO.nil _ _ _|(apply Zp;(decide +kernel))|(apply ZZ;(iterate 3 exact Z))|exact AOs.nil|exact ZJ rfl rfl|exact Y6 rfl rfl rfl rfl rfl|exact Y2 rfl rfl)
     refine Lands.mk' (m:=f) (Nat.lt_succ_self _) ⟨[It.mk k1 n1 b1 l1],p3,m1,1,Zu [It.mk k1 n1 b1 l1],z2,by omega,rfl,rfl,hsum3,hf3,hS,rfl,.inr ⟨rfl,rfl⟩⟩ ?_ rfl rfl rfl rfl rfl rfl
     exact .cons rfl (.cons rfl (.cons rfl (.cons rfl (.cons rfl .nil))))
    ·subst hc
     have hUa:Uni 4 L:=hL ▸ Y4 acc
     have hLl:L.length=acc.length:=by rw[hL,Zz]
     repeat'(first|rw[ed]|(apply ZC [0] (hends);kernel_rfl;(iterate 7 exact Z))|(apply ZC [0] (hit.q rfl);kernel_rfl;(iterate 7 exact Z))|(apply Zg Za;exact Z)|(apply Zh Za;exact Z)|(apply Zs Za;exact Z)|refine Z7 ?_|refine Ze Z Qt ?_|refine ZD ?_|refine ZO Za Z Z Z Z Z Z Z Z Z Z Z Z ?_|(apply Zm 7 ZG;decide +kernel;kernel_rfl;kernel_rfl;kernel_rfl;exact Z;exact Z)|(apply Zq;(iterate 4 exact Z))|exact AE.nil _ _ _ _|(apply Zv;exact Z)|(apply Yj;exact Z)|(apply ZA;exact Z;exact Z;decide +kernel;exact Z)|(apply ZB;exact Z)|(apply Yr;exact Z)|exact AO.nil _ _ _|(apply Zp;(decide +kernel))|(apply ZZ;(iterate 3 exact Z))|exact AOs.nil|exact ZJ rfl rfl|exact Y6 rfl rfl rfl rfl rfl|exact Y2 rfl rfl|(apply Z3 Za;(iterate 6 exact Z);(first|with_reducible assumption|decide +kernel|exact Z|rotate_left);exact Z;exact Z;(first|exact Zk rfl|with_reducible assumption|decide +kernel|rotate_left);(first|exact Zk rfl|with_reducible assumption|decide +kernel|rotate_left);(first|exact Qt|rotate_left);(first|exact Qt|rotate_left);(first|exact Qt|rotate_left);exact Z;exact Z))
     ·refine Lands.mk' (m:=f) (Nat.lt_succ_self _) ⟨acc++[It.mk k1 n1 b1 l1],p3,m1,L.length+1,L++[E.agg [.int .i64 k1,.int .u64 (n1:Int),.sl (b1.map E.byte),.sl (Zu l1)]],z2,by omega,by rw[List.length_append];rfl,by rw[hL];exact(VU _ [It.mk k1 n1 b1 l1]).symm,hsum3,hf3,hS,rfl,.inr ⟨rfl,rfl⟩⟩ ?_ rfl rfl rfl rfl rfl rfl
      exact .cons rfl (.cons rfl (.cons rfl (.cons rfl (.cons rfl .nil))))
     all_goals(first|rfl|(simp only[List.length_append,List.length_cons,List.length_nil,List.length_map,Zz];done)|(simp only[List.length_append,List.length_cons,List.length_nil,List.length_map,Zz]at *;(try unfold maxLen);(try simp only[Nat.add_mul]);omega))
 | false=>
  unfold X8
  dsimp only
  have e1:IntKind.i64.wrap (((b.map E.byte).length:Int)-(p:Int))=((b.length-p:Nat):Int):=by rw[List.length_map,IntWalk.i64_in _ (by omega)];omega
  have e2:IntKind.u64.wrap ((b.length-p:Nat):Int)=((b.length-p:Nat):Int):=by rw[IntKind.wrap_u64];omega
  have hl:(b.drop p).length=b.length-p:=List.length_drop ..
  rw[hl]
  by_cases hle:n<=b.length-p
  ·rw[if_pos hle]
   have d1:decide ((n:Int)<=((b.length-p:Nat):Int))=true:=by simp;omega
   generalize ho:QS (Yc d) n [] m (b.drop p)=o
   refine Zl Tryz.func204 rfl Tryz.ntmps204 rfl rfl ?_
   repeat'(first|rw[d1]|rw[e1]|rw[e2]|(apply Zb (ZV 8);kernel_rfl;(iterate 4 exact Z))|(apply Zg Za;exact Z)|(apply Zh Za;exact Z)|refine Zf Z Qt ?_|refine Zn Za Z Z Z Z ?_|(apply Zm 13 ZG;decide +kernel;kernel_rfl;kernel_rfl;kernel_rfl;exact Z;exact Z)|(apply Zq;(iterate 4 exact Z))|exact AE.nil _ _ _ _|(apply Zv;exact Z)|(apply ZA;exact Z;exact Z;decide +kernel;exact Z)|(apply ZB;exact Z)|exact AO.nil _ _ _|(apply Zp;(decide +kernel))|exact AOs.nil|exact ZJ rfl rfl)
   refine Yf (fun f tm bx fr=>∃(i:Nat) (acc:List It) (p' m' c:Nat) (L:List E),f+i=n/\p'<=b.length/\m'<=256/\c=L.length/\L=Zu acc/\(acc.length+(b.length-p')<=b.length/\acc.length+m'<=256)/\QS (Yc d) f acc m' (b.drop p')=o/\tm=[(0,.ptr 0 0),(2,.int .i64 (deep:Int)),(4,.ptr 1 0),(6,.ptr 2 0),(7,.ptr 3 0),(40,.int .u64 (n:Int)),(41,.int .u64 (i:Int))] /\
    ((acc=[]/\bx=liB b p' m' n false .nil []/\fr=[])\/(bx=liB b p' m' n false (.own 0) L/\fr=[⟨c,4,230⟩]))) (n+1) (Lands.mk' (m:=n) (Nat.lt_succ_self _) ⟨0,[],p,m,0,[],rfl,hp,hm,rfl,rfl,⟨by simp,by simpa using hm⟩,ho,rfl,.inl ⟨rfl,rfl,rfl⟩⟩ ?_ rfl rfl rfl rfl rfl rfl) ?_
   ·exact .cons rfl (.cons rfl (.cons rfl (.cons rfl (.cons rfl (.cons rfl (.cons rfl .nil))))))
   rintro f tm bx fr ⟨i,acc,p',m',c,L,hfi,hp',hm',hc,hL,hsum,hS,rfl,hst⟩
   cases f with
   | zero=>
    have dn:decide ((i:Int)<(n:Int))=false:=by simp;omega
    rw[QS]at hS
    subst hS
    dsimp only
    have q3:b.length-(b.drop p').length=p':=by rw[List.length_drop];omega
    rw[q3]
    subst hL
    rcases hst with⟨rfl,rfl,rfl⟩ | ⟨rfl,rfl⟩
    ·repeat'(first|(apply Zh Za;exact Z)|refine Z7 ?_|refine Zf Z Qt ?_)
     all_goals(apply Jo (rfl) [0];(apply Zc Za;exact Z);(iterate 4 exact Z))
     all_goals rfl
    ·repeat'(first|(apply Zh Za;exact Z)|refine Z7 ?_|refine Zf Z Qt ?_)
     all_goals(apply Jo (rfl) [0];(apply Zc Za;exact Z);(iterate 4 exact Z))
     all_goals rfl
   | succ f=>
    have dn:decide ((i:Int)<(n:Int))=true:=by simp;omega
    have ei:IntKind.u64.wrap ((i:Int)+1)=((i+1:Nat):Int):=by rw[IntKind.wrap_u64];omega
    rw[QS]at hS
    have hlp:(b.drop p').length=b.length-p':=List.length_drop ..
    have hit:=IH p' m' hp' hm'
    unfold itR at hit
    cases hr:Yc d m' (b.drop p') with
    | error e=>
     rw[hr]at hS hit
     dsimp only at hS hit
     subst hS
     dsimp only
     rcases hst with⟨rfl,rfl,rfl⟩ | ⟨rfl,rfl⟩
     ·repeat'(first|rw[ed]|(apply Yd [0] (hit.x rfl);kernel_rfl;(iterate 6 exact Z);intro bx2 fr2 hle2)|(apply Uo 9 5 ZG;decide +kernel;kernel_rfl;decide +kernel;exact Z;exact Z)|exact ADX.nil _ _|(apply Up;decide +kernel;exact Z)|(apply QG;(iterate 3 exact Z))|(apply JT;(iterate 4 exact Z))|exact JS rfl (by assumption)|intro tm2 bx2 fr2 hle2|(apply Zg Za;exact Z)|(apply Zh Za;exact Z)|(apply Zs Za;exact Z)|refine Z7 ?_|refine Ze Z Qt ?_|exact Yv rfl)
      all_goals(apply VC;exact Z;(first|exact Nat.zero_le _|exact Nat.le_trans (Nat.le_of_ble_eq_true rfl) (by assumption));exact Z)
     ·repeat'(first|rw[ed]|(apply Yd [0] (hit.x rfl);kernel_rfl;(iterate 6 exact Z);intro bx2 fr2 hle2)|(apply Uo 9 5 ZG;decide +kernel;kernel_rfl;decide +kernel;exact Z;exact Z)|exact ADX.nil _ _|(apply Up;decide +kernel;exact Z)|(apply QG;(iterate 3 exact Z))|(apply JT;(iterate 4 exact Z))|exact JS rfl (by assumption)|intro tm2 bx2 fr2 hle2|(apply Zg Za;exact Z)|(apply Zh Za;exact Z)|(apply Zs Za;exact Z)|refine Z7 ?_|refine Ze Z Qt ?_|exact Yv rfl)
      all_goals(apply VC;exact Z;(first|exact Nat.zero_le _|exact Nat.le_trans (Nat.le_of_ble_eq_true rfl) (by assumption));exact Z)
    | ok y=>
     obtain⟨⟨k1,n1,b1,l1⟩,r,m1⟩:=y
     rw[hr]at hS hit
     dsimp only at hS hit
     obtain⟨hwk,_,pre,hpre,hpos,_⟩:=hR _ _ _ _ _ hr (by omega)
     have hm1:=Ur hwk
     obtain⟨z1,z2,z3⟩:=VW hp' hpre
     generalize hp3:b.length-r.length=p3 at z1 z2 z3 hit
     have hpl:=congrArg List.length hpre
     have hdl:(b.drop p3).length=r.length:=by rw[z1]
     rw[List.length_append]at hpl
     rw[<- z1]at hS
     rw[List.length_drop]at hdl
     have hsum3:(acc++[It.mk k1 n1 b1 l1]).length+(b.length-p3)<=b.length/\(acc++[It.mk k1 n1 b1 l1]).length+m1<=256:=by rw[List.length_append];simp only[List.length_cons,List.length_nil];omega
     rcases hst with⟨rfl,rfl,rfl⟩ | ⟨rfl,rfl⟩
     ·repeat'(first|rw[ed]|rw[ei]|(apply ZC [0] (hit.q rfl);kernel_rfl;(iterate 7 exact Z))|refine Z9 Za Z Z Z Z Z Z (Zk rfl) (List.cons_ne_nil _ _) Z Qd Qd Z Z Z ?_|(apply Zg Za;exact Z)|(apply Zh Za;exact Z)|refine Z7 ?_|refine Ze Z Qt ?_|refine ZD ?_|refine ZO Za Z Z Z Z Z Z Z Z Z Z Z Z ?_|(apply Zm 7 ZG;decide +kernel;kernel_rfl;kernel_rfl;kernel_rfl;exact Z;exact Z)|(apply Zq;(iterate 4 exact Z))|exact AE.nil _ _ _ _|(apply Zv;exact Z)|(apply Yj;exact Z)|(apply ZA;exact Z;exact Z;decide +kernel;exact Z)|(apply ZB;exact Z)|(apply Yr;exact Z)|exact AO.nil _ _ _|(apply Zp;(decide +kernel))|(apply ZZ;(iterate 3 exact Z))|exact AOs.nil|exact ZJ rfl rfl|exact Y6 rfl rfl rfl rfl rfl|exact Y2 rfl rfl)
      refine Lands.mk' (m:=f) (Nat.lt_succ_self _) ⟨i+1,[It.mk k1 n1 b1 l1],p3,m1,1,Zu [It.mk k1 n1 b1 l1],by omega,z2,by omega,rfl,rfl,hsum3,hS,rfl,.inr ⟨rfl,rfl⟩⟩ ?_ rfl rfl rfl rfl rfl rfl
      exact .cons rfl (.cons rfl (.cons rfl (.cons rfl (.cons rfl (.cons rfl (.cons rfl .nil))))))
     ·subst hc
      have hUa:Uni 4 L:=hL ▸ Y4 acc
      have hLl:L.length=acc.length:=by rw[hL,Zz]
      repeat'(first|rw[ed]|rw[ei]|(apply ZC [0] (hit.q rfl);kernel_rfl;(iterate 7 exact Z))|(apply Zg Za;exact Z)|(apply Zh Za;exact Z)|refine Z7 ?_|refine Ze Z Qt ?_|refine ZD ?_|refine ZO Za Z Z Z Z Z Z Z Z Z Z Z Z ?_|(apply Zm 7 ZG;decide +kernel;kernel_rfl;kernel_rfl;kernel_rfl;exact Z;exact Z)|(apply Zq;(iterate 4 exact Z))|exact AE.nil _ _ _ _|(apply Zv;exact Z)|(apply Yj;exact Z)|(apply ZA;exact Z;exact Z;decide +kernel;exact Z)|(apply ZB;exact Z)|(apply Yr;exact Z)|exact AO.nil _ _ _|(apply Zp;(decide +kernel))|(apply ZZ;(iterate 3 exact Z))|exact AOs.nil|exact ZJ rfl rfl|exact Y6 rfl rfl rfl rfl rfl|exact Y2 rfl rfl|(apply Z3 Za;(iterate 6 exact Z);(first|with_reducible assumption|decide +kernel|exact Z|rotate_left);exact Z;exact Z;(first|exact Zk rfl|with_reducible assumption|decide +kernel|rotate_left);(first|exact Zk rfl|with_reducible assumption|decide +kernel|rotate_left);(first|exact Qt|rotate_left);(first|exact Qt|rotate_left);(first|exact Qt|rotate_left);exact Z;exact Z))
      ·refine Lands.mk' (m:=f) (Nat.lt_succ_self _) ⟨i+1,acc++[It.mk k1 n1 b1 l1],p3,m1,L.length+1,L++[E.agg [.int .i64 k1,.int .u64 (n1:Int),.sl (b1.map E.byte),.sl (Zu l1)]],by omega,z2,by omega,by rw[List.length_append];rfl,by rw[hL];exact(VU _ [It.mk k1 n1 b1 l1]).symm,hsum3,hS,rfl,.inr ⟨rfl,rfl⟩⟩ ?_ rfl rfl rfl rfl rfl rfl
       exact .cons rfl (.cons rfl (.cons rfl (.cons rfl (.cons rfl (.cons rfl (.cons rfl .nil))))))
      all_goals(first|rfl|(simp only[List.length_append,List.length_cons,List.length_nil,List.length_map,Zz];done)|(simp only[List.length_append,List.length_cons,List.length_nil,List.length_map,Zz]at *;(try unfold maxLen);(try simp only[Nat.add_mul]);omega))
  ·rw[if_neg hle]
   dsimp only
   have d1:decide ((n:Int)<=((b.length-p:Nat):Int))=false:=by simp;omega
   refine Zl Tryz.func204 rfl Tryz.ntmps204 rfl rfl ?_
   repeat'(first|rw[d1]|rw[e1]|rw[e2]|(apply Yd [] (W6 8);kernel_rfl;(iterate 6 exact Z);intro bx2 fr2 hle2)|(apply Zg Za;exact Z)|(apply Zh Za;exact Z)|(apply Zs Za;exact Z)|refine Z7 ?_|refine Zf Z Qt ?_|refine Zn Za Z Z Z Z ?_|(apply Zm 13 ZG;decide +kernel;kernel_rfl;kernel_rfl;kernel_rfl;exact Z;exact Z)|(apply Zq;(iterate 4 exact Z))|exact AE.nil _ _ _ _|(apply Zv;exact Z)|(apply ZA;exact Z;exact Z;decide +kernel;exact Z)|(apply ZB;exact Z)|exact AO.nil _ _ _|(apply Zp;(decide +kernel))|exact AOs.nil|exact ZJ rfl rfl)
   all_goals(apply VC;exact Z;(first|exact Nat.zero_le _|exact Nat.le_trans (Nat.le_of_ble_eq_true rfl) (by assumption));exact Z)
end Go.Proofs.YtchlgagdbflkmaaGreatDoor
end

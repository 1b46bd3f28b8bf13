/- The reader of items: bytes and texts. -/
import Derived.Test.YtkdpfkjlheajhaaGreatDoorE17
import Derived.Test.YtkdpfkjlheajhaaGreatDoorE18
set_option linter.unusedVariables false
set_option linter.unusedSimpArgs false
section
open Go.RowKit Go.Pl Go.Av
namespace Go.Proofs.YtkdpfkjlheajhaaGreatDoor
set_option maxHeartbeats 4000000
theorem V3 {b pre r:List UInt8}{p:Nat}(hp:p<=b.length)(h:b.drop p=pre++r):b.drop (b.length-r.length)=r/\b.length-r.length<=b.length/\p+pre.length=b.length-r.length:=by
 have hl:=congrArg List.length h
 rw[List.length_drop,List.length_append]at hl
 have e:b.length-r.length=p+pre.length:=by omega
 refine⟨?_,by omega,e.symm⟩
 rw[e,<- List.drop_drop,h,List.drop_left]
abbrev txB (b:List UInt8)(p m:Nat)(k:Int)(n:Nat)(tk:Tok)(acc:List E):List (List D):=[rdC b p m,[.int .i64 k,.int .u64 (n:Int),.bool true],[.int .i64 0,.int .u64 0,.sl .nil [],.sl .nil []],[.int .i64 k,.int .u64 0,.sl tk acc,.sl .nil []]]
theorem OA [Known][KnownU8](h:Hd)(b:List UInt8)(p m:Nat)(hb:b.length<=140737488351232)(hp:p<=b.length)(hn:h.2.1<18446744073709551616):AR Tryz.prog 163 [.ptr 0 0,hd h] [rdC b p m] (match Ju h (b.drop p) with
  | .error e=>.error (V2 e)
  | .ok (c,r)=>.ok (itD (.mk h.1 0 c []),[rdC b (b.length-r.length) m])):=by
 obtain⟨k,n,o⟩:=h
 dsimp only at hn
 show AR Tryz.prog _ [.ptr 0 0,.agg [.int .i64 k,.int .u64 (n:Int),.bool o]] _ _
 cases o with
 | false=>
  have hpc:=Gs (k,n,false) b p m hb hp hn
  unfold Ju
  dsimp only at hpc ⊢
  cases hc:WJ (k,n,false) (b.drop p) with
  | error e=>
   rw[hc]at hpc
   refine Zl Tryz.func163 rfl Tryz.ntmps163 rfl rfl ?_
   repeat'(first|(apply Ym [0] (hpc.x rfl);kernel_rfl;(iterate 6 exact Z);intro bx2 fr2 hle2)|(apply Zg Za;exact Z)|(apply Zu Za;exact Z)|refine Zd Z Qt ?_)
   all_goals(apply VP;exact Z;(first|exact Nat.zero_le _|exact Nat.le_trans (Nat.le_of_ble_eq_true rfl) (by assumption));exact Z)
  | ok y=>
   obtain⟨c,r⟩:=y
   rw[hc]at hpc
   refine Zl Tryz.func163 rfl Tryz.ntmps163 rfl rfl ?_
   repeat'(first|(apply Zh [0] (hpc.q rfl);kernel_rfl;(iterate 7 exact Z))|(apply Zi Za;exact Z)|(apply Zg Za;exact Z)|(apply Zu Za;exact Z)|refine Yf ?_|refine Zd Z Qt ?_)
   all_goals(apply Jp (rfl) [0];(apply Zc Za;exact Z);(iterate 4 exact Z))
   all_goals rfl
 | true=>
  unfold Ju
  dsimp only
  generalize ho:Ko k ((b.drop p).length+1) [] (b.drop p)=o
  refine Zl Tryz.func163 rfl Tryz.ntmps163 rfl rfl ?_
  repeat'(first|(apply Zg Za;exact Z)|refine Zf Z Qt ?_)
  refine Yb (fun f tm bx fr=>∃(acc:List UInt8) (p' c:Nat) (L:List E),p'<=b.length/\c=L.length/\L=acc.map E.byte/\acc.length+(b.length-p')<=b.length/\(b.drop p').length<f/\Ko k f acc (b.drop p')=o/\tm=[(0,.ptr 0 0),(3,.ptr 1 0),(4,.ptr 2 0),(5,.ptr 3 0)] /\
   ((acc=[]/\bx=txB b p' m k n .nil []/\fr=[])\/(bx=txB b p' m k n (.own 0) L/\fr=[⟨c,1,5⟩]))) ((b.drop p).length+2) (Lands.mk' (m:=(b.drop p).length+1) (Nat.lt_succ_self _) ⟨[],p,0,[],hp,rfl,rfl,by simp,by omega,ho,rfl,.inl ⟨rfl,rfl,rfl⟩⟩ ?_ rfl rfl rfl rfl rfl rfl) ?_
  ·exact .cons rfl (.cons rfl (.cons rfl (.cons rfl .nil)))
  rintro f tm bx fr ⟨acc,p',c,L,hp',hc,hL,hsum,hf,hS,rfl,hst⟩
  obtain⟨f,rfl⟩:∃ g,f=g+1:=⟨f-1,by omega⟩
  have hends:=Th b p' m hb hp'
  rw[Ko]at hS
  have hlp:(b.drop p').length=b.length-p':=List.length_drop ..
  cases he:QY (b.drop p') with
  | true=>
   rw[he]at hS hends
   dsimp only at hS
   rw[if_pos rfl]at hends
   subst hS
   dsimp only
   obtain⟨x,hx⟩:=Qo _ he
   obtain⟨q1,q2,q3⟩:=V3 (pre:=[x]) hp' hx
   have q3:b.length-(b.drop p').tail.length=p'+1:=q3.symm
   rw[q3]
   subst hL
   rcases hst with⟨rfl,rfl,rfl⟩ | ⟨rfl,rfl⟩
   ·repeat'(first|(apply Zh [0] (hends);kernel_rfl;(iterate 7 exact Z))|(apply Zi Za;exact Z)|(apply Zg Za;exact Z)|(apply Zu Za;exact Z)|refine Yf ?_|refine Zf Z Qt ?_)
    all_goals(apply Jp (rfl) [0];(apply Zc Za;exact Z);(iterate 4 exact Z))
    all_goals rfl
   ·repeat'(first|(apply Zh [0] (hends);kernel_rfl;(iterate 7 exact Z))|(apply Zi Za;exact Z)|(apply Zg Za;exact Z)|(apply Zu Za;exact Z)|refine Yf ?_|refine Zf Z Qt ?_)
    all_goals(apply Jp (rfl) [0];(apply Zc Za;exact Z);(iterate 4 exact Z))
    all_goals rfl
  | false=>
   rw[he]at hS hends
   dsimp only at hS
   rw[if_neg (by simp)]at hends
   have hhd:=Gr b p' m hb hp'
   cases hr:rdS (b.drop p') with
   | error e=>
    rw[hr]at hS hhd
    dsimp only at hS hhd
    subst hS
    dsimp only
    rcases hst with⟨rfl,rfl,rfl⟩ | ⟨rfl,rfl⟩
    ·repeat'(first|(apply Zh [0] (hends);kernel_rfl;(iterate 7 exact Z))|(apply Ym [0] (hhd.x rfl);kernel_rfl;(iterate 6 exact Z);intro bx2 fr2 hle2)|(apply Zi Za;exact Z)|(apply Zg Za;exact Z)|(apply Zu Za;exact Z)|refine Yf ?_|refine Zd Z Qt ?_)
     all_goals(apply VP;exact Z;(first|exact Nat.zero_le _|exact Nat.le_trans (Nat.le_of_ble_eq_true rfl) (by assumption));exact Z)
    ·repeat'(first|(apply Zh [0] (hends);kernel_rfl;(iterate 7 exact Z))|(apply Ym [0] (hhd.x rfl);kernel_rfl;(iterate 6 exact Z);intro bx2 fr2 hle2)|(apply Zi Za;exact Z)|(apply Zg Za;exact Z)|(apply Zu Za;exact Z)|refine Yf ?_|refine Zd Z Qt ?_)
     all_goals(apply VP;exact Z;(first|exact Nat.zero_le _|exact Nat.le_trans (Nat.le_of_ble_eq_true rfl) (by assumption));exact Z)
   | ok y=>
    obtain⟨⟨k1,n1,o1⟩,r⟩:=y
    rw[hr]at hS hhd
    dsimp only at hS hhd
    obtain⟨_,hn1,pre,hpre,_,hpos⟩:=Il hr
    obtain⟨q1,q2,q3⟩:=V3 hp' hpre
    generalize hp2:b.length-r.length=p2 at q1 q2 q3 hhd
    by_cases hcond:k1=k/\o1=false
    ·rw[if_pos hcond]at hS
     obtain⟨rfl,rfl⟩:=hcond
     have tk:(k1==k1)=true:=beq_self_eq_true k1
     have hpc:=Gs (k1,n1,false) b p2 m hb q2 hn1
     rw[q1]at hpc
     cases hc1:WJ (k1,n1,false) r with
     | error e=>
      rw[hc1]at hS hpc
      dsimp only at hS hpc
      subst hS
      dsimp only
      rcases hst with⟨rfl,rfl,rfl⟩ | ⟨rfl,rfl⟩
      ·repeat'(first|(apply Zh [0] (hends);kernel_rfl;(iterate 7 exact Z))|(apply Zh [0] (hhd.q rfl);kernel_rfl;(iterate 7 exact Z))|(apply Zb (Z1 3);kernel_rfl;(iterate 4 exact Z))|(apply Ym [0] (hpc.x rfl);kernel_rfl;(iterate 6 exact Z);intro bx2 fr2 hle2)|(apply UA 7 4 ZF;decide +kernel;kernel_rfl;decide +kernel;exact Z;exact Z)|exact ADX.nil _ _|(apply UB;decide +kernel;exact Z)|(apply QG;(iterate 3 exact Z))|(apply J5;(iterate 4 exact Z))|exact J4 rfl (by assumption)|intro tm2 bx2 fr2 hle2|(apply Zi Za;exact Z)|(apply Zg Za;exact Z)|(apply Zu Za;exact Z)|refine Yf ?_|refine Ze Z Z Z Qt ?_|refine Zk Z Qt Z Z ?_|refine Zd Z Qt ?_|exact YE rfl)
       all_goals(apply VP;exact Z;(first|exact Nat.zero_le _|exact Nat.le_trans (Nat.le_of_ble_eq_true rfl) (by assumption));exact Z)
      ·repeat'(first|(apply Zh [0] (hends);kernel_rfl;(iterate 7 exact Z))|(apply Zh [0] (hhd.q rfl);kernel_rfl;(iterate 7 exact Z))|(apply Zb (Z1 3);kernel_rfl;(iterate 4 exact Z))|(apply Ym [0] (hpc.x rfl);kernel_rfl;(iterate 6 exact Z);intro bx2 fr2 hle2)|(apply UA 7 4 ZF;decide +kernel;kernel_rfl;decide +kernel;exact Z;exact Z)|exact ADX.nil _ _|(apply UB;decide +kernel;exact Z)|(apply QG;(iterate 3 exact Z))|(apply J5;(iterate 4 exact Z))|exact J4 rfl (by assumption)|intro tm2 bx2 fr2 hle2|(apply Zi Za;exact Z)|(apply Zg Za;exact Z)|(apply Zu Za;exact Z)|refine Yf ?_|refine Ze Z Z Z Qt ?_|refine Zk Z Qt Z Z ?_|refine Zd Z Qt ?_|exact YE rfl)
       all_goals(apply VP;exact Z;(first|exact Nat.zero_le _|exact Nat.le_trans (Nat.le_of_ble_eq_true rfl) (by assumption));exact Z)
     | ok y=>
      obtain⟨c1,r2⟩:=y
      rw[hc1]at hS hpc
      dsimp only at hS hpc
      obtain⟨w1,w2,w3⟩:=J8 hc1
      obtain⟨z1,z2,z3⟩:=V3 q2 (q1.trans w1)
      generalize hp3:b.length-r2.length=p3 at z1 z2 z3 hpc
      have hpl:=congrArg List.length hpre
      have hrl:=congrArg List.length w1
      have hdl:(b.drop p3).length=r2.length:=by rw[z1]
      rw[List.length_append]at hpl hrl
      rw[<- z1]at hS
      rw[List.length_drop]at hdl
      have hf3:(b.drop p3).length<f:=by rw[List.length_drop];omega
      have hsum3:(acc++c1).length+(b.length-p3)<=b.length:=by rw[List.length_append];omega
      cases c1 with
      | nil=>
       rw[List.append_nil]at hS hsum3
       rcases hst with⟨rfl,rfl,rfl⟩ | ⟨rfl,rfl⟩
       ·repeat'(first|(apply Zh [0] (hends);kernel_rfl;(iterate 7 exact Z))|(apply Zh [0] (hhd.q rfl);kernel_rfl;(iterate 7 exact Z))|(apply Zb (Z1 3);kernel_rfl;(iterate 4 exact Z))|(apply Zh [0] (hpc.q rfl);kernel_rfl;(iterate 7 exact Z))|(apply Zi Za;exact Z)|(apply Zg Za;exact Z)|(apply Zu Za;exact Z)|refine Yf ?_|refine Ze Z Z Z Qt ?_|refine Zk Z Qt Z Z ?_|refine Zd Z Qt ?_|refine YJ ?_|(apply Zn 5 ZF;decide +kernel;kernel_rfl;kernel_rfl;kernel_rfl;exact Z;exact Z)|(apply Zr;(iterate 4 exact Z))|exact AE.nil _ _ _ _|(apply Zw;exact Z)|(apply ZS;exact Z)|(apply ZA;exact Z;exact Z;decide +kernel;exact Z)|(apply ZB;exact Z)|(apply Ya;exact Z)|exact AO.nil _ _ _|(apply Zq;(decide +kernel))|(apply ZM;(iterate 3 exact Z))|exact AOs.nil|exact ZG rfl rfl|exact Yw rfl rfl|refine Wg Za Z Z Z Z Z Z ?_)
        refine Lands.mk' (m:=f) (Nat.lt_succ_self _) ⟨[],p3,0,[],z2,rfl,rfl,hsum3,hf3,hS,rfl,.inl ⟨rfl,rfl,rfl⟩⟩ ?_ rfl rfl rfl rfl rfl rfl
        exact .cons rfl (.cons rfl (.cons rfl (.cons rfl .nil)))
       ·subst hc
        repeat'(first|(apply Zh [0] (hends);kernel_rfl;(iterate 7 exact Z))|(apply Zh [0] (hhd.q rfl);kernel_rfl;(iterate 7 exact Z))|(apply Zb (Z1 3);kernel_rfl;(iterate 4 exact Z))|(apply Zh [0] (hpc.q rfl);kernel_rfl;(iterate 7 exact Z))|(apply Zi Za;exact Z)|(apply Zg Za;exact Z)|(apply Zu Za;exact Z)|refine Yf ?_|refine Ze Z Z Z Qt ?_|refine Zk Z Qt Z Z ?_|refine Zd Z Qt ?_|refine YJ ?_|(apply Zn 5 ZF;decide +kernel;kernel_rfl;kernel_rfl;kernel_rfl;exact Z;exact Z)|(apply Zr;(iterate 4 exact Z))|exact AE.nil _ _ _ _|(apply Zw;exact Z)|(apply ZS;exact Z)|(apply ZA;exact Z;exact Z;decide +kernel;exact Z)|(apply ZB;exact Z)|(apply Ya;exact Z)|exact AO.nil _ _ _|(apply Zq;(decide +kernel))|(apply ZM;(iterate 3 exact Z))|exact AOs.nil|exact ZG rfl rfl|exact Yw rfl rfl|refine Wg Za Z Z Z Z Z Z ?_)
        refine Lands.mk' (m:=f) (Nat.lt_succ_self _) ⟨acc,p3,_,L,z2,rfl,hL,hsum3,hf3,hS,rfl,.inr ⟨rfl,rfl⟩⟩ ?_ rfl rfl rfl rfl rfl rfl
        exact .cons rfl (.cons rfl (.cons rfl (.cons rfl .nil)))
      | cons x c1=>
       have hU1:=YH (x::c1)
       rcases hst with⟨rfl,rfl,rfl⟩ | ⟨rfl,rfl⟩
       ·repeat'(first|(apply Zh [0] (hends);kernel_rfl;(iterate 7 exact Z))|(apply Zh [0] (hhd.q rfl);kernel_rfl;(iterate 7 exact Z))|(apply Zb (Z1 3);kernel_rfl;(iterate 4 exact Z))|(apply Zh [0] (hpc.q rfl);kernel_rfl;(iterate 7 exact Z))|(apply Zi Za;exact Z)|(apply Zg Za;exact Z)|(apply Zu Za;exact Z)|refine Yf ?_|refine Ze Z Z Z Qt ?_|refine Zk Z Qt Z Z ?_|refine Zd Z Qt ?_|refine YJ ?_|(apply Zn 5 ZF;decide +kernel;kernel_rfl;kernel_rfl;kernel_rfl;exact Z;exact Z)|(apply Zr;(iterate 4 exact Z))|exact AE.nil _ _ _ _|(apply Zw;exact Z)|(apply ZS;exact Z)|(apply ZA;exact Z;exact Z;decide +kernel;exact Z)|(apply ZB;exact Z)|(apply Ya;exact Z)|exact AO.nil _ _ _|(apply Zq;(decide +kernel))|(apply ZM;(iterate 3 exact Z))|exact AOs.nil|exact ZG rfl rfl|exact Yw rfl rfl|(apply Vv Za;(iterate 6 exact Z);(first|exact Zm rfl|with_reducible assumption|decide +kernel|rotate_left);(first|exact Qt|rotate_left);(first|exact Qt|rotate_left);(first|exact Qt|rotate_left);(iterate 3 exact Z)))
        ·refine Lands.mk' (m:=f) (Nat.lt_succ_self _) ⟨x::c1,p3,_,_,z2,rfl,rfl,hsum3,hf3,hS,rfl,.inr ⟨rfl,rfl⟩⟩ ?_ rfl rfl rfl rfl rfl rfl
         exact .cons rfl (.cons rfl (.cons rfl (.cons rfl .nil)))
        all_goals(first|rfl|(simp only[List.length_append,List.length_cons,List.length_nil,List.length_map,ZD];done)|(simp only[List.length_append,List.length_cons,List.length_nil,List.length_map,ZD]at *;(try unfold maxLen);(try simp only[Nat.add_mul]);omega))
       ·subst hc
        have hUa:Uni 1 L:=hL ▸ YH acc
        have hLl:L.length=acc.length:=by rw[hL,List.length_map]
        repeat'(first|(apply Zh [0] (hends);kernel_rfl;(iterate 7 exact Z))|(apply Zh [0] (hhd.q rfl);kernel_rfl;(iterate 7 exact Z))|(apply Zb (Z1 3);kernel_rfl;(iterate 4 exact Z))|(apply Zh [0] (hpc.q rfl);kernel_rfl;(iterate 7 exact Z))|(apply Zi Za;exact Z)|(apply Zg Za;exact Z)|(apply Zu Za;exact Z)|refine Yf ?_|refine Ze Z Z Z Qt ?_|refine Zk Z Qt Z Z ?_|refine Zd Z Qt ?_|refine YJ ?_|(apply Zn 5 ZF;decide +kernel;kernel_rfl;kernel_rfl;kernel_rfl;exact Z;exact Z)|(apply Zr;(iterate 4 exact Z))|exact AE.nil _ _ _ _|(apply Zw;exact Z)|(apply ZS;exact Z)|(apply ZA;exact Z;exact Z;decide +kernel;exact Z)|(apply ZB;exact Z)|(apply Ya;exact Z)|exact AO.nil _ _ _|(apply Zq;(decide +kernel))|(apply ZM;(iterate 3 exact Z))|exact AOs.nil|exact ZG rfl rfl|exact Yw rfl rfl|(apply Z4 Za;(iterate 6 exact Z);(first|with_reducible assumption|decide +kernel|exact Z|rotate_left);exact Z;exact Z;(first|exact Zm rfl|with_reducible assumption|decide +kernel|rotate_left);(first|exact Zm rfl|with_reducible assumption|decide +kernel|rotate_left);(first|exact Qt|rotate_left);(first|exact Qt|rotate_left);(first|exact Qt|rotate_left);exact Z;exact Z))
        ·refine Lands.mk' (m:=f) (Nat.lt_succ_self _) ⟨acc++(x::c1),p3,L.length+((x::c1).map E.byte).length,L++(x::c1).map E.byte,z2,by rw[List.length_append],by rw[hL,List.map_append],hsum3,hf3,hS,rfl,.inr ⟨rfl,rfl⟩⟩ ?_ rfl rfl rfl rfl rfl rfl
         exact .cons rfl (.cons rfl (.cons rfl (.cons rfl .nil)))
        all_goals(first|rfl|(simp only[List.length_append,List.length_cons,List.length_nil,List.length_map,ZD];done)|(simp only[List.length_append,List.length_cons,List.length_nil,List.length_map,ZD]at *;(try unfold maxLen);(try simp only[Nat.add_mul]);omega))
    ·rw[if_neg hcond]at hS
     subst hS
     dsimp only
     cases o1 with
     | true=>
      rcases hst with⟨rfl,rfl,rfl⟩ | ⟨rfl,rfl⟩
      ·repeat'(first|(apply Zh [0] (hends);kernel_rfl;(iterate 7 exact Z))|(apply Zh [0] (hhd.q rfl);kernel_rfl;(iterate 7 exact Z))|(apply Ym [] (W7 3);kernel_rfl;(iterate 6 exact Z);intro bx2 fr2 hle2)|(apply Zi Za;exact Z)|(apply Zg Za;exact Z)|(apply Zu Za;exact Z)|refine Yf ?_|refine Ze Z Z Z Qt ?_|refine Zv Z Z Z Qt ?_|(apply YF;exact Z;exact Z;all_goals intro hb)|refine Zk Z Qt Z Z ?_|refine Zj Z Qt Z Z ?_|refine Zd Z Qt ?_)
       all_goals(apply VP;exact Z;(first|exact Nat.zero_le _|exact Nat.le_trans (Nat.le_of_ble_eq_true rfl) (by assumption));exact Z)
      ·repeat'(first|(apply Zh [0] (hends);kernel_rfl;(iterate 7 exact Z))|(apply Zh [0] (hhd.q rfl);kernel_rfl;(iterate 7 exact Z))|(apply Ym [] (W7 3);kernel_rfl;(iterate 6 exact Z);intro bx2 fr2 hle2)|(apply Zi Za;exact Z)|(apply Zg Za;exact Z)|(apply Zu Za;exact Z)|refine Yf ?_|refine Ze Z Z Z Qt ?_|refine Zv Z Z Z Qt ?_|(apply YF;exact Z;exact Z;all_goals intro hb)|refine Zk Z Qt Z Z ?_|refine Zj Z Qt Z Z ?_|refine Zd Z Qt ?_)
       all_goals(apply VP;exact Z;(first|exact Nat.zero_le _|exact Nat.le_trans (Nat.le_of_ble_eq_true rfl) (by assumption));exact Z)
     | false=>
      have tk:(k1==k)=false:=by simpa using fun h=>hcond ⟨h,rfl⟩
      rcases hst with⟨rfl,rfl,rfl⟩ | ⟨rfl,rfl⟩
      ·repeat'(first|(apply Zh [0] (hends);kernel_rfl;(iterate 7 exact Z))|(apply Zh [0] (hhd.q rfl);kernel_rfl;(iterate 7 exact Z))|(apply Ym [] (W7 3);kernel_rfl;(iterate 6 exact Z);intro bx2 fr2 hle2)|(apply Zi Za;exact Z)|(apply Zg Za;exact Z)|(apply Zu Za;exact Z)|refine Yf ?_|refine Zv Z Z Z Qt ?_|refine Zj Z Qt Z Z ?_|refine Zd Z Qt ?_)
       all_goals(apply VP;exact Z;(first|exact Nat.zero_le _|exact Nat.le_trans (Nat.le_of_ble_eq_true rfl) (by assumption));exact Z)
      ·repeat'(first|(apply Zh [0] (hends);kernel_rfl;(iterate 7 exact Z))|(apply Zh [0] (hhd.q rfl);kernel_rfl;(iterate 7 exact Z))|(apply Ym [] (W7 3);kernel_rfl;(iterate 6 exact Z);intro bx2 fr2 hle2)|(apply Zi Za;exact Z)|(apply Zg Za;exact Z)|(apply Zu Za;exact Z)|refine Yf ?_|refine Zv Z Z Z Qt ?_|refine Zj Z Qt Z Z ?_|refine Zd Z Qt ?_)
       all_goals(apply VP;exact Z;(first|exact Nat.zero_le _|exact Nat.le_trans (Nat.le_of_ble_eq_true rfl) (by assumption));exact Z)
abbrev itR (b:List UInt8)(d p m:Nat):Except D (D × List (List D)):=match Yl d m (b.drop p) with
 | .error e=>.error (V2 e)
 | .ok (x,r,m')=>.ok (itD x,[rdC b (b.length-r.length) m'])
abbrev liB (b:List UInt8)(p m n:Nat)(o:Bool)(tk:Tok)(acc:List E):List (List D):=[rdC b p m,[.int .i64 4,.int .u64 (n:Int),.bool o],[.int .i64 0,.int .u64 0,.sl .nil [],.sl .nil []],[.int .i64 4,.int .u64 0,.sl .nil [],.sl tk acc]]
theorem Mh [Known][KnownU8](d deep:Nat)(hdd:deep+d=6)(b:List UInt8)(hb:b.length<=140737488351232)
  (IH:∀ p m,p<=b.length->m<=256->AR Tryz.prog 141 [.ptr 0 0,.int .i64 ((deep+1:Nat):Int)] [rdC b p m] (itR b d p m))
  (n:Nat) (o:Bool) (p m:Nat) (hp:p<=b.length) (hm:m<=256) (hn:n<18446744073709551616):AR Tryz.prog 162 [.ptr 0 0,hd (4,n,o),.int .i64 (deep:Int)] [rdC b p m] (match Kq (Yl d) (4,n,o) m (b.drop p) with
  | .error e=>.error (V2 e)
  | .ok (l,r,m')=>.ok (itD (.mk 4 0 [] l),[rdC b (b.length-r.length) m'])):=by
 show AR Tryz.prog _ [.ptr 0 0,.agg [.int .i64 4,.int .u64 (n:Int),.bool o],.int .i64 (deep:Int)] _ _
 have hR:=Jw d (by omega)
 have ed:IntKind.i64.wrap ((deep:Int)+1)=((deep+1:Nat):Int):=by rw[IntWalk.i64_in _ (by omega)];omega
 cases o with
 | true=>
  unfold Kq
  dsimp only
  generalize ho:Kp (Yl d) ((b.drop p).length+1) [] m (b.drop p)=o
  refine Zl Tryz.func162 rfl Tryz.ntmps162 rfl rfl ?_
  repeat'(first|(apply Zg Za;exact Z)|refine Zd Z Qt ?_)
  refine Yb (fun f tm bx fr=>∃(acc:List It) (p' m' c:Nat) (L:List E),p'<=b.length/\m'<=256/\c=L.length/\L=Zx acc/\(acc.length+(b.length-p')<=b.length/\acc.length+m'<=256)/\(b.drop p').length<f/\Kp (Yl d) f acc m' (b.drop p')=o/\tm=[(0,.ptr 0 0),(2,.int .i64 (deep:Int)),(4,.ptr 1 0),(6,.ptr 2 0),(7,.ptr 3 0)] /\
   ((acc=[]/\bx=liB b p' m' n true .nil []/\fr=[])\/(bx=liB b p' m' n true (.own 0) L/\fr=[⟨c,4,194⟩]))) ((b.drop p).length+2) (Lands.mk' (m:=(b.drop p).length+1) (Nat.lt_succ_self _) ⟨[],p,m,0,[],hp,hm,rfl,rfl,⟨by simp,by simpa using hm⟩,by omega,ho,rfl,.inl ⟨rfl,rfl,rfl⟩⟩ ?_ rfl rfl rfl rfl rfl rfl) ?_
  ·exact .cons rfl (.cons rfl (.cons rfl (.cons rfl (.cons rfl .nil))))
  rintro f tm bx fr ⟨acc,p',m',c,L,hp',hm',hc,hL,hsum,hf,hS,rfl,hst⟩
  obtain⟨f,rfl⟩:∃ g,f=g+1:=⟨f-1,by omega⟩
  have hends:=Th b p' m' hb hp'
  rw[Kp]at hS
  have hlp:(b.drop p').length=b.length-p':=List.length_drop ..
  cases he:QY (b.drop p') with
  | true=>
   rw[he]at hS hends
   dsimp only at hS
   rw[if_pos rfl]at hends
   subst hS
   dsimp only
   obtain⟨x,hx⟩:=Qo _ he
   obtain⟨q1,q2,q3⟩:=V3 (pre:=[x]) hp' hx
   have q3:b.length-(b.drop p').tail.length=p'+1:=q3.symm
   rw[q3]
   subst hL
   rcases hst with⟨rfl,rfl,rfl⟩ | ⟨rfl,rfl⟩
   ·repeat'(first|(apply Zh [0] (hends);kernel_rfl;(iterate 7 exact Z))|(apply Zi Za;exact Z)|(apply Zg Za;exact Z)|(apply Zu Za;exact Z)|refine Yf ?_|refine Zf Z Qt ?_)
    all_goals(apply Jp (rfl) [0];(apply Zc Za;exact Z);(iterate 4 exact Z))
    all_goals rfl
   ·repeat'(first|(apply Zh [0] (hends);kernel_rfl;(iterate 7 exact Z))|(apply Zi Za;exact Z)|(apply Zg Za;exact Z)|(apply Zu Za;exact Z)|refine Yf ?_|refine Zf Z Qt ?_)
    all_goals(apply Jp (rfl) [0];(apply Zc Za;exact Z);(iterate 4 exact Z))
    all_goals rfl
  | false=>
   rw[he]at hS hends
   dsimp only at hS
   rw[if_neg (by simp)]at hends
   have hit:=IH p' m' hp' hm'
   unfold itR at hit
   cases hr:Yl d m' (b.drop p') with
   | error e=>
    rw[hr]at hS hit
    dsimp only at hS hit
    subst hS
    dsimp only
    rcases hst with⟨rfl,rfl,rfl⟩ | ⟨rfl,rfl⟩
    ·repeat'(first|rw[ed]|(apply Zh [0] (hends);kernel_rfl;(iterate 7 exact Z))|(apply Ym [0] (hit.x rfl);kernel_rfl;(iterate 6 exact Z);intro bx2 fr2 hle2)|(apply UA 9 5 ZF;decide +kernel;kernel_rfl;decide +kernel;exact Z;exact Z)|exact ADX.nil _ _|(apply UB;decide +kernel;exact Z)|(apply QG;(iterate 3 exact Z))|(apply J5;(iterate 4 exact Z))|exact J4 rfl (by assumption)|intro tm2 bx2 fr2 hle2|(apply Zi Za;exact Z)|(apply Zg Za;exact Z)|(apply Zu Za;exact Z)|refine Yf ?_|refine Zd Z Qt ?_|exact YE rfl)
     all_goals(apply VP;exact Z;(first|exact Nat.zero_le _|exact Nat.le_trans (Nat.le_of_ble_eq_true rfl) (by assumption));exact Z)
    ·repeat'(first|rw[ed]|(apply Zh [0] (hends);kernel_rfl;(iterate 7 exact Z))|(apply Ym [0] (hit.x rfl);kernel_rfl;(iterate 6 exact Z);intro bx2 fr2 hle2)|(apply UA 9 5 ZF;decide +kernel;kernel_rfl;decide +kernel;exact Z;exact Z)|exact ADX.nil _ _|(apply UB;decide +kernel;exact Z)|(apply QG;(iterate 3 exact Z))|(apply J5;(iterate 4 exact Z))|exact J4 rfl (by assumption)|intro tm2 bx2 fr2 hle2|(apply Zi Za;exact Z)|(apply Zg Za;exact Z)|(apply Zu Za;exact Z)|refine Yf ?_|refine Zd Z Qt ?_|exact YE rfl)
     all_goals(apply VP;exact Z;(first|exact Nat.zero_le _|exact Nat.le_trans (Nat.le_of_ble_eq_true rfl) (by assumption));exact Z)
   | ok y=>
    obtain⟨⟨k1,n1,b1,l1⟩,r,m1⟩:=y
    rw[hr]at hS hit
    dsimp only at hS hit
    obtain⟨hwk,_,pre,hpre,hpos,_⟩:=hR _ _ _ _ _ hr (by omega)
    have hm1:=UD hwk
    obtain⟨z1,z2,z3⟩:=V3 hp' hpre
    generalize hp3:b.length-r.length=p3 at z1 z2 z3 hit
    have hpl:=congrArg List.length hpre
    have hdl:(b.drop p3).length=r.length:=by rw[z1]
    rw[List.length_append]at hpl
    rw[<- z1]at hS
    rw[List.length_drop]at hdl
    have hf3:(b.drop p3).length<f:=by rw[List.length_drop];omega
    have hsum3:(acc++[It.mk k1 n1 b1 l1]).length+(b.length-p3)<=b.length/\(acc++[It.mk k1 n1 b1 l1]).length+m1<=256:=by rw[List.length_append];simp only[List.length_cons,List.length_nil];omega
    rcases hst with⟨rfl,rfl,rfl⟩ | ⟨rfl,rfl⟩
    ·repeat'(first|rw[ed]|(apply Zh [0] (hends);kernel_rfl;(iterate 7 exact Z))|(apply Zh [0] (hit.q rfl);kernel_rfl;(iterate 7 exact Z))|refine Yg Za Z Z Z Z Z Z (Zm rfl) (List.cons_ne_nil _ _) Z Qd Qd Z Z Z ?_|(apply Zi Za;exact Z)|(apply Zg Za;exact Z)|(apply Zu Za;exact Z)|refine Yf ?_|refine Zd Z Qt ?_|refine YJ ?_|refine Z7 Za Z Z Z Z Z Z Z Z Z Z Z Z ?_|(apply Zn 7 ZF;decide +kernel;kernel_rfl;kernel_rfl;kernel_rfl;exact Z;exact Z)|(apply Zr;(iterate 4 exact Z))|exact AE.nil _ _ _ _|(apply Zw;exact Z)|(apply ZS;exact Z)|(apply ZA;exact Z;exact Z;decide +kernel;exact Z)|(apply ZB;exact Z)|(apply Ya;exact Z)|exact AO.nil _ _ _|(apply Zq;(decide +kernel))|(apply ZM;(iterate 3 exact Z))|exact AOs.nil|exact ZG rfl rfl|exact WN rfl rfl rfl rfl rfl|exact Yw rfl rfl)
     refine Lands.mk' (m:=f) (Nat.lt_succ_self _) ⟨[It.mk k1 n1 b1 l1],p3,m1,1,Zx [It.mk k1 n1 b1 l1],z2,by omega,rfl,rfl,hsum3,hf3,hS,rfl,.inr ⟨rfl,rfl⟩⟩ ?_ rfl rfl rfl rfl rfl rfl
     exact .cons rfl (.cons rfl (.cons rfl (.cons rfl (.cons rfl .nil))))
    ·subst hc
     have hUa:Uni 4 L:=hL ▸ Wl acc
     have hLl:L.length=acc.length:=by rw[hL,ZD]
     repeat'(first|rw[ed]|(apply Zh [0] (hends);kernel_rfl;(iterate 7 exact Z))|(apply Zh [0] (hit.q rfl);kernel_rfl;(iterate 7 exact Z))|(apply Zi Za;exact Z)|(apply Zg Za;exact Z)|(apply Zu Za;exact Z)|refine Yf ?_|refine Zd Z Qt ?_|refine YJ ?_|refine Z7 Za Z Z Z Z Z Z Z Z Z Z Z Z ?_|(apply Zn 7 ZF;decide +kernel;kernel_rfl;kernel_rfl;kernel_rfl;exact Z;exact Z)|(apply Zr;(iterate 4 exact Z))|exact AE.nil _ _ _ _|(apply Zw;exact Z)|(apply ZS;exact Z)|(apply ZA;exact Z;exact Z;decide +kernel;exact Z)|(apply ZB;exact Z)|(apply Ya;exact Z)|exact AO.nil _ _ _|(apply Zq;(decide +kernel))|(apply ZM;(iterate 3 exact Z))|exact AOs.nil|exact ZG rfl rfl|exact WN rfl rfl rfl rfl rfl|exact Yw rfl rfl|(apply Z4 Za;(iterate 6 exact Z);(first|with_reducible assumption|decide +kernel|exact Z|rotate_left);exact Z;exact Z;(first|exact Zm rfl|with_reducible assumption|decide +kernel|rotate_left);(first|exact Zm rfl|with_reducible assumption|decide +kernel|rotate_left);(first|exact Qt|rotate_left);(first|exact Qt|rotate_left);(first|exact Qt|rotate_left);exact Z;exact Z))
     ·refine Lands.mk' (m:=f) (Nat.lt_succ_self _) ⟨acc++[It.mk k1 n1 b1 l1],p3,m1,L.length+1,L++[E.agg [.int .i64 k1,.int .u64 (n1:Int),.sl (b1.map E.byte),.sl (Zx l1)]],z2,by omega,by rw[List.length_append];rfl,by rw[hL];exact(V1 _ [It.mk k1 n1 b1 l1]).symm,hsum3,hf3,hS,rfl,.inr ⟨rfl,rfl⟩⟩ ?_ rfl rfl rfl rfl rfl rfl
      exact .cons rfl (.cons rfl (.cons rfl (.cons rfl (.cons rfl .nil))))
     all_goals(first|rfl|(simp only[List.length_append,List.length_cons,List.length_nil,List.length_map,ZD];done)|(simp only[List.length_append,List.length_cons,List.length_nil,List.length_map,ZD]at *;(try unfold maxLen);(try simp only[Nat.add_mul]);omega))
 | false=>
  unfold Kq
  dsimp only
  have e1:IntKind.i64.wrap (((b.map E.byte).length:Int)-(p:Int))=((b.length-p:Nat):Int):=by rw[List.length_map,IntWalk.i64_in _ (by omega)];omega
  have e2:IntKind.u64.wrap ((b.length-p:Nat):Int)=((b.length-p:Nat):Int):=by rw[IntKind.wrap_u64];omega
  have hl:(b.drop p).length=b.length-p:=List.length_drop ..
  rw[hl]
  by_cases hle:n<=b.length-p
  ·rw[if_pos hle]
   have d1:decide ((n:Int)<=((b.length-p:Nat):Int))=true:=by simp;omega
   generalize ho:QZ (Yl d) n [] m (b.drop p)=o
   refine Zl Tryz.func162 rfl Tryz.ntmps162 rfl rfl ?_
   repeat'(first|rw[d1]|rw[e1]|rw[e2]|(apply Zb (Z1 8);kernel_rfl;(iterate 4 exact Z))|(apply Zi Za;exact Z)|(apply Zg Za;exact Z)|refine Zf Z Qt ?_|refine Zt Za Z Z Z Z ?_|(apply Zn 13 ZF;decide +kernel;kernel_rfl;kernel_rfl;kernel_rfl;exact Z;exact Z)|(apply Zr;(iterate 4 exact Z))|exact AE.nil _ _ _ _|(apply Zw;exact Z)|(apply ZA;exact Z;exact Z;decide +kernel;exact Z)|(apply ZB;exact Z)|exact AO.nil _ _ _|(apply Zq;(decide +kernel))|exact AOs.nil|exact ZG rfl rfl)
   refine Yb (fun f tm bx fr=>∃(i:Nat) (acc:List It) (p' m' c:Nat) (L:List E),f+i=n/\p'<=b.length/\m'<=256/\c=L.length/\L=Zx acc/\(acc.length+(b.length-p')<=b.length/\acc.length+m'<=256)/\QZ (Yl d) f acc m' (b.drop p')=o/\tm=[(0,.ptr 0 0),(2,.int .i64 (deep:Int)),(4,.ptr 1 0),(6,.ptr 2 0),(7,.ptr 3 0),(40,.int .u64 (n:Int)),(41,.int .u64 (i:Int))] /\
    ((acc=[]/\bx=liB b p' m' n false .nil []/\fr=[])\/(bx=liB b p' m' n false (.own 0) L/\fr=[⟨c,4,194⟩]))) (n+1) (Lands.mk' (m:=n) (Nat.lt_succ_self _) ⟨0,[],p,m,0,[],rfl,hp,hm,rfl,rfl,⟨by simp,by simpa using hm⟩,ho,rfl,.inl ⟨rfl,rfl,rfl⟩⟩ ?_ rfl rfl rfl rfl rfl rfl) ?_
   ·exact .cons rfl (.cons rfl (.cons rfl (.cons rfl (.cons rfl (.cons rfl (.cons rfl .nil))))))
   rintro f tm bx fr ⟨i,acc,p',m',c,L,hfi,hp',hm',hc,hL,hsum,hS,rfl,hst⟩
   cases f with
   | zero=>
    have dn:decide ((i:Int)<(n:Int))=false:=by simp;omega
    rw[QZ]at hS
    subst hS
    dsimp only
    have q3:b.length-(b.drop p').length=p':=by rw[List.length_drop];omega
    rw[q3]
    subst hL
    rcases hst with⟨rfl,rfl,rfl⟩ | ⟨rfl,rfl⟩
    ·repeat'(first|(apply Zg Za;exact Z)|refine Yf ?_|refine Zf Z Qt ?_)
     all_goals(apply Jp (rfl) [0];(apply Zc Za;exact Z);(iterate 4 exact Z))
     all_goals rfl
    ·repeat'(first|(apply Zg Za;exact Z)|refine Yf ?_|refine Zf Z Qt ?_)
     all_goals(apply Jp (rfl) [0];(apply Zc Za;exact Z);(iterate 4 exact Z))
     all_goals rfl
   | succ f=>
    have dn:decide ((i:Int)<(n:Int))=true:=by simp;omega
    have ei:IntKind.u64.wrap ((i:Int)+1)=((i+1:Nat):Int):=by rw[IntKind.wrap_u64];omega
    rw[QZ]at hS
    have hlp:(b.drop p').length=b.length-p':=List.length_drop ..
    have hit:=IH p' m' hp' hm'
    unfold itR at hit
    cases hr:Yl d m' (b.drop p') with
    | error e=>
     rw[hr]at hS hit
     dsimp only at hS hit
     subst hS
     dsimp only
     rcases hst with⟨rfl,rfl,rfl⟩ | ⟨rfl,rfl⟩
     ·repeat'(first|rw[ed]|(apply Ym [0] (hit.x rfl);kernel_rfl;(iterate 6 exact Z);intro bx2 fr2 hle2)|(apply UA 9 5 ZF;decide +kernel;kernel_rfl;decide +kernel;exact Z;exact Z)|exact ADX.nil _ _|(apply UB;decide +kernel;exact Z)|(apply QG;(iterate 3 exact Z))|(apply J5;(iterate 4 exact Z))|exact J4 rfl (by assumption)|intro tm2 bx2 fr2 hle2|(apply Zi Za;exact Z)|(apply Zg Za;exact Z)|(apply Zu Za;exact Z)|refine Yf ?_|refine Zd Z Qt ?_|exact YE rfl)
      all_goals(apply VP;exact Z;(first|exact Nat.zero_le _|exact Nat.le_trans (Nat.le_of_ble_eq_true rfl) (by assumption));exact Z)
     ·repeat'(first|rw[ed]|(apply Ym [0] (hit.x rfl);kernel_rfl;(iterate 6 exact Z);intro bx2 fr2 hle2)|(apply UA 9 5 ZF;decide +kernel;kernel_rfl;decide +kernel;exact Z;exact Z)|exact ADX.nil _ _|(apply UB;decide +kernel;exact Z)|(apply QG;(iterate 3 exact Z))|(apply J5;(iterate 4 exact Z))|exact J4 rfl (by assumption)|intro tm2 bx2 fr2 hle2|(apply Zi Za;exact Z)|(apply Zg Za;exact Z)|(apply Zu Za;exact Z)|refine Yf ?_|refine Zd Z Qt ?_|exact YE rfl)
      all_goals(apply VP;exact Z;(first|exact Nat.zero_le _|exact Nat.le_trans (Nat.le_of_ble_eq_true rfl) (by assumption));exact Z)
    | ok y=>
     obtain⟨⟨k1,n1,b1,l1⟩,r,m1⟩:=y
     rw[hr]at hS hit
     dsimp only at hS hit
     obtain⟨hwk,_,pre,hpre,hpos,_⟩:=hR _ _ _ _ _ hr (by omega)
     have hm1:=UD hwk
     obtain⟨z1,z2,z3⟩:=V3 hp' hpre
     generalize hp3:b.length-r.length=p3 at z1 z2 z3 hit
     have hpl:=congrArg List.length hpre
     have hdl:(b.drop p3).length=r.length:=by rw[z1]
     rw[List.length_append]at hpl
     rw[<- z1]at hS
     rw[List.length_drop]at hdl
     have hsum3:(acc++[It.mk k1 n1 b1 l1]).length+(b.length-p3)<=b.length/\(acc++[It.mk k1 n1 b1 l1]).length+m1<=256:=by rw[List.length_append];simp only[List.length_cons,List.length_nil];omega
     rcases hst with⟨rfl,rfl,rfl⟩ | ⟨rfl,rfl⟩
     ·repeat'(first|rw[ed]|rw[ei]|(apply Zh [0] (hit.q rfl);kernel_rfl;(iterate 7 exact Z))|refine Yg Za Z Z Z Z Z Z (Zm rfl) (List.cons_ne_nil _ _) Z Qd Qd Z Z Z ?_|(apply Zi Za;exact Z)|(apply Zg Za;exact Z)|refine Yf ?_|refine Zd Z Qt ?_|refine YJ ?_|refine Z7 Za Z Z Z Z Z Z Z Z Z Z Z Z ?_|(apply Zn 7 ZF;decide +kernel;kernel_rfl;kernel_rfl;kernel_rfl;exact Z;exact Z)|(apply Zr;(iterate 4 exact Z))|exact AE.nil _ _ _ _|(apply Zw;exact Z)|(apply ZS;exact Z)|(apply ZA;exact Z;exact Z;decide +kernel;exact Z)|(apply ZB;exact Z)|(apply Ya;exact Z)|exact AO.nil _ _ _|(apply Zq;(decide +kernel))|(apply ZM;(iterate 3 exact Z))|exact AOs.nil|exact ZG rfl rfl|exact WN rfl rfl rfl rfl rfl|exact Yw rfl rfl)
      refine Lands.mk' (m:=f) (Nat.lt_succ_self _) ⟨i+1,[It.mk k1 n1 b1 l1],p3,m1,1,Zx [It.mk k1 n1 b1 l1],by omega,z2,by omega,rfl,rfl,hsum3,hS,rfl,.inr ⟨rfl,rfl⟩⟩ ?_ rfl rfl rfl rfl rfl rfl
      exact .cons rfl (.cons rfl (.cons rfl (.cons rfl (.cons rfl (.cons rfl (.cons rfl .nil))))))
     ·subst hc
      have hUa:Uni 4 L:=hL ▸ Wl acc
      have hLl:L.length=acc.length:=by rw[hL,ZD]
      repeat'(first|rw[ed]|rw[ei]|(apply Zh [0] (hit.q rfl);kernel_rfl;(iterate 7 exact Z))|(apply Zi Za;exact Z)|(apply Zg Za;exact Z)|refine Yf ?_|refine Zd Z Qt ?_|refine YJ ?_|refine Z7 Za Z Z Z Z Z Z Z Z Z Z Z Z ?_|(apply Zn 7 ZF;decide +kernel;kernel_rfl;kernel_rfl;kernel_rfl;exact Z;exact Z)|(apply Zr;(iterate 4 exact Z))|exact AE.nil _ _ _ _|(apply Zw;exact Z)|(apply ZS;exact Z)|(apply ZA;exact Z;exact Z;decide +kernel;exact Z)|(apply ZB;exact Z)|(apply Ya;exact Z)|exact AO.nil _ _ _|(apply Zq;(decide +kernel))|(apply ZM;(iterate 3 exact Z))|exact AOs.nil|exact ZG rfl rfl|exact WN rfl rfl rfl rfl rfl|exact Yw rfl rfl|(apply Z4 Za;(iterate 6 exact Z);(first|with_reducible assumption|decide +kernel|exact Z|rotate_left);exact Z;exact Z;(first|exact Zm rfl|with_reducible assumption|decide +kernel|rotate_left);(first|exact Zm rfl|with_reducible assumption|decide +kernel|rotate_left);(first|exact Qt|rotate_left);(first|exact Qt|rotate_left);(first|exact Qt|rotate_left);exact Z;exact Z))
      ·refine Lands.mk' (m:=f) (Nat.lt_succ_self _) ⟨i+1,acc++[It.mk k1 n1 b1 l1],p3,m1,L.length+1,L++[E.agg [.int .i64 k1,.int .u64 (n1:Int),.sl (b1.map E.byte),.sl (Zx l1)]],by omega,z2,by omega,by rw[List.length_append];rfl,by rw[hL];exact(V1 _ [It.mk k1 n1 b1 l1]).symm,hsum3,hS,rfl,.inr ⟨rfl,rfl⟩⟩ ?_ rfl rfl rfl rfl rfl rfl
       exact .cons rfl (.cons rfl (.cons rfl (.cons rfl (.cons rfl (.cons rfl (.cons rfl .nil))))))
      all_goals(first|rfl|(simp only[List.length_append,List.length_cons,List.length_nil,List.length_map,ZD];done)|(simp only[List.length_append,List.length_cons,List.length_nil,List.length_map,ZD]at *;(try unfold maxLen);(try simp only[Nat.add_mul]);omega))
  ·rw[if_neg hle]
   dsimp only
   have d1:decide ((n:Int)<=((b.length-p:Nat):Int))=false:=by simp;omega
   refine Zl Tryz.func162 rfl Tryz.ntmps162 rfl rfl ?_
   repeat'(first|rw[d1]|rw[e1]|rw[e2]|(apply Ym [] (W7 8);kernel_rfl;(iterate 6 exact Z);intro bx2 fr2 hle2)|(apply Zi Za;exact Z)|(apply Zg Za;exact Z)|(apply Zu Za;exact Z)|refine Yf ?_|refine Zf Z Qt ?_|refine Zt Za Z Z Z Z ?_|(apply Zn 13 ZF;decide +kernel;kernel_rfl;kernel_rfl;kernel_rfl;exact Z;exact Z)|(apply Zr;(iterate 4 exact Z))|exact AE.nil _ _ _ _|(apply Zw;exact Z)|(apply ZA;exact Z;exact Z;decide +kernel;exact Z)|(apply ZB;exact Z)|exact AO.nil _ _ _|(apply Zq;(decide +kernel))|exact AOs.nil|exact ZG rfl rfl)
   all_goals(apply VP;exact Z;(first|exact Nat.zero_le _|exact Nat.le_trans (Nat.le_of_ble_eq_true rfl) (by assumption));exact Z)
end Go.Proofs.YtkdpfkjlheajhaaGreatDoor
end

/- Slices of bytes: copied, held against each other. -/
import Derived.Test.YtmljabhmajehnaaGreatDoorT09
import Derived.Test.YtmljabhmajehnaaGreatDoorT10
import Derived.Test.YtmljabhmajehnaaGreatDoorT11
import Derived.Recover
set_option linter.unusedVariables false
set_option linter.unusedSimpArgs false
section
open Go.RowKit Go.Pl Go.Av
namespace Go.Proofs.YtmljabhmajehnaaGreatDoor
set_option maxHeartbeats 4000000
theorem WW [Known](b:List UInt8)(hb:b.length<=140737488351232):AP Tryz.prog 44 [byE b] (byE b) []:=by
 have hU:=YR b
 cases b with
 | nil=>
  refine AP.ofA (Zk Tryz.func44 Z Tryz.ntmps44 Z Z ?_)
  repeat'(first|(apply KP Za;(iterate 5 exact Z);intro b hbn)|(apply Zh Za;exact Z)|(apply Ze Za;exact Z)|(apply Zq Za;exact Z)|(apply W5;exact Z;all_goals intro hb)|refine X3 Za Z Z Z Z Z Z Z Z Z Z Z Z ?_|refine Y8 Za Z Z Z Z Z Z ?_)
  all_goals exact Qe
 | cons c b=>
  refine AP.ofA (Zk Tryz.func44 Z Tryz.ntmps44 Z Z ?_)
  repeat'(first|(apply KP Za;(iterate 5 exact Z);intro b hbn;(have hbn2:=hbn (List.cons_ne_nil _ _));subst hbn2;clear hbn)|(apply Zh Za;exact Z)|(apply Ze Za;exact Z)|(apply Zq Za;exact Z)|(apply Zf;exact Z;(first|with_reducible assumption|(solve|simp only[bn])))|refine X3 Za Z Z Z Z Z Z Z Z Z Z Z Z ?_|(apply Z1 Za;(iterate 6 exact Z);(first|with_reducible assumption|exact Z|rotate_left);exact Z;exact Z;(first|exact Zj rfl|with_reducible assumption|rotate_left);(first|exact Zj rfl|with_reducible assumption|rotate_left);(first|exact Qb|rotate_left);(first|exact Qb|rotate_left);(first|exact Qb|rotate_left);exact Z;exact Z))
  all_goals first|(apply Zo [];(apply Zc Za;exact Z);(iterate 4 exact Z))|skip
  all_goals first|rfl|(simp at hb ⊢;(try unfold maxLen);omega)
theorem KW [Known](a b:List UInt8):AP Tryz.prog 68 [byE a,byE b] (.bool (a==b)) []:=by
 refine AP.ofA (Zk Tryz.func68 Z Tryz.ntmps68 Z Z ?_)
 repeat'(first|(apply Zh Za;exact Z)|(apply Ze Za;exact Z)|refine JT Za Z Z Z Z Z Z Z Z Z ?_)
 all_goals exact Qe
end Go.Proofs.YtmljabhmajehnaaGreatDoor
end
section
open Go.RowKit Go.Pl Go.Av
namespace Go.Proofs.YtmljabhmajehnaaGreatDoor
set_option maxHeartbeats 4000000
theorem It.ind {P:It->Prop}(h:∀ k n b l,(∀ y ∈ l,P y)->P (.mk k n b l)):∀ x,P x:=by
 intro x
 refine It.rec (motive_1:=P) (motive_2:=fun l=>∀ y ∈ l,P y) (fun k n b l ih=>h k n b l ih) (by simp) (fun x l hx hl y hy=>?_) x
 rcases List.mem_cons.1 hy with rfl|hy
 ·exact hx
 ·exact hl y hy
mutual
def itE:It->E
 | .mk k n b l=>.agg [.int .i64 k,.int .u64 (n:Int),.sl (b.map E.byte),.sl (Zt l)]
def Zt:List It->List E
 | []=>[]
 | x::l=>itE x::Zt l
end
theorem Yd:∀ l:List It,Zt l=l.map itE
 | []=>rfl
 | x::l=>by rw[Zt,List.map_cons,Yd l]
theorem Vt (a b:List It):Zt (a++b)=Zt a++Zt b:=by rw[Yd,Yd,Yd,List.map_append]
theorem Zw (l:List It):(Zt l).length=l.length:=by rw[Yd,List.length_map]
abbrev itC (k:Int)(n:Nat)(b:List UInt8)(l:List It):List D:=[.int .i64 k,.int .u64 (n:Int),byE b,.sl .ext (Zt l)]
def itD:It->D
 | .mk k n b l=>.agg (itC k n b l)
theorem Hh (x:It):(itE x).cells.length=4:=by obtain⟨k,n,b,l⟩:=x;rfl
theorem YW (l:List It):Uni 4 (Zt l):=by rw[Yd];exact Uni.map Hh l
theorem Yr:∀ {l:List It},wfs l->∀ y ∈ l,wfI y
 | x::l,⟨h1,h2⟩,y,hy=>by
  rcases List.mem_cons.1 hy with rfl|hy
  ·exact h1
  ·exact Yr h2 y hy
theorem Ka [Known]:∀(x:It),wfI x->AP Tryz.prog 115 [itD x] (itD x) []:=by
 refine It.ind fun k n b l ih hw=>?_
 obtain⟨hn,hb,hl,hws⟩:=hw
 have ih':∀ y ∈ l,AP Tryz.prog 115 [itD y] (itD y) []:=fun y hy=>ih y hy (Yr hws y hy)
 clear ih
 have hlen:=Zw l
 refine AP.ofA (Zk Tryz.func115 Z Tryz.ntmps115 Z Z ?_)
 repeat'(first|(apply Zb (WW b hb);kernel_rfl;(iterate 4 exact Z))|(apply Zh Za;exact Z)|(apply Ze Za;exact Z)|refine Zm Za Z Z Z Z ?_)
 refine ZW (fun k' tm bx fr=>∃(i c:Nat) (L:List E),k'+i=l.length/\c=L.length/\L=Zt (l.take i)/\tm=[(1,.ptr 0 0),(2,.ptr 1 0),(13,.sl .ext (Zt l)),(14,.int .i64 ((Zt l).length:Int)),(15,.int .i64 (i:Int))] /\
  ((i=0/\bx=[[.int .i64 k,.int .u64 (n:Int),byE b,.sl .nil []],[.int .i64 0,.int .u64 0,.sl .nil [],.sl .nil []]]/\fr=[]) \/
  (bx=[[.int .i64 k,.int .u64 (n:Int),byE b,.sl (.own 0) L],[.int .i64 0,.int .u64 0,.sl .nil [],.sl .nil []]]/\fr=[⟨c,4,115⟩]))) (l.length+1) (Lands.mk' (m:=l.length) (Nat.lt_succ_self _) ⟨0,0,[],rfl,rfl,rfl,rfl,.inl ⟨rfl,rfl,rfl⟩⟩ ?_ rfl rfl rfl rfl rfl rfl) ?_
 ·exact .cons rfl (.cons rfl (.cons rfl (.cons rfl (.cons rfl .nil))))
 rintro k' tm bx fr ⟨i,c,L,hi,hc,hL,rfl,⟨rfl,rfl,rfl⟩ | ⟨rfl,rfl⟩⟩
 ·cases l with
  | nil=>
   repeat'(first|(apply Ze Za;exact Z)|refine Zf Z Qt ?_)
   all_goals exact Qe
  | cons y l=>
   have hc:=ih' y (List.mem_cons_self ..)
   have hU:=YW (y::l)
   have hd:decide (((0:Nat):Int)<((Zt (y::l)).length:Int))=true:=decide_eq_true (by rw[Zt];simp)
   obtain⟨k1,n1,b1,l1⟩:=y
   repeat'(first|(apply Zb (hc);kernel_rfl;(iterate 4 exact Z))|refine ZZ Za Z Z Z Z Z Z (Zj rfl) (List.cons_ne_nil _ _) Z Qd Qd Z Z Z ?_|(apply Zh Za;exact Z)|(apply Ze Za;exact Z)|(apply Zq Za;exact Z)|refine Zd Z Qt ?_|refine ZT Za Z Z Z Z Z Z Z Z Z Z Z Z ?_|(apply Zn 5 ZF;decide +kernel;kernel_rfl;kernel_rfl;kernel_rfl;exact Z;exact Z)|(apply Zs;(iterate 4 exact Z))|exact AE.nil _ _ _ _|(apply Zx;exact Z)|(apply ZA;exact Z;exact Z;decide +kernel;exact Z)|(apply ZB;exact Z)|exact AO.nil _ _ _|(apply Zr;(decide +kernel))|exact AOs.nil|exact ZM rfl rfl|exact Wi rfl rfl rfl rfl rfl|(apply Zu Za;(iterate 6 exact Z);(first|exact Qt|rotate_left);(first|with_reducible assumption|decide +kernel|exact Z);(first|exact Zj rfl|with_reducible assumption|decide +kernel|rotate_left)))
   refine Lands.mk' (m:=k'-1) (by simp at hi;omega) ⟨1,1,Zt [It.mk k1 n1 b1 l1],by simp at hi ⊢;omega,rfl,rfl,rfl,.inr ⟨rfl,rfl⟩⟩ ?_ rfl rfl rfl rfl rfl rfl
   exact .cons rfl (.cons rfl (.cons rfl (.cons rfl (.cons rfl .nil))))
 ·have hU:=YW l
  have hU2:Uni 4 L:=hL ▸ YW (l.take i)
  have el:=Zw (l.take i)
  rw[<- hL]at el
  subst hc
  rcases Nat.lt_or_ge i l.length with hlt|hge
  ·have hd:decide ((i:Int)<((Zt l).length:Int))=true:=decide_eq_true (by omega)
   obtain⟨⟨k1,n1,b1,l1⟩,hy⟩:∃ y,l[i]?=some y:=⟨_,List.getElem?_eq_getElem hlt⟩
   have hv:(Zt l)[((i:Nat):Int).toNat]?=some (.agg [.int .i64 k1,.int .u64 (n1:Int),.sl (b1.map E.byte),.sl (Zt l1)]):=by
    rw[Int.toNat_natCast,Yd,List.getElem?_map,hy];rfl
   have hc:=ih' _ (List.mem_of_getElem? hy)
   have ei:IntKind.i64.wrap ((i:Int)+1)=((i+1:Nat):Int):=by rw[IntWalk.i64_in _ (by omega)];omega
   have hs:L++[E.agg [.int .i64 k1,.int .u64 (n1:Int),.sl (b1.map E.byte),.sl (Zt l1)]]=Zt (l.take (i+1)):=by
    rw[hL,List.take_add_one,hy];exact(Vt _ [It.mk k1 n1 b1 l1]).symm
   rw[List.length_take]at el
   repeat'(first|(apply Zb (hc);kernel_rfl;(iterate 4 exact Z))|rw[ei]|(apply Zh Za;exact Z)|(apply Ze Za;exact Z)|(apply Zq Za;exact Z)|refine Zd Z Qt ?_|refine ZT Za Z Z Z Z Z Z Z Z Z Z Z Z ?_|(apply Zn 5 ZF;decide +kernel;kernel_rfl;kernel_rfl;kernel_rfl;exact Z;exact Z)|(apply Zs;(iterate 4 exact Z))|exact AE.nil _ _ _ _|(apply Zx;exact Z)|(apply ZA;exact Z;exact Z;decide +kernel;exact Z)|(apply ZB;exact Z)|exact AO.nil _ _ _|(apply Zr;(decide +kernel))|exact AOs.nil|exact ZM rfl rfl|exact Wi rfl rfl rfl rfl rfl|(apply Z1 Za;(iterate 6 exact Z);(first|with_reducible assumption|decide +kernel|exact Z|rotate_left);exact Z;exact Z;(first|exact Zj rfl|with_reducible assumption|decide +kernel|rotate_left);(first|exact Zj rfl|with_reducible assumption|decide +kernel|rotate_left);(first|exact Qt|rotate_left);(first|exact Qt|rotate_left);(first|exact Qt|rotate_left);exact Z;exact Z)|(apply Zu Za;(iterate 6 exact Z);(first|exact Qt|rotate_left);(first|with_reducible assumption|decide +kernel|exact Z);(first|exact Zj rfl|with_reducible assumption|decide +kernel|rotate_left)))
   ·refine Lands.mk' (m:=k'-1) (by omega) ⟨i+1,L.length+1,_,by omega,by rw[List.length_append];rfl,hs,rfl,.inr ⟨rfl,rfl⟩⟩ ?_ rfl rfl rfl rfl rfl rfl
    exact .cons rfl (.cons rfl (.cons rfl (.cons rfl (.cons rfl .nil))))
   all_goals(first|rfl|(simp only[List.length_append,List.length_cons,List.length_nil,List.length_map,Zw];done)|(simp only[List.length_append,List.length_cons,List.length_nil,List.length_map,Zw]at *;(try unfold maxLen);(try simp only[Nat.add_mul]);omega))
  ·have hd:decide ((i:Int)<((Zt l).length:Int))=false:=decide_eq_false (by omega)
   rw[List.take_of_length_le hge]at hL
   subst hL
   repeat'(first|(apply Ze Za;exact Z)|refine Zf Z Qt ?_)
   all_goals exact Qe
theorem YI [Known](n:Nat):AP Tryz.prog 65 [.int .u64 (n:Int)] (itD (.mk 0 n [] [])) []:=by
 refine AP.ofA (Zk Tryz.func65 Z Tryz.ntmps65 Z Z ?_)
 repeat'(first|(apply Ze Za;exact Z))
 all_goals exact Qe
theorem N4 [Known](b:List UInt8):AP Tryz.prog 134 [.str b] (itD (.mk 3 0 b [])) []:=by
 refine AP.ofA (Zk Tryz.func134 Z Tryz.ntmps134 Z Z ?_)
 repeat'(first|refine M5 Za Z Z Z Z Z Z Z Z ?_|(apply Zh Za;exact Z)|(apply Ze Za;exact Z))
 all_goals exact Qe
theorem QR [Known](b:List UInt8)(hb:b.length<=140737488351232):AP Tryz.prog 139 [byE b] (itD (.mk 2 0 b [])) []:=by
 refine AP.ofA (Zk Tryz.func139 Z Tryz.ntmps139 Z Z ?_)
 repeat'(first|(apply Zb (WW b hb);kernel_rfl;(iterate 4 exact Z))|(apply Zh Za;exact Z)|(apply Ze Za;exact Z))
 all_goals exact Qe
theorem WC [Known](l:List It)(hl:l.length<=2199023255488)(hws:wfs l):AP Tryz.prog 64 [.sl .ext (Zt l)] (itD (.mk 4 0 [] l)) []:=by
 have ih':∀ y ∈ l,AP Tryz.prog 115 [itD y] (itD y) []:=fun y hy=>Ka y (Yr hws y hy)
 have hlen:=Zw l
 refine AP.ofA (Zk Tryz.func64 Z Tryz.ntmps64 Z Z ?_)
 repeat'(first|(apply Zh Za;exact Z)|(apply Ze Za;exact Z)|refine Zm Za Z Z Z Z ?_)
 refine ZW (fun k' tm bx fr=>∃(i c:Nat) (L:List E),k'+i=l.length/\c=L.length/\L=Zt (l.take i)/\tm=[(3,.ptr 1 0),(2,.ptr 0 0),(7,.sl .ext (Zt l)),(8,.int .i64 ((Zt l).length:Int)),(9,.int .i64 (i:Int))] /\
  ((i=0/\bx=[[.int .i64 0,.int .u64 0,.sl .nil [],.sl .nil []],[.int .i64 4,.int .u64 0,.sl .nil [],.sl .nil []]]/\fr=[]) \/
  (bx=[[.int .i64 0,.int .u64 0,.sl .nil [],.sl .nil []],[.int .i64 4,.int .u64 0,.sl .nil [],.sl (.own 0) L]]/\fr=[⟨c,4,115⟩]))) (l.length+1) (Lands.mk' (m:=l.length) (Nat.lt_succ_self _) ⟨0,0,[],rfl,rfl,rfl,rfl,.inl ⟨rfl,rfl,rfl⟩⟩ ?_ rfl rfl rfl rfl rfl rfl) ?_
 ·exact .cons rfl (.cons rfl (.cons rfl (.cons rfl (.cons rfl .nil))))
 rintro k' tm bx fr ⟨i,c,L,hi,hc,hL,rfl,⟨rfl,rfl,rfl⟩ | ⟨rfl,rfl⟩⟩
 ·cases l with
  | nil=>
   repeat'(first|(apply Ze Za;exact Z)|refine Zf Z Qt ?_)
   all_goals exact Qe
  | cons y l=>
   have hc:=ih' y (List.mem_cons_self ..)
   have hU:=YW (y::l)
   have hd:decide (((0:Nat):Int)<((Zt (y::l)).length:Int))=true:=decide_eq_true (by rw[Zt];simp)
   obtain⟨k1,n1,b1,l1⟩:=y
   repeat'(first|(apply Zb (hc);kernel_rfl;(iterate 4 exact Z))|refine ZZ Za Z Z Z Z Z Z (Zj rfl) (List.cons_ne_nil _ _) Z Qd Qd Z Z Z ?_|(apply Zh Za;exact Z)|(apply Ze Za;exact Z)|(apply Zq Za;exact Z)|refine Zd Z Qt ?_|refine ZT Za Z Z Z Z Z Z Z Z Z Z Z Z ?_|(apply Zn 5 ZF;decide +kernel;kernel_rfl;kernel_rfl;kernel_rfl;exact Z;exact Z)|(apply Zs;(iterate 4 exact Z))|exact AE.nil _ _ _ _|(apply Zx;exact Z)|(apply ZA;exact Z;exact Z;decide +kernel;exact Z)|(apply ZB;exact Z)|exact AO.nil _ _ _|(apply Zr;(decide +kernel))|exact AOs.nil|exact ZM rfl rfl|exact Wi rfl rfl rfl rfl rfl|(apply Zu Za;(iterate 6 exact Z);(first|exact Qt|rotate_left);(first|with_reducible assumption|decide +kernel|exact Z);(first|exact Zj rfl|with_reducible assumption|decide +kernel|rotate_left)))
   refine Lands.mk' (m:=k'-1) (by simp at hi;omega) ⟨1,1,Zt [It.mk k1 n1 b1 l1],by simp at hi ⊢;omega,rfl,rfl,rfl,.inr ⟨rfl,rfl⟩⟩ ?_ rfl rfl rfl rfl rfl rfl
   exact .cons rfl (.cons rfl (.cons rfl (.cons rfl (.cons rfl .nil))))
 ·have hU:=YW l
  have hU2:Uni 4 L:=hL ▸ YW (l.take i)
  have el:=Zw (l.take i)
  rw[<- hL]at el
  subst hc
  rcases Nat.lt_or_ge i l.length with hlt|hge
  ·have hd:decide ((i:Int)<((Zt l).length:Int))=true:=decide_eq_true (by omega)
   obtain⟨⟨k1,n1,b1,l1⟩,hy⟩:∃ y,l[i]?=some y:=⟨_,List.getElem?_eq_getElem hlt⟩
   have hv:(Zt l)[((i:Nat):Int).toNat]?=some (.agg [.int .i64 k1,.int .u64 (n1:Int),.sl (b1.map E.byte),.sl (Zt l1)]):=by
    rw[Int.toNat_natCast,Yd,List.getElem?_map,hy];rfl
   have hc:=ih' _ (List.mem_of_getElem? hy)
   have ei:IntKind.i64.wrap ((i:Int)+1)=((i+1:Nat):Int):=by rw[IntWalk.i64_in _ (by omega)];omega
   have hs:L++[E.agg [.int .i64 k1,.int .u64 (n1:Int),.sl (b1.map E.byte),.sl (Zt l1)]]=Zt (l.take (i+1)):=by
    rw[hL,List.take_add_one,hy];exact(Vt _ [It.mk k1 n1 b1 l1]).symm
   rw[List.length_take]at el
   repeat'(first|(apply Zb (hc);kernel_rfl;(iterate 4 exact Z))|rw[ei]|(apply Zh Za;exact Z)|(apply Ze Za;exact Z)|(apply Zq Za;exact Z)|refine Zd Z Qt ?_|refine ZT Za Z Z Z Z Z Z Z Z Z Z Z Z ?_|(apply Zn 5 ZF;decide +kernel;kernel_rfl;kernel_rfl;kernel_rfl;exact Z;exact Z)|(apply Zs;(iterate 4 exact Z))|exact AE.nil _ _ _ _|(apply Zx;exact Z)|(apply ZA;exact Z;exact Z;decide +kernel;exact Z)|(apply ZB;exact Z)|exact AO.nil _ _ _|(apply Zr;(decide +kernel))|exact AOs.nil|exact ZM rfl rfl|exact Wi rfl rfl rfl rfl rfl|(apply Z1 Za;(iterate 6 exact Z);(first|with_reducible assumption|decide +kernel|exact Z|rotate_left);exact Z;exact Z;(first|exact Zj rfl|with_reducible assumption|decide +kernel|rotate_left);(first|exact Zj rfl|with_reducible assumption|decide +kernel|rotate_left);(first|exact Qt|rotate_left);(first|exact Qt|rotate_left);(first|exact Qt|rotate_left);exact Z;exact Z)|(apply Zu Za;(iterate 6 exact Z);(first|exact Qt|rotate_left);(first|with_reducible assumption|decide +kernel|exact Z);(first|exact Zj rfl|with_reducible assumption|decide +kernel|rotate_left)))
   ·refine Lands.mk' (m:=k'-1) (by omega) ⟨i+1,L.length+1,_,by omega,by rw[List.length_append];rfl,hs,rfl,.inr ⟨rfl,rfl⟩⟩ ?_ rfl rfl rfl rfl rfl rfl
    exact .cons rfl (.cons rfl (.cons rfl (.cons rfl (.cons rfl .nil))))
   all_goals(first|rfl|(simp only[List.length_append,List.length_cons,List.length_nil,List.length_map,Zw];done)|(simp only[List.length_append,List.length_cons,List.length_nil,List.length_map,Zw]at *;(try unfold maxLen);(try simp only[Nat.add_mul]);omega))
  ·have hd:decide ((i:Int)<((Zt l).length:Int))=false:=decide_eq_false (by omega)
   rw[List.take_of_length_le hge]at hL
   subst hL
   repeat'(first|(apply Ze Za;exact Z)|refine Zf Z Qt ?_)
   all_goals exact Qe
end Go.Proofs.YtmljabhmajehnaaGreatDoor
end
section
open Go.RowKit Go.Pl
namespace Go.Av
section
variable {P:Program} {Q:X->St->Prop} {n:Nat} {ee:Nat × Nat} {tm tm':List (Nat × D)} {bx bx':List (List D)} {fr fr':List Fr} {b0:Bs} {g:G} {w:World} {a:Act} {T:Tab}
variable {ops:Array Oper} {rest:List Oper} {t ty:Nat} {pos:String} {after:Array Edge}
def LQ (P:Program)(t:TypeId):Option (List Value):=match P.info? t with
 | some i=>match i.zero with
  | some (.agg cs)=>some cs.toList
  | _=>none
 | none=>none
theorem Lb [Known][Dfr](hT:chk P T=true){x:Operand}{xt at_:TypeId}{d:D}{ti:Ti}{fs:List Fd}(hx:ev tm x=.iface at_ d)(ht:tl T at_=some ti)(hk:ti.kd=.struct fs)(htd:Nat.blt t n=true)
  (k:AL P ops rest ⟨n,(t,.tup [d,.bool true])::tm,bx,fr,ee⟩ Q):AL P ops (⟨some t,.typeAssert x xt at_ true,ty,pos,after,none⟩::rest) ⟨n,tm,bx,fr,ee⟩ Q:=
 ZY _ htd (fun g a w hi=>by
  have h1:V w g fr (ev tm x) (a.eval x):=hi.ev x
  rw[hx]at h1
  obtain⟨fields,hu,_⟩:=(ZR hT ht).struct hk
  generalize hv:a.eval x=v at h1
  cases h1 with
  | iface _ _ u hu'=>
   refine⟨.tuple #[u,.bool true],?_,.tup _ [u,.bool true] rfl fun j d' v' hd' hv'=>?_⟩
   ·simp[execOp,hv,Instr.typeAssert,Sem.run_bind,run_underlying hu]
   ·match j with
    | 0=>simp at hd' hv';subst hd' hv';exact hu'
    | 1=>simp at hd' hv';subst hd' hv';exact .bool true
    | j+2=>simp at hd') k
theorem Lc [Known][Dfr](hT:chk P T=true){x:Operand}{xt at_:TypeId}{cs:List Value}{ti:Ti}{fs:List Fd}(hx:ev tm x=.nili)(ht:tl T at_=some ti)(hk:ti.kd=.struct fs)(hz:LQ P at_=some cs)(htd:Nat.blt t n=true)
  (k:AL P ops rest ⟨n,(t,.tup [.agg (cs.map Uv),.bool false])::tm,bx,fr,ee⟩ Q):AL P ops (⟨some t,.typeAssert x xt at_ true,ty,pos,after,none⟩::rest) ⟨n,tm,bx,fr,ee⟩ Q:=
 ZY _ htd (fun g a w hi=>by
  have h1:V w g fr (ev tm x) (a.eval x):=hi.ev x
  rw[hx]at h1
  obtain⟨fields,hu,_⟩:=(ZR hT ht).struct hk
  generalize hv:a.eval x=v at h1
  have hzv:(zeroValue at_).run P w=.ok (.agg cs.toArray) w:=by
   unfold LQ at hz
   cases hi':P.info? at_ with
   | none=>simp[hi']at hz
   | some i=>
    simp only[hi']at hz
    cases hz':i.zero with
    | none=>simp[hz']at hz
    | some z=>
     simp only[hz']at hz
     cases z with
     | agg c=>simp at hz;subst hz;simp[zeroValue,typeInfo,Sem.run_bind,hi',hz']
     | _=>simp at hz
  cases h1 with
  | nili=>
   refine⟨.tuple #[.agg cs.toArray,.bool false],?_,.tup _ [.agg cs.toArray,.bool false] rfl fun j d' v' hd' hv'=>?_⟩
   ·simp[execOp,hv,Instr.typeAssert,Sem.run_bind,run_underlying hu,hzv]
   ·match j with
    | 0=>
     simp at hd' hv';subst hd' hv'
     refine .agg _ cs (by simp) fun j d v hd hv=>?_
     rw[List.getElem?_map,hv]at hd
     simp at hd
     exact hd ▸ VT _ _ _ v
    | 1=>simp at hd' hv';subst hd' hv';exact .bool false
    | j+2=>simp at hd') k
theorem Ld {o:Oper}{K K':Act->World->Prop}{R R':Exit->Act->World->Prop}{r:Result Next}(h:o.upon P a K R r)(hK:∀ a w,K a w->K' a w)(hR:∀ c w,R (.panic c) a w->R' (.panic c) a w)(hL:LetsOut R->False):o.upon P a K' R' r:=by
 cases r with
 | ok nx w'=>
  cases nx<;>simp only[Oper.upon]at h ⊢
  case value v=>exact hK _ _ h
  case skip=>exact hK _ _ h
  case defer d=>exact hK _ _ h
  case enter f args=>
   refine Calls.mono h (fun e w'' he=>?_)
   cases e with
   | returned u=>exact hK _ _ he
   | panicked c=>exact hR _ _ he
   | outgrown=>exact(hL he).elim
  case row row args=>exact Rows.mono h fun u w'' he=>hK _ _ he
 | halt x w'=>
  cases x<;>simp only[Oper.upon]at h ⊢
  case panic u=>exact hR _ _ h
theorem QS {ops:Array Oper}{cs:List Frame}{R:Exit->Act->World->Prop}{Q':Exit->Act->List Frame->World->Prop}(hR:∀ e a w,R e a w->Q' e a cs w)(hL:LetsOut R->False) :
  ∀(l:List Oper) (k:Nat) (a:Act) (w:World),(∀ j,l[j]?=ops[k+j]?)->wpList P ops R l a w->wpOpsS P ops Q' (List.range' k l.length) a cs w
 | [],k,a,w,_,h=>by
  simp only[List.length_nil,List.range'_zero,wpOpsS]
  exact hR _ _ _ h
 | o::l,k,a,w,hl,h=>by
  have h0:ops[k]?=some o:=by simpa using(hl 0).symm
  have ih:=fun a w=>QS hR hL l (k+1) a w (fun j=>by have:=hl (j+1);simpa[Nat.add_assoc,Nat.add_comm 1 j]using this)
  rw[List.length_cons,List.range'_succ]
  simp only[wpOpsS,h0]
  unfold wpList at h
  by_cases hw:Region.wanted o (yielded ops a.tmps)=true
  ·rw[if_pos hw]at h
   rw[if_pos hw]
   rcases h with h|⟨_,hlo⟩
   ·unfold Oper.wp at h
    split
    ·rename_i w' hr
     rw[hr]at h
     exact h.elim
    ·exact Ld h (fun a w h=>ih a w h) (fun c w h=>hR _ _ _ h) hL
   ·exact(hL hlo).elim
  ·rw[if_neg hw]at h
   rw[if_neg hw]
   exact ih _ _ h
end
theorem Kb [Known]{n:Nat}{args:List D}{bx:List (List D)}{fr:List Fr}{g:G}{w:World}{vs:List Value}(hle:args.length<=n)(hm:Mem g bx fr w)(hlen:vs.length=args.length)(hv:∀(j:Nat) (d:D) (v:Value),args[j]?=some d->vs[j]?=some v->V w g fr d v) :
  Inv ⟨g,fr,w⟩ ⟨n,ZN 0 args,bx,fr,(bx.length,fr.length)⟩ g { tmps:=vs.toArray++Array.replicate (n-vs.toArray.size) undef,defers:=[] } w:=by
 refine⟨by simp;omega,rfl,hm,fun t=>?_,Evo.refl _,by rw[hm.bl];exact Nat.le_refl _,Nat.le_refl _⟩
 rw[Jt]
 simp only[Nat.zero_le,if_true,Nat.sub_zero]
 cases ht:args[t]? with
 | none=>exact .junk _
 | some d=>
  have hlt:t<args.length:=(List.getElem?_eq_some_iff.1 ht).1
  refine hv t d _ ht ?_
  have hlt2:t<vs.length:=by omega
  simp[Array.getD_getElem?,Array.getElem?_append,hlt2]
theorem MN [Known]{P:Program}{f:FuncId}{fn:Func}{id n t0:Nat}{o0:Oper}{l:List Oper}{y:Code}{args:List D}{bx:List (List D)}{fr:List Fr}{u u':FrameMode}{dv:D}{post:St->Prop}
  (hf:P.funcs[f]?=some fn) (hb:fn.body=some ((Code.region id (o0::l).toArray false).seq y)) (hn:fn.ntmps=n) (hr:fn.results = #[]) (hl:Nat.ble args.length n=true) (ht:Nat.blt t0 n=true)
  (ho:o0.dst=some t0) (hg:o0.guard=none) {w:World} (hop:∀ ρ,(execOp ρ o0).run P w=.ok .recover w) {g:G} {vs:List Value} (hm:Mem g bx fr w) (hlen:vs.length=args.length) (hv:∀(j:Nat) (d:D) (v:Value),args[j]?=some d->vs[j]?=some v->V w g fr d v)
  (hrec:∀(c₀:Frame) (cs:List Frame),c₀.mode=u->match recoverD (c₀::cs) with
   | some (v,cs')=>V w g fr dv v/\cs' = { c₀ with mode:=u' }::cs
   | none=>dv=.nili/\u'=u)
  (h1:AL P (o0::l).toArray l ⟨n,(t0,dv)::ZN 0 args,bx,fr,(bx.length,fr.length)⟩ (fun x S=>x=.norm/\AW P y S (fun x S=>x=.norm/\post S))) :
  CallsD P f vs.toArray u w fun e u2 w'=>(∃ v,e=.returned v)/\u2=u'/\∃ S g',Mem g' S.bx S.fr w'/\Evo ⟨g,fr,w⟩ ⟨g',S.fr,w'⟩/\post S:=by
 refine callsD_of_wpS hf hb fun c₀ cs hc=>?_
 refine wpS_seq (wpS_region ?_)
 have hi0:=Kb (Nat.le_of_ble_eq_true hl) hm hlen hv
 rw[hn]
 generalize ha:({ tmps:=vs.toArray++Array.replicate (n-vs.toArray.size) undef,defers:=[] }:Act)=a at hi0
 obtain⟨v0,cs1,hcs1,hV0,hstep⟩:∃(v0:Value) (cs1:List Frame),cs1 = { c₀ with mode:=u' }::cs/\V w g fr dv v0/\∀ Q',wpOpsS P (o0::l).toArray Q' (List.range' 1 l.length) (a.put o0.dst v0) cs1 w->wpOpsS P (o0::l).toArray Q' (List.range (o0::l).toArray.size) a (c₀::cs) w:=by
  have h0:((o0::l).toArray)[0]?=some o0:=by simp
  have hw:Region.wanted o0 (yielded (o0::l).toArray a.tmps)=true:=by simp[Region.wanted,hg]
  have hsz:List.range (o0::l).toArray.size=0::List.range' 1 l.length:=by
   rw[List.range_eq_range'];simp[List.range'_succ]
  have hre:=hrec c₀ cs hc
  cases hrd:recoverD (c₀::cs) with
  | none=>
   rw[hrd]at hre
   obtain⟨rfl,rfl⟩:=hre
   refine⟨.nilIface,c₀::cs,by subst hc;rfl,.nili,fun Q' h=>?_⟩
   rw[hsz]
   simp only[wpOpsS,h0,if_pos hw,hop,hrd]
   exact h
  | some y=>
   obtain⟨v,cs'⟩:=y
   rw[hrd]at hre
   refine⟨v,cs',hre.2,hre.1,fun Q' h=>?_⟩
   rw[hsz]
   simp only[wpOpsS,h0,if_pos hw,hop,hrd]
   exact h
 refine hstep _ ?_
 have hi1:Inv ⟨g,fr,w⟩ ⟨n,(t0,dv)::ZN 0 args,bx,fr,(bx.length,fr.length)⟩ g (a.put o0.dst v0) w:=by
  rw[ho];exact hi0.put ht hV0
 refine QS (R:=Vc ⟨g,fr,w⟩ (fun x S=>x=.norm/\AW P y S (fun x S=>x=.norm/\post S))) (fun e a' w' h=>?_) (fun⟨_,_,h⟩=>h) l 1 _ _ (fun j=>by simp[Nat.add_comm 1 j]) (h1.run _ _ _ _ hi1)
 cases e with
 | normal=>
  obtain⟨S,g',hi,_,hy⟩:=h
  refine wpS_of_wp ?_
  refine wp_mono (hy.run _ _ _ _ hi) fun e a2 w2 hc2=>?_
  cases e with
  | normal=>
   obtain⟨S2,g2,hi2,_,hp⟩:=hc2
   refine⟨hi2.defers,u',hcs1,.tuple #[],by simp[results,hr,Sem.run_bind],⟨_,rfl⟩,rfl,S2,g2,hi2.mem,hi2.evo,hp⟩
  | panic c=>obtain⟨_,_,_,_,_,_,_,h,_⟩:=hc2;cases h
  | ret=>obtain⟨_,_,_,h,_⟩:=hc2;cases h
  | exit i=>obtain⟨_,_,_,h,_⟩:=hc2;cases h
  | goto i=>obtain⟨_,_,_,h,_⟩:=hc2;cases h
  | outgrown=>exact hc2.elim
 | panic c=>obtain⟨_,_,_,_,_,_,_,h,_⟩:=h;cases h
 | ret=>obtain⟨_,_,_,h,_⟩:=h;cases h
 | exit i=>obtain⟨_,_,_,h,_⟩:=h;cases h
 | goto i=>obtain⟨_,_,_,h,_⟩:=h;cases h
 | outgrown=>exact h.elim
theorem Hi [Known]{P:Program}{R:Exit->Act->World->Prop}{id t fd:Nat}{caps:Array Operand}{ds:List D}{ats:Array TypeId}{ty1 ty2:Nat}{pos1 pos2:String}{af1 af2:Array Edge}{n:Nat}{ee:Nat × Nat}{tm:List (Nat × D)}{bx:List (List D)}{fr:List Fr}{b0:Bs}{g:G}{a:Act}{w:World}{y:Code}
  (hi:Inv b0 ⟨n,tm,bx,fr,ee⟩ g a w) (hds:caps.toList.map (ev tm)=ds) (htd:Nat.blt t n=true)
  (k:∀(cvs:List Value) (a':Act),cvs.length=ds.length->(∀(j:Nat) (d:D) (v:Value),ds[j]?=some d->cvs[j]?=some v->V w g fr d v) ->
   @Inv _ ⟨[{ target:=.fn (.func fd) cvs.toArray,args := #[] }]⟩ b0 ⟨n,(t,.fn fd ds)::tm,bx,fr,ee⟩ g a' w->y.wp P R a' w) :
  ((Code.region id #[⟨some t,.makeFunc (.func fd) #[] caps,ty1,pos1,af1,none⟩,⟨none,.defer { callee:=.value (.tmp t),args := #[],argTypes:=ats },ty2,pos2,af2,none⟩] false).seq y).wp P R a w:=by
 refine wp_seq ?_
 have hcv:=evs hi caps
 generalize hcvs:caps.toList.map a.eval=cvs at hcv
 have hce:caps.map a.eval=cvs.toArray:=by rw[<- hcvs,<- Array.toList_map,Array.toArray_toList]
 have hV:V w g fr (.fn fd ds) (.func (.func fd) #[] cvs.toArray):=.fn fd ds cvs (by rw[<- hds,<- hcvs];simp) (by rw[<- hds];exact hcv)
 have hi1:=hi.put htd hV
 have hlt:t<a.tmps.size:=by rw[hi.size];simpa using htd
 have e1:(execOp a.eval ⟨some t,.makeFunc (.func fd) #[] caps,ty1,pos1,af1,none⟩).run P w=.ok (.value (.func (.func fd) #[] cvs.toArray)) w:=by
  simp[execOp,hce,Instr.makeFunc,Sem.run_bind]
 have e2:(execOp (a.put (some t) (.func (.func fd) #[] cvs.toArray)).eval ⟨none,.defer { callee:=.value (.tmp t),args := #[],argTypes:=ats },ty2,pos2,af2,none⟩).run P w=.ok (.defer { target:=.fn (.func fd) cvs.toArray,args := #[] }) w:=by
  simp[execOp,resolve,Act.eval,Act.put,hlt,Deferred.ofValue,Sem.run_bind]
 refine wp_region_lit ?_
 unfold wpList
 rw[if_pos (by simp[Region.wanted])]
 refine .inl ?_
 unfold Oper.wp
 rw[e1]
 show wpList _ _ _ _ _ _
 unfold wpList
 rw[if_pos (by simp[Region.wanted])]
 refine .inl ?_
 unfold Oper.wp
 rw[e2]
 rw[Oper.upon_defer]
 refine k cvs _ (by rw[<- hds,<- hcvs];simp) (by rw[<- hds];exact hcv) ?_
 refine @Inv.mk _ ⟨[{ target:=.fn (.func fd) cvs.toArray,args := #[] }]⟩ _ _ _ _ _ ?_ ?_ hi1.mem (fun t'=>?_) hi1.evo hi1.bd
 ·have:=hi1.size;simpa[Act.put]using this
 ·have:=hi1.defers
  simp only[Act.put]at this ⊢
  rw[this];rfl
 ·have:=hi1.tm t';simpa[Act.put]using this
theorem Inv.parts [Known][Dfr]{b:Bs}{S:St}{g:G}{a:Act}{w:World}(h:Inv b S g a w):a.tmps.size=S.n/\Mem g S.bx S.fr w/\(∀ t,V w g S.fr (look S.tm t) (a.tmps.getD t undef))/\Evo b ⟨g,S.fr,w⟩:=⟨h.size,h.mem,h.tm,h.evo⟩
theorem J4 [Known]{P:Program}{fn:Func}{rs:List ResultVar}(hr:fn.results=rs.toArray){b:Bs}(hbρ:b.g.ρ=[])(hbf:b.fr=[]){S:St}{g:G}{a:Act}{w:World}{d:Deferred}(hi : @Inv _ ⟨[d]⟩ b S g a w){bs:List Nat}(hbs:YH bs S.bx.length)
  {fd:FuncId} {cvs:List Value} (hd:d = { target:=.fn (.func fd) cvs.toArray,args := #[] }) (hfd:Qn P fd=true) {args:List D} (hlen:cvs.length=args.length) (hV:∀(j:Nat) (d:D) (v:Value),args[j]?=some d->cvs[j]?=some v->V w g S.fr d v)
  {u u':FrameMode} (hu:u ≠ .run) (hset:settle u'=.returning) {bxs bxs':List (List D)} (hsel:V9 bs [] S.bx=bxs)
  (hC:∀(g:G) (w:World) (vs:List Value),Mem g bxs [] w->vs.length=(args.map (D.ren (idx bs) (idx []))).length->(∀(j:Nat) (d:D) (v:Value),(args.map (D.ren (idx bs) (idx [])))[j]?=some d->vs[j]?=some v->V w g [] d v) ->
   CallsD P fd vs.toArray u w fun e u2 w'=>(∃ v,e=.returned v)/\u2=u'/\∃ g',Mem g' bxs' [] w'/\Evo ⟨g,[],w⟩ ⟨g',[],w'⟩)
  {tmR:List (Nat × D)} (htm:∀ t,V w (g.sel bs []) [] (look tmR t) (a.tmps.getD t undef)) {ds:List D} (hres:ResL P ⟨S.n,tmR,bxs',[],(0,0)⟩ rs ds) {R:Ending->World->Prop}
  (hR:∀ g' w' v,Evo b ⟨g',[],w'⟩->Mem g' [] [] w'->V w' g' [] ((XH ds).ren (idx []) (idx [])) v->R (.returned v) w'):Leaves P fn a.tmps R [d] u w:=by
 subst hd
 obtain⟨isz,hm,itm,iev⟩:=@Inv.parts _ ⟨[{ target:=.fn (.func fd) cvs.toArray,args := #[] }]⟩ b S g a w hi
 refine leaves_cons (f:=fd) (args:=cvs.toArray) hu (by
  have:=VQ hfd cvs.toArray w
  simpa[invoke]using this) ?_
 have hms:=hm.sel hbs (ZD _)
 rw[hsel]at hms
 have hsF:VU [] S.fr=[]:=rfl
 rw[hsF]at hms
 refine(hC (g.sel bs []) w cvs hms (by simpa using hlen) (fun j d v hd hv=>?_)).mono fun e u2 w' ⟨⟨v,he⟩,hu2,g',hm',hev⟩=>?_
 ·rw[List.getElem?_map]at hd
  cases hj:args[j]? with
  | none=>simp[hj]at hd
  | some d0=>
   simp[hj]at hd;subst hd
   have:=(hV j d0 v hj hv).sel hm hbs (ZD _)
   rw[hsF]at this;exact this
 ·subst he hu2
  show Leaves P fn a.tmps R [] (settle u2) w'
  rw[hset]
  have hevS:Evo b ⟨g.sel bs [],[],w⟩:=by
   have:=iev.sel hm hbs (ZD _) (fun i hi=>by rw[hbρ]at hi;simp at hi) (fun i hi=>by rw[hbf]at hi;simp at hi)
   rw[hsF]at this;exact this
  have hinv : @Inv _ ⟨a.defers⟩ b ⟨S.n,tmR,bxs',[],(0,0)⟩ g' a w':=@Inv.mk _ ⟨a.defers⟩ _ _ _ _ _ isz rfl hm' (fun t=>(htm t).evo hev) (hevS.trans hev) ⟨by rw[hbρ];simp,by rw[hbf];simp⟩
  obtain⟨v,hrun,hv⟩:=@Ju _ ⟨a.defers⟩ _ _ _ _ _ _ hinv _ _ hr _ hres
  refine⟨v,hrun,hR (g'.sel [] []) w' v ?_ ?_ ?_⟩
  ·have:=(hevS.trans hev).sel hm' (ZD bxs'.length) (ZD _) (fun i hi=>by rw[hbρ]at hi;simp at hi) (fun i hi=>by rw[hbf]at hi;simp at hi)
   exact this
  ·exact hm'.sel (ZD _) (ZD _)
  ·exact hv.sel hm' (ZD _) (ZD _)
theorem Hj [Known][Dfr]{P:Program}{Q:X->St->Prop}{n:Nat}{ee:Nat × Nat}{tm:List (Nat × D)}{bx:List (List D)}{fr:List Fr}{ops:Array Oper}{rest:List Oper}{ty:Nat}{pos:String}{after:Array Edge}{f:FuncId}{ars:Array Operand}{ats:Array TypeId}{t:Option Nat}{cds:List D}{p p':D}{bxs:List (List D)}(bs:List Nat)(hX:AX P f cds bxs p)(hf:Qn P f=true)
  (hc:D.wks ((ars.toList.map (ev tm)).map (D.ren (idx bs) (idx [])))=cds) (hb:Vr bs bx.length=true) (hbx:V9 bs [] bx=bxs) (hle:Nat.ble bs.length bxs.length=true) (htd:(match t with|some t=>Nat.blt t n|none=>true)=true) (hp:nf (p.ren (upN bs bx.length) (upN [] fr.length))=some p')
  (k:∀ bx2 fr2,bxs.length<=bx2.length->Q (.pan p') ⟨n,tm,Uw bs [] bx fr.length bx2,fr2,ee⟩):AL P ops (⟨t,.call { callee:=.value (.func f),args:=ars,argTypes:=ats },ty,pos,after,none⟩::rest) ⟨n,tm,bx,fr,ee⟩ Q:=by
 refine Qz bs [] hf (AC.unwk (hc ▸ hX)) rfl (YG hb) (ZD _) hbx rfl htd (fun d bx' fr' h=>?_) fun d0 bx' fr' h=>by cases h.1
 obtain⟨h1,h2⟩:=h
 injection h1 with h1
 subst h1
 have hle:=Nat.le_of_ble_eq_true hle
 refine⟨by omega,?_⟩
 have e:=YE hp
 subst e
 exact k _ _ h2
theorem Kc [Known][Dfr]{P:Program}{x y:Code}{S:St}{R:Exit->Act->World->Prop}{b0:Bs}{g:G}{a:Act}{w:World}(n:Nat)(tm:List (Nat × D))(bx:List (List D))(fr:List Fr)(ee:Nat × Nat)(hi:Inv b0 S g a w)
  (h:AW P x S (fun X S'=>X=.norm/\S'.n=n/\S'.bx=bx/\S'.fr=fr/\S'.e=ee/\Sub S'.tm tm)) (k:∀ g a w,Inv b0 ⟨n,tm,bx,fr,ee⟩ g a w->y.wp P R a w):(x.seq y).wp P R a w:=by
 refine wp_seq (wp_mono (h.run _ _ _ _ hi) fun e a' w' hc=>?_)
 cases e with
 | normal=>
  obtain⟨⟨n',tm',bx',fr',ee'⟩,g',hi',_,h1,h2,h3,h4,h5⟩:=hc
  dsimp only at h1 h2 h3 h4 h5
  subst h1 h2 h3 h4
  exact k _ _ _ (hi'.sub h5)
 | panic c=>obtain⟨_,_,_,_,_,_,_,h,_⟩:=hc;cases h
 | ret=>obtain⟨_,_,_,h,_⟩:=hc;cases h
 | exit i=>obtain⟨_,_,_,h,_⟩:=hc;cases h
 | goto i=>obtain⟨_,_,_,h,_⟩:=hc;cases h
 | outgrown=>exact hc.elim
theorem Inv.dl [Known][Dfr]{b:Bs}{S:St}{g:G}{a:Act}{w:World}(h:Inv b S g a w):a.defers=Dfr.l:=h.defers
theorem Inv.rebase [Known][Dfr]{b:Bs}{n:Nat}{tm:List (Nat × D)}{bx:List (List D)}{fr:List Fr}{ee:Nat × Nat}{g:G}{a:Act}{w:World}(h:Inv b ⟨n,tm,bx,fr,ee⟩ g a w)(p q:Nat)(hp:bx.length=p)(hq:fr.length=q):Inv ⟨g,fr,w⟩ ⟨n,tm,bx,fr,(p,q)⟩ g a w:=
 ⟨h.size,h.defers,h.mem,h.tm,Evo.refl _,by show g.ρ.length<=p;rw[h.mem.bl];exact Nat.le_of_eq hp,Nat.le_of_eq hq⟩
theorem Inv.base [Known][Dfr]{b b1:Bs}{S:St}{g:G}{a:Act}{w:World}(h:Inv b1 S g a w)(he:Evo b b1)(hρ:b.g.ρ=[])(hf:b.fr=[]):Inv b S g a w:=
 ⟨h.size,h.defers,h.mem,h.tm,he.trans h.evo,by rw[hρ];simp,by rw[hf];simp⟩
theorem Gy [Known]{P:Program}{c:Code}{S:St}{Q:X->St->Prop}{b:Bs}{g:G}{a:Act}{w:World}{R:Exit->Act->World->Prop}(df:List Deferred)(h : @AW _ ⟨df⟩ P c S Q)(hi : @Inv _ ⟨df⟩ b S g a w)
  (k1:∀ S g a w,@Inv _ ⟨df⟩ b S g a w->a.defers=df->Q .ret S->R .ret a w) (k2:∀ S g a w v d,@Inv _ ⟨df⟩ b S g a w->a.defers=df->V w g S.fr d v->Q (.pan d) S->R (.panic [{ v,recovered:=false }]) a w)
  (k3:∀ S,Q .norm S->False) (k4:∀ S i,Q (.exit i) S->False) (k5:∀ S i,Q (.goto i) S->False):c.wp P R a w:=by
 refine wp_mono (@AW.run _ ⟨df⟩ P c S Q h b g a w hi) fun e a' w' hc=>?_
 cases e with
 | normal=>obtain⟨S',g',hi',h⟩:=hc;exact(k3 _ h).elim
 | ret=>obtain⟨S',g',hi',h⟩:=hc;exact k1 _ _ _ _ hi' (@Inv.dl _ ⟨df⟩ _ _ _ _ _ hi') h
 | exit i=>obtain⟨S',g',hi',h⟩:=hc;exact(k4 _ _ h).elim
 | goto i=>obtain⟨S',g',hi',h⟩:=hc;exact(k5 _ _ h).elim
 | panic c=>obtain⟨S',g',v,d,hi',rfl,hv,h⟩:=hc;exact k2 _ _ _ _ v d hi' (@Inv.dl _ ⟨df⟩ _ _ _ _ _ hi') hv h
 | outgrown=>exact hc.elim
end Go.Av
end
section
open Go.RowKit Go.Pl Go.Av
namespace Go.Proofs.YtmljabhmajehnaaGreatDoor
set_option maxHeartbeats 4000000
theorem OK:∀ {l l':List It},l.length ≠ l'.length->It.beqs l l'=false
 | [],[],h=>by simp at h
 | [],_::_,_=>rfl
 | _::_,[],_=>rfl
 | x::l,y::l',h=>by
  rw[It.beqs]
  cases It.beq x y
  ·rfl
  ·exact OK (by simpa using h)
theorem Hk [Known](l l':List It)(hl:l.length<=2199023255488)(hl':l'.length<=2199023255488)(ih:∀ y ∈ l,∀ y' ∈ l',AP Tryz.prog 96 [itD y,itD y'] (.bool (It.beq y y')) []):AP Tryz.prog 133 [.sl .ext (Zt l),.sl .ext (Zt l'),.fn 96 []] (.bool (It.beqs l l')) []:=by
 have e1:=Zw l
 have e2:=Zw l'
 by_cases hne:l.length=l'.length
 ·have t1:(((Zt l).length:Int) != ((Zt l').length:Int))=false:=by rw[e1,e2,hne];simp
  generalize hfin:It.beqs l l'=fin
  refine AP.ofA (Zk Tryz.func133 Z Tryz.ntmps133 Z Z ?_)
  repeat'(first|(apply Zh Za;exact Z)|(apply Ze Za;exact Z)|(apply Zq Za;exact Z)|refine Zf Z Qt ?_|refine Zm Za Z Z Z Z ?_)
  refine ZW (fun f tm bx fr=>∃ i:Nat,f+i=l.length/\It.beqs (l.drop i) (l'.drop i)=fin/\tm=[(0,.sl .ext (Zt l)),(1,.sl .ext (Zt l')),(2,.fn 96 []),(6,.bool false),(15,.sl .ext (Zt l)),(16,.int .i64 ((Zt l).length:Int)),(17,.int .i64 (i:Int))]/\bx=[]/\fr=[]) (l.length+1) (Lands.mk' (m:=l.length) (Nat.lt_succ_self _) ⟨0,rfl,hfin,rfl,rfl,rfl⟩ ?_ rfl rfl rfl rfl rfl rfl) ?_
  ·exact .cons rfl (.cons rfl (.cons rfl (.cons rfl (.cons rfl (.cons rfl (.cons rfl .nil))))))
  rintro f tm bx fr ⟨i,hf,hfin,rfl,rfl,rfl⟩
  have hU:=YW l
  have hU':=YW l'
  rcases Nat.lt_or_ge i l.length with hlt|hge
  ·have hdl:decide ((i:Int)<((Zt l).length:Int))=true:=decide_eq_true (by omega)
   obtain⟨⟨k1,n1,b1,l1⟩,hy⟩:∃ y,l[i]?=some y:=⟨_,List.getElem?_eq_getElem hlt⟩
   obtain⟨⟨k2,n2,b2,l2⟩,hy'⟩:∃ y,l'[i]?=some y:=⟨_,List.getElem?_eq_getElem (by omega)⟩
   have hv:(Zt l)[((i:Nat):Int).toNat]?=some (.agg [.int .i64 k1,.int .u64 (n1:Int),.sl (b1.map E.byte),.sl (Zt l1)]):=by
    rw[Int.toNat_natCast,Yd,List.getElem?_map,hy];rfl
   have hv':(Zt l')[((i:Nat):Int).toNat]?=some (.agg [.int .i64 k2,.int .u64 (n2:Int),.sl (b2.map E.byte),.sl (Zt l2)]):=by
    rw[Int.toNat_natCast,Yd,List.getElem?_map,hy'];rfl
   have hc:=ih _ (List.mem_of_getElem? hy) _ (List.mem_of_getElem? hy')
   have hdr:l.drop i=It.mk k1 n1 b1 l1::l.drop (i+1):=by
    rw[List.drop_eq_getElem_cons hlt];congr 1
    exact(List.getElem?_eq_some_iff.1 hy).2
   have hdr':l'.drop i=It.mk k2 n2 b2 l2::l'.drop (i+1):=by
    rw[List.drop_eq_getElem_cons (by omega)];congr 1
    exact(List.getElem?_eq_some_iff.1 hy').2
   rw[hdr,hdr',It.beqs]at hfin
   have ei:IntKind.i64.wrap ((i:Int)+1)=((i+1:Nat):Int):=by rw[IntWalk.i64_in _ (by omega)];omega
   cases hb:It.beq (.mk k1 n1 b1 l1) (.mk k2 n2 b2 l2) with
   | false=>
    rw[hb]at hfin hc
    subst hfin
    repeat'(first|(apply Vl (hc);exact Z;kernel_rfl;(iterate 3 exact Z))|(apply Zh Za;exact Z)|(apply Ze Za;exact Z)|(apply Zq Za;exact Z)|refine Zd Z Qt ?_|(apply Zu Za;(iterate 6 exact Z);(first|exact Qt|rotate_left);(first|with_reducible assumption|decide +kernel|exact Z);(first|exact Zj rfl|with_reducible assumption|decide +kernel|rotate_left)))
    all_goals exact Qe
   | true=>
    rw[hb]at hfin hc
    repeat'(first|rw[ei]|(apply Vl (hc);exact Z;kernel_rfl;(iterate 3 exact Z))|(apply Zh Za;exact Z)|(apply Ze Za;exact Z)|(apply Zq Za;exact Z)|refine Zd Z Qt ?_|refine Zf Z Qt ?_|(apply Zu Za;(iterate 6 exact Z);(first|exact Qt|rotate_left);(first|with_reducible assumption|decide +kernel|exact Z);(first|exact Zj rfl|with_reducible assumption|decide +kernel|rotate_left)))
    refine Lands.mk' (m:=f-1) (by omega) ⟨i+1,by omega,hfin,rfl,rfl,rfl⟩ ?_ rfl rfl rfl rfl rfl rfl
    exact .cons rfl (.cons rfl (.cons rfl (.cons rfl (.cons rfl (.cons rfl (.cons rfl .nil))))))
  ·have hdl:decide ((i:Int)<((Zt l).length:Int))=false:=decide_eq_false (by omega)
   rw[List.drop_eq_nil_of_le hge,List.drop_eq_nil_of_le (by omega)]at hfin
   have hfin:true=fin:=hfin
   subst hfin
   repeat'(first|(apply Ze Za;exact Z)|refine Zf Z Qt ?_)
   all_goals exact Qe
 ·have t1:(((Zt l).length:Int) != ((Zt l').length:Int))=true:=by rw[e1,e2];simp;omega
  rw[OK hne]
  refine AP.ofA (Zk Tryz.func133 Z Tryz.ntmps133 Z Z ?_)
  repeat'(first|(apply Zh Za;exact Z)|(apply Ze Za;exact Z)|(apply Zq Za;exact Z)|refine Zd Z Qt ?_|refine Zm Za Z Z Z Z ?_)
  all_goals exact Qe
theorem LR (n m:Nat):((n:Int)==(m:Int))=(n==m):=by
 rw[Bool.eq_iff_iff,beq_iff_eq,beq_iff_eq];omega
theorem VK [Known]:∀(x:It),wfI x->∀ y:It,wfI y->AP Tryz.prog 96 [itD x,itD y] (.bool (It.beq x y)) []:=by
 refine It.ind fun k n b l ih hw y hw'=>?_
 obtain⟨k',n',b',l'⟩:=y
 obtain⟨_,_,hl,hws⟩:=hw
 obtain⟨_,_,hl',hws'⟩:=hw'
 have hE:=Hk l l' hl hl' fun y hy y' hy'=>ih y hy (Yr hws y hy) y' (Yr hws' y' hy')
 have hB:=KW b b'
 have en:=LR n n'
 rw[It.beq]
 cases h1:k==k'<;>cases h2:n==n'<;>cases h3:b==b'
 all_goals
  rw[h2]at en
  rw[h3]at hB
  refine AP.ofA (Zk Tryz.func96 Z Tryz.ntmps96 Z Z ?_)
  repeat'(first|rw[en]|(apply Zb (hB);kernel_rfl;(iterate 4 exact Z))|(apply Zb (hE);kernel_rfl;(iterate 4 exact Z))|(apply Zh Za;exact Z)|(apply Ze Za;exact Z)|refine Zg Z Z Z Qt ?_|refine Zv Z Z Z Qt ?_|refine Zl Z Qt Z Z ?_|refine Zi Z Qt Z Z ?_)
  all_goals exact Qe
end Go.Proofs.YtmljabhmajehnaaGreatDoor
end

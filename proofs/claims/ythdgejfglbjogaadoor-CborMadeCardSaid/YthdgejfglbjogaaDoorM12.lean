/- Items over abstract states: what is put together. -/
import Derived.Test.YthdgejfglbjogaaDoorM09
import Derived.Test.YthdgejfglbjogaaDoorM10
import Derived.Test.YthdgejfglbjogaaDoorM11
import Derived.Scope
set_option linter.unusedVariables false
set_option linter.unusedSimpArgs false
section
open Go.RowKit Go.Pl Go.Av
namespace Go.Proofs.YthdgejfglbjogaaDoor
set_option maxHeartbeats 4000000
theorem It.ind {P:It->Prop}(h:∀ k n b l,(∀ y ∈ l,P y)->P (.mk k n b l)):∀ x,P x:=by
 intro x
 refine It.rec (motive_1:=P) (motive_2:=fun l=>∀ y ∈ l,P y) (fun k n b l ih=>h k n b l ih) (by simp) (fun x l hx hl y hy=>?_) x
 rcases List.mem_cons.1 hy with rfl|hy
 ·exact hx
 ·exact hl y hy
mutual
def itE:It->E
 | .mk k n b l=>.agg [.int .i64 k,.int .u64 (n:Int),.sl (b.map E.byte),.sl (ZN l)]
def ZN:List It->List E
 | []=>[]
 | x::l=>itE x::ZN l
end
theorem Yn:∀ l:List It,ZN l=l.map itE
 | []=>rfl
 | x::l=>by rw[ZN,List.map_cons,Yn l]
theorem VF (a b:List It):ZN (a++b)=ZN a++ZN b:=by rw[Yn,Yn,Yn,List.map_append]
theorem ZB (l:List It):(ZN l).length=l.length:=by rw[Yn,List.length_map]
abbrev itC (k:Int)(n:Nat)(b:List UInt8)(l:List It):List D:=[.int .i64 k,.int .u64 (n:Int),byE b,.sl .ext (ZN l)]
def itD:It->D
 | .mk k n b l=>.agg (itC k n b l)
theorem XR (x:It):(itE x).cells.length=4:=by obtain⟨k,n,b,l⟩:=x;rfl
theorem VY (l:List It):Uni 4 (ZN l):=by rw[Yn];exact Uni.map XR l
theorem Wr:∀ {l:List It},wfs l->∀ y ∈ l,wfI y
 | x::l,⟨h1,h2⟩,y,hy=>by
  rcases List.mem_cons.1 hy with rfl|hy
  ·exact h1
  ·exact Wr h2 y hy
theorem W3 [Known]:∀(x:It),wfI x->AP Tryd.prog 13 [itD x] (itD x) []:=by
 refine It.ind fun k n b l ih hw=>?_
 obtain⟨hn,hb,hl,hws⟩:=hw
 have ih':∀ y ∈ l,AP Tryd.prog 13 [itD y] (itD y) []:=fun y hy=>ih y hy (Wr hws y hy)
 clear ih
 have hlen:=ZB l
 refine AP.ofA (Zs Tryd.func13 Z Tryd.ntmps13 Z Z ?_)
 repeat'(first|(apply Zb (VX b hb);kernel_rfl;(iterate 4 exact Z))|(apply Zh Za;exact Z)|(apply Zd Za;exact Z)|refine Zp Za Z Z Z Z ?_)
 refine Z6 (fun k' tm bx fr=>∃(i c:Nat) (L:List E),k'+i=l.length/\c=L.length/\L=ZN (l.take i)/\tm=[(1,.ptr 0 0),(2,.ptr 1 0),(13,.sl .ext (ZN l)),(14,.int .i64 ((ZN l).length:Int)),(15,.int .i64 (i:Int))] /\
  ((i=0/\bx=[[.int .i64 k,.int .u64 (n:Int),byE b,.sl .nil []],[.int .i64 0,.int .u64 0,.sl .nil [],.sl .nil []]]/\fr=[]) \/
  (bx=[[.int .i64 k,.int .u64 (n:Int),byE b,.sl (.own 0) L],[.int .i64 0,.int .u64 0,.sl .nil [],.sl .nil []]]/\fr=[⟨c,4,27⟩]))) (l.length+1) (Lands.mk' (m:=l.length) (Nat.lt_succ_self _) ⟨0,0,[],rfl,rfl,rfl,rfl,.inl ⟨rfl,rfl,rfl⟩⟩ ?_ rfl rfl rfl rfl rfl rfl) ?_
 ·exact .cons rfl (.cons rfl (.cons rfl (.cons rfl (.cons rfl .nil))))
 rintro k' tm bx fr ⟨i,c,L,hi,hc,hL,rfl,⟨rfl,rfl,rfl⟩ | ⟨rfl,rfl⟩⟩
 ·cases l with
  | nil=>
   repeat'(first|(apply Zd Za;exact Z)|refine Ze Z Qt ?_)
   all_goals exact Qe
  | cons y l=>
   have hc:=ih' y (List.mem_cons_self ..)
   have hU:=VY (y::l)
   have hd:decide (((0:Nat):Int)<((ZN (y::l)).length:Int))=true:=decide_eq_true (by rw[ZN];simp)
   obtain⟨k1,n1,b1,l1⟩:=y
   repeat'(first|(apply Zb (hc);kernel_rfl;(iterate 4 exact Z))|refine Ym Za Z Z Z Z Z Z (Zi rfl) (List.cons_ne_nil _ _) Z Qd Qd Z Z Z ?_|(apply Zh Za;exact Z)|(apply Zd Za;exact Z)|(apply Zv Za;exact Z)|refine Zc Z Qt ?_|refine Wa Za Z Z Z Z Z Z Z Z Z Z Z Z ?_|(apply Zr 5 ZJ;decide +kernel;kernel_rfl;kernel_rfl;kernel_rfl;exact Z;exact Z)|(apply Zu;(iterate 4 exact Z))|exact AE.nil _ _ _ _|(apply ZD;exact Z)|(apply ZP;exact Z;exact Z;decide +kernel;exact Z)|(apply ZQ;exact Z)|exact AO.nil _ _ _|(apply Zt;(decide +kernel))|exact AOs.nil|exact Z1 rfl rfl|exact WT rfl rfl rfl rfl rfl|(apply ZC Za;(iterate 6 exact Z);(first|exact Qt|rotate_left);(first|with_reducible assumption|decide +kernel|exact Z);(first|exact Zi rfl|with_reducible assumption|decide +kernel|rotate_left)))
   refine Lands.mk' (m:=k'-1) (by simp at hi;omega) ⟨1,1,ZN [It.mk k1 n1 b1 l1],by simp at hi ⊢;omega,rfl,rfl,rfl,.inr ⟨rfl,rfl⟩⟩ ?_ rfl rfl rfl rfl rfl rfl
   exact .cons rfl (.cons rfl (.cons rfl (.cons rfl (.cons rfl .nil))))
 ·have hU:=VY l
  have hU2:Uni 4 L:=hL ▸ VY (l.take i)
  have el:=ZB (l.take i)
  rw[<- hL]at el
  subst hc
  rcases Nat.lt_or_ge i l.length with hlt|hge
  ·have hd:decide ((i:Int)<((ZN l).length:Int))=true:=decide_eq_true (by omega)
   obtain⟨⟨k1,n1,b1,l1⟩,hy⟩:∃ y,l[i]?=some y:=⟨_,List.getElem?_eq_getElem hlt⟩
   have hv:(ZN l)[((i:Nat):Int).toNat]?=some (.agg [.int .i64 k1,.int .u64 (n1:Int),.sl (b1.map E.byte),.sl (ZN l1)]):=by
    rw[Int.toNat_natCast,Yn,List.getElem?_map,hy];rfl
   have hc:=ih' _ (List.mem_of_getElem? hy)
   have ei:IntKind.i64.wrap ((i:Int)+1)=((i+1:Nat):Int):=by rw[IntWalk.i64_in _ (by omega)];omega
   have hs:L++[E.agg [.int .i64 k1,.int .u64 (n1:Int),.sl (b1.map E.byte),.sl (ZN l1)]]=ZN (l.take (i+1)):=by
    rw[hL,List.take_add_one,hy];exact(VF _ [It.mk k1 n1 b1 l1]).symm
   rw[List.length_take]at el
   repeat'(first|(apply Zb (hc);kernel_rfl;(iterate 4 exact Z))|rw[ei]|(apply Zh Za;exact Z)|(apply Zd Za;exact Z)|(apply Zv Za;exact Z)|refine Zc Z Qt ?_|refine Wa Za Z Z Z Z Z Z Z Z Z Z Z Z ?_|(apply Zr 5 ZJ;decide +kernel;kernel_rfl;kernel_rfl;kernel_rfl;exact Z;exact Z)|(apply Zu;(iterate 4 exact Z))|exact AE.nil _ _ _ _|(apply ZD;exact Z)|(apply ZP;exact Z;exact Z;decide +kernel;exact Z)|(apply ZQ;exact Z)|exact AO.nil _ _ _|(apply Zt;(decide +kernel))|exact AOs.nil|exact Z1 rfl rfl|exact WT rfl rfl rfl rfl rfl|(apply Yi Za;(iterate 6 exact Z);(first|with_reducible assumption|decide +kernel|exact Z|rotate_left);exact Z;exact Z;(first|exact Zi rfl|with_reducible assumption|decide +kernel|rotate_left);(first|exact Zi rfl|with_reducible assumption|decide +kernel|rotate_left);(first|exact Qt|rotate_left);(first|exact Qt|rotate_left);(first|exact Qt|rotate_left);exact Z;exact Z)|(apply ZC Za;(iterate 6 exact Z);(first|exact Qt|rotate_left);(first|with_reducible assumption|decide +kernel|exact Z);(first|exact Zi rfl|with_reducible assumption|decide +kernel|rotate_left)))
   ·refine Lands.mk' (m:=k'-1) (by omega) ⟨i+1,L.length+1,_,by omega,by rw[List.length_append];rfl,hs,rfl,.inr ⟨rfl,rfl⟩⟩ ?_ rfl rfl rfl rfl rfl rfl
    exact .cons rfl (.cons rfl (.cons rfl (.cons rfl (.cons rfl .nil))))
   all_goals(first|rfl|(simp only[List.length_append,List.length_cons,List.length_nil,List.length_map,ZB];done)|(simp only[List.length_append,List.length_cons,List.length_nil,List.length_map,ZB]at *;(try unfold maxLen);(try simp only[Nat.add_mul]);omega))
  ·have hd:decide ((i:Int)<((ZN l).length:Int))=false:=decide_eq_false (by omega)
   rw[List.take_of_length_le hge]at hL
   subst hL
   repeat'(first|(apply Zd Za;exact Z)|refine Ze Z Qt ?_)
   all_goals exact Qe
theorem JQ [Known](n:Nat):AP Tryd.prog 7 [.int .u64 (n:Int)] (itD (.mk 0 n [] [])) []:=by
 refine AP.ofA (Zs Tryd.func7 Z Tryd.ntmps7 Z Z ?_)
 repeat'(first|(apply Zd Za;exact Z))
 all_goals exact Qe
theorem QA [Known](b:List UInt8):AP Tryd.prog 8 [.str b] (itD (.mk 3 0 b [])) []:=by
 refine AP.ofA (Zs Tryd.func8 Z Tryd.ntmps8 Z Z ?_)
 repeat'(first|refine O4 Za Z Z Z Z Z Z Z Z ?_|(apply Zh Za;exact Z)|(apply Zd Za;exact Z))
 all_goals exact Qe
theorem KJ [Known](b:List UInt8)(hb:b.length<=140737488351232):AP Tryd.prog 5 [byE b] (itD (.mk 2 0 b [])) []:=by
 refine AP.ofA (Zs Tryd.func5 Z Tryd.ntmps5 Z Z ?_)
 repeat'(first|(apply Zb (VX b hb);kernel_rfl;(iterate 4 exact Z))|(apply Zh Za;exact Z)|(apply Zd Za;exact Z))
 all_goals exact Qe
theorem QB [Known](l:List It)(hl:l.length<=2199023255488)(hws:wfs l):AP Tryd.prog 6 [.sl .ext (ZN l)] (itD (.mk 4 0 [] l)) []:=by
 have ih':∀ y ∈ l,AP Tryd.prog 13 [itD y] (itD y) []:=fun y hy=>W3 y (Wr hws y hy)
 have hlen:=ZB l
 refine AP.ofA (Zs Tryd.func6 Z Tryd.ntmps6 Z Z ?_)
 repeat'(first|(apply Zh Za;exact Z)|(apply Zd Za;exact Z)|refine Zp Za Z Z Z Z ?_)
 refine Z6 (fun k' tm bx fr=>∃(i c:Nat) (L:List E),k'+i=l.length/\c=L.length/\L=ZN (l.take i)/\tm=[(3,.ptr 1 0),(2,.ptr 0 0),(7,.sl .ext (ZN l)),(8,.int .i64 ((ZN l).length:Int)),(9,.int .i64 (i:Int))] /\
  ((i=0/\bx=[[.int .i64 0,.int .u64 0,.sl .nil [],.sl .nil []],[.int .i64 4,.int .u64 0,.sl .nil [],.sl .nil []]]/\fr=[]) \/
  (bx=[[.int .i64 0,.int .u64 0,.sl .nil [],.sl .nil []],[.int .i64 4,.int .u64 0,.sl .nil [],.sl (.own 0) L]]/\fr=[⟨c,4,27⟩]))) (l.length+1) (Lands.mk' (m:=l.length) (Nat.lt_succ_self _) ⟨0,0,[],rfl,rfl,rfl,rfl,.inl ⟨rfl,rfl,rfl⟩⟩ ?_ rfl rfl rfl rfl rfl rfl) ?_
 ·exact .cons rfl (.cons rfl (.cons rfl (.cons rfl (.cons rfl .nil))))
 rintro k' tm bx fr ⟨i,c,L,hi,hc,hL,rfl,⟨rfl,rfl,rfl⟩ | ⟨rfl,rfl⟩⟩
 ·cases l with
  | nil=>
   repeat'(first|(apply Zd Za;exact Z)|refine Ze Z Qt ?_)
   all_goals exact Qe
  | cons y l=>
   have hc:=ih' y (List.mem_cons_self ..)
   have hU:=VY (y::l)
   have hd:decide (((0:Nat):Int)<((ZN (y::l)).length:Int))=true:=decide_eq_true (by rw[ZN];simp)
   obtain⟨k1,n1,b1,l1⟩:=y
   repeat'(first|(apply Zb (hc);kernel_rfl;(iterate 4 exact Z))|refine Ym Za Z Z Z Z Z Z (Zi rfl) (List.cons_ne_nil _ _) Z Qd Qd Z Z Z ?_|(apply Zh Za;exact Z)|(apply Zd Za;exact Z)|(apply Zv Za;exact Z)|refine Zc Z Qt ?_|refine Wa Za Z Z Z Z Z Z Z Z Z Z Z Z ?_|(apply Zr 5 ZJ;decide +kernel;kernel_rfl;kernel_rfl;kernel_rfl;exact Z;exact Z)|(apply Zu;(iterate 4 exact Z))|exact AE.nil _ _ _ _|(apply ZD;exact Z)|(apply ZP;exact Z;exact Z;decide +kernel;exact Z)|(apply ZQ;exact Z)|exact AO.nil _ _ _|(apply Zt;(decide +kernel))|exact AOs.nil|exact Z1 rfl rfl|exact WT rfl rfl rfl rfl rfl|(apply ZC Za;(iterate 6 exact Z);(first|exact Qt|rotate_left);(first|with_reducible assumption|decide +kernel|exact Z);(first|exact Zi rfl|with_reducible assumption|decide +kernel|rotate_left)))
   refine Lands.mk' (m:=k'-1) (by simp at hi;omega) ⟨1,1,ZN [It.mk k1 n1 b1 l1],by simp at hi ⊢;omega,rfl,rfl,rfl,.inr ⟨rfl,rfl⟩⟩ ?_ rfl rfl rfl rfl rfl rfl
   exact .cons rfl (.cons rfl (.cons rfl (.cons rfl (.cons rfl .nil))))
 ·have hU:=VY l
  have hU2:Uni 4 L:=hL ▸ VY (l.take i)
  have el:=ZB (l.take i)
  rw[<- hL]at el
  subst hc
  rcases Nat.lt_or_ge i l.length with hlt|hge
  ·have hd:decide ((i:Int)<((ZN l).length:Int))=true:=decide_eq_true (by omega)
   obtain⟨⟨k1,n1,b1,l1⟩,hy⟩:∃ y,l[i]?=some y:=⟨_,List.getElem?_eq_getElem hlt⟩
   have hv:(ZN l)[((i:Nat):Int).toNat]?=some (.agg [.int .i64 k1,.int .u64 (n1:Int),.sl (b1.map E.byte),.sl (ZN l1)]):=by
    rw[Int.toNat_natCast,Yn,List.getElem?_map,hy];rfl
   have hc:=ih' _ (List.mem_of_getElem? hy)
   have ei:IntKind.i64.wrap ((i:Int)+1)=((i+1:Nat):Int):=by rw[IntWalk.i64_in _ (by omega)];omega
   have hs:L++[E.agg [.int .i64 k1,.int .u64 (n1:Int),.sl (b1.map E.byte),.sl (ZN l1)]]=ZN (l.take (i+1)):=by
    rw[hL,List.take_add_one,hy];exact(VF _ [It.mk k1 n1 b1 l1]).symm
   rw[List.length_take]at el
   repeat'(first|(apply Zb (hc);kernel_rfl;(iterate 4 exact Z))|rw[ei]|(apply Zh Za;exact Z)|(apply Zd Za;exact Z)|(apply Zv Za;exact Z)|refine Zc Z Qt ?_|refine Wa Za Z Z Z Z Z Z Z Z Z Z Z Z ?_|(apply Zr 5 ZJ;decide +kernel;kernel_rfl;kernel_rfl;kernel_rfl;exact Z;exact Z)|(apply Zu;(iterate 4 exact Z))|exact AE.nil _ _ _ _|(apply ZD;exact Z)|(apply ZP;exact Z;exact Z;decide +kernel;exact Z)|(apply ZQ;exact Z)|exact AO.nil _ _ _|(apply Zt;(decide +kernel))|exact AOs.nil|exact Z1 rfl rfl|exact WT rfl rfl rfl rfl rfl|(apply Yi Za;(iterate 6 exact Z);(first|with_reducible assumption|decide +kernel|exact Z|rotate_left);exact Z;exact Z;(first|exact Zi rfl|with_reducible assumption|decide +kernel|rotate_left);(first|exact Zi rfl|with_reducible assumption|decide +kernel|rotate_left);(first|exact Qt|rotate_left);(first|exact Qt|rotate_left);(first|exact Qt|rotate_left);exact Z;exact Z)|(apply ZC Za;(iterate 6 exact Z);(first|exact Qt|rotate_left);(first|with_reducible assumption|decide +kernel|exact Z);(first|exact Zi rfl|with_reducible assumption|decide +kernel|rotate_left)))
   ·refine Lands.mk' (m:=k'-1) (by omega) ⟨i+1,L.length+1,_,by omega,by rw[List.length_append];rfl,hs,rfl,.inr ⟨rfl,rfl⟩⟩ ?_ rfl rfl rfl rfl rfl rfl
    exact .cons rfl (.cons rfl (.cons rfl (.cons rfl (.cons rfl .nil))))
   all_goals(first|rfl|(simp only[List.length_append,List.length_cons,List.length_nil,List.length_map,ZB];done)|(simp only[List.length_append,List.length_cons,List.length_nil,List.length_map,ZB]at *;(try unfold maxLen);(try simp only[Nat.add_mul]);omega))
  ·have hd:decide ((i:Int)<((ZN l).length:Int))=false:=decide_eq_false (by omega)
   rw[List.take_of_length_le hge]at hL
   subst hL
   repeat'(first|(apply Zd Za;exact Z)|refine Ze Z Qt ?_)
   all_goals exact Qe
end Go.Proofs.YthdgejfglbjogaaDoor
end
section
open Go.RowKit Go.Pl
namespace Go.Av
theorem ZT [Known][Dfr]{P:Program}{Q:X->St->Prop}{x:X}{S:St}(h:Q x S):unK P Q [] x S:=h
section
variable {P:Program} {Q:X->St->Prop} {n:Nat} {ee:Nat × Nat} {tm:List (Nat × D)} {bx:List (List D)} {fr:List Fr} {T:Tab}
variable {ops:Array Oper} {rest:List Oper} {t ty:Nat} {pos:String} {after:Array Edge}
end
end Go.Av
end
section
open Go.RowKit Go.Pl
namespace Go.Av
section
variable {P:Program} {Q:X->St->Prop} {n:Nat} {ee:Nat × Nat} {tm:List (Nat × D)} {bx bx':List (List D)} {fr fr':List Fr} {b0:Bs} {g:G} {w:World} {a:Act} {T:Tab}
variable {ops:Array Oper} {rest:List Oper} {t ty:Nat} {pos:String} {after:Array Edge}
theorem Ui {b o m c:Nat}{v:Value}(h:V w g fr (.bsl b o m c) v):∃ blk cap,g.ρ[b]?=some blk/\m<=cap/\cap<=maxLen/\v=.slice (some ⟨blk,o,none⟩) m cap/\(c=0\/c=cap):=by
 cases h;exact⟨_,_,‹_›,‹_›,‹_›,rfl,‹_›⟩
theorem W4 [Known][Dfr]{x:Operand}{st:Nat}{b o m c:Nat}{ti:Ti}{e:Nat}(hT:chk P T=true)(hx:ev tm x=.bsl b o m c)(ht:tl T st=some ti)(hk:ti.kd=.slice e)(htd:Nat.blt t n=true)
  (kk:AL P ops rest ⟨n,(t,.int .i64 (m:Int))::tm,bx,fr,ee⟩ Q):AL P ops (⟨some t,.call { callee:=.builtin .len,args := #[x],argTypes := #[st] },ty,pos,after,none⟩::rest) ⟨n,tm,bx,fr,ee⟩ Q:=
 ZF _ htd (fun g a w hi=>by
  have h1:V w g fr (ev tm x) (a.eval x):=hi.ev x
  rw[hx]at h1
  obtain⟨blk,cap0,_,_,_,hv,_⟩:=Ui h1
  refine⟨.int .i64 (m:Int),?_,.int _ _⟩
  simp[execOp,resolve,invoke,builtin,Builtin.len_,Sem.run_bind,hv,run_underlying ((Zx hT ht).slice hk),goInt]) kk
theorem Uj [Known][Dfr](hT:chk P T=true){x y:Operand}{st e:Nat}{k:IntKind}{i:Int}{b m c o2:Nat}{ti te:Ti}(hx:ev tm x=.bsl b 0 m c)(hy:ev tm y=.int k i)(ht:tl T st=some ti)(hk:ti.kd=.slice e)(hte:tl T e=some te)(htd:Nat.blt t n=true)
  (h0:0<=i) (hi2:i<(m:Int)) (ho:i.toNat*te.size=o2)
  (kk:AL P ops rest ⟨n,(t,.ptr b o2)::tm,bx,fr,ee⟩ Q):AL P ops (⟨some t,.indexAddr st x y,ty,pos,after,none⟩::rest) ⟨n,tm,bx,fr,ee⟩ Q:=
 ZF _ htd (fun g a w hi=>by
  have h1:V w g fr (ev tm x) (a.eval x):=hi.ev x
  rw[hx]at h1
  have h2:V w g fr (ev tm y) (a.eval y):=hi.ev y
  rw[hy]at h2
  have h2:=h2.int_inv
  obtain⟨blk,cap0,hb,_,_,hv,_⟩:=Ui h1
  have hu:=(Zx hT ht).slice hk
  have hsz:=ZV (P:=P) (t:=e) (Zx hT hte).tSize w
  have hadd:(⟨blk,0,none⟩:Addr).add (i.toNat*te.size)=⟨blk,o2,none⟩:=by rw[Addr.add_mid,Nat.zero_add,ho]
  refine⟨.pointer (some ⟨blk,o2,none⟩),?_,.ptr _ _ _ hb⟩
  have hrun:(Instr.indexAt st (.slice (some ⟨blk,0,none⟩) m cap0) (.int k i)).run P w=.ok (.pointer (some ⟨blk,o2,none⟩)) w:=by
   simp[Instr.indexAt,asIntOf,Sem.run_bind,run_underlying hu,(⟨h0,hi2⟩:0<=i/\i<(m:Int)),hsz,hadd]
  simp[execOp,hv,h2,Sem.run_bind,hrun]) kk
theorem Mem.rowc [Known](hm:Mem g bx fr w){b blk z:Nat}{l:List E}(hb:g.ρ[b]?=some blk)(hx:bx[b]?=some [.row z l]):∃ vs ty,w.heap[blk]?=some (.cells vs ty (0,0))/\(z=0\/vs.size=z)/\l.length<=vs.size /\
  ∀(j:Nat) (e:E) (v:Value),l[j]?=some e->vs[j]?=some v->VE w g.C e v:=by
 obtain⟨vs,ty,h1,h2,h3⟩:=hm.bat b blk _ hb hx
 refine⟨vs,ty,h1,h2.2.2 z l rfl,by have:=h2.2.1;simpa[D.ex]using this,fun j e v he hv=>(h3 j _ v ?_ hv).offC⟩
 show(l.map D.ofC)[j]?=_
 rw[List.getElem?_map,he];rfl
theorem U2 [Known][Dfr](hT:chk P T=true){x:Operand}{lt b o z:Nat}{l:List E}{e:E}{d:D}{ti:Ti}(hx:ev tm x=.ptr b o)(ht:tl T lt=some ti)(ha:ti.kd.agg=false)(hb:bx[b]?=some [.row z l])(he:l[o]?=some e)(hd:nf (.ofE e)=some d)(htd:Nat.blt t n=true)
  (kk:AL P ops rest ⟨n,(t,d)::tm,bx,fr,ee⟩ Q):AL P ops (⟨some t,.load lt x,ty,pos,after,none⟩::rest) ⟨n,tm,bx,fr,ee⟩ Q:=
 ZF _ htd (fun g a w hi=>by
  have h1:V w g fr (ev tm x) (a.eval x):=hi.ev x
  rw[hx]at h1
  obtain⟨blk,h2,h3⟩:=Vo h1
  obtain⟨vs,ut,r1,r2,r3,r4⟩:=hi.mem.rowc h2 hb
  have ho:=(List.getElem?_eq_some_iff.1 he).1
  have hv:vs[o]?=some (vs[o]'(by omega)):=Array.getElem?_eq_getElem _
  have hc:w.cell? ⟨blk,o,none⟩=some (vs[o]'(by omega)):=(cell_of_row w blk o vs ut (0,0) r1).trans hv
  have hag:tAgg P lt=some false:=by rw[(Zx hT ht).tAgg,ha]
  refine⟨_,?_,by rw[<- Yd hd];exact V.ofE (r4 o e _ he hv)⟩
  simp[execOp,h3,Instr.loadAt,Instr.sureAddr,Sem.run_bind,WZ hag hc]) kk
theorem JR [Known][Dfr]{o:Op}(h:∀ b0 g a w,Inv b0 ⟨n,tm,bx,fr,ee⟩ g a w->∃ v w' tm' bx' fr' g' d,(execOp a.eval ⟨some t,o,ty,pos,after,none⟩).run P w=.ok (.value v) w'/\Inv b0 ⟨n,tm',bx',fr',ee⟩ g' a w'/\V w' g' fr' d v/\AL P ops rest ⟨n,(t,d)::tm',bx',fr',ee⟩ Q)(htd:Nat.blt t n=true) :
  AL P ops (⟨some t,o,ty,pos,after,none⟩::rest) ⟨n,tm,bx,fr,ee⟩ Q:=⟨fun b0 g a w hi=>
 wpList_plain rfl fun K hK=>by
  obtain⟨v,w',tm',bx',fr',g',d,hr,hi2,hv,k⟩:=h b0 g a w hi
  unfold Oper.wp
  rw[hr]
  exact hK _ _ (k.run b0 g' _ w' (hi2.put htd hv))⟩
theorem JS (z:Nat)(l:List E):D.ex [.row z l]=l.map .ofC:=rfl
theorem U3 {z n:Nat}{l:List E}(h1:1<=n)(h2:l.length<=n)(h3:z=0\/n=z):D.fits [.row z l] n:=⟨h1,by rw[JS,List.length_map];exact h2,fun z' l' e=>by injection e with e _;injection e with e e2;rw[<- e];exact h3⟩
theorem Xn {l:List E}{j:Nat}{d:D}(h:(l.map D.ofC)[j]?=some d):∃ x,l[j]?=some x/\d=D.ofC x:=by
 rw[List.getElem?_map]at h
 cases hj:l[j]? with
 | none=>rw[hj]at h;cases h
 | some x=>rw[hj]at h;exact⟨x,rfl,by injection h with h;exact h.symm⟩
theorem Src.row [Known]{bx:List (List D)}{sz b c z:Nat}{d:D}{l:List E}(h:d=.bsl b 0 l.length c)(hb:bx[b]?=some [.row z (flat l)]):Src bx sz d l:=fun {g} {fr} {w} {v} hm hv hU hne=>by
 subst h
 obtain⟨blk,cap0,hρ,hmc,hmax,rfl,_⟩:=Ui hv
 obtain⟨cur,e2,s1,s2,s3,s4⟩:=hm.rowc hρ hb
 have hfl:=hU.flat
 have hl:(cur.toList.take (l.length*sz)).length=l.length*sz:=by simp;omega
 have hg:∀(j:Nat) (u:Value),(cur.toList.take (l.length*sz))[j]?=some u->j<l.length*sz/\cur[j]?=some u:=fun j u hu=>by simpa[List.getElem?_take]using hu
 refine⟨⟨blk,0,none⟩,cap0,cur.toList.take (l.length*sz),rfl,hl,fun j u hu=>?_,fun u hu=>?_,fun j x u hx hu=>s4 j x u hx (hg j u hu).2⟩
 ·rw[Addr.add_mid,Nat.zero_add,cell_of_row w blk j cur e2 (0,0) s1]
  exact(hg j u hu).2
 ·obtain⟨j,hj⟩:=List.getElem?_of_mem hu
  have h2:=hg j u hj
  have:j<(flat l).length:=by omega
  exact(s4 j _ u (List.getElem?_eq_getElem this) h2.2).one
theorem V8 [Known][Dfr](hT:chk P T=true){x y:Operand}{st e m k2:Nat}{l':List E}{ti te:Ti}{bx2:List (List D)}(ht:tl T st=some ti)(hk:ti.kd=.slice e)(hte:tl T e=some te)(hx:emp (ev tm x)=true)(hy:Src bx te.size (ev tm y) l')
  (hpos:Nat.blt 0 te.size=true) (hU':Uni te.size l') (hne:l' ≠ []) (hk2:l'.length=k2) (hlen:l'.length<=maxLen) (hby:l'.length*te.bytes<=140737488355328)
  (hm:bx.length=m) (hbx:nfb (bx++[[.row 0 (flat l')]])=some bx2) (htd:Nat.blt t n=true)
  (k:AL P ops rest ⟨n,(t,.bsl m 0 k2 0)::tm,bx2,fr,ee⟩ Q):AL P ops (⟨some t,.call { callee:=.builtin .append,args := #[x,y],argTypes := #[st,st] },ty,pos,after,none⟩::rest) ⟨n,tm,bx,fr,ee⟩ Q:=
 JR (fun b0 g a w hi=>by
  have h1:V w g fr (ev tm x) (a.eval x):=hi.ev x
  have h2:V w g fr (ev tm y) (a.eval y):=hi.ev y
  obtain⟨A0,hxv⟩:=J8 h1 hx
  obtain⟨ad,c,news,hyv,n1,n2,n3,n4⟩:=hy hi.mem h2 hU' hne
  have hpos':0<l'.length:=List.length_pos_iff.2 hne
  have hpos:0<te.size:=by simpa[Nat.blt_eq]using hpos
  have hu:=(Zx hT ht).slice hk
  obtain⟨ie,ue,z,i1,i2,i3,i4,i5,i6,i7⟩:=(Zx hT hte).out
  have hr:=Ww (P:=P) A0 w st ty e ie z hu i1 i3 ad l'.length c news (by rw[<- i5];exact n1) n2 hpos' (by simp only[maxLen]at hlen;omega) (by rw[<- i6];omega)
  have hge:=grownCap_ge w l'.length 0 e
  have hcm:=grownCap_le_maxLen w l'.length 0 e hlen
  obtain⟨C2,hC2⟩:∃ C2,C2=grownCap w l'.length 0 e:=⟨_,rfl⟩
  rw[<- hC2]at hr hge hcm
  have hcurr:news.toArray++Builtin.zeroCells z.cells (C2-l'.length)=(news++(Builtin.zeroCells z.cells (C2-l'.length)).toList).toArray:=by simp
  rw[hcurr]at hr
  have hz:=(Wt (w:=w) (g:=g) (fr:=fr) i7).1
  have hzc:z.cells.size=ie.size:=by
   rw[<- Array.length_toList,hz,<- i5]
   exact(Qm hT hte).symm
  have hfl:=hU'.flat
  have hd:Mem g bx fr w.drew:=hi.mem.drew
  have hzl:(Builtin.zeroCells z.cells (C2-l'.length)).toList.length=(C2-l'.length)*te.size:=by rw[Array.length_toList,size_zeroCells,hzc,<- i5]
  have hmul:C2*te.size=l'.length*te.size+(C2-l'.length)*te.size:=by rw[<- Nat.add_mul];congr 1;omega
  obtain⟨k1,k2⟩:=hd.box0 (news++(Builtin.zeroCells z.cells (C2-l'.length)).toList) [.row 0 (flat l')] e (by
    rw[List.length_append,hzl,n1,<- hmul]
    exact U3 (by have:1<=l'.length*te.size:=Nat.mul_pos hpos' hpos;omega) (by rw[hfl];omega) (.inl rfl)) (fun j d u hd hu=>by
   rw[JS]at hd
   obtain⟨x2,hx2,rfl⟩:=Xn hd
   have hj:=(List.getElem?_eq_some_iff.1 hx2).1
   rw[List.getElem?_append_left (by omega)]at hu
   exact V.ofC (n4 j x2 u hx2 hu).drew)
  have e1:=YF hbx
  subst hm hk2
  rw[e1]at k2
  have hevo:=Evo.drew.trans k1
  refine⟨.slice (some ⟨w.heap.size,0,none⟩) l'.length C2,_,tm,bx2,fr,_,.bsl bx.length 0 l'.length 0,by simp only[execOp,resolve,invoke,builtin,Sem.run_bind,Sem.run_pure,Result.andThen_ok,List.map_toArray,List.map_cons,List.map_nil,hxv,hyv,hr],⟨hi.size,hi.defers,k2,fun t=>(hi.tm t).evo hevo,hi.evo.trans hevo,hi.bd⟩,.bsl _ 0 _ 0 w.heap.size C2 ?_ hge hcm (.inl rfl),k⟩
  have:=hi.mem.bl
  dsimp only at this
  show(g.ρ++[w.drew.heap.size])[bx.length]?=_
  rw[List.getElem?_append_right (by omega),this,Nat.sub_self]
  rfl) htd
def WF (l:List E)(o:Nat)(es:List E):List E:=l.take o++(es++l.drop (o+es.length))
theorem U4 [Known][Dfr](hT:chk P T=true){x y:Operand}{lt b o z:Nat}{l es l2:List E}{d:D}{ti:Ti}(hx:ev tm x=.ptr b o)(hy:nf (ev tm y)=some d)(hes:D.toEs d.cellsOf=some es)(ht:tl T lt=some ti)(hs:Nat.beq es.length ti.size=true)(hb:bx[b]?=some [.row z l])
  (hle:o+es.length<=l.length) (hl2:WF l o es=l2) (hb':nfb (bx.set b [.row z l2])=some bx')
  (k:AL P ops rest ⟨n,tm,bx',fr,ee⟩ Q):AL P ops (⟨none,.store lt x y,ty,pos,after,none⟩::rest) ⟨n,tm,bx,fr,ee⟩ Q:=
 J4 (fun g a w hi=>by
  have h1:V w g fr (ev tm x) (a.eval x):=hi.ev x
  rw[hx]at h1
  obtain⟨blk,h2,h3⟩:=Vo h1
  have hv:V w g fr (ev tm y) (a.eval y):=hi.ev y
  rw[Yd hy]at hv
  have hlen:=(Vq hes).1
  have ho:D.ones d.cellsOf=true:=by
   have:∀ {ds:List D} {es:List E},D.toEs ds=some es->D.ones ds=true:=by
    intro ds
    induction ds with
    | nil=>intros;rfl
    | cons d0 ds ih=>
     intro es h
     cases hd0:d0.toE1 with
     | none=>simp[D.toEs,hd0]at h
     | some e0=>
      cases hds:D.toEs ds with
      | none=>simp[D.toEs,hd0,hds]at h
      | some es0=>
       have:d0.one=true:=by cases d0<;>first|rfl|(simp[D.toE1]at hd0)
       simp only[D.ones,this]
       exact ih hds
   exact this hes
  obtain⟨vs,q2,q3,q4⟩:=hv.cells ho
  have hm:=hi.mem
  obtain⟨us,ut,r1,r2,r0,r3⟩:=hm.rowc h2 hb
  have hs':=Nat.eq_of_beq_eq_true hs
  have hvs1:∀ v ∈ vs,v.oneCell'=true:=fun v hv=>by
   obtain⟨j,hj⟩:=List.getElem?_of_mem hv
   have hlt:j<d.cellsOf.length:=by rw[<- q3];exact(List.getElem?_eq_some_iff.1 hj).1
   exact(q4 j _ v (List.getElem?_eq_getElem hlt) hj).one (WP ho (List.getElem?_eq_getElem hlt))
  have hrun:=run_storeCells_at (P:=P) blk o ut vs 0 us w r1 (by omega) hvs1
  have hag:=(Zx hT ht)
  obtain⟨w',hw'⟩:∃ w',w'=w.setRow blk (us.toList.take (o+0)++vs++us.toList.drop (o+0+vs.length)).toArray:=⟨_,rfl⟩
  have hheap:w'.heap[blk]?=some (.cells (us.toList.take (o+0)++vs++us.toList.drop (o+0+vs.length)).toArray ut (0,0)):=by
   rw[hw'];exact setRow_heap w blk us _ ut _ r1
  have hfar:∀ k,k ≠ blk->w'.heap[k]?=w.heap[k]? := fun k hk=>by
   rw[hw'];simp only[World.setRow,Array.getElem?_modify];rw[if_neg (fun e=>hk e.symm)]
  have hsize:w'.heap.size=w.heap.size:=by rw[hw'];simp[World.setRow]
  have hcell:∀ k p,g.C k p->w'.cell? ⟨k,p,none⟩=w.cell? ⟨k,p,none⟩:=fun k p hC=>World.cell?_of_block (w:=w) (hfar k fun e=>by
   subst e;exact hm.bC k p (List.mem_of_getElem? h2) hC)
  have hevo:Evo ⟨g,fr,w⟩ ⟨g,fr,w'⟩:=⟨by rw[hw'];rfl,by rw[hw'];rfl,by rw[hw'];rfl,by rw[hsize];exact Nat.le_refl _,fun k hk hn=>hfar k fun e=>hn (.inl (e ▸ List.mem_of_getElem? h2)),fun _ _ h=>h,hcell,fun _ _ h=>.inl h,fun _ _ h=>h,fun _ h=>.inl h,fun _ c h=>.inl ⟨c,h⟩,YU.refl _ _⟩
  refine⟨w',g,?_,hevo,?_⟩
  ·rw[<- hw']at hrun
   have hsz:(sizeOf lt).run P w=.ok vs.length w:=ZV (by rw[hag.tSize,q3,hlen,hs']) w
   simp[execOp,h3,Instr.storeAt,Instr.sureAddr,storeVar,Sem.run_bind,q2,hsz,hrun]
  ·rw[<- YF hb']
   have hl2l:l2.length=l.length:=by rw[<- hl2];simp[WF];omega
   constructor
   ·simp[hm.bl]
   ·intro i k cs' e1 e2
    by_cases hib:i=b
    ·subst hib
     rw[h2]at e1
     injection e1 with e1
     subst e1
     have hlt:i<bx.length:=(List.getElem?_eq_some_iff.1 hb).1
     rw[List.getElem?_set_self hlt]at e2
     injection e2 with e2
     subst e2
     obtain⟨us2,ut2,p1,p2,_⟩:=hm.bat i blk _ h2 hb
     rw[r1]at p1
     injection p1 with p1
     injection p1 with p1 p4
     subst p1 p4
     have hz1:1<=us.size:=p2.1
     have hsz2:(us.toList.take (o+0)++vs++us.toList.drop (o+0+vs.length)).toArray.size=us.size:=by simp;omega
     refine⟨_,ut,hheap,by rw[hsz2];exact U3 (by omega) (by omega) r2,fun j c u hc hu=>?_⟩
     rw[JS]at hc
     obtain⟨x2,hx2,rfl⟩:=Xn hc
     ·have hu:(us.toList.take o++vs++us.toList.drop (o+vs.length))[j]?=some u:=by simpa using hu
      rw[<- hl2,WF]at hx2
      rw[List.append_assoc]at hu
      have hvl:vs.length=es.length:=by rw[q3,hlen]
      rcases Nat.lt_or_ge j o with hjo|hjo
      ·rw[List.getElem?_append_left (by simp;omega),List.getElem?_take,if_pos hjo]at hx2 hu
       exact V.ofC ((r3 j x2 u hx2 (by simpa using hu)).mono hevo.C hevo.cell)
      ·rw[List.getElem?_append_right (by simp;omega)]at hx2 hu
       simp only[List.length_take,Nat.min_eq_left (show o<=l.length by omega)]at hx2
       simp only[List.length_take,Nat.min_eq_left (show o<=us.toList.length by simp;omega)]at hu
       rcases Nat.lt_or_ge (j-o) vs.length with hj2|hj2
       ·rw[List.getElem?_append_left (by omega)]at hx2
        rw[List.getElem?_append_left hj2]at hu
        obtain⟨d0,hd0,hd1⟩:=(Vq hes).2 _ x2 hx2
        exact V.ofC (((q4 (j-o) d0 u hd0 hu).toE1 hd1).mono hevo.C hevo.cell)
       ·rw[List.getElem?_append_right (by omega),List.getElem?_drop]at hx2
        rw[List.getElem?_append_right hj2,List.getElem?_drop]at hu
        rw[hvl]at hu
        exact V.ofC ((r3 _ x2 u hx2 (by simpa using hu)).mono hevo.C hevo.cell)
    ·rw[List.getElem?_set_ne (Ne.symm hib)]at e2
     obtain⟨us',ut',t1,t2,t3⟩:=hm.bat i k cs' e1 e2
     have hne:k ≠ blk:=fun e=>by
      subst e
      exact hib (hm.bN i b k e1 h2)
     exact⟨us',ut',(hfar k hne).trans t1,t2,fun j c u hc hu=>(t3 j c u hc hu).evo hevo⟩
   ·exact hm.bC
   ·exact hm.bN
   ·exact hm.tl
   ·intro i k c f e1 e2
    have hTk:=hm.tat i k c f e1 e2
    obtain⟨cur,s1,s2⟩:=hTk.row
    have hne:k ≠ blk:=fun e=>by
     subst e
     exact hm.tρ k c (List.mem_of_getElem? e1) (List.mem_of_getElem? h2)
    exact⟨⟨cur,(hfar k hne).trans s1,s2⟩,hTk.le,hTk.max,hTk.pos,hTk.far⟩
   ·exact hm.tN
   ·exact hm.tρ
   ·intro k p hC
    rw[hsize];exact hm.Clt k p hC
   ·exact hm.gl.evo hevo) k
end
end Go.Av
end
section
open Go.RowKit Go.Pl
namespace Go.Av
mutual
def IA (l:List E):D->D
 | .bsl _ _ _ _=>.sl .ext l
 | .sl _ l'=>.sl .ext l'
 | .agg ds=>.agg (KK l ds)
 | .bool b=>.bool b
 | .int k n=>.int k n
 | .str s=>.str s
 | .nilp=>.nilp
 | .eptr cs o=>.eptr cs o
 | .gptr k o=>.gptr k o
 | .nilf=>.nilf
 | .nili=>.nili
 | _=>.junk
def KK (l:List E):List D->List D
 | []=>[]
 | d::ds=>IA l d::KK l ds
end
mutual
def LOk (b n:Nat):D->Prop
 | .bsl b' o n' _=>b'=b/\o=0/\n'=n
 | .agg ds=>IB b n ds
 | _=>True
def IB (b n:Nat):List D->Prop
 | []=>True
 | d::ds=>LOk b n d/\IB b n ds
end
def G.lent (g:G):G:=⟨fun k o=>g.C k o\/k ∈ g.ρ,[],[]⟩
section
variable {P:Program} {Q:X->St->Prop} {n:Nat} {ee:Nat × Nat} {tm:List (Nat × D)} {bx bx':List (List D)} {fr fr':List Fr} {b0:Bs} {g g':G} {w w':World} {a:Act} {T:Tab}
variable {ops:Array Oper} {rest:List Oper} {t ty:Nat} {pos:String} {after:Array Edge}
mutual
def plD:D->D
 | .bool b=>.bool b
 | .int k n=>.int k n
 | .str s=>.str s
 | .nilp=>.nilp
 | .sl _ l=>match l with
  | []=>.sl .ext []
  | _::_=>.junk
 | .agg ds=>.agg (Ib ds)
 | .tup ds=>.tup (Ib ds)
 | .nilf=>.nilf
 | .nili=>.nili
 | _=>.junk
def Ib:List D->List D
 | []=>[]
 | d::ds=>plD d::Ib ds
end
end
section
variable {P:Program} {Q:X->St->Prop} {n:Nat} {ee:Nat × Nat} {tm:List (Nat × D)} {bx:List (List D)} {fr:List Fr} {ops:Array Oper} {rest:List Oper} {ty:Nat} {pos:String} {after:Array Edge} {f:FuncId} {ars:Array Operand} {ats:Array TypeId}
end
end Go.Av
end

/- Items as the document's; which of these are equal. -/
import Derived.Test.YtakblclkflnnpaaGreatDoorK24
import Derived.Test.YtakblclkflnnpaaGreatDoorK27
import Derived.Test.YtakblclkflnnpaaGreatDoorK26
import Derived.Test.YtakblclkflnnpaaGreatDoorK08
import Derived.Lib.Strings
import Derived.Lib.Slices
import Derived.Lib.Walk
import Derived.Lib.Bytealg
import Derived.Test.YtakblclkflnnpaaGreatDoorK07
import Derived.LaidEql
import Derived.Test.YtakblclkflnnpaaGreatDoorK20
set_option linter.unusedVariables false
set_option linter.unusedSimpArgs false
section
open Go.RowKit Go.Pl Go.Av
namespace Go.Proofs.YtakblclkflnnpaaGreatDoor
set_option maxHeartbeats 4000000
theorem ZdC:∀ {l:List It} {d:Nat},Zb1 l d=true->∀ y ∈ l,ZbK y d=true
 | x::l,d,h,y,hy=>by
  rw[Zb1,Bool.and_eq_true]at h
  rcases List.mem_cons.1 hy with rfl|hy
  ·exact h.1
  ·exact ZdC h.2 y hy
theorem ZfO {x:It}{d:Nat}(h:ZbK x d=true):0<d:=by
 obtain⟨k,n,b,l⟩:=x
 cases d with
 | zero=>rw[ZbK]at h;cases h
 | succ d=>omega
theorem ZpC [Known]:∀(x:It),wfI x->∀ d:Nat,ZbK x (d+1)=true->d<=100->AP Tryz.prog 19 [itD x,.int .i64 (d:Int)] (itD x) []:=by
 refine It.ind fun k n b l ih hw d hd hd'=>?_
 obtain⟨hn,hb,hl,hws⟩:=hw
 rw[ZbK]at hd
 have ih':∀ y ∈ l,AP Tryz.prog 19 [itD y,.int .i64 ((d-1:Nat):Int)] (itD y) []:=fun y hy=>by
  have h1:=ZdC hd y hy
  have h2:=ZfO h1
  exact ih y hy (ZaY hws y hy) (d-1) (by rw[show d-1+1=d by omega];exact h1) (by omega)
 clear ih
 have hlen:=Zar l
 refine AP.ofA ?_
 refine Zan Tryz.func19 rfl Tryz.ntmps19 rfl rfl ?_
 repeat'(first|(apply Zah Zab;exact Z))
 refine ZaE (fun k' tm bx fr=>∃(i c:Nat) (L:List E),k'+i=l.length/\c=L.length/\L=Zax (l.take i)/\tm=[(1,.int .i64 (d:Int)),(2,.ptr 0 0),(4,.ptr 1 0),(5,.ptr 2 0),(6,.int .i64 (i:Int))] /\
  ((i=0/\bx=[itC k n b l,[.int .i64 0,.int .u64 0,.sl .nil [],.sl .nil []],[.int .i64 k,.int .u64 (n:Int),byE b,.sl .nil []]]/\fr=[]) \/
  (bx=[itC k n b l,[.int .i64 0,.int .u64 0,.sl .nil [],.sl .nil []],[.int .i64 k,.int .u64 (n:Int),byE b,.sl (.own 0) L]]/\fr=[⟨c,4,51⟩]))) (l.length+1) (Lands.mk' (m:=l.length) (Nat.lt_succ_self _) ⟨0,0,[],rfl,rfl,rfl,rfl,.inl ⟨rfl,rfl,rfl⟩⟩ ?_ rfl rfl rfl rfl rfl rfl) ?_
 ·exact .cons rfl (.cons rfl (.cons rfl (.cons rfl (.cons rfl .nil))))
 rintro k' tm bx fr ⟨i,c,L,hi,hc,hL,rfl,⟨rfl,rfl,rfl⟩ | ⟨rfl,rfl⟩⟩
 ·cases l with
  | nil=>
   repeat'(first|(apply Zaj Zab;exact Z)|(apply Zah Zab;exact Z)|(apply Zav Zab;exact Z)|(apply Zas;(iterate 3 exact Z);exact Go.ZrJ)|(apply Zag;exact Z;exact Go.ZrJ;exact Z;exact Z)|(apply Zaf;exact Z;exact Go.ZrJ)|(apply Zam Zab;(iterate 4 exact Z)))
   all_goals(apply Zaw [];(apply Zad Zab;exact Z);(iterate 4 exact Z))
   all_goals rfl
  | cons y l=>
   have hc:=ih' y (List.mem_cons_self ..)
   have hU:=Zb8 (y::l)
   have hd1:decide (((0:Nat):Int)<((Zax (y::l)).length:Int))=true:=decide_eq_true (by rw[Zax];simp)
   have hp:=ZfO (ZdC hd y (List.mem_cons_self ..))
   have hd2:decide ((d:Int)>0)=true:=decide_eq_true (by omega)
   have ed:IntKind.i64.wrap ((d:Int)-1)=((d-1:Nat):Int):=by rw[IntWalk.i64_in _ (by omega)];omega
   obtain⟨k1,n1,b1,l1⟩:=y
   repeat'(first|(apply Zaa (hc);kernel_rfl;(iterate 4 exact Z))|rw[ed]|(apply ZaU Zab;(iterate 6 exact Z);exact Zai rfl;exact List.cons_ne_nil _ _;exact Z;decide +kernel;decide +kernel;(iterate 3 exact Z))|(apply Zaj Zab;exact Z)|(apply Zah Zab;exact Z)|(apply Zav Zab;exact Z)|(apply Zae;(iterate 3 exact Z);exact Go.ZrJ)|(apply Zak;exact Z;exact Go.ZrJ;exact Z;exact Z)|(apply Zac;exact Z;exact Go.ZrJ)|(apply Zam Zab;(iterate 4 exact Z))|(apply ZaX Zab;(iterate 12 exact Z))|(apply Zao 11 ZaL;decide +kernel;kernel_rfl;kernel_rfl;kernel_rfl;exact Z;exact Z)|(apply Zaq;(iterate 4 exact Z))|exact AE.nil _ _ _ _|(apply Zat;exact Z)|(apply Zay;exact Z;exact Z;decide +kernel;exact Z)|(apply Zaz;exact Z)|exact AO.nil _ _ _|(apply Zap;(decide +kernel))|exact AOs.nil|exact ZaH rfl rfl|exact Zc0 rfl rfl rfl rfl rfl|(apply Zau Zab;(iterate 6 exact Z);(first|exact Go.ZrJ|rotate_left);(first|with_reducible assumption|decide +kernel|exact Z);(first|exact Zai rfl|with_reducible assumption|decide +kernel|rotate_left)))
   refine Lands.mk' (m:=k'-1) (by simp at hi;omega) ⟨1,1,Zax [It.mk k1 n1 b1 l1],by simp at hi ⊢;omega,rfl,rfl,rfl,.inr ⟨rfl,rfl⟩⟩ ?_ rfl rfl rfl rfl rfl rfl
   exact .cons rfl (.cons rfl (.cons rfl (.cons rfl (.cons rfl .nil))))
 ·have hU:=Zb8 l
  have hU2:Uni 4 L:=hL ▸ Zb8 (l.take i)
  have el:=Zar (l.take i)
  rw[<- hL]at el
  subst hc
  rcases Nat.lt_or_ge i l.length with hlt|hge
  ·have hd1:decide ((i:Int)<((Zax l).length:Int))=true:=decide_eq_true (by omega)
   obtain⟨⟨k1,n1,b1,l1⟩,hy⟩:∃ y,l[i]?=some y:=⟨_,List.getElem?_eq_getElem hlt⟩
   have hv:(Zax l)[((i:Nat):Int).toNat]?=some (.agg [.int .i64 k1,.int .u64 (n1:Int),.sl (b1.map E.byte),.sl (Zax l1)]):=by
    rw[Int.toNat_natCast,ZaI,List.getElem?_map,hy];rfl
   have hc:=ih' _ (List.mem_of_getElem? hy)
   have hp:=ZfO (ZdC hd _ (List.mem_of_getElem? hy))
   have hd2:decide ((d:Int)>0)=true:=decide_eq_true (by omega)
   have ed:IntKind.i64.wrap ((d:Int)-1)=((d-1:Nat):Int):=by rw[IntWalk.i64_in _ (by omega)];omega
   have ei:IntKind.i64.wrap ((i:Int)+1)=((i+1:Nat):Int):=by rw[IntWalk.i64_in _ (by omega)];omega
   have hs:L++[E.agg [.int .i64 k1,.int .u64 (n1:Int),.sl (b1.map E.byte),.sl (Zax l1)]]=Zax (l.take (i+1)):=by
    rw[hL,List.take_add_one,hy];exact(Zb4 _ [It.mk k1 n1 b1 l1]).symm
   rw[List.length_take]at el
   repeat'(first|(apply Zaa (hc);kernel_rfl;(iterate 4 exact Z))|rw[ei]|rw[ed]|(apply Zaj Zab;exact Z)|(apply Zah Zab;exact Z)|(apply Zav Zab;exact Z)|(apply Zae;(iterate 3 exact Z);exact Go.ZrJ)|(apply Zak;exact Z;exact Go.ZrJ;exact Z;exact Z)|(apply Zac;exact Z;exact Go.ZrJ)|(apply Zam Zab;(iterate 4 exact Z))|(apply ZaX Zab;(iterate 12 exact Z))|(apply Zao 11 ZaL;decide +kernel;kernel_rfl;kernel_rfl;kernel_rfl;exact Z;exact Z)|(apply Zaq;(iterate 4 exact Z))|exact AE.nil _ _ _ _|(apply Zat;exact Z)|(apply Zay;exact Z;exact Z;decide +kernel;exact Z)|(apply Zaz;exact Z)|exact AO.nil _ _ _|(apply Zap;(decide +kernel))|exact AOs.nil|exact ZaH rfl rfl|exact Zc0 rfl rfl rfl rfl rfl|(apply ZaJ Zab;(iterate 6 exact Z);(first|with_reducible assumption|decide +kernel|exact Z|rotate_left);exact Z;exact Z;(first|exact Zai rfl|with_reducible assumption|decide +kernel|rotate_left);(first|exact Zai rfl|with_reducible assumption|decide +kernel|rotate_left);(first|exact Go.ZrJ|rotate_left);(first|exact Go.ZrJ|rotate_left);(first|exact Go.ZrJ|rotate_left);exact Z;exact Z)|(apply Zau Zab;(iterate 6 exact Z);(first|exact Go.ZrJ|rotate_left);(first|with_reducible assumption|decide +kernel|exact Z);(first|exact Zai rfl|with_reducible assumption|decide +kernel|rotate_left)))
   ·refine Lands.mk' (m:=k'-1) (by omega) ⟨i+1,L.length+1,_,by omega,by rw[List.length_append];rfl,hs,rfl,.inr ⟨rfl,rfl⟩⟩ ?_ rfl rfl rfl rfl rfl rfl
    exact .cons rfl (.cons rfl (.cons rfl (.cons rfl (.cons rfl .nil))))
   all_goals(first|rfl|(simp only[List.length_append,List.length_cons,List.length_nil,List.length_map,Zar];done)|(simp only[List.length_append,List.length_cons,List.length_nil,List.length_map,Zar]at *;(try unfold maxLen);(try simp only[Nat.add_mul]);omega))
  ·have hd1:decide ((i:Int)<((Zax l).length:Int))=false:=decide_eq_false (by omega)
   rw[List.take_of_length_le hge]at hL
   subst hL
   repeat'(first|(apply Zaj Zab;exact Z)|(apply Zah Zab;exact Z)|(apply Zav Zab;exact Z)|(apply Zas;(iterate 3 exact Z);exact Go.ZrJ)|(apply Zag;exact Z;exact Go.ZrJ;exact Z;exact Z)|(apply Zaf;exact Z;exact Go.ZrJ)|(apply Zam Zab;(iterate 4 exact Z)))
   all_goals(apply Zaw [];(apply Zad Zab;exact Z);(iterate 4 exact Z))
   all_goals rfl
theorem ZoG {l l':List It}(h:l.length ≠ l'.length):It.beqs l l'=false:=by
 rw[<- Bool.not_eq_true]
 intro e
 exact h (congrArg List.length (It.beqs_iff.1 e))
theorem ZbJ [Known]:∀(x:It),wfI x->∀ y:It,wfI y->AP Tryz.prog 22 [itD x,itD y] (.bool (It.beq x y)) []:=by
 refine It.ind fun k n b l ih hw y hw'=>?_
 obtain⟨k',n',b',l'⟩:=y
 obtain⟨_,_,hl,hws⟩:=hw
 obtain⟨_,_,hl',hws'⟩:=hw'
 have e1:=Zar l
 have e2:=Zar l'
 rw[It.beq]
 by_cases h1:k=k'
 case neg=>
  have t1:(k != k')=true:=by simpa using h1
  have tt:((k==k')&&((n==n')&&((b==b')&&It.beqs l l')))=false:=by simp[h1]
  rw[tt]
  refine AP.ofA ?_
  refine Zan Tryz.func22 rfl Tryz.ntmps22 rfl rfl ?_
  repeat'(first|(apply Zaj Zab;exact Z)|(apply Zah Zab;exact Z)|(apply Zav Zab;exact Z)|(apply Zal;(iterate 3 exact Z);exact Go.ZrJ)|(apply Zak;exact Z;exact Go.ZrJ;exact Z;exact Z)|(apply Zac;exact Z;exact Go.ZrJ))
  all_goals(apply Zaw [];(apply Zad Zab;exact Z);(iterate 4 exact Z))
  all_goals rfl
 have t1:(k != k')=false:=by simpa using h1
 by_cases h2:n=n'
 case neg=>
  have t2:((n:Int) != (n':Int))=true:=by simp;omega
  have tt:((k==k')&&((n==n')&&((b==b')&&It.beqs l l')))=false:=by simp[h2]
  rw[tt]
  refine AP.ofA ?_
  refine Zan Tryz.func22 rfl Tryz.ntmps22 rfl rfl ?_
  repeat'(first|(apply Zaj Zab;exact Z)|(apply Zah Zab;exact Z)|(apply Zav Zab;exact Z)|(apply Zae;(iterate 3 exact Z);exact Go.ZrJ)|(apply Zal;(iterate 3 exact Z);exact Go.ZrJ)|(apply Zak;exact Z;exact Go.ZrJ;exact Z;exact Z)|(apply Zag;exact Z;exact Go.ZrJ;exact Z;exact Z)|(apply Zac;exact Z;exact Go.ZrJ))
  all_goals(apply Zaw [];(apply Zad Zab;exact Z);(iterate 4 exact Z))
  all_goals rfl
 have t2:((n:Int) != (n':Int))=false:=by simp;omega
 by_cases h3:b=b'
 case neg=>
  have t3:(b != b')=true:=by simpa using h3
  have tt:((k==k')&&((n==n')&&((b==b')&&It.beqs l l')))=false:=by simp[h3]
  rw[tt]
  refine AP.ofA ?_
  refine Zan Tryz.func22 rfl Tryz.ntmps22 rfl rfl ?_
  repeat'(first|(apply Zaj Zab;exact Z)|(apply Zah Zab;exact Z)|(apply Zav Zab;exact Z)|(apply Zae;(iterate 3 exact Z);exact Go.ZrJ)|(apply Zal;(iterate 3 exact Z);exact Go.ZrJ)|(apply Zak;exact Z;exact Go.ZrJ;exact Z;exact Z)|(apply Zag;exact Z;exact Go.ZrJ;exact Z;exact Z)|(apply Zac;exact Z;exact Go.ZrJ)|(apply Zcs Zab;(iterate 9 exact Z)))
  all_goals(apply Zaw [];(apply Zad Zab;exact Z);(iterate 4 exact Z))
  all_goals rfl
 have t3:(b != b')=false:=by simpa using h3
 have e:((k==k')&&((n==n')&&((b==b')&&It.beqs l l')))=It.beqs l l':=by simp[h1,h2,h3]
 rw[e]
 by_cases hne:l.length=l'.length
 case neg=>
  have t4:(((Zax l).length:Int) != ((Zax l').length:Int))=true:=by rw[e1,e2];simp;omega
  rw[ZoG hne]
  refine AP.ofA ?_
  refine Zan Tryz.func22 rfl Tryz.ntmps22 rfl rfl ?_
  repeat'(first|(apply Zaj Zab;exact Z)|(apply Zah Zab;exact Z)|(apply Zav Zab;exact Z)|(apply Zae;(iterate 3 exact Z);exact Go.ZrJ)|(apply Zag;exact Z;exact Go.ZrJ;exact Z;exact Z)|(apply Zac;exact Z;exact Go.ZrJ)|(apply Zam Zab;(iterate 4 exact Z))|(apply Zcs Zab;(iterate 9 exact Z)))
  all_goals(apply Zaw [];(apply Zad Zab;exact Z);(iterate 4 exact Z))
  all_goals rfl
 have t4:(((Zax l).length:Int) != ((Zax l').length:Int))=false:=by rw[e1,e2,hne];simp
 generalize hfin:It.beqs l l'=fin
 have ih':∀ y ∈ l,∀ y' ∈ l',AP Tryz.prog 22 [itD y,itD y'] (.bool (It.beq y y')) []:=fun y hy y' hy'=>ih y hy (ZaY hws y hy) y' (ZaY hws' y' hy')
 clear ih e h1 h2 h3
 refine AP.ofA ?_
 refine Zan Tryz.func22 rfl Tryz.ntmps22 rfl rfl ?_
 repeat'(first|(apply Zaj Zab;exact Z)|(apply Zah Zab;exact Z)|(apply Zav Zab;exact Z)|(apply Zae;(iterate 3 exact Z);exact Go.ZrJ)|(apply Zag;exact Z;exact Go.ZrJ;exact Z;exact Z)|(apply Zaf;exact Z;exact Go.ZrJ)|(apply Zam Zab;(iterate 4 exact Z))|(apply Zcs Zab;(iterate 9 exact Z)))
 refine ZaE (fun f tm bx fr=>∃ i:Nat,f+i=l.length/\It.beqs (l.drop i) (l'.drop i)=fin/\tm=[(2,.ptr 0 0),(3,.ptr 1 0),(5,.int .i64 (i:Int)),(4,.bool false)]/\bx=[itC k n b l,itC k' n' b' l']/\fr=[]) (l.length+1) (Lands.mk' (m:=l.length) (Nat.lt_succ_self _) ⟨0,rfl,hfin,rfl,rfl,rfl⟩ ?_ rfl rfl rfl rfl rfl rfl) ?_
 ·exact .cons rfl (.cons rfl (.cons rfl (.cons rfl .nil)))
 rintro f tm bx fr ⟨i,hf,hfin,rfl,rfl,rfl⟩
 have hU:=Zb8 l
 have hU':=Zb8 l'
 rcases Nat.lt_or_ge i l.length with hlt|hge
 ·have hdl:decide ((i:Int)<((Zax l).length:Int))=true:=decide_eq_true (by omega)
  obtain⟨⟨k1,n1,b1,l1⟩,hy⟩:∃ y,l[i]?=some y:=⟨_,List.getElem?_eq_getElem hlt⟩
  obtain⟨⟨k2,n2,b2,l2⟩,hy'⟩:∃ y,l'[i]?=some y:=⟨_,List.getElem?_eq_getElem (by omega)⟩
  have hv:(Zax l)[((i:Nat):Int).toNat]?=some (.agg [.int .i64 k1,.int .u64 (n1:Int),.sl (b1.map E.byte),.sl (Zax l1)]):=by
   rw[Int.toNat_natCast,ZaI,List.getElem?_map,hy];rfl
  have hv':(Zax l')[((i:Nat):Int).toNat]?=some (.agg [.int .i64 k2,.int .u64 (n2:Int),.sl (b2.map E.byte),.sl (Zax l2)]):=by
   rw[Int.toNat_natCast,ZaI,List.getElem?_map,hy'];rfl
  have hc:=ih' _ (List.mem_of_getElem? hy) _ (List.mem_of_getElem? hy')
  have hdr:l.drop i=It.mk k1 n1 b1 l1::l.drop (i+1):=by
   rw[List.drop_eq_getElem_cons hlt];congr 1
   exact(List.getElem?_eq_some_iff.1 hy).2
  have hdr':l'.drop i=It.mk k2 n2 b2 l2::l'.drop (i+1):=by
   rw[List.drop_eq_getElem_cons (by omega)];congr 1
   exact(List.getElem?_eq_some_iff.1 hy').2
  rw[hdr,hdr',It.beqs]at hfin
  have ei:IntKind.i64.wrap ((i:Int)+1)=((i+1:Nat):Int):=by rw[IntWalk.i64_in _ (by omega)];omega
  cases hb:It.beq (.mk k1 n1 b1 l1) (.mk k2 n2 b2 l2) with
  | false=>
   rw[hb]at hfin hc
   subst hfin
   repeat'(first|(apply Zaa (hc);kernel_rfl;(iterate 4 exact Z))|(apply Zaj Zab;exact Z)|(apply Zah Zab;exact Z)|(apply Zav Zab;exact Z)|(apply Zac;exact Z;exact Go.ZrJ)|refine Zbj ?_|(apply Zam Zab;(iterate 4 exact Z))|(apply ZaP 10 ZaL;decide +kernel;kernel_rfl;kernel_rfl;exact Z;exact Z)|(apply Za0;(iterate 3 exact Z))|refine AD.nil _|exact ZbC rfl|(apply Zau Zab;(iterate 6 exact Z);(first|exact Go.ZrJ|rotate_left);(first|with_reducible assumption|decide +kernel|exact Z);(first|exact Zai rfl|with_reducible assumption|decide +kernel|rotate_left)))
   all_goals(apply Zaw [];(apply Zad Zab;exact Z);(iterate 4 exact Z))
   all_goals rfl
  | true=>
   rw[hb]at hfin hc
   repeat'(first|rw[ei]|(apply Zaa (hc);kernel_rfl;(iterate 4 exact Z))|(apply Zaj Zab;exact Z)|(apply Zah Zab;exact Z)|(apply Zav Zab;exact Z)|(apply Zac;exact Z;exact Go.ZrJ)|(apply Zaf;exact Z;exact Go.ZrJ)|(apply Zam Zab;(iterate 4 exact Z))|(apply ZaP 10 ZaL;decide +kernel;kernel_rfl;kernel_rfl;exact Z;exact Z)|(apply Za0;(iterate 3 exact Z))|refine AD.nil _|exact ZbC rfl|(apply Zau Zab;(iterate 6 exact Z);(first|exact Go.ZrJ|rotate_left);(first|with_reducible assumption|decide +kernel|exact Z);(first|exact Zai rfl|with_reducible assumption|decide +kernel|rotate_left)))
   refine Lands.mk' (m:=f-1) (by omega) ⟨i+1,by omega,hfin,rfl,rfl,rfl⟩ ?_ rfl rfl rfl rfl rfl rfl
   exact .cons rfl (.cons rfl (.cons rfl (.cons rfl .nil)))
 ·have hdl:decide ((i:Int)<((Zax l).length:Int))=false:=decide_eq_false (by omega)
  rw[List.drop_eq_nil_of_le hge,List.drop_eq_nil_of_le (by omega)]at hfin
  have hfin:true=fin:=hfin
  subst hfin
  repeat'(first|(apply Zaj Zab;exact Z)|(apply Zah Zab;exact Z)|(apply Zav Zab;exact Z)|(apply Zaf;exact Z;exact Go.ZrJ)|(apply Zam Zab;(iterate 4 exact Z)))
  all_goals(apply Zaw [];(apply Zad Zab;exact Z);(iterate 4 exact Z))
  all_goals rfl
theorem ZdD (b:List UInt8)(hb:b.length<4294967296):(∃ e:Nat,e ≠ 0/\Zbu b 0=(.mk 0 0 [] [],0,e)/\Zcf b=false)\/(∃(y:It) (n:Nat),Zbu b 0=(y,n,0)/\wfI y/\ZaC y=true/\(Za9 y).length<=n/\n<=b.length):=by
 have e:Zbu b 0=match ZaT 6 256 b with
   | .error e=>(.mk 0 0 [] [],0,e)
   | .ok (x,r,_)=>(x,b.length-r.length,0):=by rw[Zbu,if_neg (by omega)];rfl
 unfold Zcf
 rw[e]
 cases hx:ZaT 6 256 b with
 | error c=>exact .inl ⟨c,Zdg _ _ _ _ hx,rfl,rfl⟩
 | ok y=>
  obtain⟨y,r,m1⟩:=y
  obtain⟨hwk,hwf,pre,hpre,_,hlen⟩:=ZeD 6 (Nat.le_refl _) _ _ _ _ _ hx (by omega)
  have hle:=hlen ⟨Nat.le_refl _,hb⟩
  have hpl:=congrArg List.length hpre
  rw[List.length_append]at hpl
  refine .inr ⟨y,b.length-r.length,rfl,hwf,?_,by omega,by omega⟩
  have hwk:Zcj y 1 256=some m1:=hwk
  unfold ZaC;rw[hwk];rfl
def Zds (c:UInt8):List UInt8->List UInt8 × List UInt8 × Bool
 | []=>([],[],false)
 | x::s=>if x=c then([],s,true) else(x::(Zds c s).1,(Zds c s).2.1,(Zds c s).2.2)
theorem ZlM {c:UInt8}:∀ {s:List UInt8},c ∉ s->Zds c s=(s,[],false)
 | [],_=>rfl
 | x::s,h=>by
  have h1:¬ x=c:=fun e=>h (by rw[e];exact List.mem_cons_self ..)
  have h2:=ZlM (c:=c) (s:=s) fun hm=>h (List.mem_cons_of_mem _ hm)
  rw[Zds,if_neg h1,h2]
theorem Zdi {c:UInt8}:∀ {a b:List UInt8},c ∉ a->Zds c (a++c::b)=(a,b,true)
 | [],b,_=>by rw[List.nil_append,Zds,if_pos rfl]
 | x::a,b,h=>by
  have h1:¬ x=c:=fun e=>h (by rw[e];exact List.mem_cons_self ..)
  have h2:=Zdi (c:=c) (a:=a) (b:=b) fun hm=>h (List.mem_cons_of_mem _ hm)
  rw[List.cons_append,Zds,if_neg h1,h2]
theorem Zem {c:UInt8}:∀ {s:List UInt8},(Zds c s).2.2=true->s=(Zds c s).1++c::(Zds c s).2.1
 | [],h=>by rw[Zds]at h;cases h
 | x::s,h=>by
  rw[Zds]at h ⊢
  by_cases e:x=c
  ·rw[if_pos e];rw[e];rfl
  ·rw[if_neg e]at h ⊢
   have:=Zem (c:=c) (s:=s) h
   dsimp only
   rw[List.cons_append,<- this]
def ZdY (p s:List UInt8):List UInt8 × Bool:=if s.take p.length==p then(s.drop p.length,true) else(s,false)
theorem Zen (p r:List UInt8):ZdY p (p++r)=(r,true):=by
 unfold ZdY
 rw[List.take_left,beq_self_eq_true,if_pos rfl,List.drop_left]
theorem ZlN {p s:List UInt8}(h:(s.take p.length==p)=false):ZdY p s=(s,false):=by
 unfold ZdY;rw[h];rfl
theorem Zeo {p s:List UInt8}(h:(ZdY p s).2=true):s=p++(ZdY p s).1:=by
 unfold ZdY at h ⊢
 split at h
 ·rename_i hp
  rw[if_pos hp]
  have:=beq_iff_eq.1 hp
  conv=>lhs;rw[<- List.take_append_drop p.length s,this]
 ·cases h
def ppV (s:List UInt8):EidV × Bool:=
 (⟨false,0,0,(Zds 47 (ZdY [47,47] s).1).1,(Zds 47 (ZdY [47,47] s).1).2.1⟩,(ZdY [47,47] s).2&&((Zds 47 (ZdY [47,47] s).1).2.2&&((Zds 47 (ZdY [47,47] s).1).1 != []&&Za3 ⟨false,0,0,(Zds 47 (ZdY [47,47] s).1).1,(Zds 47 (ZdY [47,47] s).1).2.1⟩)))
def Zep:List UInt8:=[100,116,110,58,110,111,110,101]
def Zeq:List UInt8:=[105,112,110,58]
def Zf5:List UInt8:=[100,116,110,58]
theorem ZcI {x:EidV}:isZ x=true ↔ x=ZdR:=by
 obtain⟨i,n,s,h,d⟩:=x
 simp only[isZ,ZdR,Bool.and_eq_true,beq_iff_eq,EidV.mk.injEq]
 constructor
 ·rintro⟨h1,h2,h3,h4,h5,_⟩
  exact⟨h1,by omega,by omega,h4,h5⟩
 ·rintro⟨h1,h2,h3,h4,h5⟩
  exact⟨h1,by omega,by omega,h4,h5,trivial⟩
theorem ZeH {m:Nat}{c:UInt8}{l:List UInt8}(hl:l.all (okB m)=true)(h:okB m c=false):c ∉ l:=fun hm=>by
 have:=List.all_eq_true.1 hl c hm
 rw[h]at this;cases this
set_option maxRecDepth 100000 in
theorem Zm6 (s:ByteArray)(c:Int)(w:World):Calls Tryz.prog 214 #[.string s,.int .u8 c] w fun e w'=>e=.returned (.int .i64 (Lib.indexByte s.data.toList c.toNat.toUInt8))/\w'=w:=by
 go_enter Tryz.func214,Tryz.ntmps214
 go_wp2
 rw[run_callFunc_extern Tryz.func219 (by kernel_rfl) (by kernel_rfl) (by kernel_rfl) (e:=Extern.BytealgIndexByte.indexByte) (by kernel_rfl),Lib.run_indexByteString]
 simp only[Result.andThen]
 rw[Oper.upon_value]
 go_wp2
 go_ret
 exact⟨rfl,rfl⟩
theorem ZpD [Known](s:List UInt8)(c:Int):AP Tryz.prog 214 [.str s,.int .u8 c] (.int .i64 (Lib.indexByte s c.toNat.toUInt8)) []:=by
 refine⟨fun g w vs hmem hl hv=>?_⟩
 obtain⟨v0,v1,rfl⟩:∃ v0 v1,vs=[v0,v1]:=by
  match vs,hl with
  | [v0,v1],_=>exact⟨v0,v1,rfl⟩
 have h0:=(hv 0 _ _ rfl rfl).str_inv.1
 have h1:=(hv 1 _ _ rfl rfl).int_inv
 subst h0 h1
 exact(Zm6 ⟨s.toArray⟩ c w).mono fun e w' ⟨he,hb⟩=>Zi6 hmem (hb ▸ Below.refl _ _) he (.int _ _)
theorem ZhQ [Known](s p:List UInt8)(hs:s.length<=4611686018427387904)(hp:p.length<=4611686018427387904):AP Tryz.prog 206 [.str s,.str p] (.bool (s.take p.length==p)) []:=by
 by_cases h:p.length<=s.length
 ·have t1:decide ((s.length:Int) ≥ (p.length:Int))=true:=decide_eq_true (by omega)
  have hq:((p.length:Nat):Int).toNat<=s.length:=by rw[Int.toNat_natCast];exact h
  have hs2:(s.take ((p.length:Nat):Int).toNat).drop 0=s.take p.length:=by rw[Int.toNat_natCast,List.drop_zero]
  generalize s.take p.length=s2 at *
  refine AP.ofA ?_
  refine Zan Tryz.func206 rfl Tryz.ntmps206 rfl rfl ?_
  repeat'(first|(apply Zbx Zab;(iterate 4 exact Z);exact .dft _;exact .lit _ _ _ _ rfl (Int.natCast_nonneg _);exact Nat.zero_le _;exact hq;exact hs2)|(apply Zaj Zab;exact Z)|(apply Zah Zab;exact Z)|(apply Zae;(iterate 3 exact Z);exact Go.ZrJ)|(apply Zak;exact Z;exact Go.ZrJ;exact Z;exact Z)|(apply Zbl Zab;(iterate 4 exact Z)))
  all_goals(apply Zaw [];(apply Zad Zab;exact Z);(iterate 4 exact Z))
  all_goals rfl
 ·have t1:decide ((s.length:Int) ≥ (p.length:Int))=false:=decide_eq_false (by omega)
  have e:(s.take p.length==p)=false:=by
   rw[beq_eq_false_iff_ne]
   intro e
   have:=congrArg List.length e
   rw[List.length_take]at this
   omega
  rw[e]
  refine AP.ofA ?_
  refine Zan Tryz.func206 rfl Tryz.ntmps206 rfl rfl ?_
  repeat'(first|(apply Zaj Zab;exact Z)|(apply Zah Zab;exact Z)|(apply Zas;(iterate 3 exact Z);exact Go.ZrJ)|(apply Zag;exact Z;exact Go.ZrJ;exact Z;exact Z)|(apply Zbl Zab;(iterate 4 exact Z)))
  all_goals(apply Zaw [];(apply Zad Zab;exact Z);(iterate 4 exact Z))
  all_goals rfl
theorem Zkp [Known](p r:List UInt8)(hs:(p++r).length<=4611686018427387904):AP Tryz.prog 171 [.str (p++r),.str p] (.tup [.str r,.bool true]) []:=by
 have hH:=ZhQ (p++r) p hs (by rw[List.length_append]at hs;omega)
 rw[List.take_left,beq_self_eq_true]at hH
 have hq:((p.length:Nat):Int).toNat<=(p++r).length:=by rw[Int.toNat_natCast,List.length_append];omega
 have hs2:((p++r).take (p++r).length).drop ((p.length:Nat):Int).toNat=r:=by rw[Int.toNat_natCast,List.take_length,List.drop_left]
 have hC:AP Tryz.prog 191 [.str (p++r),.str p] (.tup [.str r,.bool true]) []:=by
  generalize p++r=s at *
  refine AP.ofA ?_
  refine Zan Tryz.func191 rfl Tryz.ntmps191 rfl rfl ?_
  repeat'(first|(apply Zaa (hH);kernel_rfl;(iterate 4 exact Z))|(apply Zbx Zab;(iterate 4 exact Z);exact .lit _ _ _ _ rfl (Int.natCast_nonneg _);exact .dft _;exact hq;exact Nat.le_refl _;exact hs2)|(apply Zaj Zab;exact Z)|(apply Zah Zab;exact Z)|(apply Zav Zab;exact Z)|(apply Zaf;exact Z;exact Go.ZrJ)|(apply Zbl Zab;(iterate 4 exact Z)))
  all_goals(apply Zaw [];(apply Zad Zab;exact Z);(iterate 4 exact Z))
  all_goals rfl
 refine AP.ofA ?_
 refine Zan Tryz.func171 rfl Tryz.ntmps171 rfl rfl ?_
 repeat'(first|(apply Zaa (hC);kernel_rfl;(iterate 4 exact Z))|(apply Zaj Zab;exact Z)|(apply Zah Zab;exact Z))
 all_goals(apply Zaw [];(apply Zad Zab;exact Z);(iterate 4 exact Z))
 all_goals rfl
theorem Zkq [Known](s p:List UInt8)(hs:s.length<=4611686018427387904)(hp:p.length<=4611686018427387904)(h:(s.take p.length==p)=false):AP Tryz.prog 171 [.str s,.str p] (.tup [.str s,.bool false]) []:=by
 have hH:=ZhQ s p hs hp
 rw[h]at hH
 have hC:AP Tryz.prog 191 [.str s,.str p] (.tup [.str s,.bool false]) []:=by
  refine AP.ofA ?_
  refine Zan Tryz.func191 rfl Tryz.ntmps191 rfl rfl ?_
  repeat'(first|(apply Zaa (hH);kernel_rfl;(iterate 4 exact Z))|(apply Zaj Zab;exact Z)|(apply Zah Zab;exact Z)|(apply Zav Zab;exact Z)|(apply Zac;exact Z;exact Go.ZrJ))
  all_goals(apply Zaw [];(apply Zad Zab;exact Z);(iterate 4 exact Z))
  all_goals rfl
 refine AP.ofA ?_
 refine Zan Tryz.func171 rfl Tryz.ntmps171 rfl rfl ?_
 repeat'(first|(apply Zaa (hC);kernel_rfl;(iterate 4 exact Z))|(apply Zaj Zab;exact Z)|(apply Zah Zab;exact Z))
 all_goals(apply Zaw [];(apply Zad Zab;exact Z);(iterate 4 exact Z))
 all_goals rfl
theorem ZlO (s p:List UInt8):(∃ r,s=p++r)\/(s.take p.length==p)=false:=by
 cases h:s.take p.length==p with
 | true=>
  refine .inl ⟨s.drop p.length,?_⟩
  have:=beq_iff_eq.1 h
  conv=>lhs;rw[<- List.take_append_drop p.length s,this]
 | false=>exact .inr rfl
theorem ZnK:∀ {l:List UInt8} {c:UInt8},c ∉ l->Lib.indexByte l c = -1
 | [],_,_=>rfl
 | x::l,c,h=>by
  have h1:¬ x=c:=fun e=>h (by rw[e];exact List.mem_cons_self ..)
  have h2:=ZnK (l:=l) (c:=c) fun hm=>h (List.mem_cons_of_mem _ hm)
  simp[Lib.indexByte,h1,h2]
theorem ZlP:∀ {a b:List UInt8} {c:UInt8},c ∉ a->Lib.indexByte (a++c::b) c=(a.length:Int)
 | [],b,c,_=>by simp[Lib.indexByte]
 | x::a,b,c,h=>by
  have h1:¬ x=c:=fun e=>h (by rw[e];exact List.mem_cons_self ..)
  have h2:=ZlP (a:=a) (b:=b) (c:=c) fun hm=>h (List.mem_cons_of_mem _ hm)
  rw[List.cons_append]
  simp only[Lib.indexByte,h2,List.length_cons,beq_iff_eq,h1,if_false]
  (repeat' split)<;>omega
theorem ZhR [Known](s:List UInt8)(c:UInt8):AP Tryz.prog 207 [.str s,.str [c]] (.int .i64 (Lib.indexByte s c)) []:=by
 have hI:=ZpD s (c.toNat:Int)
 have e:((c.toNat:Int)).toNat.toUInt8=c:=by rw[Int.toNat_natCast];simp
 rw[e]at hI
 have t0:((([c]:List UInt8).length:Int)==0)=false:=rfl
 have t1:((([c]:List UInt8).length:Int)==1)=true:=rfl
 by_cases hs:[c]=s
 ·subst hs
  have t2:([c]==[c])=true:=by simp
  have e0:Lib.indexByte [c] c=0:=by simp[Lib.indexByte]
  rw[e0]
  refine AP.ofA ?_
  refine Zan Tryz.func207 rfl Tryz.ntmps207 rfl rfl ?_
  repeat'(first|(apply Zaj Zab;exact Z)|(apply Zah Zab;exact Z)|(apply Zav Zab;exact Z)|(apply Zae;(iterate 3 exact Z);exact Go.ZrJ)|(apply Zag;exact Z;exact Go.ZrJ;exact Z;exact Z)|(apply Zac;exact Z;exact Go.ZrJ)|(apply Zbl Zab;(iterate 4 exact Z)))
  all_goals(apply Zaw [];(apply Zad Zab;exact Z);(iterate 4 exact Z))
  all_goals rfl
 ·have t2:([c]==s)=false:=by simpa using hs
  refine AP.ofA ?_
  refine Zan Tryz.func207 rfl Tryz.ntmps207 rfl rfl ?_
  repeat'(first|(apply Zaa (hI);kernel_rfl;(iterate 4 exact Z))|(apply Zde Zab;(iterate 5 exact Z);decide +kernel;exact Z)|(apply Zaj Zab;exact Z)|(apply Zah Zab;exact Z)|(apply Zav Zab;exact Z)|(apply Zae;(iterate 3 exact Z);exact Go.ZrJ)|(apply Zag;exact Z;exact Go.ZrJ;exact Z;exact Z)|(apply Zac;exact Z;exact Go.ZrJ)|(apply Zaf;exact Z;exact Go.ZrJ)|(apply Zbl Zab;(iterate 4 exact Z)))
  all_goals(apply Zaw [];(apply Zad Zab;exact Z);(iterate 4 exact Z))
  all_goals rfl
theorem ZoH [Known](s:List UInt8)(c:UInt8)(h:c ∉ s):AP Tryz.prog 172 [.str s,.str [c]] (.tup [.str s,.str [],.bool false]) []:=by
 have hI:=ZhR s c
 rw[ZnK h]at hI
 have hC:AP Tryz.prog 192 [.str s,.str [c]] (.tup [.str s,.str [],.bool false]) []:=by
  refine AP.ofA ?_
  refine Zan Tryz.func192 rfl Tryz.ntmps192 rfl rfl ?_
  repeat'(first|(apply Zaa (hI);kernel_rfl;(iterate 4 exact Z))|(apply Zaj Zab;exact Z)|(apply Zah Zab;exact Z)|(apply Zaf;exact Z;exact Go.ZrJ))
  all_goals(apply Zaw [];(apply Zad Zab;exact Z);(iterate 4 exact Z))
  all_goals rfl
 refine AP.ofA ?_
 refine Zan Tryz.func172 rfl Tryz.ntmps172 rfl rfl ?_
 repeat'(first|(apply Zaa (hC);kernel_rfl;(iterate 4 exact Z))|(apply Zaj Zab;exact Z)|(apply Zah Zab;exact Z))
 all_goals(apply Zaw [];(apply Zad Zab;exact Z);(iterate 4 exact Z))
 all_goals rfl
theorem ZoI [Known](a b:List UInt8)(c:UInt8)(h:c ∉ a)(hl:(a++c::b).length<=4611686018427387904):AP Tryz.prog 172 [.str (a++c::b),.str [c]] (.tup [.str a,.str b,.bool true]) []:=by
 have hI:=ZhR (a++c::b) c
 rw[ZlP h]at hI
 have hal:a.length+1<=(a++c::b).length:=by rw[List.length_append,List.length_cons];omega
 have t1:decide ((a.length:Int) ≥ 0)=true:=decide_eq_true (by omega)
 have e1:IntKind.i64.wrap ((a.length:Int)+(([c]:List UInt8).length:Int))=((a.length+1:Nat):Int):=by
  rw[IntWalk.i64_in _ (by simp;omega)];simp
 have q1:((a.length:Nat):Int).toNat<=(a++c::b).length:=by rw[Int.toNat_natCast];omega
 have q2:((a.length+1:Nat):Int).toNat<=(a++c::b).length:=by rw[Int.toNat_natCast];omega
 have s1:((a++c::b).take ((a.length:Nat):Int).toNat).drop 0=a:=by rw[Int.toNat_natCast,List.drop_zero,List.take_left]
 have s2:((a++c::b).take (a++c::b).length).drop ((a.length+1:Nat):Int).toNat=b:=by
  rw[Int.toNat_natCast,List.take_length,show a.length+1=(a++[c]).length by simp,show a++c::b=(a++[c])++b by simp,List.drop_left]
 have hC:AP Tryz.prog 192 [.str (a++c::b),.str [c]] (.tup [.str a,.str b,.bool true]) []:=by
  generalize a++c::b=s at *
  refine AP.ofA ?_
  refine Zan Tryz.func192 rfl Tryz.ntmps192 rfl rfl ?_
  repeat'(first|rw[e1]|(apply Zaa (hI);kernel_rfl;(iterate 4 exact Z))|(apply Zbx Zab;(iterate 4 exact Z);exact .dft _;exact .lit _ _ _ _ rfl (Int.natCast_nonneg _);exact Nat.zero_le _;exact q1;exact s1)|(apply Zbx Zab;(iterate 4 exact Z);exact .lit _ _ _ _ rfl (Int.natCast_nonneg _);exact .dft _;exact q2;exact Nat.le_refl _;exact s2)|(apply Zaj Zab;exact Z)|(apply Zah Zab;exact Z)|(apply Zac;exact Z;exact Go.ZrJ)|(apply Zbl Zab;(iterate 4 exact Z))|(apply Zao 10 ZaL;decide +kernel;kernel_rfl;kernel_rfl;kernel_rfl;exact Z;exact Z)|(apply Zaq;(iterate 4 exact Z))|exact AE.nil _ _ _ _|(apply Zat;exact Z)|(apply Zay;exact Z;exact Z;decide +kernel;exact Z)|(apply Zaz;exact Z)|exact AO.nil _ _ _|(apply Zap;(decide +kernel))|exact AOs.nil|exact ZaH rfl rfl)
  all_goals(apply Zaw [];(apply Zad Zab;exact Z);(iterate 4 exact Z))
  all_goals rfl
 refine AP.ofA ?_
 refine Zan Tryz.func172 rfl Tryz.ntmps172 rfl rfl ?_
 repeat'(first|(apply Zaa (hC);kernel_rfl;(iterate 4 exact Z))|(apply Zaj Zab;exact Z)|(apply Zah Zab;exact Z))
 all_goals(apply Zaw [];(apply Zad Zab;exact Z);(iterate 4 exact Z))
 all_goals rfl
theorem ZfP (c:UInt8):∀ s:List UInt8,(c ∉ s)\/∃ a b,s=a++c::b/\c ∉ a
 | []=>.inl (by simp)
 | x::s=>by
  by_cases e:x=c
  ·subst e;exact .inr ⟨[],s,rfl,by simp⟩
  ·rcases ZfP c s with h|⟨a,b,rfl,h⟩
   ·refine .inl fun hm=>?_
    rcases List.mem_cons.1 hm with h2|h2
    ·exact e h2.symm
    ·exact h h2
   ·refine .inr ⟨x::a,b,rfl,fun hm=>?_⟩
    rcases List.mem_cons.1 hm with h2|h2
    ·exact e h2.symm
    ·exact h h2
end Go.Proofs.YtakblclkflnnpaaGreatDoor
end
section
open Go.RowKit Go.Pl
namespace Go.Av
section
variable {P:Program} {Q:X->St->Prop} {n:Nat} {ee:Nat × Nat} {tm:List (Nat × D)} {bx:List (List D)} {fr:List Fr}
variable {ops:Array Oper} {rest:List Oper} {t ty:Nat} {pos:String} {after:Array Edge}
end
end Go.Av
end
section
open Go.RowKit Go.Pl Go.Av
namespace Go.Proofs.YtakblclkflnnpaaGreatDoor
set_option maxHeartbeats 4000000
theorem Zm7 (p s:List UInt8):(ZdY p s).1.length<=s.length:=by
 unfold ZdY
 split
 ·simp
 ·exact Nat.le_refl _
theorem ZpE [Known](s:List UInt8)(c:UInt8)(hl:s.length<=4611686018427387904):AP Tryz.prog 172 [.str s,.str [c]] (.tup [.str (Zds c s).1,.str (Zds c s).2.1,.bool (Zds c s).2.2]) []:=by
 rcases ZfP c s with h|⟨a,b,rfl,h⟩
 ·rw[ZlM h];exact ZoH s c h
 ·rw[Zdi h];exact ZoI a b c h hl
theorem ZlQ [Known](s p:List UInt8)(hs:s.length<=4611686018427387904)(hp:p.length<=4611686018427387904):AP Tryz.prog 171 [.str s,.str p] (.tup [.str (ZdY p s).1,.bool (ZdY p s).2]) []:=by
 rcases ZlO s p with⟨r,rfl⟩ | h
 ·rw[Zen];exact Zkp p r hs
 ·rw[ZlN h];exact Zkq s p hs hp h
theorem Zqt [Known](s:List UInt8)(hs:s.length<=140737488351232):AP Tryz.prog 143 [.str s] (.tup [.agg (eC (ppV s).1),.bool (ppV s).2]) []:=by
 have hP:=ZlQ s [47,47] (by omega) (by decide)
 have hl:=Zm7 [47,47] s
 unfold ppV
 dsimp only
 generalize (ZdY [47,47] s).1=r at *
 generalize (ZdY [47,47] s).2=ok at *
 have hC:=ZpE r 47 (by omega)
 generalize (Zds 47 r).1=a at *
 generalize (Zds 47 r).2.1=b at *
 generalize (Zds 47 r).2.2=k at *
 have hR:=ZhP ⟨false,0,0,a,b⟩
 generalize Za3 ⟨false,0,0,a,b⟩=R at *
 replace hR:AP Tryz.prog _ [.agg [.bool false,.int .u64 0,.int .u64 0,.str a,.str b]] (.bool R) []:=hR
 show AP Tryz.prog _ _ (.tup [.agg [.bool false,.int .u64 0,.int .u64 0,.str a,.str b],_]) _
 obtain⟨ne,h1⟩:∃ ne,(a != [])=ne:=⟨_,rfl⟩
 rw[h1]
 cases ok with
 | false=>
  refine AP.ofA ?_
  refine Zan Tryz.func143 rfl Tryz.ntmps143 rfl rfl ?_
  repeat'(first|(apply Zaa (hP);kernel_rfl;(iterate 4 exact Z))|(apply Zaa (hC);kernel_rfl;(iterate 4 exact Z))|(apply Zaj Zab;exact Z)|(apply Zah Zab;exact Z)|(apply Zas;(iterate 3 exact Z);exact Go.ZrJ)|(apply Zag;exact Z;exact Go.ZrJ;exact Z;exact Z)|(apply Zao 14 ZaL;decide +kernel;kernel_rfl;kernel_rfl;kernel_rfl;exact Z;exact Z)|(apply Zaq;(iterate 4 exact Z))|exact AE.nil _ _ _ _|(apply Zat;exact Z)|(apply Zfz;exact Z)|(apply Zay;exact Z;exact Z;decide +kernel;exact Z)|(apply Zaz;exact Z)|(apply Zio;exact Z)|exact AO.nil _ _ _|(apply Zap;(decide +kernel))|(apply ZaV;(iterate 3 exact Z))|exact AOs.nil|exact ZaH rfl rfl|exact Zgf rfl)
  all_goals(apply Zaw [];(apply Zad Zab;exact Z);(iterate 4 exact Z))
  all_goals rfl
 | true=>
  cases k with
  | false=>
   refine AP.ofA ?_
   refine Zan Tryz.func143 rfl Tryz.ntmps143 rfl rfl ?_
   repeat'(first|(apply Zaa (hP);kernel_rfl;(iterate 4 exact Z))|(apply Zaa (hC);kernel_rfl;(iterate 4 exact Z))|(apply Zaj Zab;exact Z)|(apply Zah Zab;exact Z)|(apply Zae;(iterate 3 exact Z);exact Go.ZrJ)|(apply Zas;(iterate 3 exact Z);exact Go.ZrJ)|(apply Zak;exact Z;exact Go.ZrJ;exact Z;exact Z)|(apply Zag;exact Z;exact Go.ZrJ;exact Z;exact Z)|(apply Zao 14 ZaL;decide +kernel;kernel_rfl;kernel_rfl;kernel_rfl;exact Z;exact Z)|(apply Zaq;(iterate 4 exact Z))|exact AE.nil _ _ _ _|(apply Zat;exact Z)|(apply Zfz;exact Z)|(apply Zay;exact Z;exact Z;decide +kernel;exact Z)|(apply Zaz;exact Z)|(apply Zio;exact Z)|exact AO.nil _ _ _|(apply Zap;(decide +kernel))|(apply ZaV;(iterate 3 exact Z))|exact AOs.nil|exact ZaH rfl rfl|exact Zgf rfl)
   all_goals(apply Zaw [];(apply Zad Zab;exact Z);(iterate 4 exact Z))
   all_goals rfl
  | true=>
   cases ne<;>cases R
   all_goals
    refine AP.ofA ?_
    refine Zan Tryz.func143 rfl Tryz.ntmps143 rfl rfl ?_
    repeat'(first|rw[h1]|(apply Zaa (hP);kernel_rfl;(iterate 4 exact Z))|(apply Zaa (hC);kernel_rfl;(iterate 4 exact Z))|(apply Zaa (hR);kernel_rfl;(iterate 4 exact Z))|(apply Zaj Zab;exact Z)|(apply Zah Zab;exact Z)|(apply Zae;(iterate 3 exact Z);exact Go.ZrJ)|(apply Zas;(iterate 3 exact Z);exact Go.ZrJ)|(apply Zak;exact Z;exact Go.ZrJ;exact Z;exact Z)|(apply Zag;exact Z;exact Go.ZrJ;exact Z;exact Z)|(apply Zao 14 ZaL;decide +kernel;kernel_rfl;kernel_rfl;kernel_rfl;exact Z;exact Z)|(apply Zaq;(iterate 4 exact Z))|exact AE.nil _ _ _ _|(apply Zat;exact Z)|(apply Zfz;exact Z)|(apply Zay;exact Z;exact Z;decide +kernel;exact Z)|(apply Zaz;exact Z)|(apply Zio;exact Z)|exact AO.nil _ _ _|(apply Zap;(decide +kernel))|(apply ZaV;(iterate 3 exact Z))|exact AOs.nil|exact ZaH rfl rfl|exact Zgf rfl)
    all_goals(apply Zaw [];(apply Zad Zab;exact Z);(iterate 4 exact Z))
    all_goals rfl
end Go.Proofs.YtakblclkflnnpaaGreatDoor
end
section
open Go.RowKit Go.Pl
namespace Go.Av
inductive Zy where
 | pu (d:D)
 | al (cs:List D)
def z0 (p:Nat × Zy):Nat × D:=(p.1,match p.2 with | .pu d=>d | .al _=>.junk)
def Zqu:Nat->List (Nat × Zy)->List (Nat × D)->List (Nat × D)
 | _,[],tm=>tm
 | m,(_,.pu _)::zs,tm=>Zqu m zs tm
 | m,(t,.al _)::zs,tm=>Zqu (m+1) zs ((t,.ptr m 0)::tm)
def zcs:List (Nat × Zy)->List (List D)
 | []=>[]
 | (_,.pu _)::zs=>zcs zs
 | (_,.al cs)::zs=>cs::zcs zs
section
variable {P:Program} {T:Tab} {Q:X->St->Prop} {n:Nat} {ee:Nat × Nat} {tm tm':List (Nat × D)} {bx:List (List D)} {fr:List Fr} {b0:Bs} {g g':G} {w w':World} {a:Act}
inductive AZ [Known][Dfr](P:Program) (T:Tab) (l:List Oper) (n:Nat) (bx:List (List D)) (fr:List Fr):List Oper->List (Nat × D)->List (Nat × Zy)->List (Nat × D)->Prop
 | nil (tm:List (Nat × D)):AZ P T l n bx fr [] tm [] tm
 | pu (o:Oper) (rest:List Oper) (t:Nat) (d:D) (tm:List (Nat × D)) (zs:List (Nat × Zy)) (tm':List (Nat × D)) (hd:o.dst=some t) (ht:Nat.blt t n=true) (h:AL P l.toArray [o] ⟨n,ZbB l o tm,bx,fr,(bx.length,fr.length)⟩ (qY o bx fr (.pu d))) (k:AZ P T l n bx fr rest ((t,d)::tm) zs tm'):AZ P T l n bx fr (o::rest) tm ((t,.pu d)::zs) tm'
 | al (t:Nat) (e:TypeId) (ty:Nat) (pos:String) (after:Array Edge) (rest:List Oper) (ti:Ti) (tm:List (Nat × D)) (zs:List (Nat × Zy)) (tm':List (Nat × D)) (ht:Nat.blt t n=true) (hti:tl T e=some ti) (k:AZ P T l n bx fr rest ((t,.junk)::tm) zs tm'):AZ P T l n bx fr (⟨some t,.alloc e,ty,pos,after,none⟩::rest) tm ((t,.al (ti.zero.map ZK.d))::zs) tm'
theorem ZdE (l:List Oper)(o:Oper):∀ tm:List (Nat × D),ZbB l o tm=tm.filter fun p=>(ZcD l o).contains p.1
 | []=>rfl
 | p::tm=>by
  rw[ZbB,List.filter_cons,ZdE l o tm]
  cases(ZcD l o).contains p.1<;>rfl
theorem Evo.al [Known](hm:Mem g bx fr w)(o:Obj):Evo ⟨g,fr,w⟩ ⟨g,fr,w.alloc o⟩:=
 ⟨rfl,rfl,rfl,by simp,fun k hk _=>Below.heap_alloc w _ k hk,fun _ _ h=>h,fun k p h=>Zcw w _ (hm.Clt k p h) p,fun _ _ h=>.inl h,fun _ _ h=>h,fun _ h=>.inl h,fun k c h=>.inl ⟨c,h⟩,Zdc.refl _ _⟩
theorem Mem.al [Known](hm:Mem g bx fr w)(o:Obj):Mem g bx fr (w.alloc o) where
 bl:=hm.bl
 bat i k cs' h1 h2:=by
  obtain⟨us,ty,k1,k2,k3⟩:=hm.bat i k cs' h1 h2
  exact⟨us,ty,(Below.heap_alloc w _ k (Array.getElem?_eq_some_iff.1 k1).1).trans k1,k2,fun j d v hd hv=>(k3 j d v hd hv).evo (Evo.al hm o)⟩
 bC:=hm.bC
 bN:=hm.bN
 tl:=hm.tl
 tat i k c f h1 h2:=by
  have hT:=hm.tat i k c f h1 h2
  obtain⟨cur,r1,r2⟩:=hT.row
  exact⟨⟨cur,(Below.heap_alloc w _ k (Array.getElem?_eq_some_iff.1 r1).1).trans r1,r2⟩,hT.le,hT.max,hT.pos,hT.far⟩
 tN:=hm.tN
 tρ:=hm.tρ
 Clt k p hC:=by
  have:=hm.Clt k p hC
  simp;omega
 gl:=hm.gl.evo (Evo.al hm o)
theorem Zm8 {k k':Nat}(h:M ⟨g.C,g.ρ++[k],g.τ⟩ k'):M g k'\/k'=k:=by
 rcases h with h|h
 ·rcases List.mem_append.1 h with h|h
  ·exact .inl (.inl h)
  ·simp at h;exact .inr h
 ·exact .inl (.inr h)
structure AZk [Known][Dfr](P:Program) (l acts:List Oper) (n:Nat) (zs:List (Nat × Zy)) (tm:List (Nat × D)) (bx:List (List D)) (fr:List Fr) (ee:Nat × Nat) (Q:X->St->Prop):Prop where
 run:AL P l.toArray acts ⟨n,Zqu bx.length zs tm,bx++zcs zs,fr,ee⟩ Q
end
end Go.Av
end

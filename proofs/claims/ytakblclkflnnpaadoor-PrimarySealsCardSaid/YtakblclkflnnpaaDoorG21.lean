/- The document's sealing: the type at a place, lists. -/
import Derived.Test.YtakblclkflnnpaaDoorG17
import Derived.Test.YtakblclkflnnpaaDoorG20
set_option linter.unusedVariables false
set_option linter.unusedSimpArgs false
section
open Go.RowKit Go.Pl Go.Av
namespace Go.Proofs.YtakblclkflnnpaaDoor
set_option maxHeartbeats 4000000
theorem Zke {l:List It}{a:Int}{x:It}(h0:0<=a)(hx:l[a.toNat]?=some x):ZaU l a=match It.beq x (.mk 0 0 [] []) with
  | true=>0
  | false=>match It.beq x (.mk 0 1 [] []) with
   | true=>1
   | false=>match It.beq x (.mk 0 2 [] []) with
    | true=>2
    | false => -1:=by
 obtain⟨k,n,b,r⟩:=x
 have hne:∀ m,m ≠ n->It.beq (.mk k n b r) (.mk 0 m [] [])=false:=fun m hm=>by
  cases h:It.beq (.mk k n b r) (.mk 0 m [] []) with
  | false=>rfl
  | true=>
   have:=It.beq_iff.1 h
   injection this with _ e
   exact absurd e.symm hm
 unfold ZaU
 rw[if_neg (by omega),hx]
 dsimp only
 rcases Nat.lt_or_ge n 3 with h3|h3
 ·have hd:decide ((n:Int)>2)=false:=decide_eq_false (by omega)
  rw[hd]
  dsimp only
  obtain rfl|rfl|rfl:n=0\/n=1\/n=2:=by omega
  ·rw[hne 1 (by omega),hne 2 (by omega)]
   cases It.beq (.mk k 0 b r) (.mk 0 0 [] [])<;>rfl
  ·rw[hne 0 (by omega),hne 2 (by omega)]
   cases It.beq (.mk k 1 b r) (.mk 0 1 [] [])<;>rfl
  ·rw[hne 0 (by omega),hne 1 (by omega)]
   cases It.beq (.mk k 2 b r) (.mk 0 2 [] [])<;>rfl
 ·have hd:decide ((n:Int)>2)=true:=decide_eq_true (by omega)
  rw[hd,hne 0 (by omega),hne 1 (by omega),hne 2 (by omega)]
theorem Zhw [Known](l:List It)(hws:wfs l)(hl:l.length<=2199023255488)(a:Int):AP Tryd.prog 34 [.sl .ext (Zan l),.int .i64 a] (.int .i64 (ZaU l a)) []:=by
 have hlen:=Zal l
 have hU:=Zbs l
 cases t1:decide (a<0) with
 | true=>
  have:ZaU l a = -1:=by unfold ZaU;rw[if_pos (of_decide_eq_true t1)]
  rw[this]
  refine AP.ofA ?_
  refine Zao Tryd.func34 rfl Tryd.ntmps34 rfl rfl ?_
  repeat'(first|(apply Zaj Zab;exact Z)|(apply Zah Zab;exact Z)|(apply Zay Zab;exact Z)|(apply Zaq;(iterate 3 exact Z);exact Qt)|(apply Zam;exact Z;exact Qt;exact Z;exact Z)|(apply Zac;exact Z;exact Qt))
  all_goals(apply Zaz [];(apply Zad Zab;exact Z);(iterate 4 exact Z))
  all_goals rfl
 | false=>
 have h0:0<=a:=by have:=of_decide_eq_false t1;omega
 cases t2:decide (a ≥ ((Zan l).length:Int)) with
 | true=>
  have:ZaU l a = -1:=by
   have h2:=of_decide_eq_true t2
   unfold ZaU
   rw[if_neg (by omega),List.getElem?_eq_none (by omega)]
  rw[this]
  refine AP.ofA ?_
  refine Zao Tryd.func34 rfl Tryd.ntmps34 rfl rfl ?_
  repeat'(first|(apply Zaj Zab;exact Z)|(apply Zah Zab;exact Z)|(apply Zay Zab;exact Z)|(apply Zaf;(iterate 3 exact Z);exact Qt)|(apply Zai;exact Z;exact Qt;exact Z;exact Z)|(apply Zac;exact Z;exact Qt)|(apply Zak Zab;(iterate 4 exact Z)))
  all_goals(apply Zaz [];(apply Zad Zab;exact Z);(iterate 4 exact Z))
  all_goals rfl
 | false=>
 have hlt:a.toNat<l.length:=by have:=of_decide_eq_false t2;omega
 obtain⟨x,hx⟩:∃ x,l[a.toNat]?=some x:=⟨_,List.getElem?_eq_getElem hlt⟩
 have hwx:=ZaM hws x (List.mem_of_getElem? hx)
 have hz:∀ m:Nat,m<3->wfI (.mk 0 m [] []):=fun m hm=>⟨by omega,by simp,by simp,trivial⟩
 have h1:=Zb2 x hwx (.mk 0 0 [] []) (hz 0 (by omega))
 have h2:=Zb2 x hwx (.mk 0 1 [] []) (hz 1 (by omega))
 have h3:=Zb2 x hwx (.mk 0 2 [] []) (hz 2 (by omega))
 rw[Zke h0 hx]
 generalize It.beq x (.mk 0 0 [] [])=b0 at *
 generalize It.beq x (.mk 0 1 [] [])=b1 at *
 generalize It.beq x (.mk 0 2 [] [])=b2 at *
 obtain⟨k,n,b,r⟩:=x
 have hv:(Zan l)[a.toNat]?=some (E.agg [.int .i64 k,.int .u64 (n:Int),.sl (b.map E.byte),.sl (Zan r)]):=by
  rw[Zax,List.getElem?_map,hx]
  rfl
 cases b0<;>cases b1<;>cases b2
 all_goals
  refine AP.ofA ?_
  refine Zao Tryd.func34 rfl Tryd.ntmps34 rfl rfl ?_
  repeat'(first|(apply Zaa (h1);kernel_rfl;(iterate 4 exact Z))|(apply Zaa (h2);kernel_rfl;(iterate 4 exact Z))|(apply Zaa (h3);kernel_rfl;(iterate 4 exact Z))|refine Za9 20 ?_|refine Zbk ?_|(apply Zaj Zab;exact Z)|(apply Zah Zab;exact Z)|(apply Zay Zab;exact Z)|(apply Zaf;(iterate 3 exact Z);exact Qt)|(apply Zai;exact Z;exact Qt;exact Z;exact Z)|(apply Zac;exact Z;exact Qt)|(apply Zae;exact Z;exact Qt)|refine ZbE ?_|(apply Zak Zab;(iterate 4 exact Z))|(apply Zat Zab;(iterate 6 exact Z);(first|exact Qt|rotate_left);(first|with_reducible assumption|decide +kernel|exact Z);(first|exact Zag rfl|with_reducible assumption|decide +kernel|rotate_left)))
  all_goals(apply Zaz [];(apply Zad Zab;exact Z);(iterate 4 exact Z))
  all_goals rfl
theorem Zf9 [Known](L:List E):AP Tryd.prog 62 [.sl .ext L] (.agg [.int .i64 4,.int .u64 0,.sl .ext [],.sl .ext L]) []:=by
 refine AP.ofA ?_
 refine Zao Tryd.func62 rfl Tryd.ntmps62 rfl rfl ?_
 repeat'(first|(apply Zah Zab;exact Z))
 all_goals(apply Zaz [];(apply Zad Zab;exact Z);(iterate 4 exact Z))
 all_goals rfl
theorem Zhx [Known](l:List It)(hl:l.length<=2199023255488)(c:List E):AP Tryd.prog 63 [.sl .ext (Zan l),.sl .ext c] (.agg [.int .i64 4,.int .u64 0,.sl .ext [],.sl .ext (Zan l++[.agg [.int .i64 2,.int .u64 0,.sl c,.sl []]])]) []:=by
 have hlen:=Zal l
 have hU:=Zbs l
 have hL:=Zf9 (Zan l++[.agg [.int .i64 2,.int .u64 0,.sl c,.sl []]])
 cases l with
 | nil=>
  refine AP.ofA ?_
  refine Zao Tryd.func63 rfl Tryd.ntmps63 rfl rfl ?_
  repeat'(first|(apply Zaa (hL);kernel_rfl;(iterate 4 exact Z))|(apply Za7 Zab;(iterate 6 exact Z);exact Zag rfl;exact List.cons_ne_nil _ _;exact Z;decide +kernel;decide +kernel;(iterate 3 exact Z))|(apply Zaj Zab;exact Z)|(apply Zah Zab;exact Z)|(apply Za0 Zab;(iterate 12 exact Z))|(apply ZaE Zab;(iterate 6 exact Z)))
  all_goals(apply Zaz [];(apply Zad Zab;exact Z);(iterate 4 exact Z))
  all_goals rfl
 | cons x l=>
  have hne:Zan (x::l) ≠ []:=by rw[Zan];exact List.cons_ne_nil _ _
  generalize Zan (x::l)=L at *
  have hLl:L.length<=2199023255488:=by omega
  refine AP.ofA ?_
  refine Zao Tryd.func63 rfl Tryd.ntmps63 rfl rfl ?_
  repeat'(first|(apply Zaa (hL);kernel_rfl;(iterate 4 exact Z))|(apply Zaj Zab;exact Z)|(apply Zah Zab;exact Z)|(apply Za0 Zab;(iterate 12 exact Z))|(apply ZaI Zab;(iterate 6 exact Z);(first|with_reducible assumption|decide +kernel|exact Z|rotate_left);exact Z;exact Z;(first|exact Zag rfl|with_reducible assumption|decide +kernel|rotate_left);(first|exact Zag rfl|with_reducible assumption|decide +kernel|rotate_left);(first|exact Qt|rotate_left);(first|exact Qt|rotate_left);(first|exact Qt|rotate_left);exact Z;exact Z)|(apply Za1 Zab;(iterate 6 exact Z);(first|exact Zag rfl|with_reducible assumption|decide +kernel|rotate_left);(first|exact Qt|rotate_left);(first|exact Qt|rotate_left);(first|exact Qt|rotate_left);(iterate 3 exact Z)))
  all_goals first|((apply Zaz [];(apply Zad Zab;exact Z);(iterate 4 exact Z)))|skip
  all_goals first|rfl|(first|rfl|(simp only[List.length_append,List.length_cons,List.length_nil,List.length_map,Zal];done)|(simp only[List.length_append,List.length_cons,List.length_nil,List.length_map,Zal]at *;(try unfold maxLen);(try simp only[Nat.add_mul]);omega))|(simp;done)|(simp;omega)|(simp;unfold maxLen;omega)
theorem Zkf [Known](l:List It)(hne:l ≠ [])(hl:l.length<=2199023255488)(hws:wfs l):AT Tryd.prog 31 [.sl .ext (Zan l)] [] [] (.agg [.int .i64 4,.int .u64 0,.sl .nil [],.sl (.own 0) (Zan l)]) [] [⟨(Zan l).length,4,26⟩]:=by
 have ih':∀ y ∈ l,AP Tryd.prog 57 [itD y] (itD y) []:=fun y hy=>Zek y (ZaM hws y hy)
 have hlen:=Zal l
 refine Zao Tryd.func31 rfl Tryd.ntmps31 rfl rfl ?_
 repeat'(first|(apply Zaj Zab;exact Z)|(apply Zah Zab;exact Z)|(apply Zak Zab;(iterate 4 exact Z)))
 refine ZaC (fun k' tm bx fr=>∃(i c:Nat) (L:List E),k'+i=l.length/\c=L.length/\L=Zan (l.take i)/\tm=[(3,.ptr 1 0),(2,.ptr 0 0),(7,.sl .ext (Zan l)),(8,.int .i64 ((Zan l).length:Int)),(9,.int .i64 (i:Int))] /\
  ((i=0/\bx=[[.int .i64 0,.int .u64 0,.sl .nil [],.sl .nil []],[.int .i64 4,.int .u64 0,.sl .nil [],.sl .nil []]]/\fr=[]) \/
  (bx=[[.int .i64 0,.int .u64 0,.sl .nil [],.sl .nil []],[.int .i64 4,.int .u64 0,.sl .nil [],.sl (.own 0) L]]/\fr=[⟨c,4,26⟩]))) (l.length+1) (Lands.mk' (m:=l.length) (Nat.lt_succ_self _) ⟨0,0,[],rfl,rfl,rfl,rfl,.inl ⟨rfl,rfl,rfl⟩⟩ ?_ rfl rfl rfl rfl rfl rfl) ?_
 ·exact .cons rfl (.cons rfl (.cons rfl (.cons rfl (.cons rfl .nil))))
 rintro k' tm bx fr ⟨i,c,L,hi,hc,hL,rfl,⟨rfl,rfl,rfl⟩ | ⟨rfl,rfl⟩⟩
 ·cases l with
  | nil=>exact absurd rfl hne
  | cons y l=>
   have hc:=ih' y (List.mem_cons_self ..)
   have hU:=Zbs (y::l)
   have hd:decide (((0:Nat):Int)<((Zan (y::l)).length:Int))=true:=decide_eq_true (by rw[Zan];simp)
   obtain⟨k1,n1,b1,l1⟩:=y
   repeat'(first|(apply Zaa (hc);kernel_rfl;(iterate 4 exact Z))|(apply Za7 Zab;(iterate 6 exact Z);exact Zag rfl;exact List.cons_ne_nil _ _;exact Z;decide +kernel;decide +kernel;(iterate 3 exact Z))|(apply Zaj Zab;exact Z)|(apply Zah Zab;exact Z)|(apply Zay Zab;exact Z)|(apply Zac;exact Z;exact Qt)|(apply Za0 Zab;(iterate 12 exact Z))|(apply Zap 5 ZaY;decide +kernel;kernel_rfl;kernel_rfl;kernel_rfl;exact Z;exact Z)|(apply Zas;(iterate 4 exact Z))|exact AE.nil _ _ _ _|(apply Zau;exact Z)|(apply ZaA;exact Z;exact Z;decide +kernel;exact Z)|(apply ZaB;exact Z)|exact AO.nil _ _ _|(apply Zar;(decide +kernel))|exact AOs.nil|exact ZaN rfl rfl|exact Zc9 rfl rfl rfl rfl rfl|(apply Zat Zab;(iterate 6 exact Z);(first|exact Qt|rotate_left);(first|with_reducible assumption|decide +kernel|exact Z);(first|exact Zag rfl|with_reducible assumption|decide +kernel|rotate_left)))
   refine Lands.mk' (m:=k'-1) (by simp at hi;omega) ⟨1,1,Zan [It.mk k1 n1 b1 l1],by simp at hi ⊢;omega,rfl,rfl,rfl,.inr ⟨rfl,rfl⟩⟩ ?_ rfl rfl rfl rfl rfl rfl
   exact .cons rfl (.cons rfl (.cons rfl (.cons rfl (.cons rfl .nil))))
 ·have hU:=Zbs l
  have hU2:Uni 4 L:=hL ▸ Zbs (l.take i)
  have el:=Zal (l.take i)
  rw[<- hL]at el
  subst hc
  rcases Nat.lt_or_ge i l.length with hlt|hge
  ·have hd:decide ((i:Int)<((Zan l).length:Int))=true:=decide_eq_true (by omega)
   obtain⟨⟨k1,n1,b1,l1⟩,hy⟩:∃ y,l[i]?=some y:=⟨_,List.getElem?_eq_getElem hlt⟩
   have hv:(Zan l)[((i:Nat):Int).toNat]?=some (.agg [.int .i64 k1,.int .u64 (n1:Int),.sl (b1.map E.byte),.sl (Zan l1)]):=by
    rw[Int.toNat_natCast,Zax,List.getElem?_map,hy];rfl
   have hc:=ih' _ (List.mem_of_getElem? hy)
   have ei:IntKind.i64.wrap ((i:Int)+1)=((i+1:Nat):Int):=by rw[IntWalk.i64_in _ (by omega)];omega
   have hs:L++[E.agg [.int .i64 k1,.int .u64 (n1:Int),.sl (b1.map E.byte),.sl (Zan l1)]]=Zan (l.take (i+1)):=by
    rw[hL,List.take_add_one,hy];exact(Zbz _ [It.mk k1 n1 b1 l1]).symm
   rw[List.length_take]at el
   repeat'(first|(apply Zaa (hc);kernel_rfl;(iterate 4 exact Z))|rw[ei]|(apply Zaj Zab;exact Z)|(apply Zah Zab;exact Z)|(apply Zay Zab;exact Z)|(apply Zac;exact Z;exact Qt)|(apply Za0 Zab;(iterate 12 exact Z))|(apply Zap 5 ZaY;decide +kernel;kernel_rfl;kernel_rfl;kernel_rfl;exact Z;exact Z)|(apply Zas;(iterate 4 exact Z))|exact AE.nil _ _ _ _|(apply Zau;exact Z)|(apply ZaA;exact Z;exact Z;decide +kernel;exact Z)|(apply ZaB;exact Z)|exact AO.nil _ _ _|(apply Zar;(decide +kernel))|exact AOs.nil|exact ZaN rfl rfl|exact Zc9 rfl rfl rfl rfl rfl|(apply ZaI Zab;(iterate 6 exact Z);(first|with_reducible assumption|decide +kernel|exact Z|rotate_left);exact Z;exact Z;(first|exact Zag rfl|with_reducible assumption|decide +kernel|rotate_left);(first|exact Zag rfl|with_reducible assumption|decide +kernel|rotate_left);(first|exact Qt|rotate_left);(first|exact Qt|rotate_left);(first|exact Qt|rotate_left);exact Z;exact Z)|(apply Zat Zab;(iterate 6 exact Z);(first|exact Qt|rotate_left);(first|with_reducible assumption|decide +kernel|exact Z);(first|exact Zag rfl|with_reducible assumption|decide +kernel|rotate_left)))
   ·refine Lands.mk' (m:=k'-1) (by omega) ⟨i+1,L.length+1,_,by omega,by rw[List.length_append];rfl,hs,rfl,.inr ⟨rfl,rfl⟩⟩ ?_ rfl rfl rfl rfl rfl rfl
    exact .cons rfl (.cons rfl (.cons rfl (.cons rfl (.cons rfl .nil))))
   all_goals(first|rfl|(simp only[List.length_append,List.length_cons,List.length_nil,List.length_map,Zal];done)|(simp only[List.length_append,List.length_cons,List.length_nil,List.length_map,Zal]at *;(try unfold maxLen);(try simp only[Nat.add_mul]);omega))
  ·have hd:decide ((i:Int)<((Zan l).length:Int))=false:=decide_eq_false (by omega)
   rw[List.take_of_length_le hge]at hL
   subst hL
   repeat'(first|(apply Zah Zab;exact Z)|(apply Zae;exact Z;exact Qt))
   all_goals(apply ZdS [] [0];(apply Zad Zab;exact Z);(iterate 7 exact Z))
   all_goals rfl
def z0:It:=.mk 0 0 [] []
def Zdh (s:Nat)(l:List It):It:=.mk 4 0 [] (l++[.mk 2 0 (Zdu s (ZaX (ZaK s l))) []])
def Zdf (l:List It)(a:Int):It × Int:=match decide (a<0)||decide (a ≥ (l.length:Int)) with
 | true=>(z0,1)
 | false=>match l.all Zaw&&decide (ZaU l a ≥ 0) with
  | false=>(z0,3)
  | true=>match decide (ZaU l a>0) with
   | false=>(match Zaw (.mk 4 0 [] l) with|true=>(.mk 4 0 [] l,0)|false=>(z0,3))
   | true=>(match Zaw (ZaK (ZaU l a).toNat l) with
    | false=>(z0,3)
    | true=>match Zaw (Zdh (ZaU l a).toNat l) with
     | false=>(z0,3)
     | true=>(Zdh (ZaU l a).toNat l,0))
abbrev ZhW (r:It × Int):D:=.tup [itD r.1,.int .i64 r.2]
theorem ZbO (l:List It)(a:Int):ZaU l a = -1\/((ZaU l a=0\/ZaU l a=1\/ZaU l a=2)/\0<=a/\a<(l.length:Int)):=by
 unfold ZaU
 split
 ·exact .inl rfl
 rename_i h0
 cases h:l[a.toNat]? with
 | none=>exact .inl rfl
 | some x=>
  obtain⟨k,n,b,r⟩:=x
  have hlt:=(List.getElem?_eq_some_iff.1 h).1
  dsimp only
  cases t:decide ((n:Int)>2) with
  | true=>exact .inl rfl
  | false=>
   have:=of_decide_eq_false t
   cases It.beq (.mk k n b r) (.mk 0 n [] []) with
   | false=>exact .inl rfl
   | true=>dsimp only;omega
theorem Zjc {s:Nat}{l:List It}(hs:s=1\/s=2)(hws:wfs l)(hl:l.length<=1000000):wfI (Zdh s l):=by
 refine⟨by decide,by simp,by simp;omega,Zfj hws ⟨⟨by decide,?_,by simp,trivial⟩,trivial⟩⟩
 rw[Zfi _ _ hs]
 omega
theorem Zjd [Known][KnownU8](l:List It)(a:Int)(hws:wfs l)(hl:l.length<=1000000)(hlim:∀ s,s=1\/s=2->(ZaX (ZaK s l)).length<=1000000000):AP Tryd.prog 8 [.sl .ext (Zan l),.int .i64 a] (ZhW (Zdf l a)) []:=by
 have hlen:=Zal l
 have hU:=Zbs l
 have hC:=Zhf l hws hl
 have hT:=Zem l hws a
 unfold Zdf
 rw[<- hlen]
 rcases Int.lt_or_le a 0 with h0|h0
 ·have t1:decide (a<0)=true:=decide_eq_true h0
  rw[t1,Bool.true_or]
  dsimp only[z0]
  refine AP.ofA ?_
  refine Zao Tryd.func8 rfl Tryd.ntmps8 rfl rfl ?_
  repeat'(first|(apply Zaj Zab;exact Z)|(apply Zah Zab;exact Z)|(apply Zay Zab;exact Z)|(apply Zaq;(iterate 3 exact Z);exact Qt)|(apply Zam;exact Z;exact Qt;exact Z;exact Z)|(apply Zac;exact Z;exact Qt))
  all_goals(apply Zaz [];(apply Zad Zab;exact Z);(iterate 4 exact Z))
  all_goals rfl
 have t1:decide (a<0)=false:=decide_eq_false (by omega)
 rw[t1,Bool.false_or]
 cases t2:decide (a ≥ ((Zan l).length:Int)) with
 | true=>
  dsimp only[z0]
  refine AP.ofA ?_
  refine Zao Tryd.func8 rfl Tryd.ntmps8 rfl rfl ?_
  repeat'(first|(apply Zaj Zab;exact Z)|(apply Zah Zab;exact Z)|(apply Zay Zab;exact Z)|(apply Zaf;(iterate 3 exact Z);exact Qt)|(apply Zai;exact Z;exact Qt;exact Z;exact Z)|(apply Zac;exact Z;exact Qt)|(apply Zak Zab;(iterate 4 exact Z)))
  all_goals(apply Zaz [];(apply Zad Zab;exact Z);(iterate 4 exact Z))
  all_goals rfl
 | false=>
 have hne:l ≠ []:=by rintro rfl;have:=of_decide_eq_false t2;simp[Zan]at this;omega
 cases hA:l.all Zaw with
 | false=>
  rw[hA]at hC
  replace hC:AP Tryd.prog 30 _ (.bool true) []:=hC
  rw[Bool.false_and]
  dsimp only[z0]
  generalize ZaU l a=tv at *
  refine AP.ofA ?_
  refine Zao Tryd.func8 rfl Tryd.ntmps8 rfl rfl ?_
  repeat'(first|(apply Zaa (hC);kernel_rfl;(iterate 4 exact Z))|(apply Zaa (hT);kernel_rfl;(iterate 4 exact Z))|(apply Zaj Zab;exact Z)|(apply Zah Zab;exact Z)|(apply Zay Zab;exact Z)|(apply Zaf;(iterate 3 exact Z);exact Qt)|(apply Zaq;(iterate 3 exact Z);exact Qt)|(apply Zam;exact Z;exact Qt;exact Z;exact Z)|(apply Zai;exact Z;exact Qt;exact Z;exact Z)|(apply Zac;exact Z;exact Qt)|(apply Zae;exact Z;exact Qt)|(apply Zak Zab;(iterate 4 exact Z)))
  all_goals(apply Zaz [];(apply Zad Zab;exact Z);(iterate 4 exact Z))
  all_goals rfl
 | true=>
  rw[hA]at hC
  replace hC:AP Tryd.prog 30 _ (.bool false) []:=hC
  rw[Bool.true_and]
  rcases ZbO l a with e|⟨e|e,_,_⟩
  ·rw[e]at hT ⊢
   dsimp only[z0]
   refine AP.ofA ?_
   refine Zao Tryd.func8 rfl Tryd.ntmps8 rfl rfl ?_
   repeat'(first|(apply Zaa (hC);kernel_rfl;(iterate 4 exact Z))|(apply Zaa (hT);kernel_rfl;(iterate 4 exact Z))|(apply Zaj Zab;exact Z)|(apply Zah Zab;exact Z)|(apply Zay Zab;exact Z)|(apply Zaf;(iterate 3 exact Z);exact Qt)|(apply Zai;exact Z;exact Qt;exact Z;exact Z)|(apply Zac;exact Z;exact Qt)|(apply Zae;exact Z;exact Qt)|(apply Zak Zab;(iterate 4 exact Z)))
   all_goals(apply Zaz [];(apply Zad Zab;exact Z);(iterate 4 exact Z))
   all_goals rfl
  ·rw[e]at hT ⊢
   have hL:=Zb9 l (by omega) hws
   have hR:=ZbJ (.mk 4 0 [] l) ⟨by decide,by simp,by omega,hws⟩
   cases hr:Zaw (.mk 4 0 [] l) with
   | false=>
    rw[hr]at hR
    dsimp only[z0]
    refine AP.ofA ?_
    refine Zao Tryd.func8 rfl Tryd.ntmps8 rfl rfl ?_
    repeat'(first|(apply Zaa (hC);kernel_rfl;(iterate 4 exact Z))|(apply Zaa (hT);kernel_rfl;(iterate 4 exact Z))|(apply Zaa (hL);kernel_rfl;(iterate 4 exact Z))|(apply Zaa (hR);kernel_rfl;(iterate 4 exact Z))|(apply Zaj Zab;exact Z)|(apply Zah Zab;exact Z)|(apply Zay Zab;exact Z)|(apply Zaf;(iterate 3 exact Z);exact Qt)|(apply Zai;exact Z;exact Qt;exact Z;exact Z)|(apply Zac;exact Z;exact Qt)|(apply Zae;exact Z;exact Qt)|(apply Zak Zab;(iterate 4 exact Z)))
    all_goals(apply Zaz [];(apply Zad Zab;exact Z);(iterate 4 exact Z))
    all_goals rfl
   | true=>
    rw[hr]at hR
    refine AP.ofA ?_
    refine Zao Tryd.func8 rfl Tryd.ntmps8 rfl rfl ?_
    repeat'(first|(apply Zaa (hC);kernel_rfl;(iterate 4 exact Z))|(apply Zaa (hT);kernel_rfl;(iterate 4 exact Z))|(apply Zaa (hL);kernel_rfl;(iterate 4 exact Z))|(apply Zaa (hR);kernel_rfl;(iterate 4 exact Z))|(apply Zaj Zab;exact Z)|(apply Zah Zab;exact Z)|(apply Zay Zab;exact Z)|(apply Zaf;(iterate 3 exact Z);exact Qt)|(apply Zai;exact Z;exact Qt;exact Z;exact Z)|(apply Zae;exact Z;exact Qt)|(apply Zak Zab;(iterate 4 exact Z)))
    all_goals(apply Zaz [];(apply Zad Zab;exact Z);(iterate 4 exact Z))
    all_goals rfl
  ·obtain⟨s,hs,es⟩:∃ s:Nat,(s=1\/s=2)/\ZaU l a=(s:Int):=⟨(ZaU l a).toNat,by omega,by omega⟩
   rw[es]at hT ⊢
   rw[Int.toNat_natCast]
   have hS:=Zfk l s hs hne hws hl (hlim s hs)
   have hL:=Zkf l hne (by omega) hws
   have hsl:=Zfi s (ZaX (ZaK s l)) hs
   have hB:=ZdT (Zdu s (ZaX (ZaK s l))) (by omega)
   have hR:=ZbJ (Zdh s l) (Zjc hs hws hl)
   have hmx:(Zan l).length<=1000000:=by omega
   have d1:decide ((s:Int)<0)=false:=decide_eq_false (by omega)
   have d2:decide ((s:Int)>0)=true:=decide_eq_true (by omega)
   have d3:decide ((s:Int) ≥ 0)=true:=decide_eq_true (by omega)
   rw[d2,d3]
   cases hz:Zaw (ZaK s l) with
   | false=>
    rw[hz]at hS
    dsimp only[z0]
    dsimp only at hS
    refine AP.ofA ?_
    refine Zao Tryd.func8 rfl Tryd.ntmps8 rfl rfl ?_
    repeat'(first|(apply Zaa (hC);kernel_rfl;(iterate 4 exact Z))|(apply Zaa (hT);kernel_rfl;(iterate 4 exact Z))|(apply ZaO [] [] (hL);kernel_rfl;(iterate 10 exact Z))|(apply Zaa (hS);kernel_rfl;(iterate 4 exact Z))|(apply Zaj Zab;exact Z)|(apply Zah Zab;exact Z)|(apply Zay Zab;exact Z)|(apply Zaf;(iterate 3 exact Z);exact Qt)|(apply Zai;exact Z;exact Qt;exact Z;exact Z)|(apply Zac;exact Z;exact Qt)|(apply Zae;exact Z;exact Qt)|(apply Zak Zab;(iterate 4 exact Z)))
    all_goals(apply Zaz [];(apply Zad Zab;exact Z);(iterate 4 exact Z))
    all_goals rfl
   | true=>
    rw[hz]at hS
    dsimp only at hS ⊢
    have eO:itD (Zdh s l)=.agg [.int .i64 4,.int .u64 0,.sl .ext [],.sl .ext (Zan l++[.agg [.int .i64 2,.int .u64 0,.sl ((Zdu s (ZaX (ZaK s l))).map E.byte),.sl []]])]:=by
     show D.agg [.int .i64 4,.int .u64 0,.sl .ext [],.sl .ext (Zan (l++[.mk 2 0 (Zdu s (ZaX (ZaK s l))) []]))]=_
     rw[Zbz]
     rfl
    cases hr:Zaw (Zdh s l) with
    | false=>
     rw[hr,eO]at hR
     dsimp only[z0]
     generalize Zdu s (ZaX (ZaK s l))=SB at *
     refine AP.ofA ?_
     refine Zao Tryd.func8 rfl Tryd.ntmps8 rfl rfl ?_
     repeat'(first|(apply Zaa (hC);kernel_rfl;(iterate 4 exact Z))|(apply Zaa (hT);kernel_rfl;(iterate 4 exact Z))|(apply ZaO [] [] (hL);kernel_rfl;(iterate 10 exact Z))|(apply Zaa (hS);kernel_rfl;(iterate 4 exact Z))|(apply Zaa (hB);kernel_rfl;(iterate 4 exact Z))|(apply Zaa (hR);kernel_rfl;(iterate 4 exact Z))|(apply Zaj Zab;exact Z)|(apply Zah Zab;exact Z)|(apply Zay Zab;exact Z)|(apply Zaf;(iterate 3 exact Z);exact Qt)|(apply Zai;exact Z;exact Qt;exact Z;exact Z)|(apply Zac;exact Z;exact Qt)|(apply Zae;exact Z;exact Qt)|(apply Zak Zab;(iterate 4 exact Z))|(apply Za0 Zab;(iterate 12 exact Z))|(apply Zap 5 ZaY;decide +kernel;kernel_rfl;kernel_rfl;kernel_rfl;exact Z;exact Z)|(apply Zas;(iterate 4 exact Z))|exact AE.nil _ _ _ _|(apply Zau;exact Z)|(apply ZaA;exact Z;exact Z;decide +kernel;exact Z)|(apply ZaB;exact Z)|exact AO.nil _ _ _|(apply Zar;(decide +kernel))|exact AOs.nil|exact ZaN rfl rfl|exact Zc9 rfl rfl rfl rfl rfl|(apply ZaI Zab;(iterate 6 exact Z);(first|with_reducible assumption|decide +kernel|exact Z|rotate_left);exact Z;exact Z;(first|exact Zag rfl|with_reducible assumption|decide +kernel|rotate_left);(first|exact Zag rfl|with_reducible assumption|decide +kernel|rotate_left);(first|exact Qt|rotate_left);(first|exact Qt|rotate_left);(first|exact Qt|rotate_left);exact Z;exact Z))
     all_goals first|((apply Zaz [];(apply Zad Zab;exact Z);(iterate 4 exact Z)))|skip
     all_goals first|rfl|(first|rfl|(simp only[List.length_append,List.length_cons,List.length_nil,List.length_map,Zal];done)|(simp only[List.length_append,List.length_cons,List.length_nil,List.length_map,Zal]at *;(try unfold maxLen);(try simp only[Nat.add_mul]);omega))|(simp;done)|(simp;omega)|(simp;unfold maxLen;omega)
    | true=>
     rw[hr,eO]at hR
     dsimp only[ZhW]
     rw[eO]
     generalize Zdu s (ZaX (ZaK s l))=SB at *
     refine AP.ofA ?_
     refine Zao Tryd.func8 rfl Tryd.ntmps8 rfl rfl ?_
     repeat'(first|(apply Zaa (hC);kernel_rfl;(iterate 4 exact Z))|(apply Zaa (hT);kernel_rfl;(iterate 4 exact Z))|(apply ZaO [] [] (hL);kernel_rfl;(iterate 10 exact Z))|(apply Zaa (hS);kernel_rfl;(iterate 4 exact Z))|(apply Zaa (hB);kernel_rfl;(iterate 4 exact Z))|(apply Zaa (hR);kernel_rfl;(iterate 4 exact Z))|(apply Zaj Zab;exact Z)|(apply Zah Zab;exact Z)|(apply Zay Zab;exact Z)|(apply Zaf;(iterate 3 exact Z);exact Qt)|(apply Zai;exact Z;exact Qt;exact Z;exact Z)|(apply Zac;exact Z;exact Qt)|(apply Zae;exact Z;exact Qt)|(apply Zak Zab;(iterate 4 exact Z))|(apply Za0 Zab;(iterate 12 exact Z))|(apply Zap 5 ZaY;decide +kernel;kernel_rfl;kernel_rfl;kernel_rfl;exact Z;exact Z)|(apply Zas;(iterate 4 exact Z))|exact AE.nil _ _ _ _|(apply Zau;exact Z)|(apply ZaA;exact Z;exact Z;decide +kernel;exact Z)|(apply ZaB;exact Z)|exact AO.nil _ _ _|(apply Zar;(decide +kernel))|exact AOs.nil|exact ZaN rfl rfl|exact Zc9 rfl rfl rfl rfl rfl|(apply ZaI Zab;(iterate 6 exact Z);(first|with_reducible assumption|decide +kernel|exact Z|rotate_left);exact Z;exact Z;(first|exact Zag rfl|with_reducible assumption|decide +kernel|rotate_left);(first|exact Zag rfl|with_reducible assumption|decide +kernel|rotate_left);(first|exact Qt|rotate_left);(first|exact Qt|rotate_left);(first|exact Qt|rotate_left);exact Z;exact Z))
     all_goals first|((apply Zaz [];(apply Zad Zab;exact Z);(iterate 4 exact Z)))|skip
     all_goals first|rfl|(first|rfl|(simp only[List.length_append,List.length_cons,List.length_nil,List.length_map,Zal];done)|(simp only[List.length_append,List.length_cons,List.length_nil,List.length_map,Zal]at *;(try unfold maxLen);(try simp only[Nat.add_mul]);omega))|(simp;done)|(simp;omega)|(simp;unfold maxLen;omega)
def Zbx (l:List It)(s:Nat):It × Bool:=match s with
 | 0=>(.mk 4 0 [] l,Zaw (.mk 4 0 [] l))
 | s+1=>match Zaw (ZaK (s+1) l) with
  | true=>(Zdh (s+1) l,true)
  | false=>(z0,false)
theorem ZeW (z:Nat):IntKind.u8.wrap (((z:Nat):Int).tmod 256)=((z % 256:Nat):Int):=by
 rw[Int.tmod_eq_emod_of_nonneg (Int.natCast_nonneg _),IntKind.wrap_u8];omega
theorem ZeX (z:Nat)(h:z<4294967296):IntKind.u32.wrap (((z:Nat):Int).tdiv 256)=((z/256:Nat):Int):=by
 rw[Int.tdiv_eq_ediv_of_nonneg (Int.natCast_nonneg _),IntKind.wrap_u32];omega
theorem Zlt (b:List UInt8):∃ z:Nat,z<65536/\Zdt b=(z:Int)/\[E.int .u8 ((z/256 % 256:Nat):Int),E.int .u8 ((z % 256:Nat):Int)]=(Zdu 1 b).map E.byte:=by
 obtain⟨h1,h2⟩:=Zf1 b
 generalize (65535 ^^^ ruN 33800 65535 (b.map UInt8.toNat))=z at *
 refine⟨z,h2,h1,?_⟩
 rw[ZiZ]
 unfold Zmz shU
 rw[if_pos rfl,h1,show min (8:Int).toNat IntKind.u16.bits=8 from rfl,Int.fdiv_eq_ediv_of_nonneg _ (by decide),IntKind.wrap_u8,IntKind.wrap_u8]
 have e1:((z/256 % 256:Nat):Int)=(z:Int)/2 ^ 8 % 256:=by omega
 have e2:((z % 256:Nat):Int)=(z:Int) % 256:=by omega
 rw[e1,e2]
theorem Zlu (b:List UInt8):∃ z:Nat,z<4294967296/\ZdA b=(z:Int)/\[E.int .u8 ((z/256/256/256 % 256:Nat):Int),E.int .u8 ((z/256/256 % 256:Nat):Int),E.int .u8 ((z/256 % 256:Nat):Int),E.int .u8 ((z % 256:Nat):Int)]=(Zdu 2 b).map E.byte:=by
 obtain⟨h1,h2⟩:=Zhn b
 generalize (4294967295 ^^^ ruN 2197175160 4294967295 (b.map UInt8.toNat))=z at *
 refine⟨z,h2,h1,?_⟩
 rw[ZiZ]
 unfold Zmz shU
 rw[if_neg (by decide),h1,show min (24:Int).toNat IntKind.u32.bits=24 from rfl,show min (16:Int).toNat IntKind.u32.bits=16 from rfl,show min (8:Int).toNat IntKind.u32.bits=8 from rfl,Int.fdiv_eq_ediv_of_nonneg _ (by decide),Int.fdiv_eq_ediv_of_nonneg _ (by decide),Int.fdiv_eq_ediv_of_nonneg _ (by decide),IntKind.wrap_u8,IntKind.wrap_u8,IntKind.wrap_u8,IntKind.wrap_u8]
 have e1:((z/256/256/256 % 256:Nat):Int)=(z:Int)/2 ^ 24 % 256:=by omega
 have e2:((z/256/256 % 256:Nat):Int)=(z:Int)/2 ^ 16 % 256:=by omega
 have e3:((z/256 % 256:Nat):Int)=(z:Int)/2 ^ 8 % 256:=by omega
 have e4:((z % 256:Nat):Int)=(z:Int) % 256:=by omega
 rw[e1,e2,e3,e4]
theorem ZeY [Known][KnownU8](l:List It)(s:Nat)(hs:s<=2)(hws:wfs l)(hl:l.length<=1000000)(hsz:Za6 l<=900)(hlim:(ZaX (ZaK s l)).length<=1000000000) :
  AP Tryd.prog 35 [.sl .ext (Zan l),.int .i64 (s:Int)] (.tup [itD (Zbx l s).1,.bool (Zbx l s).2]) []:=by
 have hlen:=Zal l
 have hL:=Zf9 (Zan l)
 unfold Zbx
 match s,hs with
 | 0,_=>
  have hw:wfI (.mk 4 0 [] l):=⟨by decide,by simp,by omega,hws⟩
  have hR:=ZcV (.mk 4 0 [] l) hw (by rw[Zbq];omega)
  dsimp only
  generalize Zaw (.mk 4 0 [] l)=R at *
  replace hR:AP Tryd.prog 39 [.agg [.int .i64 4,.int .u64 0,.sl .ext [],.sl .ext (Zan l)]] (.bool R) []:=hR
  show AP Tryd.prog _ _ (.tup [.agg [.int .i64 4,.int .u64 0,.sl .ext [],.sl .ext (Zan l)],.bool R]) []
  refine AP.ofA ?_
  refine Zao Tryd.func35 rfl Tryd.ntmps35 rfl rfl ?_
  repeat'(first|(apply Zaa (hL);kernel_rfl;(iterate 4 exact Z))|(apply Zaa (hR);kernel_rfl;(iterate 4 exact Z))|(apply Zaj Zab;exact Z)|(apply Zah Zab;exact Z)|(apply Zac;exact Z;exact Qt))
  all_goals(apply Zaz [];(apply Zad Zab;exact Z);(iterate 4 exact Z))
  all_goals rfl
 | s+1,hs=>
  have hs':s+1=1\/s+1=2:=by omega
  have hwz:=Zi0 hs' hws hl
  have hszz:Zbq (ZaK (s+1) l)<=1000:=by
   have h:∀(l r:List It),Za6 (l++r)=Za6 l+Za6 r:=fun l r=>by
    induction l with
    | nil=>simp[Za6]
    | cons x l ih=>rw[List.cons_append,Za6,ih,Za6];omega
   unfold ZaK
   simp only[Zbq,h,Za6]
   omega
  have hR:=ZcV (ZaK (s+1) l) hwz hszz
  have hW1:=Zhx l (by omega) (List.replicate (2*(s+1)) (.int .u8 0))
  have eZ:itD (ZaK (s+1) l)=.agg [.int .i64 4,.int .u64 0,.sl .ext [],.sl .ext (Zan l++[.agg [.int .i64 2,.int .u64 0,.sl (List.replicate (2*(s+1)) (.int .u8 0)),.sl []]])]:=by
   unfold ZaK
   show D.agg [.int .i64 4,.int .u64 0,.sl .ext [],.sl .ext (Zan (l++[.mk 2 0 (List.replicate (2*(s+1)) 0) []]))]=_
   rw[Zbz]
   have:(List.replicate (2*(s+1)) (0:UInt8)).map E.byte=List.replicate (2*(s+1)) (.int .u8 0):=by rw[List.map_replicate];rfl
   show D.agg [.int .i64 4,.int .u64 0,.sl .ext [],.sl .ext (Zan l++[.agg [.int .i64 2,.int .u64 0,.sl ((List.replicate (2*(s+1)) (0:UInt8)).map E.byte),.sl []]])]=_
   rw[this]
  rw[eZ]at hR
  dsimp only
  cases hr:Zaw (ZaK (s+1) l) with
  | false=>
   rw[hr]at hR
   clear hszz hwz hlim eZ hr
   generalize Zan l=L at *
   obtain rfl|rfl:s=0\/s=1:=by omega
   all_goals
    refine AP.ofA ?_
    refine Zao Tryd.func35 rfl Tryd.ntmps35 rfl rfl ?_
    repeat'(first|(apply Zcj Zab (l:=2);(iterate 12 exact Z))|(apply Zcj Zab (l:=4);(iterate 12 exact Z))|(apply Zaa (hW1);kernel_rfl;(iterate 4 exact Z))|(apply Zaa (hR);kernel_rfl;(iterate 4 exact Z))|(apply Zaj Zab;exact Z)|(apply Zah Zab;exact Z)|(apply Zay Zab;exact Z)|(apply Zac;exact Z;exact Qt)|(apply Zae;exact Z;exact Qt))
    all_goals(apply Zaz [];(apply Zad Zab;exact Z);(iterate 4 exact Z))
    all_goals rfl
  | true=>
   rw[hr]at hR
   have hf:Zbw (ZaK (s+1) l)=true:=by
    have:=hr
    rw[ZbR]at this
    simp only[Bool.and_eq_true]at this
    exact this.2.2
   have hP:=Zjb (ZaK (s+1) l) hwz hf (by omega)
   rw[eZ]at hP
   have hSh:=Zi4 (ZaX (ZaK (s+1) l)) (by omega)
   have hLo:=Zka (ZaX (ZaK (s+1) l)) (by omega)
   have eO:itD (Zdh (s+1) l)=.agg [.int .i64 4,.int .u64 0,.sl .ext [],.sl .ext (Zan l++[.agg [.int .i64 2,.int .u64 0,.sl ((Zdu (s+1) (ZaX (ZaK (s+1) l))).map E.byte),.sl []]])]:=by
    unfold Zdh
    show D.agg [.int .i64 4,.int .u64 0,.sl .ext [],.sl .ext (Zan (l++[.mk 2 0 (Zdu (s+1) (ZaX (ZaK (s+1) l))) []]))]=_
    rw[Zbz]
    rfl
   dsimp only
   rw[eO]
   have hW2:=Zhx l (by omega) ((Zdu (s+1) (ZaX (ZaK (s+1) l))).map E.byte)
   generalize ZaX (ZaK (s+1) l)=P at *
   clear hszz hwz hlim eZ hr hf eO
   obtain⟨z1,hz1,es1,ec1⟩:=Zlt P
   obtain⟨z2,hz2,es2,ec2⟩:=Zlu P
   rw[es1]at hSh
   rw[es2]at hLo
   have w1:IntKind.u32.wrap (z1:Int)=(z1:Int):=IntWalk.u32_in _ (by omega)
   generalize Zan l=L at *
   obtain rfl|rfl:s=0\/s=1:=by omega
   ·rw[show(0+1:Nat)=1 from rfl,<- ec1]at hW2 ⊢
    have r0:=ZeW z1
    have q0:=ZeX z1 (by omega)
    have r1:=ZeW (z1/256)
    have q1:=ZeX (z1/256) (by omega)
    refine AP.ofA ?_
    refine Zao Tryd.func35 rfl Tryd.ntmps35 rfl rfl ?_
    repeat'(first|(apply Zcj Zab (l:=2);(iterate 12 exact Z))|(apply Zaa (hW1);kernel_rfl;(iterate 4 exact Z))|(apply Zaa (hW2);kernel_rfl;(iterate 4 exact Z))|(apply Zaa (hR);kernel_rfl;(iterate 4 exact Z))|(apply Zaa (hP);kernel_rfl;(iterate 4 exact Z))|(apply Zaa (hSh);kernel_rfl;(iterate 4 exact Z))|rw[w1]|rw[r0]|rw[q0]|rw[r1]|rw[q1]|refine Za9 20 ?_|refine Zbk ?_|(apply ZbN Zab;(iterate 11 exact Z);exact Zag rfl;exact Zag rfl;exact List.cons_ne_nil _ _;decide +kernel;decide +kernel;exact Z;exact Z)|(apply Zaj Zab;exact Z)|(apply Zah Zab;exact Z)|(apply Zay Zab;exact Z)|(apply Zac;exact Z;exact Qt)|(apply Zae;exact Z;exact Qt)|(apply Za0 Zab;(iterate 12 exact Z))|(apply ZaE Zab;(iterate 6 exact Z))|(apply ZeH;exact Z;exact Z;(first|exact Qt|rotate_left);exact Z)|(apply ZeI;exact Z;exact Z;(first|exact Qt|rotate_left);exact Z))
    all_goals(apply Zaz [];(apply Zad Zab;exact Z);(iterate 4 exact Z))
    all_goals rfl
   ·rw[show(1+1:Nat)=2 from rfl,<- ec2]at hW2 ⊢
    have r0:=ZeW z2
    have q0:=ZeX z2 (by omega)
    have r1:=ZeW (z2/256)
    have q1:=ZeX (z2/256) (by omega)
    have r2:=ZeW (z2/256/256)
    have q2:=ZeX (z2/256/256) (by omega)
    have r3:=ZeW (z2/256/256/256)
    have q3:=ZeX (z2/256/256/256) (by omega)
    refine AP.ofA ?_
    refine Zao Tryd.func35 rfl Tryd.ntmps35 rfl rfl ?_
    repeat'(first|(apply Zcj Zab (l:=4);(iterate 12 exact Z))|(apply Zaa (hW1);kernel_rfl;(iterate 4 exact Z))|(apply Zaa (hW2);kernel_rfl;(iterate 4 exact Z))|(apply Zaa (hR);kernel_rfl;(iterate 4 exact Z))|(apply Zaa (hP);kernel_rfl;(iterate 4 exact Z))|(apply Zaa (hSh);kernel_rfl;(iterate 4 exact Z))|(apply Zaa (hLo);kernel_rfl;(iterate 4 exact Z))|rw[w1]|rw[r0]|rw[q0]|rw[r1]|rw[q1]|rw[r2]|rw[q2]|rw[r3]|rw[q3]|refine Za9 20 ?_|refine Zbk ?_|(apply ZbN Zab;(iterate 11 exact Z);exact Zag rfl;exact Zag rfl;exact List.cons_ne_nil _ _;decide +kernel;decide +kernel;exact Z;exact Z)|(apply Zaj Zab;exact Z)|(apply Zah Zab;exact Z)|(apply Zay Zab;exact Z)|(apply Zac;exact Z;exact Qt)|(apply Zae;exact Z;exact Qt)|(apply Za0 Zab;(iterate 12 exact Z))|(apply ZaE Zab;(iterate 6 exact Z))|(apply ZeH;exact Z;exact Z;(first|exact Qt|rotate_left);exact Z)|(apply ZeI;exact Z;exact Z;(first|exact Qt|rotate_left);exact Z))
    all_goals(apply Zaz [];(apply Zad Zab;exact Z);(iterate 4 exact Z))
    all_goals rfl
end Go.Proofs.YtakblclkflnnpaaDoor
end

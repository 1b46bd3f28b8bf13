/- Package eid: an item's name: numbers; all items. -/
import Derived.Test.YtakblclkflnnpaaDoorG26
import Derived.Test.YtakblclkflnnpaaDoorG24
import Derived.Test.YtakblclkflnnpaaDoorG18
import Derived.Test.YtakblclkflnnpaaDoorG15
import Derived.Test.YtakblclkflnnpaaDoorG09
import Derived.Test.YtakblclkflnnpaaDoorG11
import Derived.Test.YtakblclkflnnpaaDoorG10
set_option linter.unusedVariables false
set_option linter.unusedSimpArgs false
section
open Go.RowKit Go.Pl Go.Av
namespace Go.Proofs.YtakblclkflnnpaaDoor
set_option maxHeartbeats 4000000
theorem Zml [Known][KnownU8](n:Nat)(b:List UInt8)(s r:It)(hw:wfI (.mk 4 n b [s,r]))(hr:Zaw (.mk 4 n b [s,r])=true)(h1:Zdx 1 s=false):AP Tryd.prog 53 [itD (.mk 4 n b [s,r])] (ZlL (Ze3 s r)) []:=by
 have hR:=ZbJ _ hw
 rw[hr]at hR
 obtain⟨_,_,_,hws,hwr,_⟩:=hw
 have hS1:=ZcD s hws 1 (by omega)
 have hS2:=ZcD s hws 2 (by omega)
 have hN:=ZlB r hwr
 have n1:=Zdg 1
 have n2:=Zdg 2
 replace n1:AP Tryd.prog _ [.int .u64 1] (.agg [.int .i64 0,.int .u64 1,.sl .ext [],.sl .ext []]) []:=n1
 replace n2:AP Tryd.prog _ [.int .u64 2] (.agg [.int .i64 0,.int .u64 2,.sl .ext [],.sl .ext []]) []:=n2
 rw[h1]at hS1
 have hU:=Zbs [s,r]
 unfold Ze3
 rw[h1]
 dsimp only
 obtain⟨ks,ns,bs,ls⟩:=s
 obtain⟨kr,nr,br,lr⟩:=r
 have t2:(((Zan [It.mk ks ns bs ls,It.mk kr nr br lr]).length:Int) != 2)=false:=rfl
 cases h2:Zdx 2 (.mk ks ns bs ls) with
 | false=>
  rw[h2]at hS2
  show AP Tryd.prog _ _ (.tup [.agg [.bool false,.int .u64 0,.int .u64 0,.str [],.str []],.int .i64 3]) []
  refine AP.ofA ?_
  refine Zao Tryd.func53 rfl Tryd.ntmps53 rfl rfl ?_
  repeat'(first|(apply Zc6 11 Zab ZaY;decide +kernel;kernel_rfl;kernel_rfl;kernel_rfl;exact Z;exact Z)|exact AV.nil _ _|(apply Zh1;exact Z;exact Z)|(apply Zh2;(iterate 4 exact Z))|(apply Zh0;(iterate 4 exact Z))|(apply Ze2;(iterate 4 exact Z))|(apply Zaa (hR);kernel_rfl;(iterate 4 exact Z))|(apply Zaa (hS1);kernel_rfl;(iterate 4 exact Z))|(apply Zaa (hS2);kernel_rfl;(iterate 4 exact Z))|(apply Zaa (n1);kernel_rfl;(iterate 4 exact Z))|(apply Zaa (n2);kernel_rfl;(iterate 4 exact Z))|(apply Zaj Zab;exact Z)|(apply Zah Zab;exact Z)|(apply Zay Zab;exact Z)|(apply Zaf;(iterate 3 exact Z);exact Qt)|(apply Zav;(iterate 3 exact Z);exact Qt)|(apply Zai;exact Z;exact Qt;exact Z;exact Z)|(apply Zac;exact Z;exact Qt)|(apply Zae;exact Z;exact Qt)|(apply Zak Zab;(iterate 4 exact Z))|(apply Zap 2 ZaY;decide +kernel;kernel_rfl;kernel_rfl;kernel_rfl;exact Z;exact Z)|(apply Zap 6 ZaY;decide +kernel;kernel_rfl;kernel_rfl;kernel_rfl;exact Z;exact Z)|(apply Zas;(iterate 4 exact Z))|exact AE.nil _ _ _ _|(apply Zau;exact Z)|(apply ZaA;exact Z;exact Z;decide +kernel;exact Z)|(apply ZaB;exact Z)|exact AO.nil _ _ _|(apply Zar;(decide +kernel))|exact AOs.nil|exact ZaN rfl rfl|(apply Zat Zab;(iterate 6 exact Z);(first|exact Qt|rotate_left);(first|with_reducible assumption|decide +kernel|exact Z);(first|exact Zag rfl|with_reducible assumption|decide +kernel|rotate_left)))
  all_goals(apply Zaz [];(apply Zad Zab;exact Z);(iterate 4 exact Z))
  all_goals rfl
 | true=>
  rw[h2]at hS2
  dsimp only
  cases hq:Zgf (.mk kr nr br lr) with
  | none=>
   rw[hq]at hN
   replace hN:AP Tryd.prog _ _ (.tup [.sl .ext [],.bool false]) []:=hN
   show AP Tryd.prog _ _ (.tup [.agg [.bool false,.int .u64 0,.int .u64 0,.str [],.str []],.int .i64 3]) []
   refine AP.ofA ?_
   refine Zao Tryd.func53 rfl Tryd.ntmps53 rfl rfl ?_
   repeat'(first|(apply Zc6 11 Zab ZaY;decide +kernel;kernel_rfl;kernel_rfl;kernel_rfl;exact Z;exact Z)|exact AV.nil _ _|(apply Zh1;exact Z;exact Z)|(apply Zh2;(iterate 4 exact Z))|(apply Zh0;(iterate 4 exact Z))|(apply Ze2;(iterate 4 exact Z))|(apply Zaa (hR);kernel_rfl;(iterate 4 exact Z))|(apply Zaa (hS1);kernel_rfl;(iterate 4 exact Z))|(apply Zaa (hS2);kernel_rfl;(iterate 4 exact Z))|(apply Zaa (n1);kernel_rfl;(iterate 4 exact Z))|(apply Zaa (n2);kernel_rfl;(iterate 4 exact Z))|(apply Zaa (hN);kernel_rfl;(iterate 4 exact Z))|(apply Zaj Zab;exact Z)|(apply Zah Zab;exact Z)|(apply Zay Zab;exact Z)|(apply Zaf;(iterate 3 exact Z);exact Qt)|(apply Zav;(iterate 3 exact Z);exact Qt)|(apply Zai;exact Z;exact Qt;exact Z;exact Z)|(apply Zac;exact Z;exact Qt)|(apply Zae;exact Z;exact Qt)|(apply Zak Zab;(iterate 4 exact Z))|(apply Zap 2 ZaY;decide +kernel;kernel_rfl;kernel_rfl;kernel_rfl;exact Z;exact Z)|(apply Zap 6 ZaY;decide +kernel;kernel_rfl;kernel_rfl;kernel_rfl;exact Z;exact Z)|(apply Zas;(iterate 4 exact Z))|exact AE.nil _ _ _ _|(apply Zau;exact Z)|(apply ZaA;exact Z;exact Z;decide +kernel;exact Z)|(apply ZaB;exact Z)|exact AO.nil _ _ _|(apply Zar;(decide +kernel))|exact AOs.nil|exact ZaN rfl rfl|(apply Zat Zab;(iterate 6 exact Z);(first|exact Qt|rotate_left);(first|with_reducible assumption|decide +kernel|exact Z);(first|exact Zag rfl|with_reducible assumption|decide +kernel|rotate_left)))
   all_goals(apply Zaz [];(apply Zad Zab;exact Z);(iterate 4 exact Z))
   all_goals rfl
  | some ac=>
   obtain⟨a,c⟩:=ac
   rw[hq]at hN
   replace hN:AP Tryd.prog _ _ (.tup [.sl .ext [.int .u64 (a:Int),.int .u64 (c:Int)],.bool true]) []:=hN
   have hE:=Zcu ⟨true,a,c,[],[]⟩
   dsimp only
   generalize Zbh ⟨true,a,c,[],[]⟩=R at *
   replace hE:AP Tryd.prog _ [.agg [.bool true,.int .u64 (a:Int),.int .u64 (c:Int),.str [],.str []]] (.bool R) []:=hE
   cases R
   all_goals
    refine AP.ofA ?_
    refine Zao Tryd.func53 rfl Tryd.ntmps53 rfl rfl ?_
    repeat'(first|(apply Zc6 11 Zab ZaY;decide +kernel;kernel_rfl;kernel_rfl;kernel_rfl;exact Z;exact Z)|exact AV.nil _ _|(apply Zh1;exact Z;exact Z)|(apply Zh2;(iterate 4 exact Z))|(apply Zh0;(iterate 4 exact Z))|(apply Ze2;(iterate 4 exact Z))|(apply Zaa (hR);kernel_rfl;(iterate 4 exact Z))|(apply Zaa (hS1);kernel_rfl;(iterate 4 exact Z))|(apply Zaa (hS2);kernel_rfl;(iterate 4 exact Z))|(apply Zaa (n1);kernel_rfl;(iterate 4 exact Z))|(apply Zaa (n2);kernel_rfl;(iterate 4 exact Z))|(apply Zaa (hN);kernel_rfl;(iterate 4 exact Z))|(apply Zaa (hE);kernel_rfl;(iterate 4 exact Z))|(apply Zaj Zab;exact Z)|(apply Zah Zab;exact Z)|(apply Zay Zab;exact Z)|(apply Zaf;(iterate 3 exact Z);exact Qt)|(apply Zav;(iterate 3 exact Z);exact Qt)|(apply Zai;exact Z;exact Qt;exact Z;exact Z)|(apply Zac;exact Z;exact Qt)|(apply Zae;exact Z;exact Qt)|(apply Zak Zab;(iterate 4 exact Z))|(apply Zap 2 ZaY;decide +kernel;kernel_rfl;kernel_rfl;kernel_rfl;exact Z;exact Z)|(apply Zap 6 ZaY;decide +kernel;kernel_rfl;kernel_rfl;kernel_rfl;exact Z;exact Z)|(apply Zas;(iterate 4 exact Z))|exact AE.nil _ _ _ _|(apply Zau;exact Z)|(apply ZaA;exact Z;exact Z;decide +kernel;exact Z)|(apply ZaB;exact Z)|exact AO.nil _ _ _|(apply Zar;(decide +kernel))|exact AOs.nil|exact ZaN rfl rfl|(apply Zat Zab;(iterate 6 exact Z);(first|exact Qt|rotate_left);(first|with_reducible assumption|decide +kernel|exact Z);(first|exact Zag rfl|with_reducible assumption|decide +kernel|rotate_left)))
    all_goals(apply Zaz [];(apply Zad Zab;exact Z);(iterate 4 exact Z))
    all_goals rfl
theorem Zfq [Known][KnownU8](x:It)(hw:wfI x):AP Tryd.prog 53 [itD x] (ZlL (ZbS x)) []:=by
 cases hr:Zaw x with
 | false=>
  have e:ZbS x=(ZcM,false):=by unfold ZbS;rw[hr]
  rw[e]
  exact Zgg x hw (.inl hr)
 | true=>
  obtain⟨k,n,b,l⟩:=x
  by_cases hk:k=4
  ·subst hk
   match l,hw,hr with
   | [s,r],hw,hr=>
    have e:ZbS (.mk 4 n b [s,r])=Ze3 s r:=by unfold ZbS;rw[hr];dsimp only;rw[if_pos rfl]
    rw[e]
    cases h1:Zdx 1 s with
    | true=>exact Zmk n b s r hw hr h1
    | false=>exact Zml n b s r hw hr h1
   | [],hw,hr=>
    have e:ZbS (.mk 4 n b [])=(ZcM,false):=by unfold ZbS;rw[hr]
    rw[e];exact Zgg _ hw (.inr (.inr (by simp[It.l])))
   | [s],hw,hr=>
    have e:ZbS (.mk 4 n b [s])=(ZcM,false):=by unfold ZbS;rw[hr]
    rw[e];exact Zgg _ hw (.inr (.inr (by simp[It.l])))
   | s::r::y::l,hw,hr=>
    have e:ZbS (.mk 4 n b (s::r::y::l))=(ZcM,false):=by unfold ZbS;rw[hr]
    rw[e];exact Zgg _ hw (.inr (.inr (by simp[It.l])))
  ·have e:ZbS (.mk k n b l)=(ZcM,false):=by
    unfold ZbS;rw[hr]
    match l with
    | [s,r]=>dsimp only;rw[if_neg hk]
    | []=>rfl
    | [s]=>rfl
    | s::r::y::l=>rfl
   rw[e]
   exact Zgg _ hw (.inr (.inl hk))
structure BlkV where
 ty:Nat
 num:Nat
 fl:Nat
 sum:Int
 data:List UInt8
abbrev ZmB (n m:Nat):It:=.mk 4 0 [] [.mk 0 n [] [],.mk 0 m [] []]
theorem ZhB (x:It)(a:Int):∀ y ∈ (ZdO x a).1,y ∈ x.l:=by
 obtain⟨k,n,b,l⟩:=x
 unfold ZdO
 dsimp only[It.l]
 have hs:∀(m:Nat) (y:It),y ∈ l.take m->y ∈ l:=fun m y h=>List.mem_of_mem_take h
 repeat' split
 all_goals first|exact hs _|(intro y h;exact h)|(intro y h;exact absurd h (by simp))
theorem Zmm:wfI z0:=⟨by decide,by simp,by simp,trivial⟩
theorem ZlC (s:Nat){l:List It}(hws:wfs l)(hl:l.length<=1000000):wfI (Zdh s l):=by
 refine⟨by decide,by simp,by simp;omega,Zfj hws ⟨⟨by decide,?_,by simp,trivial⟩,trivial⟩⟩
 have:(Zdu s (ZaX (ZaK s l))).length<=4:=by
  unfold Zdu
  split<;>simp
 omega
theorem Zjn {l:List It}(a:Int)(hws:wfs l)(hl:l.length<=1000000):wfI (Zdf l a).1:=by
 unfold Zdf
 have h0:wfI (.mk 4 0 [] l):=⟨by decide,by simp,by omega,hws⟩
 repeat' split
 all_goals first|exact Zmm|exact h0|exact ZlC _ hws hl
theorem Zjo [Known](l:List It)(hws:wfs l)(hl:l.length<=1000000)(hd:ZbA l 10=true):AP Tryd.prog 10 [.sl .ext (Zan l)] (.sl .ext (Zan l)) []:=by
 have ih':∀ y ∈ l,AP Tryd.prog 13 [itD y,.int .i64 9] (itD y) []:=fun y hy=>Zkd y (ZaM hws y hy) 9 (Zca hd y hy) (by omega)
 have hlen:=Zal l
 refine AP.ofA ?_
 refine Zao Tryd.func10 rfl Tryd.ntmps10 rfl rfl ?_
 repeat'(first|(apply Zah Zab;exact Z))
 refine ZaC (fun k' tm bx fr=>∃(i c:Nat) (L:List E) (f0:Fr),k'+i=l.length/\c=L.length/\L=Zan (l.take i)/\bx=[] /\
  ((i=0/\tm=[(0,.sl .ext (Zan l)),(3,.sl .nil []),(4,.int .i64 (i:Int))]/\fr=[]) \/
  (tm=[(0,.sl .ext (Zan l)),(3,.sl (.own 1) L),(4,.int .i64 (i:Int))]/\fr=[f0,⟨c,4,34⟩]))) (l.length+1) (Lands.mk' (m:=l.length) (Nat.lt_succ_self _) ⟨0,0,[],default,rfl,rfl,rfl,rfl,.inl ⟨rfl,rfl,rfl⟩⟩ ?_ rfl rfl rfl rfl rfl rfl) ?_
 ·exact .cons rfl (.cons rfl (.cons rfl .nil))
 rintro k' tm bx fr ⟨i,c,L,f0,hi,hc,hL,rfl,⟨rfl,rfl,rfl⟩ | ⟨rfl,rfl⟩⟩
 ·cases l with
  | nil=>
   repeat'(first|(apply Zaj Zab;exact Z)|(apply Zah Zab;exact Z)|(apply Zay Zab;exact Z)|(apply Zae;exact Z;(first|with_reducible assumption|decide +kernel|(solve|simp only[bn])))|(apply Zak Zab;(iterate 4 exact Z)))
   all_goals(apply Zaz [];(apply Zad Zab;exact Z);(iterate 4 exact Z))
   all_goals rfl
  | cons y l=>
   have hc:=ih' y (List.mem_cons_self ..)
   have hU:=Zbs (y::l)
   have hd1:decide (((0:Nat):Int)<((Zan (y::l)).length:Int))=true:=decide_eq_true (by rw[Zan];simp)
   obtain⟨k1,n1,b1,l1⟩:=y
   repeat'(first|(apply Zaa (hc);kernel_rfl;(iterate 4 exact Z))|(apply Za7 Zab;(iterate 6 exact Z);exact Zag rfl;exact List.cons_ne_nil _ _;exact Z;decide +kernel;decide +kernel;(iterate 3 exact Z))|(apply Zaj Zab;exact Z)|(apply Zah Zab;exact Z)|(apply Zay Zab;exact Z)|(apply Zac;exact Z;(first|with_reducible assumption|decide +kernel|(solve|simp only[bn])))|(apply Zak Zab;(iterate 4 exact Z))|(apply Za0 Zab;(iterate 12 exact Z))|(apply Zat Zab;(iterate 6 exact Z);(first|exact Qt|rotate_left);(first|with_reducible assumption|decide +kernel|exact Z);(first|exact Zag rfl|with_reducible assumption|decide +kernel|rotate_left)))
   refine Lands.mk' (m:=k'-1) (by simp at hi;omega) ⟨1,1,Zan [It.mk k1 n1 b1 l1],_,by simp at hi ⊢;omega,rfl,rfl,rfl,.inr ⟨rfl,rfl⟩⟩ ?_ rfl rfl rfl rfl rfl rfl
   exact .cons rfl (.cons rfl (.cons rfl .nil))
 ·have hU:=Zbs l
  have hU2:Uni 4 L:=hL ▸ Zbs (l.take i)
  have el:=Zal (l.take i)
  rw[<- hL]at el
  subst hc
  rcases Nat.lt_or_ge i l.length with hlt|hge
  ·have hd1:decide ((i:Int)<((Zan l).length:Int))=true:=decide_eq_true (by omega)
   obtain⟨⟨k1,n1,b1,l1⟩,hy⟩:∃ y,l[i]?=some y:=⟨_,List.getElem?_eq_getElem hlt⟩
   have hv:(Zan l)[((i:Nat):Int).toNat]?=some (.agg [.int .i64 k1,.int .u64 (n1:Int),.sl (b1.map E.byte),.sl (Zan l1)]):=by
    rw[Int.toNat_natCast,Zax,List.getElem?_map,hy];rfl
   have hc:=ih' _ (List.mem_of_getElem? hy)
   have ei:IntKind.i64.wrap ((i:Int)+1)=((i+1:Nat):Int):=by rw[IntWalk.i64_in _ (by omega)];omega
   have hs:L++[E.agg [.int .i64 k1,.int .u64 (n1:Int),.sl (b1.map E.byte),.sl (Zan l1)]]=Zan (l.take (i+1)):=by
    rw[hL,List.take_add_one,hy];exact(Zbz _ [It.mk k1 n1 b1 l1]).symm
   rw[List.length_take]at el
   repeat'(first|(apply Zaa (hc);kernel_rfl;(iterate 4 exact Z))|rw[ei]|(apply Zaj Zab;exact Z)|(apply Zah Zab;exact Z)|(apply Zay Zab;exact Z)|(apply Zac;exact Z;(first|with_reducible assumption|decide +kernel|(solve|simp only[bn])))|(apply Zak Zab;(iterate 4 exact Z))|(apply Za0 Zab;(iterate 12 exact Z))|(apply ZaI Zab;(iterate 6 exact Z);(first|with_reducible assumption|decide +kernel|exact Z|rotate_left);exact Z;exact Z;(first|exact Zag rfl|with_reducible assumption|decide +kernel|rotate_left);(first|exact Zag rfl|with_reducible assumption|decide +kernel|rotate_left);(first|exact Qt|rotate_left);(first|exact Qt|rotate_left);(first|exact Qt|rotate_left);exact Z;exact Z)|(apply Zat Zab;(iterate 6 exact Z);(first|exact Qt|rotate_left);(first|with_reducible assumption|decide +kernel|exact Z);(first|exact Zag rfl|with_reducible assumption|decide +kernel|rotate_left)))
   ·refine Lands.mk' (m:=k'-1) (by omega) ⟨i+1,L.length+1,_,f0,by omega,by rw[List.length_append];rfl,hs,rfl,.inr ⟨rfl,rfl⟩⟩ ?_ rfl rfl rfl rfl rfl rfl
    exact .cons rfl (.cons rfl (.cons rfl .nil))
   all_goals(first|rfl|(simp only[List.length_append,List.length_cons,List.length_nil,List.length_map,Zal];done)|(simp only[List.length_append,List.length_cons,List.length_nil,List.length_map,Zal]at *;(try unfold maxLen);(try simp only[Nat.add_mul]);omega))
  ·have hd1:decide ((i:Int)<((Zan l).length:Int))=false:=decide_eq_false (by omega)
   rw[List.take_of_length_le hge]at hL
   subst hL
   repeat'(first|(apply Zaj Zab;exact Z)|(apply Zah Zab;exact Z)|(apply Zay Zab;exact Z)|(apply Zae;exact Z;(first|with_reducible assumption|decide +kernel|(solve|simp only[bn])))|(apply Zak Zab;(iterate 4 exact Z)))
   all_goals(apply Zaz [];(apply Zad Zab;exact Z);(iterate 4 exact Z))
   all_goals rfl
theorem Zjp [Known][KnownU8](l:List It)(a:Int)(hws:wfs l)(hl:l.length<=1000000)(hsz:Za6 l<=900)(hlim:∀ s,s<=2->(ZaX (ZaK s l)).length<=1000000000):AP Tryd.prog 9 [.sl .ext (Zan l),.int .i64 a] (ZhW (Zdf l a)) []:=by
 have hK:=Zhw l hws (by omega) a
 have hS:=fun s hs=>ZeY l s hs hws hl hsz (hlim s hs)
 have hlen:=Zal l
 rw[Zlw]
 unfold Zlv
 rw[<- hlen]
 have hty:=ZbO l a
 generalize ZaU l a=ty at *
 generalize Zan l=L at *
 cases t1:decide (a<0) with
 | true=>
  refine AP.ofA ?_
  refine Zao Tryd.func9 rfl Tryd.ntmps9 rfl rfl ?_
  repeat'(first|(apply Zaj Zab;exact Z)|(apply Zah Zab;exact Z)|(apply Zay Zab;exact Z)|(apply Zaq;(iterate 3 exact Z);(first|with_reducible assumption|decide +kernel|(solve|simp only[bn])))|(apply Zam;exact Z;(first|with_reducible assumption|decide +kernel|(solve|simp only[bn]));exact Z;exact Z)|(apply Zac;exact Z;(first|with_reducible assumption|decide +kernel|(solve|simp only[bn]))))
  all_goals(apply Zaz [];(apply Zad Zab;exact Z);(iterate 4 exact Z))
  all_goals rfl
 | false=>
 cases t2:decide (a ≥ (L.length:Int)) with
 | true=>
  refine AP.ofA ?_
  refine Zao Tryd.func9 rfl Tryd.ntmps9 rfl rfl ?_
  repeat'(first|(apply Zaj Zab;exact Z)|(apply Zah Zab;exact Z)|(apply Zay Zab;exact Z)|(apply Zaf;(iterate 3 exact Z);(first|with_reducible assumption|decide +kernel|(solve|simp only[bn])))|(apply Zai;exact Z;(first|with_reducible assumption|decide +kernel|(solve|simp only[bn]));exact Z;exact Z)|(apply Zac;exact Z;(first|with_reducible assumption|decide +kernel|(solve|simp only[bn])))|(apply Zak Zab;(iterate 4 exact Z)))
  all_goals(apply Zaz [];(apply Zad Zab;exact Z);(iterate 4 exact Z))
  all_goals rfl
 | false=>
 try dsimp only[Bool.or_self]
 rcases hty with rfl|⟨h,_⟩
 ·have t3:decide ((-1:Int)<0)=true:=rfl
  refine AP.ofA ?_
  refine Zao Tryd.func9 rfl Tryd.ntmps9 rfl rfl ?_
  repeat'(first|(apply Zaa (hK);kernel_rfl;(iterate 4 exact Z))|(apply Zaj Zab;exact Z)|(apply Zah Zab;exact Z)|(apply Zay Zab;exact Z)|(apply Zaf;(iterate 3 exact Z);(first|with_reducible assumption|decide +kernel|(solve|simp only[bn])))|(apply Zai;exact Z;(first|with_reducible assumption|decide +kernel|(solve|simp only[bn]));exact Z;exact Z)|(apply Zac;exact Z;(first|with_reducible assumption|decide +kernel|(solve|simp only[bn])))|(apply Zae;exact Z;(first|with_reducible assumption|decide +kernel|(solve|simp only[bn])))|(apply Zak Zab;(iterate 4 exact Z)))
  all_goals(apply Zaz [];(apply Zad Zab;exact Z);(iterate 4 exact Z))
  all_goals rfl
 ·obtain⟨s,hs,rfl⟩:∃ s:Nat,s<=2/\ty=(s:Int):=⟨ty.toNat,by omega,by omega⟩
  clear h hlim
  have t3:decide ((s:Int)<0)=false:=decide_eq_false (by omega)
  have t4:decide ((s:Int) ≥ 0)=true:=decide_eq_true (by omega)
  replace hS:=hS s hs
  rw[t4,Int.toNat_natCast]
  dsimp only
  generalize Zbx l s=r at *
  obtain⟨⟨k,n,b,l2⟩,ok⟩:=r
  cases ok
  all_goals
   refine AP.ofA ?_
   refine Zao Tryd.func9 rfl Tryd.ntmps9 rfl rfl ?_
   repeat'(first|(apply Zaa (hK);kernel_rfl;(iterate 4 exact Z))|(apply Zaa (hS);kernel_rfl;(iterate 4 exact Z))|(apply Zaj Zab;exact Z)|(apply Zah Zab;exact Z)|(apply Zay Zab;exact Z)|(apply Zaf;(iterate 3 exact Z);(first|with_reducible assumption|decide +kernel|(solve|simp only[bn])))|(apply Zai;exact Z;(first|with_reducible assumption|decide +kernel|(solve|simp only[bn]));exact Z;exact Z)|(apply Zac;exact Z;(first|with_reducible assumption|decide +kernel|(solve|simp only[bn])))|(apply Zae;exact Z;(first|with_reducible assumption|decide +kernel|(solve|simp only[bn])))|(apply Zak Zab;(iterate 4 exact Z)))
   all_goals(apply Zaz [];(apply Zad Zab;exact Z);(iterate 4 exact Z))
   all_goals rfl
def Zew (x:EidV):List UInt8:=[47,47]++x.h++[47]++x.d
theorem Ze4 {x:EidV}(h:Zbh x=true)(hz:isZ x=false)(hi:x.i=true):x.n<=4294967295/\x.s<=4294967295/\x.h=[]/\x.d=[]/\1<=x.n:=by
 rw[Zhh hz hi]at h
 simp only[Bool.and_eq_true,decide_eq_true_eq,beq_iff_eq]at h
 obtain⟨⟨⟨⟨_,_,_,h1,h2,_⟩,h3⟩,h4⟩,h5⟩:=h
 exact⟨by omega,by omega,h1,h2,by omega⟩
theorem ZdD {x:EidV}(h:Zbh x=true)(hz:isZ x=false)(hi:x.i=false):x.n=0/\x.s=0/\1<=x.h.length/\x.h.length<=16/\x.d.length<=24/\x.h.all (okB 45)=true/\x.d.all (okB 47)=true:=by
 rw[Zhi hz hi]at h
 simp only[Bool.and_eq_true,decide_eq_true_eq,beq_iff_eq]at h
 obtain⟨⟨⟨⟨⟨⟨_,h1,h2,_⟩,h3⟩,h4⟩,h5⟩,h6⟩,h7⟩:=h
 exact⟨by omega,by omega,by omega,by omega,by omega,h6,h7⟩
theorem ZlD [Known](x:EidV)(h1:x.h.length<=16)(h2:x.d.length<=24):AP Tryd.prog 82 [.agg (eC x)] (.str (Zew x)) []:=by
 have l1:[(47:UInt8),47].length+x.h.length<=maxLen:=by simp;unfold maxLen;omega
 have l2:([(47:UInt8),47]++x.h).length + [(47:UInt8)].length<=maxLen:=by simp;unfold maxLen;omega
 have l3:([(47:UInt8),47]++x.h++[47]).length+x.d.length<=maxLen:=by simp;unfold maxLen;omega
 refine AP.ofA ?_
 refine Zao Tryd.func82 rfl Tryd.ntmps82 rfl rfl ?_
 repeat'(first|(apply ZlW;exact Z;exact Z;(first|exact l1|exact l2|exact l3);exact Z)|(apply Zaj Zab;exact Z)|(apply Zah Zab;exact Z))
 all_goals(apply Zaz [];(apply Zad Zab;exact Z);(iterate 4 exact Z))
 all_goals rfl
def ZcL (x:EidV):It:=
 if isZ x then .mk 4 0 [] [.mk 0 1 [] [],.mk 0 0 [] []]
 else if x.i then .mk 4 0 [] [.mk 0 2 [] [],.mk 4 0 [] [.mk 0 x.n [] [],.mk 0 x.s [] []]]
 else .mk 4 0 [] [.mk 0 1 [] [],.mk 3 0 (Zew x) []]
theorem ZcX [Known](x:EidV):AP Tryd.prog 51 [.agg (eC x)] (.tup [itD (if Zbh x then ZcL x else .mk 0 0 [] []),.int .i64 (if Zbh x then 0 else 3)]) []:=by
 have hR:=Zcu x
 cases hr:Zbh x with
 | false=>
  rw[hr]at hR
  refine AP.ofA ?_
  refine Zao Tryd.func51 rfl Tryd.ntmps51 rfl rfl ?_
  repeat'(first|(apply Zaa (hR);kernel_rfl;(iterate 4 exact Z))|(apply Zaj Zab;exact Z)|(apply Zah Zab;exact Z)|(apply Zay Zab;exact Z)|(apply Zac;exact Z;exact Qt))
  all_goals(apply Zaz [];(apply Zad Zab;exact Z);(iterate 4 exact Z))
  all_goals rfl
 | true=>
  rw[hr]at hR
  rw[if_pos rfl,if_pos rfl]
  unfold ZcL
  cases hz:isZ x with
  | true=>
   rw[if_pos rfl]
   have n1:=ZbI 1
   have n0:=ZbI 0
   have hL:=Zb9 [.mk 0 1 [] [],.mk 0 0 [] []] (by decide) (by simp[wfI,wfs])
   replace n1:AP Tryd.prog _ [.int .u64 1] (.agg [.int .i64 0,.int .u64 1,.sl .ext [],.sl .ext []]) []:=n1
   replace n0:AP Tryd.prog _ [.int .u64 0] (.agg [.int .i64 0,.int .u64 0,.sl .ext [],.sl .ext []]) []:=n0
   unfold isZ at hz
   refine AP.ofA ?_
   refine Zao Tryd.func51 rfl Tryd.ntmps51 rfl rfl ?_
   repeat'(first|(apply Zaa (hR);kernel_rfl;(iterate 4 exact Z))|(apply Zaa (n1);kernel_rfl;(iterate 4 exact Z))|(apply Zaa (n0);kernel_rfl;(iterate 4 exact Z))|(apply Zaa (hL);kernel_rfl;(iterate 4 exact Z))|(apply Zaj Zab;exact Z)|(apply Zah Zab;exact Z)|(apply Zay Zab;exact Z)|(apply Zac;exact Z;exact Qt)|(apply Zae;exact Z;exact Qt)|(apply Za0 Zab;(iterate 12 exact Z))|(apply ZdH Zab;(iterate 4 exact Z);kernel_rfl;kernel_rfl;(iterate 3 exact Z)))
   all_goals(apply Zaz [];(apply Zad Zab;exact Z);(iterate 4 exact Z))
   all_goals rfl
  | false=>
   rw[if_neg (by simp)]
   cases hi:x.i with
   | true=>
    obtain⟨b1,b2,_⟩:=Ze4 hr hz hi
    rw[if_pos rfl]
    have n2:=ZbI 2
    have nn:=ZbI x.n
    have ns:=ZbI x.s
    have hL1:=Zb9 [.mk 0 x.n [] [],.mk 0 x.s [] []] (by simp) (by simp[wfI,wfs];omega)
    have hL:=Zb9 [.mk 0 2 [] [],.mk 4 0 [] [.mk 0 x.n [] [],.mk 0 x.s [] []]] (by simp) (by simp[wfI,wfs];omega)
    replace n2:AP Tryd.prog _ [.int .u64 2] (.agg [.int .i64 0,.int .u64 2,.sl .ext [],.sl .ext []]) []:=n2
    replace nn:AP Tryd.prog _ [.int .u64 (x.n:Int)] (.agg [.int .i64 0,.int .u64 (x.n:Int),.sl .ext [],.sl .ext []]) []:=nn
    replace ns:AP Tryd.prog _ [.int .u64 (x.s:Int)] (.agg [.int .i64 0,.int .u64 (x.s:Int),.sl .ext [],.sl .ext []]) []:=ns
    replace hL1:AP Tryd.prog _ _ (.agg [.int .i64 4,.int .u64 0,.sl .ext [],.sl .ext [.agg [.int .i64 0,.int .u64 (x.n:Int),.sl [],.sl []],.agg [.int .i64 0,.int .u64 (x.s:Int),.sl [],.sl []]]]) []:=hL1
    unfold isZ at hz
    refine AP.ofA ?_
    refine Zao Tryd.func51 rfl Tryd.ntmps51 rfl rfl ?_
    repeat'(first|(apply Zaa (hR);kernel_rfl;(iterate 4 exact Z))|(apply Zaa (n2);kernel_rfl;(iterate 4 exact Z))|(apply Zaa (nn);kernel_rfl;(iterate 4 exact Z))|(apply Zaa (ns);kernel_rfl;(iterate 4 exact Z))|(apply Zaa (hL1);kernel_rfl;(iterate 4 exact Z))|(apply Zaa (hL);kernel_rfl;(iterate 4 exact Z))|(apply Zaj Zab;exact Z)|(apply Zah Zab;exact Z)|(apply Zay Zab;exact Z)|(apply Zac;exact Z;exact Qt)|(apply Zae;exact Z;exact Qt)|(apply Za0 Zab;(iterate 12 exact Z))|(apply ZdH Zab;(iterate 4 exact Z);kernel_rfl;kernel_rfl;(iterate 3 exact Z))|(apply Zap 6 ZaY;decide +kernel;kernel_rfl;kernel_rfl;kernel_rfl;exact Z;exact Z)|(apply Zas;(iterate 4 exact Z))|exact AE.nil _ _ _ _|(apply Zau;exact Z)|(apply ZaA;exact Z;exact Z;decide +kernel;exact Z)|(apply ZaB;exact Z)|exact AO.nil _ _ _|(apply Zar;(decide +kernel))|exact AOs.nil|exact ZaN rfl rfl)
    all_goals(apply Zaz [];(apply Zad Zab;exact Z);(iterate 4 exact Z))
    all_goals rfl
   | false=>
    obtain⟨_,_,_,b1,b2,_⟩:=ZdD hr hz hi
    rw[if_neg (by simp)]
    have n1:=ZbI 1
    have hP:=ZlD x b1 b2
    have hT:=Zld (Zew x)
    have hpl:(Zew x).length<=1099511627776:=by unfold Zew;simp;omega
    generalize Zew x=p at *
    have hL:=Zb9 [.mk 0 1 [] [],.mk 3 0 p []] (by simp) (by simp[wfI,wfs];omega)
    replace n1:AP Tryd.prog _ [.int .u64 1] (.agg [.int .i64 0,.int .u64 1,.sl .ext [],.sl .ext []]) []:=n1
    replace hT:AP Tryd.prog _ [.str p] (.agg [.int .i64 3,.int .u64 0,byE p,.sl .ext []]) []:=hT
    unfold isZ at hz
    refine AP.ofA ?_
    refine Zao Tryd.func51 rfl Tryd.ntmps51 rfl rfl ?_
    repeat'(first|(apply Zaa (hR);kernel_rfl;(iterate 4 exact Z))|(apply Zaa (n1);kernel_rfl;(iterate 4 exact Z))|(apply Zaa (hP);kernel_rfl;(iterate 4 exact Z))|(apply Zaa (hT);kernel_rfl;(iterate 4 exact Z))|(apply Zaa (hL);kernel_rfl;(iterate 4 exact Z))|(apply Zaj Zab;exact Z)|(apply Zah Zab;exact Z)|(apply Zay Zab;exact Z)|(apply Zae;exact Z;exact Qt)|(apply Za0 Zab;(iterate 12 exact Z))|(apply ZdH Zab;(iterate 4 exact Z);kernel_rfl;kernel_rfl;(iterate 3 exact Z))|(apply Zap 2 ZaY;decide +kernel;kernel_rfl;kernel_rfl;kernel_rfl;exact Z;exact Z)|(apply Zas;(iterate 4 exact Z))|exact AE.nil _ _ _ _|(apply Zau;exact Z)|(apply ZaA;exact Z;exact Z;decide +kernel;exact Z)|(apply ZaB;exact Z)|exact AO.nil _ _ _|(apply Zar;(decide +kernel))|exact AOs.nil|exact ZaN rfl rfl)
    all_goals(apply Zaz [];(apply Zad Zab;exact Z);(iterate 4 exact Z))
    all_goals rfl
theorem Zdy {x:EidV}(h:Zbh x=true):wfI (ZcL x):=by
 unfold ZcL
 cases hz:isZ x with
 | true=>rw[if_pos rfl];simp[wfI,wfs]
 | false=>
  rw[if_neg (by simp)]
  cases hi:x.i with
  | true=>
   obtain⟨b1,b2,b3,b4,b5⟩:=Ze4 h hz hi
   rw[if_pos rfl]
   simp[wfI,wfs]
   omega
  | false=>
   obtain⟨b1,b2,b3,b4,b5,b6,b7⟩:=ZdD h hz hi
   rw[if_neg (by simp)]
   simp[wfI,wfs,Zew]
   omega
theorem Zbf (k:Int)(n:Nat)(b:List UInt8)(l:List It):(ZaX (.mk k n b l)).length<=9+(b.length+(ZaW l).length):=by
 rw[ZaX,List.length_append,List.length_append]
 split
 ·rename_i h
  have h1:=ZiP h rfl
  have h2:ZaH (It.mk k n b l).hn<=8:=by
   unfold ZaH
   repeat' split
   all_goals omega
  dsimp only at h1
  omega
 ·simp
theorem ZcY (n:Nat):(ZaX (.mk 0 n [] [])).length<=9:=by
 have:=Zbf 0 n [] []
 simpa[ZaW]using this
theorem ZgH (n m:Nat):(ZaX (ZmB n m)).length<=27:=by
 have h0:=Zbf 4 0 [] [.mk 0 n [] [],.mk 0 m [] []]
 have h1:=ZcY n
 have h2:=ZcY m
 simp only[ZaW,List.length_append,List.length_nil,Nat.add_zero,Nat.zero_add]at h0
 have e:ZmB n m=.mk 4 0 [] [.mk 0 n [] [],.mk 0 m [] []]:=rfl
 rw[e]
 omega
theorem ZhC:∀(l:List It) (d:Nat) (m:Int),0<=Zbd l d m->∀ y ∈ l,y.b.length<=3000
 | [],_,_,_,y,hy=>by simp at hy
 | x::l,d,m,h,y,hy=>by
  rw[Zbd]at h
  split at h
  ·omega
  ·rename_i hm
   have h1:0<=Za5 x d m:=by
    rcases Int.lt_or_le (Za5 x d m) 0 with h2|h2
    ·exfalso
     cases l with
     | nil=>rw[Zbd]at h;omega
     | cons y l=>rw[Zbd,if_pos h2]at h;omega
    ·exact h2
   rcases List.mem_cons.1 hy with rfl|hy
   ·obtain⟨k,n,b,r⟩:=y
    rw[Za5]at h1
    split at h1
    ·omega
    ·split at h1
     ·omega
     ·simp only[It.b];omega
   ·exact ZhC l d _ h y hy
theorem ZgI {x:It}(h:0<=Za5 x 1 300)(hn:nI x):wfI x/\x.l.length<=1000000/\(∀ y ∈ x.l,y.b.length<=3000)/\∀ s m,s=1\/s=2->(ZaX (ZaK s (x.l.take m))).length<=1000000000:=by
 have hw:=(ZdV x 1 300 (by omega) h hn).1
 obtain⟨k,n,b,l⟩:=x
 rw[Za5]at h
 split at h
 ·omega
 split at h
 ·omega
 have h2:0<=Zbd l 2 299:=h
 have hs:=Zeo l 2 299 (by omega) h2 hn.2
 have hlt:Zbd l 2 299<=299:=(Zcx l 2 299 (by omega)).1
 refine⟨hw,?_,ZhC l 2 299 h2,fun s m hsm=>?_⟩
 ·have:=hs.2.2.1
  simp only[It.l]
  omega
 ·have h0:=Zbf 4 0 [] (l.take m++[.mk 2 0 (List.replicate (2*s) 0) []])
  have h3:=Zbf 2 0 (List.replicate (2*s) 0) []
  have h4:=ZaG l m
  have h5:∀(a c:List It),ZaW (a++c)=ZaW a++ZaW c:=fun a c=>by
   induction a with
   | nil=>rfl
   | cons y a ih=>rw[List.cons_append,ZaW,ZaW,ih,List.append_assoc]
  rw[h5]at h0
  simp only[ZaW,List.length_append,List.length_nil,List.length_replicate,Nat.add_zero,Nat.zero_add]at h0 h3
  have h6:=hs.2.1
  show(ZaX (.mk 4 0 [] (l.take m++[.mk 2 0 (List.replicate (2*s) 0) []]))).length<=1000000000
  omega
theorem ZgJ {y:It}(h:(ZaX y).length<=900000000):∀ s m,s=1\/s=2->(ZaX (ZaK s (y.l.take m))).length<=1000000000:=by
 intro s m hs
 have h0:=Zbf 4 0 [] (y.l.take m++[.mk 2 0 (List.replicate (2*s) 0) []])
 have h1:=Zbf 2 0 (List.replicate (2*s) 0) []
 have h2:=ZaG y.l m
 have h3:(ZaW y.l).length<=(ZaX y).length:=by
  obtain⟨k,n,b,l⟩:=y
  rw[ZaX,List.length_append,List.length_append]
  show(ZaW l).length<=_
  omega
 have h5:∀(a c:List It),ZaW (a++c)=ZaW a++ZaW c:=fun a c=>by
  induction a with
  | nil=>rfl
  | cons y a ih=>rw[List.cons_append,ZaW,ZaW,ih,List.append_assoc]
 rw[h5]at h0
 simp only[ZaW,List.length_append,List.length_nil,List.length_replicate,Nat.add_zero,Nat.zero_add]at h0 h1
 show(ZaX (.mk 4 0 [] (y.l.take m++[.mk 2 0 (List.replicate (2*s) 0) []]))).length<=_
 omega
end Go.Proofs.YtakblclkflnnpaaDoor
end
section
open Go.RowKit Go.Pl Go.Av
namespace Go.Proofs.YtakblclkflnnpaaDoor
set_option maxHeartbeats 4000000
theorem ZkI (k:Int)(n:Nat)(b:List UInt8)(l:List It):(ZaW l).length<=(ZaX (.mk k n b l)).length:=by
 rw[ZaX,List.length_append,List.length_append]
 omega
mutual
theorem ZhD:∀(x:It) (d:Nat) (m:Int),0<=Za5 x d m->(Zbq x:Int)<=m-Za5 x d m
 | .mk k n b l,d,m,h=>by
  rw[Za5]at h ⊢
  split at h
  ·omega
  split at h
  ·omega
  rename_i h1 h2
  rw[if_neg h1,if_neg h2]
  have:=Zgh l (d+1) (m-1) h
  rw[Zbq]
  omega
theorem Zgh:∀(l:List It) (d:Nat) (m:Int),0<=Zbd l d m->(Za6 l:Int)<=m-Zbd l d m
 | [],_,m,h=>by simp[Zbd,Za6]
 | x::l,d,m,h=>by
  rw[Zbd]at h ⊢
  split at h
  ·omega
  rename_i h1
  rw[if_neg h1]
  have h0:0<=Za5 x d m:=by
   rcases Int.lt_or_le (Za5 x d m) 0 with hlt|hge
   ·have:=Zcx l d (Za5 x d m) (by have:=Zcw x d m (by omega);omega);omega
   ·exact hge
  have q:=ZhD x d m h0
  have r:=Zgh l d _ h
  rw[Za6]
  omega
end
theorem Zjq {x:It}(h:0<=Za5 x 1 300)(hn:nI x):wfI x/\x.l.length<=1000000/\Za6 x.l<=900/\(∀ y ∈ x.l,y.b.length<=3000)/\(∀ s m,s<=2->(ZaX (ZaK s (x.l.take m))).length<=1000000000)/\Zbp x 11=true:=by
 obtain⟨h1,h2,h3,h4⟩:=ZgI h hn
 have hs:=ZhD x 1 300 h
 obtain⟨_,_,_,hd⟩:=ZdV x 1 300 (by omega) h hn
 refine⟨h1,h2,?_,h3,fun s m hs2=>?_,ZdB x 9 11 hd (by omega)⟩
 ·obtain⟨k,n,b,l⟩:=x
  rw[Zbq]at hs
  show Za6 l<=900
  omega
 ·match s,hs2 with
  | 0,_=>
   have h5:=h4 1 m (.inl rfl)
   have p:=Zbf 4 0 [] (x.l.take m++[.mk 2 0 (List.replicate (2*0) 0) []])
   have q:=ZkI 4 0 [] (x.l.take m++[.mk 2 0 (List.replicate (2*1) 0) []])
   have e:∀ y:List It,ZaW (x.l.take m++y)=ZaW (x.l.take m)++ZaW y:=fun y=>Zdr _ _
   rw[e]at p q
   have r:(ZaW [It.mk 2 0 (List.replicate (2*0) 0) []]).length<=20:=by decide
   unfold ZaK at h5 ⊢
   have h6:(ZaX (.mk 4 0 [] (x.l.take m++[.mk 2 0 (List.replicate (2*1) 0) []]))).length<=3009*400:=by
    have hp:=(ZdV x 1 300 (by omega) h hn).2.1
    obtain⟨k,n,b,l⟩:=x
    have h7:=ZaG l m
    have h8:=ZkI k n b l
    have h9:=Zbf 4 0 [] (l.take m++[.mk 2 0 (List.replicate (2*1) 0) []])
    have h10:ZaW (l.take m++[.mk 2 0 (List.replicate (2*1) 0) []])=ZaW (l.take m)++ZaW [.mk 2 0 (List.replicate (2*1) 0) []]:=Zdr _ _
    have r2:(ZaW [It.mk 2 0 (List.replicate (2*1) 0) []]).length<=20:=by decide
    rw[h10]at h9
    simp only[List.length_append,List.length_nil,It.l]at h9 ⊢
    omega
   simp only[List.length_append,List.length_nil]at p q h6 ⊢
   omega
  | s+1,hs2=>exact h4 (s+1) m (by omega)
end Go.Proofs.YtakblclkflnnpaaDoor
end

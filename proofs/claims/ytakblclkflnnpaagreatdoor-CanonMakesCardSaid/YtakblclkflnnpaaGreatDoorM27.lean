/- Package canon: numbers. -/
import Derived.Test.YtakblclkflnnpaaGreatDoorM26
import Derived.Test.YtakblclkflnnpaaGreatDoorM23
import Derived.Test.YtakblclkflnnpaaGreatDoorM22
import Derived.Test.YtakblclkflnnpaaGreatDoorM25
import Derived.Test.YtakblclkflnnpaaGreatDoorM08
import Derived.Lib.Strings
import Derived.Lib.Slices
import Derived.Lib.Walk
import Derived.Lib.Bytealg
import Derived.Test.YtakblclkflnnpaaGreatDoorM07
import Derived.LaidEql
set_option linter.unusedVariables false
set_option linter.unusedSimpArgs false
section
open Go.RowKit Go.Pl Go.Av
namespace Go.Proofs.YtakblclkflnnpaaGreatDoor
set_option maxHeartbeats 4000000
theorem Zpp (l:List Nat):Uni 1 (l.map fun n:Nat=>E.int .u64 (n:Int)):=Uni.map (f:=fun n:Nat=>E.int .u64 (n:Int)) (fun _=>rfl) l
def Zhz (n:Nat):Bool:=decide ((n:Int)<1)||decide ((n:Int)>255)
theorem Zf2 [Known](n:Nat):AP Tryz.prog 155 [.int .u64 (n:Int)] (.bool (Zhz n)) []:=by
 unfold Zhz
 refine AP.ofA ?_
 refine Zan Tryz.func155 rfl Tryz.ntmps155 rfl rfl ?_
 repeat'(first|(apply Zai Zab;exact Z)|(apply Zah Zab;exact Z)|(apply Zae;(iterate 3 exact Z);(first|with_reducible assumption|(solve|simp only[bn])))|(apply Zal;(iterate 3 exact Z);(first|with_reducible assumption|(solve|simp only[bn])))|(apply Zbh;exact Z;exact Z;all_goals intro hb)|(apply Zaj;exact Z;(first|with_reducible assumption|(solve|simp only[bn]));exact Z;exact Z)|(apply Zag;exact Z;(first|with_reducible assumption|(solve|simp only[bn]));exact Z;exact Z))
 all_goals(apply Zaz [];(apply Zad Zab;exact Z);(iterate 4 exact Z))
 all_goals first|rfl|(simp only[*];done)|(simp only[*];rfl)
def Zp1:Bool->Bool->Int
 | true,_=>0
 | false,true=>1
 | false,false => -1
theorem Znr [Known](a b:Nat)(x y:Bool)(hx:Zhz a=x)(hy:Zhz b=y):AP Tryz.prog 179 [.sl .ext [.int .u64 (a:Int),.int .u64 (b:Int)],.fn 155 []] (.int .i64 (Zp1 x y)) []:=by
 have ga:=Zf2 a
 have gb:=Zf2 b
 rw[hx]at ga
 rw[hy]at gb
 have hU:=Zpp [a,b]
 have q0:decide ((0:Int)<(([.int .u64 (a:Int),.int .u64 (b:Int)]:List E).length:Int))=true:=rfl
 have q1:decide ((1:Int)<(([.int .u64 (a:Int),.int .u64 (b:Int)]:List E).length:Int))=true:=rfl
 have q2:decide ((2:Int)<(([.int .u64 (a:Int),.int .u64 (b:Int)]:List E).length:Int))=false:=rfl
 have e1:IntKind.i64.wrap (0+1)=1:=by decide
 have e2:IntKind.i64.wrap (1+1)=2:=by decide
 cases x<;>cases y
 all_goals
  refine AP.ofA ?_
  refine Zan Tryz.func179 rfl Tryz.ntmps179 rfl rfl ?_
  repeat'(first|rw[e1]|rw[e2]|(apply ZcO (ga);exact Z;kernel_rfl;(iterate 3 exact Z))|(apply ZcO (gb);exact Z;kernel_rfl;(iterate 3 exact Z))|(apply Zav Zab;(iterate 6 exact Z);exact(by decide);exact Z;exact hU)|refine Zbj 20 ?_|refine ZbA ?_|(apply Zai Zab;exact Z)|(apply Zah Zab;exact Z)|(apply Zaw Zab;exact Z)|(apply Zac;exact Z;exact Go.Zqy)|(apply Zaf;exact Z;exact Go.Zqy)|refine Zbk ?_|(apply Zao Zab;(iterate 4 exact Z)))
  all_goals(apply Zaz [];(apply Zad Zab;exact Z);(iterate 4 exact Z))
  all_goals rfl
theorem ZlZ [Known](a b:Nat):AP Tryz.prog 154 [.sl .ext [.int .u64 (a:Int),.int .u64 (b:Int)],.fn 155 []] (.bool (Zhz a||Zhz b)) []:=by
 cases hx:Zhz a<;>cases hy:Zhz b
 all_goals
  have hI:=Znr a b _ _ hx hy
  refine AP.ofA ?_
  refine Zan Tryz.func154 rfl Tryz.ntmps154 rfl rfl ?_
  repeat'(first|(apply Zaa (hI);kernel_rfl;(iterate 4 exact Z))|(apply Zai Zab;exact Z)|(apply Zah Zab;exact Z))
  all_goals(apply Zaz [];(apply Zad Zab;exact Z);(iterate 4 exact Z))
  all_goals rfl
theorem Zjw [Known](a b:Nat):AP Tryz.prog 99 [.sl .ext [.int .u64 (a:Int),.int .u64 (b:Int)]] (.bool (!(Zhz a||Zhz b))) []:=by
 have hI:=ZlZ a b
 refine AP.ofA ?_
 refine Zan Tryz.func99 rfl Tryz.ntmps99 rfl rfl ?_
 repeat'(first|(apply Zaa (hI);kernel_rfl;(iterate 4 exact Z))|(apply Zai Zab;exact Z)|(apply Zah Zab;exact Z))
 all_goals(apply Zaz [];(apply Zad Zab;exact Z);(iterate 4 exact Z))
 all_goals rfl
theorem ZiV [Known]:AT Tryz.prog 87 [.sl .nil []] [] [] (.agg [.int .i64 4,.int .u64 0,.sl .nil [],.sl .nil []]) [] []:=by
 refine Zan Tryz.func87 rfl Tryz.ntmps87 rfl rfl ?_
 repeat'(first|refine Zbj 20 ?_|refine ZbA ?_|(apply Zai Zab;exact Z)|(apply Zah Zab;exact Z)|(apply Zaf;exact Z;exact Go.Zqy)|(apply Zao Zab;(iterate 4 exact Z)))
 all_goals(apply Zez [] [];(apply Zad Zab;exact Z);(iterate 7 exact Z))
 all_goals rfl
abbrev nmE (n:Nat):E:=.agg [.int .i64 0,.int .u64 (n:Int),.sl [],.sl []]
theorem Zfq [Known](a b:Nat):AP Tryz.prog 96 [.sl .ext [.int .u64 (a:Int),.int .u64 (b:Int)]] (.agg [.int .i64 4,.int .u64 0,.sl .ext [],.sl .ext [nmE a,nmE b]]) []:=by
 have ga:=Zch a
 have gb:=Zch b
 have hL:=ZiV
 have hU:=Zpp [a,b]
 have e1:IntKind.i64.wrap (0+1)=1:=by decide
 have e2:IntKind.i64.wrap (1+1)=2:=by decide
 have hU4:∀(l:List Nat),Uni 4 (l.map nmE):=fun l=>Uni.map (f:=nmE) (fun _=>rfl) l
 have q0:decide ((0:Int)<(([.int .u64 (a:Int),.int .u64 (b:Int)]:List E).length:Int))=true:=rfl
 have q1:decide ((1:Int)<(([.int .u64 (a:Int),.int .u64 (b:Int)]:List E).length:Int))=true:=rfl
 have q2:decide ((2:Int)<(([.int .u64 (a:Int),.int .u64 (b:Int)]:List E).length:Int))=false:=rfl
 have hu1:=hU4 [a]
 have hu2:=hU4 [a,b]
 refine AP.ofA ?_
 refine Zan Tryz.func96 rfl Tryz.ntmps96 rfl rfl ?_
 repeat'(first|rw[e1]|rw[e2]|(apply ZaS [] [] (hL);kernel_rfl;(iterate 10 exact Z))|(apply Zaa (ga);kernel_rfl;(iterate 4 exact Z))|(apply Zaa (gb);kernel_rfl;(iterate 4 exact Z))|(apply Zav Zab;(iterate 6 exact Z);exact(by decide);exact Z;exact hU)|refine Zbj 20 ?_|refine ZbA ?_|(apply ZbV Zab;(iterate 11 exact Z);exact Zak rfl;exact Zak rfl;exact List.cons_ne_nil _ _;decide +kernel;decide +kernel;exact Z;exact Z)|(apply Za4 Zab;(iterate 6 exact Z);exact Zak rfl;exact List.cons_ne_nil _ _;exact Z;decide +kernel;decide +kernel;(iterate 3 exact Z))|(apply Zai Zab;exact Z)|(apply Zah Zab;exact Z)|(apply Zaw Zab;exact Z)|(apply Zac;exact Z;exact Go.Zqy)|(apply Zaf;exact Z;exact Go.Zqy)|(apply Zao Zab;(iterate 4 exact Z))|(apply ZaR Zab;(iterate 12 exact Z))|(apply Zam 5 ZaK;decide +kernel;kernel_rfl;kernel_rfl;kernel_rfl;exact Z;exact Z)|(apply Zaq;(iterate 4 exact Z))|exact AE.nil _ _ _ _|(apply Zat;exact Z)|(apply Zax;exact Z;exact Z;decide +kernel;exact Z)|(apply Zay;exact Z)|exact AO.nil _ _ _|(apply Zap;(decide +kernel))|exact AOs.nil|exact ZaE rfl rfl|exact Zc6 rfl rfl rfl rfl rfl)
 all_goals(apply Zaz [];(apply Zad Zab;exact Z);(iterate 4 exact Z))
 all_goals rfl
theorem ZhS [Known](a b c d:Nat):AT Tryz.prog 96 [.sl .ext [.int .u64 (a:Int),.int .u64 (b:Int),.int .u64 (c:Int),.int .u64 (d:Int)]] [] [] (.agg [.int .i64 4,.int .u64 0,.sl .nil [],.sl (.own 0) [nmE a,nmE b,nmE c,nmE d]]) [] [⟨4,4,32⟩]:=by
 have ga:=Zch a
 have gb:=Zch b
 have gc:=Zch c
 have gd:=Zch d
 have hL:=ZiV
 have hU:=Zpp [a,b,c,d]
 have e1:IntKind.i64.wrap (0+1)=1:=by decide
 have e2:IntKind.i64.wrap (1+1)=2:=by decide
 have e3:IntKind.i64.wrap (2+1)=3:=by decide
 have e4:IntKind.i64.wrap (3+1)=4:=by decide
 have hU4:∀(l:List Nat),Uni 4 (l.map nmE):=fun l=>Uni.map (f:=nmE) (fun _=>rfl) l
 have q0:decide ((0:Int)<(([.int .u64 (a:Int),.int .u64 (b:Int),.int .u64 (c:Int),.int .u64 (d:Int)]:List E).length:Int))=true:=rfl
 have q1:decide ((1:Int)<(([.int .u64 (a:Int),.int .u64 (b:Int),.int .u64 (c:Int),.int .u64 (d:Int)]:List E).length:Int))=true:=rfl
 have q2:decide ((2:Int)<(([.int .u64 (a:Int),.int .u64 (b:Int),.int .u64 (c:Int),.int .u64 (d:Int)]:List E).length:Int))=true:=rfl
 have q3:decide ((3:Int)<(([.int .u64 (a:Int),.int .u64 (b:Int),.int .u64 (c:Int),.int .u64 (d:Int)]:List E).length:Int))=true:=rfl
 have q4:decide ((4:Int)<(([.int .u64 (a:Int),.int .u64 (b:Int),.int .u64 (c:Int),.int .u64 (d:Int)]:List E).length:Int))=false:=rfl
 have hu1:=hU4 [a]
 have hu2:=hU4 [a,b]
 have hu3:=hU4 [a,b,c]
 have hu4:=hU4 [a,b,c,d]
 refine Zan Tryz.func96 rfl Tryz.ntmps96 rfl rfl ?_
 repeat'(first|rw[e1]|rw[e2]|rw[e3]|rw[e4]|(apply ZaS [] [] (hL);kernel_rfl;(iterate 10 exact Z))|(apply Zaa (ga);kernel_rfl;(iterate 4 exact Z))|(apply Zaa (gb);kernel_rfl;(iterate 4 exact Z))|(apply Zaa (gc);kernel_rfl;(iterate 4 exact Z))|(apply Zaa (gd);kernel_rfl;(iterate 4 exact Z))|(apply Zav Zab;(iterate 6 exact Z);exact(by decide);exact Z;exact hU)|refine Zbj 20 ?_|refine ZbA ?_|(apply ZbV Zab;(iterate 11 exact Z);exact Zak rfl;exact Zak rfl;exact List.cons_ne_nil _ _;decide +kernel;decide +kernel;exact Z;exact Z)|(apply Za4 Zab;(iterate 6 exact Z);exact Zak rfl;exact List.cons_ne_nil _ _;exact Z;decide +kernel;decide +kernel;(iterate 3 exact Z))|(apply Zai Zab;exact Z)|(apply Zah Zab;exact Z)|(apply Zaw Zab;exact Z)|(apply Zac;exact Z;exact Go.Zqy)|(apply Zaf;exact Z;exact Go.Zqy)|(apply Zao Zab;(iterate 4 exact Z))|(apply ZaR Zab;(iterate 12 exact Z))|(apply Zam 5 ZaK;decide +kernel;kernel_rfl;kernel_rfl;kernel_rfl;exact Z;exact Z)|(apply Zaq;(iterate 4 exact Z))|exact AE.nil _ _ _ _|(apply Zat;exact Z)|(apply Zax;exact Z;exact Z;decide +kernel;exact Z)|(apply Zay;exact Z)|exact AO.nil _ _ _|(apply Zap;(decide +kernel))|exact AOs.nil|exact ZaE rfl rfl|exact Zc6 rfl rfl rfl rfl rfl)
 all_goals(apply Zez [] [0];(apply Zad Zab;exact Z);(iterate 7 exact Z))
 all_goals rfl
theorem Zns {l l':List It}(h:l.length ≠ l'.length):It.beqs l l'=false:=by
 rw[<- Bool.not_eq_true]
 intro e
 exact h (congrArg List.length (It.beqs_iff.1 e))
theorem Zdq [Known]:∀(x:It),wfI x->∀ y:It,wfI y->AP Tryz.prog 22 [itD x,itD y] (.bool (It.beq x y)) []:=by
 refine It.ind fun k n b l ih hw y hw'=>?_
 obtain⟨k',n',b',l'⟩:=y
 obtain⟨_,_,hl,hws⟩:=hw
 obtain⟨_,_,hl',hws'⟩:=hw'
 have e1:=Zas l
 have e2:=Zas l'
 rw[It.beq]
 by_cases h1:k=k'
 case neg=>
  have t1:(k != k')=true:=by simpa using h1
  have tt:((k==k')&&((n==n')&&((b==b')&&It.beqs l l')))=false:=by simp[h1]
  rw[tt]
  refine AP.ofA ?_
  refine Zan Tryz.func22 rfl Tryz.ntmps22 rfl rfl ?_
  repeat'(first|(apply Zai Zab;exact Z)|(apply Zah Zab;exact Z)|(apply Zaw Zab;exact Z)|(apply Zal;(iterate 3 exact Z);exact Go.Zqy)|(apply Zaj;exact Z;exact Go.Zqy;exact Z;exact Z)|(apply Zac;exact Z;exact Go.Zqy))
  all_goals(apply Zaz [];(apply Zad Zab;exact Z);(iterate 4 exact Z))
  all_goals rfl
 have t1:(k != k')=false:=by simpa using h1
 by_cases h2:n=n'
 case neg=>
  have t2:((n:Int) != (n':Int))=true:=by simp;omega
  have tt:((k==k')&&((n==n')&&((b==b')&&It.beqs l l')))=false:=by simp[h2]
  rw[tt]
  refine AP.ofA ?_
  refine Zan Tryz.func22 rfl Tryz.ntmps22 rfl rfl ?_
  repeat'(first|(apply Zai Zab;exact Z)|(apply Zah Zab;exact Z)|(apply Zaw Zab;exact Z)|(apply Zae;(iterate 3 exact Z);exact Go.Zqy)|(apply Zal;(iterate 3 exact Z);exact Go.Zqy)|(apply Zaj;exact Z;exact Go.Zqy;exact Z;exact Z)|(apply Zag;exact Z;exact Go.Zqy;exact Z;exact Z)|(apply Zac;exact Z;exact Go.Zqy))
  all_goals(apply Zaz [];(apply Zad Zab;exact Z);(iterate 4 exact Z))
  all_goals rfl
 have t2:((n:Int) != (n':Int))=false:=by simp;omega
 by_cases h3:b=b'
 case neg=>
  have t3:(b != b')=true:=by simpa using h3
  have tt:((k==k')&&((n==n')&&((b==b')&&It.beqs l l')))=false:=by simp[h3]
  rw[tt]
  refine AP.ofA ?_
  refine Zan Tryz.func22 rfl Tryz.ntmps22 rfl rfl ?_
  repeat'(first|(apply Zai Zab;exact Z)|(apply Zah Zab;exact Z)|(apply Zaw Zab;exact Z)|(apply Zae;(iterate 3 exact Z);exact Go.Zqy)|(apply Zal;(iterate 3 exact Z);exact Go.Zqy)|(apply Zaj;exact Z;exact Go.Zqy;exact Z;exact Z)|(apply Zag;exact Z;exact Go.Zqy;exact Z;exact Z)|(apply Zac;exact Z;exact Go.Zqy)|(apply Zcg Zab;(iterate 9 exact Z)))
  all_goals(apply Zaz [];(apply Zad Zab;exact Z);(iterate 4 exact Z))
  all_goals rfl
 have t3:(b != b')=false:=by simpa using h3
 have e:((k==k')&&((n==n')&&((b==b')&&It.beqs l l')))=It.beqs l l':=by simp[h1,h2,h3]
 rw[e]
 by_cases hne:l.length=l'.length
 case neg=>
  have t4:(((ZaC l).length:Int) != ((ZaC l').length:Int))=true:=by rw[e1,e2];simp;omega
  rw[Zns hne]
  refine AP.ofA ?_
  refine Zan Tryz.func22 rfl Tryz.ntmps22 rfl rfl ?_
  repeat'(first|(apply Zai Zab;exact Z)|(apply Zah Zab;exact Z)|(apply Zaw Zab;exact Z)|(apply Zae;(iterate 3 exact Z);exact Go.Zqy)|(apply Zag;exact Z;exact Go.Zqy;exact Z;exact Z)|(apply Zac;exact Z;exact Go.Zqy)|(apply Zao Zab;(iterate 4 exact Z))|(apply Zcg Zab;(iterate 9 exact Z)))
  all_goals(apply Zaz [];(apply Zad Zab;exact Z);(iterate 4 exact Z))
  all_goals rfl
 have t4:(((ZaC l).length:Int) != ((ZaC l').length:Int))=false:=by rw[e1,e2,hne];simp
 generalize hfin:It.beqs l l'=fin
 have ih':∀ y ∈ l,∀ y' ∈ l',AP Tryz.prog 22 [itD y,itD y'] (.bool (It.beq y y')) []:=fun y hy y' hy'=>ih y hy (Za7 hws y hy) y' (Za7 hws' y' hy')
 clear ih e h1 h2 h3
 refine AP.ofA ?_
 refine Zan Tryz.func22 rfl Tryz.ntmps22 rfl rfl ?_
 repeat'(first|(apply Zai Zab;exact Z)|(apply Zah Zab;exact Z)|(apply Zaw Zab;exact Z)|(apply Zae;(iterate 3 exact Z);exact Go.Zqy)|(apply Zag;exact Z;exact Go.Zqy;exact Z;exact Z)|(apply Zaf;exact Z;exact Go.Zqy)|(apply Zao Zab;(iterate 4 exact Z))|(apply Zcg Zab;(iterate 9 exact Z)))
 refine ZaG (fun f tm bx fr=>∃ i:Nat,f+i=l.length/\It.beqs (l.drop i) (l'.drop i)=fin/\tm=[(2,.ptr 0 0),(3,.ptr 1 0),(5,.int .i64 (i:Int)),(4,.bool false)]/\bx=[itC k n b l,itC k' n' b' l']/\fr=[]) (l.length+1) (Lands.mk' (m:=l.length) (Nat.lt_succ_self _) ⟨0,rfl,hfin,rfl,rfl,rfl⟩ ?_ rfl rfl rfl rfl rfl rfl) ?_
 ·exact .cons rfl (.cons rfl (.cons rfl (.cons rfl .nil)))
 rintro f tm bx fr ⟨i,hf,hfin,rfl,rfl,rfl⟩
 have hU:=Zcd l
 have hU':=Zcd l'
 rcases Nat.lt_or_ge i l.length with hlt|hge
 ·have hdl:decide ((i:Int)<((ZaC l).length:Int))=true:=decide_eq_true (by omega)
  obtain⟨⟨k1,n1,b1,l1⟩,hy⟩:∃ y,l[i]?=some y:=⟨_,List.getElem?_eq_getElem hlt⟩
  obtain⟨⟨k2,n2,b2,l2⟩,hy'⟩:∃ y,l'[i]?=some y:=⟨_,List.getElem?_eq_getElem (by omega)⟩
  have hv:(ZaC l)[((i:Nat):Int).toNat]?=some (.agg [.int .i64 k1,.int .u64 (n1:Int),.sl (b1.map E.byte),.sl (ZaC l1)]):=by
   rw[Int.toNat_natCast,ZaL,List.getElem?_map,hy];rfl
  have hv':(ZaC l')[((i:Nat):Int).toNat]?=some (.agg [.int .i64 k2,.int .u64 (n2:Int),.sl (b2.map E.byte),.sl (ZaC l2)]):=by
   rw[Int.toNat_natCast,ZaL,List.getElem?_map,hy'];rfl
  have hc:=ih' _ (List.mem_of_getElem? hy) _ (List.mem_of_getElem? hy')
  have hdr:l.drop i=It.mk k1 n1 b1 l1::l.drop (i+1):=by
   rw[List.drop_eq_getElem_cons hlt];congr 1
   exact(List.getElem?_eq_some_iff.1 hy).2
  have hdr':l'.drop i=It.mk k2 n2 b2 l2::l'.drop (i+1):=by
   rw[List.drop_eq_getElem_cons (by omega)];congr 1
   exact(List.getElem?_eq_some_iff.1 hy').2
  rw[hdr,hdr',It.beqs]at hfin
  have ei:IntKind.i64.wrap ((i:Int)+1)=((i+1:Nat):Int):=by rw[IntWalk.i64_in _ (by omega)];omega
  cases hb:It.beq (.mk k1 n1 b1 l1) (.mk k2 n2 b2 l2) with
  | false=>
   rw[hb]at hfin hc
   subst hfin
   repeat'(first|(apply Zaa (hc);kernel_rfl;(iterate 4 exact Z))|(apply Zai Zab;exact Z)|(apply Zah Zab;exact Z)|(apply Zaw Zab;exact Z)|(apply Zac;exact Z;exact Go.Zqy)|refine Zbk ?_|(apply Zao Zab;(iterate 4 exact Z))|(apply ZaQ 10 ZaK;decide +kernel;kernel_rfl;kernel_rfl;exact Z;exact Z)|(apply ZaY;(iterate 3 exact Z))|refine AD.nil _|exact Zbx rfl|(apply Zav Zab;(iterate 6 exact Z);(first|exact Go.Zqy|rotate_left);(first|with_reducible assumption|decide +kernel|exact Z);(first|exact Zak rfl|with_reducible assumption|decide +kernel|rotate_left)))
   all_goals(apply Zaz [];(apply Zad Zab;exact Z);(iterate 4 exact Z))
   all_goals rfl
  | true=>
   rw[hb]at hfin hc
   repeat'(first|rw[ei]|(apply Zaa (hc);kernel_rfl;(iterate 4 exact Z))|(apply Zai Zab;exact Z)|(apply Zah Zab;exact Z)|(apply Zaw Zab;exact Z)|(apply Zac;exact Z;exact Go.Zqy)|(apply Zaf;exact Z;exact Go.Zqy)|(apply Zao Zab;(iterate 4 exact Z))|(apply ZaQ 10 ZaK;decide +kernel;kernel_rfl;kernel_rfl;exact Z;exact Z)|(apply ZaY;(iterate 3 exact Z))|refine AD.nil _|exact Zbx rfl|(apply Zav Zab;(iterate 6 exact Z);(first|exact Go.Zqy|rotate_left);(first|with_reducible assumption|decide +kernel|exact Z);(first|exact Zak rfl|with_reducible assumption|decide +kernel|rotate_left)))
   refine Lands.mk' (m:=f-1) (by omega) ⟨i+1,by omega,hfin,rfl,rfl,rfl⟩ ?_ rfl rfl rfl rfl rfl rfl
   exact .cons rfl (.cons rfl (.cons rfl (.cons rfl .nil)))
 ·have hdl:decide ((i:Int)<((ZaC l).length:Int))=false:=decide_eq_false (by omega)
  rw[List.drop_eq_nil_of_le hge,List.drop_eq_nil_of_le (by omega)]at hfin
  have hfin:true=fin:=hfin
  subst hfin
  repeat'(first|(apply Zai Zab;exact Z)|(apply Zah Zab;exact Z)|(apply Zaw Zab;exact Z)|(apply Zaf;exact Z;exact Go.Zqy)|(apply Zao Zab;(iterate 4 exact Z)))
  all_goals(apply Zaz [];(apply Zad Zab;exact Z);(iterate 4 exact Z))
  all_goals rfl
theorem Zdi (b:List UInt8)(hb:b.length<4294967296):(∃ e:Nat,e ≠ 0/\Zbn b 0=(.mk 0 0 [] [],0,e)/\Zb3 b=false)\/(∃(y:It) (n:Nat),Zbn b 0=(y,n,0)/\wfI y/\ZaM y=true/\(Za6 y).length<=n/\n<=b.length):=by
 have e:Zbn b 0=match ZaU 6 256 b with
   | .error e=>(.mk 0 0 [] [],0,e)
   | .ok (x,r,_)=>(x,b.length-r.length,0):=by rw[Zbn,if_neg (by omega)];rfl
 unfold Zb3
 rw[e]
 cases hx:ZaU 6 256 b with
 | error c=>exact .inl ⟨c,ZcY _ _ _ _ hx,rfl,rfl⟩
 | ok y=>
  obtain⟨y,r,m1⟩:=y
  obtain⟨hwk,hwf,pre,hpre,_,hlen⟩:=Zem 6 (Nat.le_refl _) _ _ _ _ _ hx (by omega)
  have hle:=hlen ⟨Nat.le_refl _,hb⟩
  have hpl:=congrArg List.length hpre
  rw[List.length_append]at hpl
  refine .inr ⟨y,b.length-r.length,rfl,hwf,?_,by omega,by omega⟩
  have hwk:Zb2 y 1 256=some m1:=hwk
  unfold ZaM;rw[hwk];rfl
def Zc7 (c:UInt8):List UInt8->List UInt8 × List UInt8 × Bool
 | []=>([],[],false)
 | x::s=>if x=c then([],s,true) else(x::(Zc7 c s).1,(Zc7 c s).2.1,(Zc7 c s).2.2)
theorem ZkN {c:UInt8}:∀ {s:List UInt8},c ∉ s->Zc7 c s=(s,[],false)
 | [],_=>rfl
 | x::s,h=>by
  have h1:¬ x=c:=fun e=>h (by rw[e];exact List.mem_cons_self ..)
  have h2:=ZkN (c:=c) (s:=s) fun hm=>h (List.mem_cons_of_mem _ hm)
  rw[Zc7,if_neg h1,h2]
theorem Zc0 {c:UInt8}:∀ {a b:List UInt8},c ∉ a->Zc7 c (a++c::b)=(a,b,true)
 | [],b,_=>by rw[List.nil_append,Zc7,if_pos rfl]
 | x::a,b,h=>by
  have h1:¬ x=c:=fun e=>h (by rw[e];exact List.mem_cons_self ..)
  have h2:=Zc0 (c:=c) (a:=a) (b:=b) fun hm=>h (List.mem_cons_of_mem _ hm)
  rw[List.cons_append,Zc7,if_neg h1,h2]
theorem Zd2 {c:UInt8}:∀ {s:List UInt8},(Zc7 c s).2.2=true->s=(Zc7 c s).1++c::(Zc7 c s).2.1
 | [],h=>by rw[Zc7]at h;cases h
 | x::s,h=>by
  rw[Zc7]at h ⊢
  by_cases e:x=c
  ·rw[if_pos e];rw[e];rfl
  ·rw[if_neg e]at h ⊢
   have:=Zd2 (c:=c) (s:=s) h
   dsimp only
   rw[List.cons_append,<- this]
def ZdD (p s:List UInt8):List UInt8 × Bool:=if s.take p.length==p then(s.drop p.length,true) else(s,false)
theorem Zd3 (p r:List UInt8):ZdD p (p++r)=(r,true):=by
 unfold ZdD
 rw[List.take_left,beq_self_eq_true,if_pos rfl,List.drop_left]
theorem ZkO {p s:List UInt8}(h:(s.take p.length==p)=false):ZdD p s=(s,false):=by
 unfold ZdD;rw[h];rfl
theorem Zd4 {p s:List UInt8}(h:(ZdD p s).2=true):s=p++(ZdD p s).1:=by
 unfold ZdD at h ⊢
 split at h
 ·rename_i hp
  rw[if_pos hp]
  have:=beq_iff_eq.1 hp
  conv=>lhs;rw[<- List.take_append_drop p.length s,this]
 ·cases h
def ppV (s:List UInt8):EidV × Bool:=
 (⟨false,0,0,(Zc7 47 (ZdD [47,47] s).1).1,(Zc7 47 (ZdD [47,47] s).1).2.1⟩,(ZdD [47,47] s).2&&((Zc7 47 (ZdD [47,47] s).1).2.2&&((Zc7 47 (ZdD [47,47] s).1).1 != []&&ZaP ⟨false,0,0,(Zc7 47 (ZdD [47,47] s).1).1,(Zc7 47 (ZdD [47,47] s).1).2.1⟩)))
def Zd5:List UInt8:=[100,116,110,58,110,111,110,101]
def Zd6:List UInt8:=[105,112,110,58]
def ZfF:List UInt8:=[100,116,110,58]
theorem Zcy {x:EidV}:isZ x=true ↔ x=Zdv:=by
 obtain⟨i,n,s,h,d⟩:=x
 simp only[isZ,Zdv,Bool.and_eq_true,beq_iff_eq,EidV.mk.injEq]
 constructor
 ·rintro⟨h1,h2,h3,h4,h5,_⟩
  exact⟨h1,by omega,by omega,h4,h5⟩
 ·rintro⟨h1,h2,h3,h4,h5⟩
  exact⟨h1,by omega,by omega,h4,h5,trivial⟩
theorem Zeo {m:Nat}{c:UInt8}{l:List UInt8}(hl:l.all (okB m)=true)(h:okB m c=false):c ∉ l:=fun hm=>by
 have:=List.all_eq_true.1 hl c hm
 rw[h]at this;cases this
set_option maxRecDepth 100000 in
theorem Zl0 (s:ByteArray)(c:Int)(w:World):Calls Tryz.prog 214 #[.string s,.int .u8 c] w fun e w'=>e=.returned (.int .i64 (Lib.indexByte s.data.toList c.toNat.toUInt8))/\w'=w:=by
 go_enter Tryz.func214,Tryz.ntmps214
 go_wp2
 rw[run_callFunc_extern Tryz.func219 (by kernel_rfl) (by kernel_rfl) (by kernel_rfl) (e:=Extern.BytealgIndexByte.indexByte) (by kernel_rfl),Lib.run_indexByteString]
 simp only[Result.andThen]
 rw[Oper.upon_value]
 go_wp2
 go_ret
 exact⟨rfl,rfl⟩
theorem ZoD [Known](s:List UInt8)(c:Int):AP Tryz.prog 214 [.str s,.int .u8 c] (.int .i64 (Lib.indexByte s c.toNat.toUInt8)) []:=by
 refine⟨fun g w vs hmem hl hv=>?_⟩
 obtain⟨v0,v1,rfl⟩:∃ v0 v1,vs=[v0,v1]:=by
  match vs,hl with
  | [v0,v1],_=>exact⟨v0,v1,rfl⟩
 have h0:=(hv 0 _ _ rfl rfl).str_inv.1
 have h1:=(hv 1 _ _ rfl rfl).int_inv
 subst h0 h1
 exact(Zl0 ⟨s.toArray⟩ c w).mono fun e w' ⟨he,hb⟩=>Zim hmem (hb ▸ Below.refl _ _) he (.int _ _)
theorem Zhf [Known](s p:List UInt8)(hs:s.length<=4611686018427387904)(hp:p.length<=4611686018427387904):AP Tryz.prog 206 [.str s,.str p] (.bool (s.take p.length==p)) []:=by
 by_cases h:p.length<=s.length
 ·have t1:decide ((s.length:Int) ≥ (p.length:Int))=true:=decide_eq_true (by omega)
  have hq:((p.length:Nat):Int).toNat<=s.length:=by rw[Int.toNat_natCast];exact h
  have hs2:(s.take ((p.length:Nat):Int).toNat).drop 0=s.take p.length:=by rw[Int.toNat_natCast,List.drop_zero]
  generalize s.take p.length=s2 at *
  refine AP.ofA ?_
  refine Zan Tryz.func206 rfl Tryz.ntmps206 rfl rfl ?_
  repeat'(first|(apply Zbq Zab;(iterate 4 exact Z);exact .dft _;exact .lit _ _ _ _ rfl (Int.natCast_nonneg _);exact Nat.zero_le _;exact hq;exact hs2)|(apply Zai Zab;exact Z)|(apply Zah Zab;exact Z)|(apply Zae;(iterate 3 exact Z);exact Go.Zqy)|(apply Zaj;exact Z;exact Go.Zqy;exact Z;exact Z)|(apply ZaV Zab;(iterate 4 exact Z)))
  all_goals(apply Zaz [];(apply Zad Zab;exact Z);(iterate 4 exact Z))
  all_goals rfl
 ·have t1:decide ((s.length:Int) ≥ (p.length:Int))=false:=decide_eq_false (by omega)
  have e:(s.take p.length==p)=false:=by
   rw[beq_eq_false_iff_ne]
   intro e
   have:=congrArg List.length e
   rw[List.length_take]at this
   omega
  rw[e]
  refine AP.ofA ?_
  refine Zan Tryz.func206 rfl Tryz.ntmps206 rfl rfl ?_
  repeat'(first|(apply Zai Zab;exact Z)|(apply Zah Zab;exact Z)|(apply Zau;(iterate 3 exact Z);exact Go.Zqy)|(apply Zag;exact Z;exact Go.Zqy;exact Z;exact Z)|(apply ZaV Zab;(iterate 4 exact Z)))
  all_goals(apply Zaz [];(apply Zad Zab;exact Z);(iterate 4 exact Z))
  all_goals rfl
theorem Zjx [Known](p r:List UInt8)(hs:(p++r).length<=4611686018427387904):AP Tryz.prog 171 [.str (p++r),.str p] (.tup [.str r,.bool true]) []:=by
 have hH:=Zhf (p++r) p hs (by rw[List.length_append]at hs;omega)
 rw[List.take_left,beq_self_eq_true]at hH
 have hq:((p.length:Nat):Int).toNat<=(p++r).length:=by rw[Int.toNat_natCast,List.length_append];omega
 have hs2:((p++r).take (p++r).length).drop ((p.length:Nat):Int).toNat=r:=by rw[Int.toNat_natCast,List.take_length,List.drop_left]
 have hC:AP Tryz.prog 191 [.str (p++r),.str p] (.tup [.str r,.bool true]) []:=by
  generalize p++r=s at *
  refine AP.ofA ?_
  refine Zan Tryz.func191 rfl Tryz.ntmps191 rfl rfl ?_
  repeat'(first|(apply Zaa (hH);kernel_rfl;(iterate 4 exact Z))|(apply Zbq Zab;(iterate 4 exact Z);exact .lit _ _ _ _ rfl (Int.natCast_nonneg _);exact .dft _;exact hq;exact Nat.le_refl _;exact hs2)|(apply Zai Zab;exact Z)|(apply Zah Zab;exact Z)|(apply Zaw Zab;exact Z)|(apply Zaf;exact Z;exact Go.Zqy)|(apply ZaV Zab;(iterate 4 exact Z)))
  all_goals(apply Zaz [];(apply Zad Zab;exact Z);(iterate 4 exact Z))
  all_goals rfl
 refine AP.ofA ?_
 refine Zan Tryz.func171 rfl Tryz.ntmps171 rfl rfl ?_
 repeat'(first|(apply Zaa (hC);kernel_rfl;(iterate 4 exact Z))|(apply Zai Zab;exact Z)|(apply Zah Zab;exact Z))
 all_goals(apply Zaz [];(apply Zad Zab;exact Z);(iterate 4 exact Z))
 all_goals rfl
theorem Zjy [Known](s p:List UInt8)(hs:s.length<=4611686018427387904)(hp:p.length<=4611686018427387904)(h:(s.take p.length==p)=false):AP Tryz.prog 171 [.str s,.str p] (.tup [.str s,.bool false]) []:=by
 have hH:=Zhf s p hs hp
 rw[h]at hH
 have hC:AP Tryz.prog 191 [.str s,.str p] (.tup [.str s,.bool false]) []:=by
  refine AP.ofA ?_
  refine Zan Tryz.func191 rfl Tryz.ntmps191 rfl rfl ?_
  repeat'(first|(apply Zaa (hH);kernel_rfl;(iterate 4 exact Z))|(apply Zai Zab;exact Z)|(apply Zah Zab;exact Z)|(apply Zaw Zab;exact Z)|(apply Zac;exact Z;exact Go.Zqy))
  all_goals(apply Zaz [];(apply Zad Zab;exact Z);(iterate 4 exact Z))
  all_goals rfl
 refine AP.ofA ?_
 refine Zan Tryz.func171 rfl Tryz.ntmps171 rfl rfl ?_
 repeat'(first|(apply Zaa (hC);kernel_rfl;(iterate 4 exact Z))|(apply Zai Zab;exact Z)|(apply Zah Zab;exact Z))
 all_goals(apply Zaz [];(apply Zad Zab;exact Z);(iterate 4 exact Z))
 all_goals rfl
theorem ZkP (s p:List UInt8):(∃ r,s=p++r)\/(s.take p.length==p)=false:=by
 cases h:s.take p.length==p with
 | true=>
  refine .inl ⟨s.drop p.length,?_⟩
  have:=beq_iff_eq.1 h
  conv=>lhs;rw[<- List.take_append_drop p.length s,this]
 | false=>exact .inr rfl
theorem Zmz:∀ {l:List UInt8} {c:UInt8},c ∉ l->Lib.indexByte l c = -1
 | [],_,_=>rfl
 | x::l,c,h=>by
  have h1:¬ x=c:=fun e=>h (by rw[e];exact List.mem_cons_self ..)
  have h2:=Zmz (l:=l) (c:=c) fun hm=>h (List.mem_cons_of_mem _ hm)
  simp[Lib.indexByte,h1,h2]
theorem ZkQ:∀ {a b:List UInt8} {c:UInt8},c ∉ a->Lib.indexByte (a++c::b) c=(a.length:Int)
 | [],b,c,_=>by simp[Lib.indexByte]
 | x::a,b,c,h=>by
  have h1:¬ x=c:=fun e=>h (by rw[e];exact List.mem_cons_self ..)
  have h2:=ZkQ (a:=a) (b:=b) (c:=c) fun hm=>h (List.mem_cons_of_mem _ hm)
  rw[List.cons_append]
  simp only[Lib.indexByte,h2,List.length_cons,beq_iff_eq,h1,if_false]
  (repeat' split)<;>omega
theorem Zhg [Known](s:List UInt8)(c:UInt8):AP Tryz.prog 207 [.str s,.str [c]] (.int .i64 (Lib.indexByte s c)) []:=by
 have hI:=ZoD s (c.toNat:Int)
 have e:((c.toNat:Int)).toNat.toUInt8=c:=by rw[Int.toNat_natCast];simp
 rw[e]at hI
 have t0:((([c]:List UInt8).length:Int)==0)=false:=rfl
 have t1:((([c]:List UInt8).length:Int)==1)=true:=rfl
 by_cases hs:[c]=s
 ·subst hs
  have t2:([c]==[c])=true:=by simp
  have e0:Lib.indexByte [c] c=0:=by simp[Lib.indexByte]
  rw[e0]
  refine AP.ofA ?_
  refine Zan Tryz.func207 rfl Tryz.ntmps207 rfl rfl ?_
  repeat'(first|(apply Zai Zab;exact Z)|(apply Zah Zab;exact Z)|(apply Zaw Zab;exact Z)|(apply Zae;(iterate 3 exact Z);exact Go.Zqy)|(apply Zag;exact Z;exact Go.Zqy;exact Z;exact Z)|(apply Zac;exact Z;exact Go.Zqy)|(apply ZaV Zab;(iterate 4 exact Z)))
  all_goals(apply Zaz [];(apply Zad Zab;exact Z);(iterate 4 exact Z))
  all_goals rfl
 ·have t2:([c]==s)=false:=by simpa using hs
  refine AP.ofA ?_
  refine Zan Tryz.func207 rfl Tryz.ntmps207 rfl rfl ?_
  repeat'(first|(apply Zaa (hI);kernel_rfl;(iterate 4 exact Z))|(apply ZcX Zab;(iterate 5 exact Z);decide +kernel;exact Z)|(apply Zai Zab;exact Z)|(apply Zah Zab;exact Z)|(apply Zaw Zab;exact Z)|(apply Zae;(iterate 3 exact Z);exact Go.Zqy)|(apply Zag;exact Z;exact Go.Zqy;exact Z;exact Z)|(apply Zac;exact Z;exact Go.Zqy)|(apply Zaf;exact Z;exact Go.Zqy)|(apply ZaV Zab;(iterate 4 exact Z)))
  all_goals(apply Zaz [];(apply Zad Zab;exact Z);(iterate 4 exact Z))
  all_goals rfl
theorem Znt [Known](s:List UInt8)(c:UInt8)(h:c ∉ s):AP Tryz.prog 172 [.str s,.str [c]] (.tup [.str s,.str [],.bool false]) []:=by
 have hI:=Zhg s c
 rw[Zmz h]at hI
 have hC:AP Tryz.prog 192 [.str s,.str [c]] (.tup [.str s,.str [],.bool false]) []:=by
  refine AP.ofA ?_
  refine Zan Tryz.func192 rfl Tryz.ntmps192 rfl rfl ?_
  repeat'(first|(apply Zaa (hI);kernel_rfl;(iterate 4 exact Z))|(apply Zai Zab;exact Z)|(apply Zah Zab;exact Z)|(apply Zaf;exact Z;exact Go.Zqy))
  all_goals(apply Zaz [];(apply Zad Zab;exact Z);(iterate 4 exact Z))
  all_goals rfl
 refine AP.ofA ?_
 refine Zan Tryz.func172 rfl Tryz.ntmps172 rfl rfl ?_
 repeat'(first|(apply Zaa (hC);kernel_rfl;(iterate 4 exact Z))|(apply Zai Zab;exact Z)|(apply Zah Zab;exact Z))
 all_goals(apply Zaz [];(apply Zad Zab;exact Z);(iterate 4 exact Z))
 all_goals rfl
theorem Znu [Known](a b:List UInt8)(c:UInt8)(h:c ∉ a)(hl:(a++c::b).length<=4611686018427387904):AP Tryz.prog 172 [.str (a++c::b),.str [c]] (.tup [.str a,.str b,.bool true]) []:=by
 have hI:=Zhg (a++c::b) c
 rw[ZkQ h]at hI
 have hal:a.length+1<=(a++c::b).length:=by rw[List.length_append,List.length_cons];omega
 have t1:decide ((a.length:Int) ≥ 0)=true:=decide_eq_true (by omega)
 have e1:IntKind.i64.wrap ((a.length:Int)+(([c]:List UInt8).length:Int))=((a.length+1:Nat):Int):=by
  rw[IntWalk.i64_in _ (by simp;omega)];simp
 have q1:((a.length:Nat):Int).toNat<=(a++c::b).length:=by rw[Int.toNat_natCast];omega
 have q2:((a.length+1:Nat):Int).toNat<=(a++c::b).length:=by rw[Int.toNat_natCast];omega
 have s1:((a++c::b).take ((a.length:Nat):Int).toNat).drop 0=a:=by rw[Int.toNat_natCast,List.drop_zero,List.take_left]
 have s2:((a++c::b).take (a++c::b).length).drop ((a.length+1:Nat):Int).toNat=b:=by
  rw[Int.toNat_natCast,List.take_length,show a.length+1=(a++[c]).length by simp,show a++c::b=(a++[c])++b by simp,List.drop_left]
 have hC:AP Tryz.prog 192 [.str (a++c::b),.str [c]] (.tup [.str a,.str b,.bool true]) []:=by
  generalize a++c::b=s at *
  refine AP.ofA ?_
  refine Zan Tryz.func192 rfl Tryz.ntmps192 rfl rfl ?_
  repeat'(first|rw[e1]|(apply Zaa (hI);kernel_rfl;(iterate 4 exact Z))|(apply Zbq Zab;(iterate 4 exact Z);exact .dft _;exact .lit _ _ _ _ rfl (Int.natCast_nonneg _);exact Nat.zero_le _;exact q1;exact s1)|(apply Zbq Zab;(iterate 4 exact Z);exact .lit _ _ _ _ rfl (Int.natCast_nonneg _);exact .dft _;exact q2;exact Nat.le_refl _;exact s2)|(apply Zai Zab;exact Z)|(apply Zah Zab;exact Z)|(apply Zac;exact Z;exact Go.Zqy)|(apply ZaV Zab;(iterate 4 exact Z))|(apply Zam 10 ZaK;decide +kernel;kernel_rfl;kernel_rfl;kernel_rfl;exact Z;exact Z)|(apply Zaq;(iterate 4 exact Z))|exact AE.nil _ _ _ _|(apply Zat;exact Z)|(apply Zax;exact Z;exact Z;decide +kernel;exact Z)|(apply Zay;exact Z)|exact AO.nil _ _ _|(apply Zap;(decide +kernel))|exact AOs.nil|exact ZaE rfl rfl)
  all_goals(apply Zaz [];(apply Zad Zab;exact Z);(iterate 4 exact Z))
  all_goals rfl
 refine AP.ofA ?_
 refine Zan Tryz.func172 rfl Tryz.ntmps172 rfl rfl ?_
 repeat'(first|(apply Zaa (hC);kernel_rfl;(iterate 4 exact Z))|(apply Zai Zab;exact Z)|(apply Zah Zab;exact Z))
 all_goals(apply Zaz [];(apply Zad Zab;exact Z);(iterate 4 exact Z))
 all_goals rfl
theorem Zfr (c:UInt8):∀ s:List UInt8,(c ∉ s)\/∃ a b,s=a++c::b/\c ∉ a
 | []=>.inl (by simp)
 | x::s=>by
  by_cases e:x=c
  ·subst e;exact .inr ⟨[],s,rfl,by simp⟩
  ·rcases Zfr c s with h|⟨a,b,rfl,h⟩
   ·refine .inl fun hm=>?_
    rcases List.mem_cons.1 hm with h2|h2
    ·exact e h2.symm
    ·exact h h2
   ·refine .inr ⟨x::a,b,rfl,fun hm=>?_⟩
    rcases List.mem_cons.1 hm with h2|h2
    ·exact e h2.symm
    ·exact h h2
end Go.Proofs.YtakblclkflnnpaaGreatDoor
end
section
open Go.RowKit Go.Pl
namespace Go.Av
section
variable {P:Program} {Q:X->St->Prop} {n:Nat} {ee:Nat × Nat} {tm:List (Nat × D)} {bx:List (List D)} {fr:List Fr}
variable {ops:Array Oper} {rest:List Oper} {t ty:Nat} {pos:String} {after:Array Edge}
end
end Go.Av
end
section
open Go.RowKit Go.Pl Go.Av
namespace Go.Proofs.YtakblclkflnnpaaGreatDoor
set_option maxHeartbeats 4000000
theorem Zl1 (p s:List UInt8):(ZdD p s).1.length<=s.length:=by
 unfold ZdD
 split
 ·simp
 ·exact Nat.le_refl _
theorem ZoE [Known](s:List UInt8)(c:UInt8)(hl:s.length<=4611686018427387904):AP Tryz.prog 172 [.str s,.str [c]] (.tup [.str (Zc7 c s).1,.str (Zc7 c s).2.1,.bool (Zc7 c s).2.2]) []:=by
 rcases Zfr c s with h|⟨a,b,rfl,h⟩
 ·rw[ZkN h];exact Znt s c h
 ·rw[Zc0 h];exact Znu a b c h hl
theorem ZkR [Known](s p:List UInt8)(hs:s.length<=4611686018427387904)(hp:p.length<=4611686018427387904):AP Tryz.prog 171 [.str s,.str p] (.tup [.str (ZdD p s).1,.bool (ZdD p s).2]) []:=by
 rcases ZkP s p with⟨r,rfl⟩ | h
 ·rw[Zd3];exact Zjx p r hs
 ·rw[ZkO h];exact Zjy s p hs hp h
theorem Zpq [Known](s:List UInt8)(hs:s.length<=140737488351232):AP Tryz.prog 143 [.str s] (.tup [.agg (eC (ppV s).1),.bool (ppV s).2]) []:=by
 have hP:=ZkR s [47,47] (by omega) (by decide)
 have hl:=Zl1 [47,47] s
 unfold ppV
 dsimp only
 generalize (ZdD [47,47] s).1=r at *
 generalize (ZdD [47,47] s).2=ok at *
 have hC:=ZoE r 47 (by omega)
 generalize (Zc7 47 r).1=a at *
 generalize (Zc7 47 r).2.1=b at *
 generalize (Zc7 47 r).2.2=k at *
 have hR:=Zfo ⟨false,0,0,a,b⟩
 generalize ZaP ⟨false,0,0,a,b⟩=R at *
 replace hR:AP Tryz.prog _ [.agg [.bool false,.int .u64 0,.int .u64 0,.str a,.str b]] (.bool R) []:=hR
 show AP Tryz.prog _ _ (.tup [.agg [.bool false,.int .u64 0,.int .u64 0,.str a,.str b],_]) _
 obtain⟨ne,h1⟩:∃ ne,(a != [])=ne:=⟨_,rfl⟩
 rw[h1]
 cases ok with
 | false=>
  refine AP.ofA ?_
  refine Zan Tryz.func143 rfl Tryz.ntmps143 rfl rfl ?_
  repeat'(first|(apply Zaa (hP);kernel_rfl;(iterate 4 exact Z))|(apply Zaa (hC);kernel_rfl;(iterate 4 exact Z))|(apply Zai Zab;exact Z)|(apply Zah Zab;exact Z)|(apply Zau;(iterate 3 exact Z);exact Go.Zqy)|(apply Zag;exact Z;exact Go.Zqy;exact Z;exact Z)|(apply Zam 14 ZaK;decide +kernel;kernel_rfl;kernel_rfl;kernel_rfl;exact Z;exact Z)|(apply Zaq;(iterate 4 exact Z))|exact AE.nil _ _ _ _|(apply Zat;exact Z)|(apply Zfe;exact Z)|(apply Zax;exact Z;exact Z;decide +kernel;exact Z)|(apply Zay;exact Z)|(apply ZhJ;exact Z)|exact AO.nil _ _ _|(apply Zap;(decide +kernel))|(apply ZaZ;(iterate 3 exact Z))|exact AOs.nil|exact ZaE rfl rfl|exact ZfN rfl)
  all_goals(apply Zaz [];(apply Zad Zab;exact Z);(iterate 4 exact Z))
  all_goals rfl
 | true=>
  cases k with
  | false=>
   refine AP.ofA ?_
   refine Zan Tryz.func143 rfl Tryz.ntmps143 rfl rfl ?_
   repeat'(first|(apply Zaa (hP);kernel_rfl;(iterate 4 exact Z))|(apply Zaa (hC);kernel_rfl;(iterate 4 exact Z))|(apply Zai Zab;exact Z)|(apply Zah Zab;exact Z)|(apply Zae;(iterate 3 exact Z);exact Go.Zqy)|(apply Zau;(iterate 3 exact Z);exact Go.Zqy)|(apply Zaj;exact Z;exact Go.Zqy;exact Z;exact Z)|(apply Zag;exact Z;exact Go.Zqy;exact Z;exact Z)|(apply Zam 14 ZaK;decide +kernel;kernel_rfl;kernel_rfl;kernel_rfl;exact Z;exact Z)|(apply Zaq;(iterate 4 exact Z))|exact AE.nil _ _ _ _|(apply Zat;exact Z)|(apply Zfe;exact Z)|(apply Zax;exact Z;exact Z;decide +kernel;exact Z)|(apply Zay;exact Z)|(apply ZhJ;exact Z)|exact AO.nil _ _ _|(apply Zap;(decide +kernel))|(apply ZaZ;(iterate 3 exact Z))|exact AOs.nil|exact ZaE rfl rfl|exact ZfN rfl)
   all_goals(apply Zaz [];(apply Zad Zab;exact Z);(iterate 4 exact Z))
   all_goals rfl
  | true=>
   cases ne<;>cases R
   all_goals
    refine AP.ofA ?_
    refine Zan Tryz.func143 rfl Tryz.ntmps143 rfl rfl ?_
    repeat'(first|rw[h1]|(apply Zaa (hP);kernel_rfl;(iterate 4 exact Z))|(apply Zaa (hC);kernel_rfl;(iterate 4 exact Z))|(apply Zaa (hR);kernel_rfl;(iterate 4 exact Z))|(apply Zai Zab;exact Z)|(apply Zah Zab;exact Z)|(apply Zae;(iterate 3 exact Z);exact Go.Zqy)|(apply Zau;(iterate 3 exact Z);exact Go.Zqy)|(apply Zaj;exact Z;exact Go.Zqy;exact Z;exact Z)|(apply Zag;exact Z;exact Go.Zqy;exact Z;exact Z)|(apply Zam 14 ZaK;decide +kernel;kernel_rfl;kernel_rfl;kernel_rfl;exact Z;exact Z)|(apply Zaq;(iterate 4 exact Z))|exact AE.nil _ _ _ _|(apply Zat;exact Z)|(apply Zfe;exact Z)|(apply Zax;exact Z;exact Z;decide +kernel;exact Z)|(apply Zay;exact Z)|(apply ZhJ;exact Z)|exact AO.nil _ _ _|(apply Zap;(decide +kernel))|(apply ZaZ;(iterate 3 exact Z))|exact AOs.nil|exact ZaE rfl rfl|exact ZfN rfl)
    all_goals(apply Zaz [];(apply Zad Zab;exact Z);(iterate 4 exact Z))
    all_goals rfl
end Go.Proofs.YtakblclkflnnpaaGreatDoor
end

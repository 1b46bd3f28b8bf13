/- Package eid: an item's name: numbers; all items. -/
import Derived.Test.YtakblclkflnnpaaGreatDoorS29
import Derived.Test.YtakblclkflnnpaaGreatDoorS27
import Derived.Test.YtakblclkflnnpaaGreatDoorS01
import Derived.Test.YtakblclkflnnpaaGreatDoorS07
import Derived.Test.YtakblclkflnnpaaGreatDoorProg
import Derived.Test.YtakblclkflnnpaaGreatDoorS25
import Derived.Lib.ItoaNum
import Derived.Test.YtakblclkflnnpaaGreatDoorS10
set_option linter.unusedVariables false
set_option linter.unusedSimpArgs false
section
open Go.RowKit Go.Pl Go.Av
namespace Go.Proofs.YtakblclkflnnpaaGreatDoor
set_option maxHeartbeats 4000000
theorem Zol [Known][KnownU8](n:Nat)(b:List UInt8)(s r:It)(hw:wfI (.mk 4 n b [s,r]))(hr:ZaQ (.mk 4 n b [s,r])=true)(h1:Zcy 1 s=false):AP Tryz.prog 85 [itD (.mk 4 n b [s,r])] (Zoj (Zd3 s r)) []:=by
 have hR:=Zb2 _ hw
 rw[hr]at hR
 obtain⟨_,_,_,hws,hwr,_⟩:=hw
 have hS1:=ZcW s hws 1 (by omega)
 have hS2:=ZcW s hws 2 (by omega)
 have hN:=Znt r hwr
 have n1:=ZdD 1
 have n2:=ZdD 2
 replace n1:AP Tryz.prog _ [.int .u64 1] (.agg [.int .i64 0,.int .u64 1,.sl .ext [],.sl .ext []]) []:=n1
 replace n2:AP Tryz.prog _ [.int .u64 2] (.agg [.int .i64 0,.int .u64 2,.sl .ext [],.sl .ext []]) []:=n2
 rw[h1]at hS1
 have hU:=Zcb [s,r]
 unfold Zd3
 rw[h1]
 dsimp only
 obtain⟨ks,ns,bs,ls⟩:=s
 obtain⟨kr,nr,br,lr⟩:=r
 have t2:(((ZaB [It.mk ks ns bs ls,It.mk kr nr br lr]).length:Int) != 2)=false:=rfl
 cases h2:Zcy 2 (.mk ks ns bs ls) with
 | false=>
  rw[h2]at hS2
  show AP Tryz.prog _ _ (.tup [.agg [.bool false,.int .u64 0,.int .u64 0,.str [],.str []],.int .i64 3]) []
  refine AP.ofA ?_
  refine Zao Tryz.func85 rfl Tryz.ntmps85 rfl rfl ?_
  repeat'(first|(apply Zds 11 Zab ZaJ;decide +kernel;kernel_rfl;kernel_rfl;kernel_rfl;exact Z;exact Z)|exact AV.nil _ _|(apply ZjA;exact Z;exact Z)|(apply ZjB;(iterate 4 exact Z))|(apply Zjz;(iterate 4 exact Z))|(apply ZfZ;(iterate 4 exact Z))|(apply Zaa (hR);kernel_rfl;(iterate 4 exact Z))|(apply Zaa (hS1);kernel_rfl;(iterate 4 exact Z))|(apply Zaa (hS2);kernel_rfl;(iterate 4 exact Z))|(apply Zaa (n1);kernel_rfl;(iterate 4 exact Z))|(apply Zaa (n2);kernel_rfl;(iterate 4 exact Z))|(apply Zaj Zab;exact Z)|(apply Zah Zab;exact Z)|(apply Zav Zab;exact Z)|(apply Zae;(iterate 3 exact Z);exact Go.Zqm)|(apply Zat;(iterate 3 exact Z);exact Go.Zqm)|(apply Zag;exact Z;exact Go.Zqm;exact Z;exact Z)|(apply Zac;exact Z;exact Go.Zqm)|(apply Zaf;exact Z;exact Go.Zqm)|(apply Zan Zab;(iterate 4 exact Z))|(apply Zam 2 ZaJ;decide +kernel;kernel_rfl;kernel_rfl;kernel_rfl;exact Z;exact Z)|(apply Zam 6 ZaJ;decide +kernel;kernel_rfl;kernel_rfl;kernel_rfl;exact Z;exact Z)|(apply Zaq;(iterate 4 exact Z))|exact AE.nil _ _ _ _|(apply Zas;exact Z)|(apply Zaw;exact Z;exact Z;decide +kernel;exact Z)|(apply Zax;exact Z)|exact AO.nil _ _ _|(apply Zap;(decide +kernel))|exact AOs.nil|exact ZaE rfl rfl|(apply Zau Zab;(iterate 6 exact Z);(first|exact Go.Zqm|rotate_left);(first|with_reducible assumption|decide +kernel|exact Z);(first|exact Zai rfl|with_reducible assumption|decide +kernel|rotate_left)))
  all_goals(apply Zay [];(apply Zad Zab;exact Z);(iterate 4 exact Z))
  all_goals rfl
 | true=>
  rw[h2]at hS2
  dsimp only
  cases hq:Zej (.mk kr nr br lr) with
  | none=>
   rw[hq]at hN
   replace hN:AP Tryz.prog _ _ (.tup [.sl .ext [],.bool false]) []:=hN
   show AP Tryz.prog _ _ (.tup [.agg [.bool false,.int .u64 0,.int .u64 0,.str [],.str []],.int .i64 3]) []
   refine AP.ofA ?_
   refine Zao Tryz.func85 rfl Tryz.ntmps85 rfl rfl ?_
   repeat'(first|(apply Zds 11 Zab ZaJ;decide +kernel;kernel_rfl;kernel_rfl;kernel_rfl;exact Z;exact Z)|exact AV.nil _ _|(apply ZjA;exact Z;exact Z)|(apply ZjB;(iterate 4 exact Z))|(apply Zjz;(iterate 4 exact Z))|(apply ZfZ;(iterate 4 exact Z))|(apply Zaa (hR);kernel_rfl;(iterate 4 exact Z))|(apply Zaa (hS1);kernel_rfl;(iterate 4 exact Z))|(apply Zaa (hS2);kernel_rfl;(iterate 4 exact Z))|(apply Zaa (n1);kernel_rfl;(iterate 4 exact Z))|(apply Zaa (n2);kernel_rfl;(iterate 4 exact Z))|(apply Zaa (hN);kernel_rfl;(iterate 4 exact Z))|(apply Zaj Zab;exact Z)|(apply Zah Zab;exact Z)|(apply Zav Zab;exact Z)|(apply Zae;(iterate 3 exact Z);exact Go.Zqm)|(apply Zat;(iterate 3 exact Z);exact Go.Zqm)|(apply Zag;exact Z;exact Go.Zqm;exact Z;exact Z)|(apply Zac;exact Z;exact Go.Zqm)|(apply Zaf;exact Z;exact Go.Zqm)|(apply Zan Zab;(iterate 4 exact Z))|(apply Zam 2 ZaJ;decide +kernel;kernel_rfl;kernel_rfl;kernel_rfl;exact Z;exact Z)|(apply Zam 6 ZaJ;decide +kernel;kernel_rfl;kernel_rfl;kernel_rfl;exact Z;exact Z)|(apply Zaq;(iterate 4 exact Z))|exact AE.nil _ _ _ _|(apply Zas;exact Z)|(apply Zaw;exact Z;exact Z;decide +kernel;exact Z)|(apply Zax;exact Z)|exact AO.nil _ _ _|(apply Zap;(decide +kernel))|exact AOs.nil|exact ZaE rfl rfl|(apply Zau Zab;(iterate 6 exact Z);(first|exact Go.Zqm|rotate_left);(first|with_reducible assumption|decide +kernel|exact Z);(first|exact Zai rfl|with_reducible assumption|decide +kernel|rotate_left)))
   all_goals(apply Zay [];(apply Zad Zab;exact Z);(iterate 4 exact Z))
   all_goals rfl
  | some ac=>
   obtain⟨a,c⟩:=ac
   rw[hq]at hN
   replace hN:AP Tryz.prog _ _ (.tup [.sl .ext [.int .u64 (a:Int),.int .u64 (c:Int)],.bool true]) []:=hN
   have hE:=Zhg ⟨true,a,c,[],[]⟩
   dsimp only
   generalize ZaY ⟨true,a,c,[],[]⟩=R at *
   replace hE:AP Tryz.prog _ [.agg [.bool true,.int .u64 (a:Int),.int .u64 (c:Int),.str [],.str []]] (.bool R) []:=hE
   cases R
   all_goals
    refine AP.ofA ?_
    refine Zao Tryz.func85 rfl Tryz.ntmps85 rfl rfl ?_
    repeat'(first|(apply Zds 11 Zab ZaJ;decide +kernel;kernel_rfl;kernel_rfl;kernel_rfl;exact Z;exact Z)|exact AV.nil _ _|(apply ZjA;exact Z;exact Z)|(apply ZjB;(iterate 4 exact Z))|(apply Zjz;(iterate 4 exact Z))|(apply ZfZ;(iterate 4 exact Z))|(apply Zaa (hR);kernel_rfl;(iterate 4 exact Z))|(apply Zaa (hS1);kernel_rfl;(iterate 4 exact Z))|(apply Zaa (hS2);kernel_rfl;(iterate 4 exact Z))|(apply Zaa (n1);kernel_rfl;(iterate 4 exact Z))|(apply Zaa (n2);kernel_rfl;(iterate 4 exact Z))|(apply Zaa (hN);kernel_rfl;(iterate 4 exact Z))|(apply Zaa (hE);kernel_rfl;(iterate 4 exact Z))|(apply Zaj Zab;exact Z)|(apply Zah Zab;exact Z)|(apply Zav Zab;exact Z)|(apply Zae;(iterate 3 exact Z);exact Go.Zqm)|(apply Zat;(iterate 3 exact Z);exact Go.Zqm)|(apply Zag;exact Z;exact Go.Zqm;exact Z;exact Z)|(apply Zac;exact Z;exact Go.Zqm)|(apply Zaf;exact Z;exact Go.Zqm)|(apply Zan Zab;(iterate 4 exact Z))|(apply Zam 2 ZaJ;decide +kernel;kernel_rfl;kernel_rfl;kernel_rfl;exact Z;exact Z)|(apply Zam 6 ZaJ;decide +kernel;kernel_rfl;kernel_rfl;kernel_rfl;exact Z;exact Z)|(apply Zaq;(iterate 4 exact Z))|exact AE.nil _ _ _ _|(apply Zas;exact Z)|(apply Zaw;exact Z;exact Z;decide +kernel;exact Z)|(apply Zax;exact Z)|exact AO.nil _ _ _|(apply Zap;(decide +kernel))|exact AOs.nil|exact ZaE rfl rfl|(apply Zau Zab;(iterate 6 exact Z);(first|exact Go.Zqm|rotate_left);(first|with_reducible assumption|decide +kernel|exact Z);(first|exact Zai rfl|with_reducible assumption|decide +kernel|rotate_left)))
    all_goals(apply Zay [];(apply Zad Zab;exact Z);(iterate 4 exact Z))
    all_goals rfl
theorem Zma [Known][KnownU8](x:It)(hw:wfI x):AP Tryz.prog 85 [itD x] (Zoj (Za9 x)) []:=by
 cases hr:ZaQ x with
 | false=>
  have e:Za9 x=(Zc2,false):=by unfold Za9;rw[hr]
  rw[e]
  exact Zhk x hw (.inl hr)
 | true=>
  obtain⟨k,n,b,l⟩:=x
  by_cases hk:k=4
  ·subst hk
   match l,hw,hr with
   | [s,r],hw,hr=>
    have e:Za9 (.mk 4 n b [s,r])=Zd3 s r:=by unfold Za9;rw[hr];dsimp only;rw[if_pos rfl]
    rw[e]
    cases h1:Zcy 1 s with
    | true=>exact Zok n b s r hw hr h1
    | false=>exact Zol n b s r hw hr h1
   | [],hw,hr=>
    have e:Za9 (.mk 4 n b [])=(Zc2,false):=by unfold Za9;rw[hr]
    rw[e];exact Zhk _ hw (.inr (.inr (by simp[It.l])))
   | [s],hw,hr=>
    have e:Za9 (.mk 4 n b [s])=(Zc2,false):=by unfold Za9;rw[hr]
    rw[e];exact Zhk _ hw (.inr (.inr (by simp[It.l])))
   | s::r::y::l,hw,hr=>
    have e:Za9 (.mk 4 n b (s::r::y::l))=(Zc2,false):=by unfold Za9;rw[hr]
    rw[e];exact Zhk _ hw (.inr (.inr (by simp[It.l])))
  ·have e:Za9 (.mk k n b l)=(Zc2,false):=by
    unfold Za9;rw[hr]
    match l with
    | [s,r]=>dsimp only;rw[if_neg hk]
    | []=>rfl
    | [s]=>rfl
    | s::r::y::l=>rfl
   rw[e]
   exact Zhk _ hw (.inr (.inl hk))
structure BlkV where
 ty:Nat
 num:Nat
 fl:Nat
 sum:Int
 data:List UInt8
abbrev bkC (b:BlkV):List D:=[.int .u64 (b.ty:Int),.int .u64 (b.num:Int),.int .u64 (b.fl:Int),.int .i64 b.sum,byE b.data]
theorem Znu (d:List UInt8)(hd:d.length<=100000):wfI (Zbm d 0).1:=by
 rcases Zdh d (by omega) with⟨e,_,h,_⟩ | ⟨y,n,h,hw,_⟩
 ·rw[h];exact⟨by decide,by simp,by simp,trivial⟩
 ·rw[h];exact hw
theorem ZhT [Known][KnownU8](d:List UInt8)(hd:d.length<=100000):AP Tryz.prog 156 [byE d] (.tup [itD (Zbm d 0).1,.bool (Zb0 d)]) []:=by
 have hR:=ZiK d 0 (by omega)
 have hS:=Zg4 d (by omega)
 rcases Zdh d (by omega) with⟨e,he,h,hs⟩ | ⟨⟨k,n,b,l⟩,m,h,hw,hr,_⟩
 ·rw[h]at hR ⊢
  rw[hs]at hS ⊢
  replace hR:AP Tryz.prog _ _ (.tup [.agg [.int .i64 0,.int .u64 0,.sl .ext [],.sl .ext []],.int .i64 0,.int .i64 (e:Int)]) []:=hR
  have t1:((e:Int)==0)=false:=by rw[beq_eq_false_iff_ne];omega
  refine AP.ofA ?_
  refine Zao Tryz.func156 rfl Tryz.ntmps156 rfl rfl ?_
  repeat'(first|(apply Zaa (hR);kernel_rfl;(iterate 4 exact Z))|(apply Zaj Zab;exact Z)|(apply Zah Zab;exact Z)|(apply Zat;(iterate 3 exact Z);exact Go.Zqm)|(apply Zag;exact Z;exact Go.Zqm;exact Z;exact Z)|(apply Zam 8 ZaJ;decide +kernel;kernel_rfl;kernel_rfl;kernel_rfl;exact Z;exact Z)|(apply Zaq;(iterate 4 exact Z))|exact AE.nil _ _ _ _|(apply Zas;exact Z)|(apply Zfa;exact Z)|(apply Zaw;exact Z;exact Z;decide +kernel;exact Z)|(apply Zax;exact Z)|(apply ZhI;exact Z)|exact AO.nil _ _ _|(apply Zap;(decide +kernel))|(apply ZaV;(iterate 3 exact Z))|exact AOs.nil|exact ZaE rfl rfl|exact ZfJ rfl)
  all_goals(apply Zay [];(apply Zad Zab;exact Z);(iterate 4 exact Z))
  all_goals rfl
 ·rw[h]at hR ⊢
  replace hR:AP Tryz.prog _ _ (.tup [.agg (itC k n b l),.int .i64 (m:Int),.int .i64 0]) []:=hR
  refine AP.ofA ?_
  refine Zao Tryz.func156 rfl Tryz.ntmps156 rfl rfl ?_
  repeat'(first|(apply Zaa (hR);kernel_rfl;(iterate 4 exact Z))|(apply Zaa (hS);kernel_rfl;(iterate 4 exact Z))|(apply Zaj Zab;exact Z)|(apply Zah Zab;exact Z)|(apply Zae;(iterate 3 exact Z);exact Go.Zqm)|(apply Zak;exact Z;exact Go.Zqm;exact Z;exact Z)|(apply Zam 8 ZaJ;decide +kernel;kernel_rfl;kernel_rfl;kernel_rfl;exact Z;exact Z)|(apply Zaq;(iterate 4 exact Z))|exact AE.nil _ _ _ _|(apply Zas;exact Z)|(apply Zfa;exact Z)|(apply Zaw;exact Z;exact Z;decide +kernel;exact Z)|(apply Zax;exact Z)|(apply ZhI;exact Z)|exact AO.nil _ _ _|(apply Zap;(decide +kernel))|(apply ZaV;(iterate 3 exact Z))|exact AOs.nil|exact ZaE rfl rfl|exact ZfJ rfl)
  all_goals(apply Zay [];(apply Zad Zab;exact Z);(iterate 4 exact Z))
  all_goals rfl
def Zdj (d:List UInt8):EidV × Bool:=((match(Za9 (Zbm d 0).1).2 with|true=>(Za9 (Zbm d 0).1).1|false=>Zc2),Zb0 d&&(Za9 (Zbm d 0).1).2)
theorem Zfp [Known][KnownU8](d:List UInt8)(hd:d.length<=100000):AP Tryz.prog 103 [byE d] (.tup [.agg (eC (Zdj d).1),.bool (Zdj d).2]) []:=by
 have hI:=ZhT d hd
 have hR:=Zma (Zbm d 0).1 (Znu d hd)
 unfold Zdj
 dsimp only
 generalize (Zbm d 0).1=x at *
 generalize Za9 x=r at *
 obtain⟨⟨zi,zn,zs,zh,zd⟩,ok⟩:=r
 obtain⟨k,n,b,l⟩:=x
 unfold Zoj at hR
 cases ok with
 | false=>
  replace hR:AP Tryz.prog _ _ (.tup [.agg [.bool false,.int .u64 0,.int .u64 0,.str [],.str []],.int .i64 3]) []:=hR
  cases hs:Zb0 d<;>rw[hs]at hI
  all_goals
   refine AP.ofA ?_
   refine Zao Tryz.func103 rfl Tryz.ntmps103 rfl rfl ?_
   repeat'(first|(apply Zaa (hI);kernel_rfl;(iterate 4 exact Z))|(apply Zaa (hR);kernel_rfl;(iterate 4 exact Z))|(apply Zaj Zab;exact Z)|(apply Zah Zab;exact Z)|(apply Zae;(iterate 3 exact Z);exact Go.Zqm)|(apply Zat;(iterate 3 exact Z);exact Go.Zqm)|(apply Zak;exact Z;exact Go.Zqm;exact Z;exact Z)|(apply Zag;exact Z;exact Go.Zqm;exact Z;exact Z))
   all_goals(apply Zay [];(apply Zad Zab;exact Z);(iterate 4 exact Z))
   all_goals rfl
 | true=>
  replace hR:AP Tryz.prog _ _ (.tup [.agg [.bool zi,.int .u64 (zn:Int),.int .u64 (zs:Int),.str zh,.str zd],.int .i64 0]) []:=hR
  cases hs:Zb0 d<;>rw[hs]at hI
  all_goals
   refine AP.ofA ?_
   refine Zao Tryz.func103 rfl Tryz.ntmps103 rfl rfl ?_
   repeat'(first|(apply Zaa (hI);kernel_rfl;(iterate 4 exact Z))|(apply Zaa (hR);kernel_rfl;(iterate 4 exact Z))|(apply Zaj Zab;exact Z)|(apply Zah Zab;exact Z)|(apply Zae;(iterate 3 exact Z);exact Go.Zqm)|(apply Zat;(iterate 3 exact Z);exact Go.Zqm)|(apply Zak;exact Z;exact Go.Zqm;exact Z;exact Z)|(apply Zag;exact Z;exact Go.Zqm;exact Z;exact Z))
   all_goals(apply Zay [];(apply Zad Zab;exact Z);(iterate 4 exact Z))
   all_goals rfl
def Zgo (d:List UInt8):Nat × Bool:=((Zbm d 0).1.n,Zb0 d&&(It.beq (Zbm d 0).1 (.mk 0 (Zbm d 0).1.n [] [])&&decide (((Zbm d 0).1.n:Int)<=1099511627776)))
theorem Zmz [Known][KnownU8](d:List UInt8)(hd:d.length<=100000):AP Tryz.prog 104 [byE d] (.tup [.int .u64 ((Zgo d).1:Int),.bool (Zgo d).2]) []:=by
 have hI:=ZhT d hd
 have hw:=Znu d hd
 unfold Zgo
 dsimp only
 generalize (Zbm d 0).1=x at *
 obtain⟨k,n,b,l⟩:=x
 have hS:=Zeg (.mk k n b l) hw (.mk 0 n [] []) ⟨hw.1,by simp,by simp,trivial⟩
 have hN:=Zdu n
 dsimp only[It.n]
 cases hs:Zb0 d with
 | false=>
  rw[hs]at hI
  refine AP.ofA ?_
  refine Zao Tryz.func104 rfl Tryz.ntmps104 rfl rfl ?_
  repeat'(first|(apply Zaa (hI);kernel_rfl;(iterate 4 exact Z))|(apply Zaj Zab;exact Z)|(apply Zah Zab;exact Z)|(apply Zat;(iterate 3 exact Z);exact Go.Zqm)|(apply Zag;exact Z;exact Go.Zqm;exact Z;exact Z)|(apply Zam 16 ZaJ;decide +kernel;kernel_rfl;kernel_rfl;kernel_rfl;exact Z;exact Z)|(apply Zaq;(iterate 4 exact Z))|exact AE.nil _ _ _ _|(apply Zas;exact Z)|(apply Zaw;exact Z;exact Z;decide +kernel;exact Z)|(apply Zax;exact Z)|exact AO.nil _ _ _|(apply Zap;(decide +kernel))|exact AOs.nil|exact ZaE rfl rfl)
  all_goals(apply Zay [];(apply Zad Zab;exact Z);(iterate 4 exact Z))
  all_goals rfl
 | true=>
 rw[hs]at hI
 cases t1:It.beq (.mk k n b l) (.mk 0 n [] []) with
 | false=>
  rw[t1]at hS
  refine AP.ofA ?_
  refine Zao Tryz.func104 rfl Tryz.ntmps104 rfl rfl ?_
  repeat'(first|(apply Zaa (hI);kernel_rfl;(iterate 4 exact Z))|(apply Zaa (hS);kernel_rfl;(iterate 4 exact Z))|(apply Zaa (hN);kernel_rfl;(iterate 4 exact Z))|(apply Zaj Zab;exact Z)|(apply Zah Zab;exact Z)|(apply Zae;(iterate 3 exact Z);exact Go.Zqm)|(apply Zat;(iterate 3 exact Z);exact Go.Zqm)|(apply Zak;exact Z;exact Go.Zqm;exact Z;exact Z)|(apply Zag;exact Z;exact Go.Zqm;exact Z;exact Z)|(apply Zam 16 ZaJ;decide +kernel;kernel_rfl;kernel_rfl;kernel_rfl;exact Z;exact Z)|(apply Zaq;(iterate 4 exact Z))|exact AE.nil _ _ _ _|(apply Zas;exact Z)|(apply Zaw;exact Z;exact Z;decide +kernel;exact Z)|(apply Zax;exact Z)|exact AO.nil _ _ _|(apply Zap;(decide +kernel))|exact AOs.nil|exact ZaE rfl rfl)
  all_goals(apply Zay [];(apply Zad Zab;exact Z);(iterate 4 exact Z))
  all_goals rfl
 | true=>
 rw[t1]at hS
 cases t2:decide ((n:Int)<=1099511627776)
 all_goals
  refine AP.ofA ?_
  refine Zao Tryz.func104 rfl Tryz.ntmps104 rfl rfl ?_
  repeat'(first|(apply Zaa (hI);kernel_rfl;(iterate 4 exact Z))|(apply Zaa (hS);kernel_rfl;(iterate 4 exact Z))|(apply Zaa (hN);kernel_rfl;(iterate 4 exact Z))|(apply Zaj Zab;exact Z)|(apply Zah Zab;exact Z)|(apply Zae;(iterate 3 exact Z);exact Go.Zqm)|(apply Zak;exact Z;exact Go.Zqm;exact Z;exact Z)|(apply Zam 16 ZaJ;decide +kernel;kernel_rfl;kernel_rfl;kernel_rfl;exact Z;exact Z)|(apply Zaq;(iterate 4 exact Z))|exact AE.nil _ _ _ _|(apply Zas;exact Z)|(apply Zaw;exact Z;exact Z;decide +kernel;exact Z)|(apply Zax;exact Z)|exact AO.nil _ _ _|(apply Zap;(decide +kernel))|exact AOs.nil|exact ZaE rfl rfl)
  all_goals(apply Zay [];(apply Zad Zab;exact Z);(iterate 4 exact Z))
  all_goals rfl
def ZhU (ok:Bool)(x:It):Nat × Nat × Bool:=match ok with
 | false=>(0,0,false)
 | true=>match x with
  | .mk k n b l=>match k==4 with
   | false=>(0,0,false)
   | true=>match l with
    | [.mk k1 n1 b1 l1,.mk k2 n2 b2 l2]=>(n1,n2,It.beq (.mk k n b [.mk k1 n1 b1 l1,.mk k2 n2 b2 l2]) (.mk 4 0 [] [.mk 0 n1 [] [],.mk 0 n2 [] []])&&(decide ((n1:Int) ≥ 1)&&(decide ((n1:Int)<=255)&&decide ((n2:Int)<=(n1:Int)))))
    | _=>(0,0,false)
def Zb7 (d:List UInt8):Nat × Nat × Bool:=ZhU (Zb0 d) (Zbm d 0).1
theorem ZpP [Known][KnownU8](d:List UInt8)(k:Int)(n:Nat)(b:List UInt8)(l:List It)(hI:AP Tryz.prog 156 [byE d] (.tup [itD (.mk k n b l),.bool false]) []):AP Tryz.prog 105 [byE d] (.tup [.int .u64 0,.int .u64 0,.bool false]) []:=by
 refine AP.ofA ?_
 refine Zao Tryz.func105 rfl Tryz.ntmps105 rfl rfl ?_
 repeat'(first|(apply Zaa (hI);kernel_rfl;(iterate 4 exact Z))|(apply Zaj Zab;exact Z)|(apply Zah Zab;exact Z)|(apply Zav Zab;exact Z)|(apply Zal;(iterate 3 exact Z);exact Go.Zqm)|(apply Zak;exact Z;exact Go.Zqm;exact Z;exact Z)|(apply Zac;exact Z;exact Go.Zqm))
 all_goals(apply Zay [];(apply Zad Zab;exact Z);(iterate 4 exact Z))
 all_goals rfl
theorem ZpQ [Known][KnownU8](d:List UInt8)(k:Int)(n:Nat)(b:List UInt8)(l:List It)(hI:AP Tryz.prog 156 [byE d] (.tup [itD (.mk k n b l),.bool true]) [])(tk:(k==4)=false):AP Tryz.prog 105 [byE d] (.tup [.int .u64 0,.int .u64 0,.bool false]) []:=by
 have tk2:(k != 4)=true:=by rw[bne,tk];rfl
 refine AP.ofA ?_
 refine Zao Tryz.func105 rfl Tryz.ntmps105 rfl rfl ?_
 repeat'(first|(apply Zaa (hI);kernel_rfl;(iterate 4 exact Z))|(apply Zaj Zab;exact Z)|(apply Zah Zab;exact Z)|(apply Zav Zab;exact Z)|(apply Zae;(iterate 3 exact Z);exact Go.Zqm)|(apply Zal;(iterate 3 exact Z);exact Go.Zqm)|(apply Zak;exact Z;exact Go.Zqm;exact Z;exact Z)|(apply Zag;exact Z;exact Go.Zqm;exact Z;exact Z)|(apply Zac;exact Z;exact Go.Zqm))
 all_goals(apply Zay [];(apply Zad Zab;exact Z);(iterate 4 exact Z))
 all_goals rfl
theorem Zpj [Known][KnownU8](d:List UInt8)(k:Int)(n:Nat)(b:List UInt8)(l:List It)(hI:AP Tryz.prog 156 [byE d] (.tup [itD (.mk k n b l),.bool true]) [])(tk:(k==4)=true)(h2:l.length ≠ 2):AP Tryz.prog 105 [byE d] (.tup [.int .u64 0,.int .u64 0,.bool false]) []:=by
 have tk2:(k != 4)=false:=by rw[bne,tk];rfl
 have hlen:=Zar l
 have t2:(((ZaB l).length:Int) != 2)=true:=by rw[hlen];simp;omega
 refine AP.ofA ?_
 refine Zao Tryz.func105 rfl Tryz.ntmps105 rfl rfl ?_
 repeat'(first|(apply Zaa (hI);kernel_rfl;(iterate 4 exact Z))|(apply Zaj Zab;exact Z)|(apply Zah Zab;exact Z)|(apply Zav Zab;exact Z)|(apply Zae;(iterate 3 exact Z);exact Go.Zqm)|(apply Zag;exact Z;exact Go.Zqm;exact Z;exact Z)|(apply Zac;exact Z;exact Go.Zqm)|(apply Zan Zab;(iterate 4 exact Z)))
 all_goals(apply Zay [];(apply Zad Zab;exact Z);(iterate 4 exact Z))
 all_goals rfl
end Go.Proofs.YtakblclkflnnpaaGreatDoor
end
section
open Go.RowKit Go.Pl
namespace Go.Pl
variable {P:Program} {t:TypeId}
end Go.Pl
end
section
open Go.RowKit Go.Pl
namespace Go.Proofs.YtakblclkflnnpaaGreatDoor
end Go.Proofs.YtakblclkflnnpaaGreatDoor
end
section
open Go.RowKit Go.Pl Go.Av
namespace Go.Proofs.YtakblclkflnnpaaGreatDoor
set_option maxHeartbeats 4000000
abbrev XE:=Bool × Nat × Nat × List UInt8 × List UInt8
def XE.v (x:XE):EidV:=⟨x.1,x.2.1,x.2.2.1,x.2.2.2.1,x.2.2.2.2⟩
theorem ZhV {x:EidV}(hi:x.i=true):ZaY x=true ↔ x.h=[]/\x.d=[]/\1<=(x.n:Int)/\(x.n:Int)<=4294967295/\(x.s:Int)<=4294967295:=by
 have hz:isZ x=false:=by simp[isZ,hi]
 rw[Zgj hz hi]
 simp[hi,and_assoc]
theorem Zmb {x:EidV}(hi:x.i=false):isZ x=true ↔ (x.n:Int)=0/\(x.s:Int)=0/\x.h=[]/\x.d=[]:=by
 simp[isZ,hi]
theorem ZhW {x:EidV}(hi:x.i=false)(hz:isZ x=false):ZaY x=true ↔ (x.n:Int)=0/\(x.s:Int)=0/\(x.h.length:Int) ≥ 1/\(x.h.length:Int)<=16/\(x.d.length:Int)<=24/\x.h.all (okB 45)=true/\x.d.all (okB 47)=true:=by
 rw[Zgk hz hi]
 simp only[Bool.and_eq_true,beq_iff_eq,decide_eq_true_eq,and_true,true_and,and_assoc,hi,beq_self_eq_true]
def Zb8 (x:EidV):Int:=if x.i then(if ZaY x then 1 else -1) else if isZ x then 0 else if ZaY x then 2 else -1
theorem ZhX (x:EidV):decide (Zb8 x ≥ 0)=ZaY x:=by
 unfold Zb8
 cases hi:x.i with
 | true=>cases ZaY x<;>rfl
 | false=>
  cases hz:isZ x with
  | true=>rw[Zgi hz];rfl
  | false=>cases ZaY x<;>rfl
theorem ZhY (x:EidV):decide (Zb8 x<1)=(!(ZaY x)||isZ x):=by
 unfold Zb8
 cases hi:x.i with
 | true=>
  have hz:isZ x=false:=by simp[isZ,hi]
  rw[hz];cases ZaY x<;>rfl
 | false=>
  cases hz:isZ x with
  | true=>rw[Zgi hz];rfl
  | false=>cases ZaY x<;>rfl
theorem Zfq [Known](s:List UInt8)(b:Bool)(m:Nat)(hm:m=if b then 47 else 45)(hs:s.length<=9223372036854775807):AP Tryz.prog 109 [.str s,.bool b] (.bool (s.all (okB m))) []:=by
 refine AP.ofA ?_
 refine Zao Tryz.func109 rfl Tryz.ntmps109 rfl rfl ?_
 repeat'(first|(apply Zah Zab;exact Z))
 refine ZaF (fun k tm bx fr=>∃ i,k+i=s.length/\(∀ c ∈ s.take i,okB m c=true)/\tm=[(0,.str s),(1,.bool b),(5,.int .i64 (i:Int))]/\bx=[]/\fr=[]) (s.length+1) (Lands.mk' (m:=s.length) (Nat.lt_succ_self _) ⟨0,rfl,by simp,rfl,rfl,rfl⟩ ?_ rfl rfl rfl rfl rfl rfl) ?_
 ·exact .cons rfl (.cons rfl (.cons rfl .nil))
 rintro k tm bx fr ⟨i,hk,hall,rfl,rfl,rfl⟩
 rcases Nat.lt_or_ge i s.length with hlt|hge
 ·have hd:decide ((i:Int)<(s.length:Int))=true:=by simp;omega
  obtain⟨c,hc⟩:∃ c,s[i]?=some c:=⟨_,List.getElem?_eq_getElem hlt⟩
  have hv:s[((i:Nat):Int).toNat]?=some c:=by simpa using hc
  have ei:IntKind.i64.wrap ((i:Int)+1)=((i+1:Nat):Int):=by rw[IntWalk.i64_in _ (by omega)];omega
  have hstep:okB m c=true->∀ x ∈ s.take (i+1),okB m x=true:=fun h x hx=>by
   rw[List.take_add_one,hc]at hx
   rcases List.mem_append.1 hx with hx|hx
   ·exact hall x hx
   ·simp at hx;subst hx;exact h
  have hbad:¬ okB m c=true->s.all (okB m)=false:=fun h=>List.all_eq_false.2 ⟨c,List.mem_of_getElem? hc,h⟩
  cases b with
  | false=>
   have hm':m=45:=hm
   subst hm'
   repeat'(first|rw[ei]|(apply ZcS Zab;(iterate 5 exact Z);exact Int.natCast_nonneg _;exact hv)|(apply Zaj Zab;exact Z)|(apply Zah Zab;exact Z)|(apply Zav Zab;exact Z)|(apply Zae;(iterate 3 exact Z);(first|with_reducible assumption|(solve|simp only[bn])))|(apply Zat;(iterate 3 exact Z);(first|with_reducible assumption|(solve|simp only[bn])))|(apply Zal;(iterate 3 exact Z);(first|with_reducible assumption|(solve|simp only[bn])))|(apply Ze0;(iterate 3 exact Z))|(apply Zbe;exact Z;exact Z;all_goals intro hb)|(apply Zak;exact Z;(first|with_reducible assumption|(solve|simp only[bn]));exact Z;exact Z)|(apply Zag;exact Z;(first|with_reducible assumption|(solve|simp only[bn]));exact Z;exact Z)|(apply Zac;exact Z;(first|with_reducible assumption|(solve|simp only[bn])))|(apply Zaf;exact Z;(first|with_reducible assumption|(solve|simp only[bn])))|refine Zbi ?_|(apply Zbc Zab;(iterate 4 exact Z)))
   all_goals first
    | (refine Lands.mk' (m:=k-1) (by omega) ⟨i+1,by omega,hstep ?_,rfl,rfl,rfl⟩ ?_ rfl rfl rfl rfl rfl rfl
       ·rw[ZcU]
        clear hstep hbad hall
        simp only[decide_eq_true_eq,decide_eq_false_iff_not,beq_iff_eq,beq_eq_false_iff_ne,ne_eq,Bool.not_eq_false',Bool.not_eq_true']at *
        omega
       ·exact .cons rfl (.cons rfl (.cons rfl .nil)))
    | ((apply Zay [];(apply Zad Zab;exact Z);(iterate 4 exact Z))
       ·rw[hbad (fun h=>by
          rw[ZcU]at h
          clear hstep hbad hall
          simp only[decide_eq_true_eq,decide_eq_false_iff_not,beq_iff_eq,beq_eq_false_iff_ne,ne_eq,Bool.not_eq_false',Bool.not_eq_true']at *
          omega)]
       ·rfl)
  | true=>
   have hm':m=47:=hm
   subst hm'
   repeat'(first|rw[ei]|(apply ZcS Zab;(iterate 5 exact Z);exact Int.natCast_nonneg _;exact hv)|(apply Zaj Zab;exact Z)|(apply Zah Zab;exact Z)|(apply Zav Zab;exact Z)|(apply Zae;(iterate 3 exact Z);(first|with_reducible assumption|(solve|simp only[bn])))|(apply Zat;(iterate 3 exact Z);(first|with_reducible assumption|(solve|simp only[bn])))|(apply Zal;(iterate 3 exact Z);(first|with_reducible assumption|(solve|simp only[bn])))|(apply Ze0;(iterate 3 exact Z))|(apply Zbe;exact Z;exact Z;all_goals intro hb)|(apply Zak;exact Z;(first|with_reducible assumption|(solve|simp only[bn]));exact Z;exact Z)|(apply Zag;exact Z;(first|with_reducible assumption|(solve|simp only[bn]));exact Z;exact Z)|(apply Zac;exact Z;(first|with_reducible assumption|(solve|simp only[bn])))|(apply Zaf;exact Z;(first|with_reducible assumption|(solve|simp only[bn])))|(apply Zbo;exact Z;all_goals intro hb)|refine Zbi ?_|(apply Zbc Zab;(iterate 4 exact Z)))
   all_goals first
    | (refine Lands.mk' (m:=k-1) (by omega) ⟨i+1,by omega,hstep ?_,rfl,rfl,rfl⟩ ?_ rfl rfl rfl rfl rfl rfl
       ·rw[ZcU]
        clear hstep hbad hall
        simp only[decide_eq_true_eq,decide_eq_false_iff_not,beq_iff_eq,beq_eq_false_iff_ne,ne_eq,Bool.not_eq_false',Bool.not_eq_true']at *
        omega
       ·exact .cons rfl (.cons rfl (.cons rfl .nil)))
    | ((apply Zay [];(apply Zad Zab;exact Z);(iterate 4 exact Z))
       ·rw[hbad (fun h=>by
          rw[ZcU]at h
          clear hstep hbad hall
          simp only[decide_eq_true_eq,decide_eq_false_iff_not,beq_iff_eq,beq_eq_false_iff_ne,ne_eq,Bool.not_eq_false',Bool.not_eq_true']at *
          omega)]
       ·rfl)
 ·have hd:decide ((i:Int)<(s.length:Int))=false:=by simp;omega
  repeat'(first|(apply Zaj Zab;exact Z)|(apply Zah Zab;exact Z)|(apply Zav Zab;exact Z)|(apply Zaf;exact Z;(first|with_reducible assumption|(solve|simp only[bn])))|(apply Zbc Zab;(iterate 4 exact Z)))
  (apply Zay [];(apply Zad Zab;exact Z);(iterate 4 exact Z))
  ·rw[List.take_of_length_le hge]at hall
   rw[List.all_eq_true.2 hall]
  ·rfl
def Fit (x:EidV):Prop:=x.h.length<=9223372036854775807/\x.d.length<=9223372036854775807
theorem ZcX [Known](x:EidV)(hx:Fit x):AP Tryz.prog 45 [.agg (eC x)] (.int .i64 (Zb8 x)) []:=by
 refine AP.ofA ?_
 refine Zao Tryz.func45 rfl Tryz.ntmps45 rfl rfl ?_
 cases hi:x.i with
 | true=>
  have hE:=ZhV hi
  repeat'(first|(apply Zaj Zab;exact Z)|(apply Zah Zab;exact Z)|(apply Zav Zab;exact Z)|(apply Zae;(iterate 3 exact Z);(first|with_reducible assumption|(solve|simp only[bn])))|(apply Zal;(iterate 3 exact Z);(first|with_reducible assumption|(solve|simp only[bn])))|(apply Zbe;exact Z;exact Z;all_goals intro hb)|(apply Zak;exact Z;(first|with_reducible assumption|(solve|simp only[bn]));exact Z;exact Z)|(apply Zag;exact Z;(first|with_reducible assumption|(solve|simp only[bn]));exact Z;exact Z)|(apply Zac;exact Z;(first|with_reducible assumption|(solve|simp only[bn])))|(apply Zbo;exact Z;all_goals intro hb))
  all_goals(apply Zay [];(apply Zad Zab;exact Z);(iterate 4 exact Z))
  all_goals first
   | rfl
   | (unfold Zb8
      rw[hi]
      simp only[if_true]
      simp only[decide_eq_true_eq,decide_eq_false_iff_not,beq_iff_eq,beq_eq_false_iff_ne,ne_eq,bne_iff_ne,bne_eq_false_iff_eq,Bool.not_eq_false',Bool.not_eq_true']at *
      split
      ·first
         | rfl
         | (exfalso;rename_i h;obtain⟨h1,h2,h3,h4,h5⟩:=hE.1 h;first|contradiction|omega)
      ·first
         | rfl
         | (exfalso;rename_i h;exact h (hE.2 ⟨by assumption,by assumption,by omega,by omega,by omega⟩)))
 | false=>
  have hZ:=Zmb hi
  have hE:=fun hz=>ZhW (x:=x) hi hz
  repeat'(first|(apply Zaa (Zfq x.h false 45 rfl hx.1);kernel_rfl;(iterate 4 exact Z))|(apply Zaa (Zfq x.d true 47 rfl hx.2);kernel_rfl;(iterate 4 exact Z))|(apply Zaj Zab;exact Z)|(apply Zah Zab;exact Z)|(apply Zav Zab;exact Z)|(apply Zae;(iterate 3 exact Z);(first|with_reducible assumption|(solve|simp only[bn])))|(apply Zat;(iterate 3 exact Z);(first|with_reducible assumption|(solve|simp only[bn])))|(apply Zal;(iterate 3 exact Z);(first|with_reducible assumption|(solve|simp only[bn])))|(apply Zbe;exact Z;exact Z;all_goals intro hb)|(apply Zak;exact Z;(first|with_reducible assumption|(solve|simp only[bn]));exact Z;exact Z)|(apply Zag;exact Z;(first|with_reducible assumption|(solve|simp only[bn]));exact Z;exact Z)|(apply Zac;exact Z;(first|with_reducible assumption|(solve|simp only[bn])))|(apply Zaf;exact Z;(first|with_reducible assumption|(solve|simp only[bn])))|(apply Zbo;exact Z;all_goals intro hb)|(apply Zbc Zab;(iterate 4 exact Z)))
  all_goals(apply Zay [];(apply Zad Zab;exact Z);(iterate 4 exact Z))
  all_goals first
   | rfl
   | (unfold Zb8
      rw[hi]
      simp only[Bool.false_eq_true,if_false]
      simp only[decide_eq_true_eq,decide_eq_false_iff_not,beq_iff_eq,beq_eq_false_iff_ne,ne_eq,bne_iff_ne,bne_eq_false_iff_eq,Bool.not_eq_false',Bool.not_eq_true']at *
      split
      ·first
         | rfl
         | (exfalso;rename_i h;obtain⟨h1,h2,h3,h4⟩:=hZ.1 h;first|contradiction|omega)
      ·rename_i hz
       have hz':isZ x=false:=by simpa using hz
       split
       ·first
          | rfl
          | (exfalso;rename_i h;obtain⟨h1,h2,h3,h4,h5,h6,h7⟩:=(hE hz').1 h;first|contradiction|omega|(simp_all;done))
       ·first
          | rfl
          | (exfalso;rename_i h;exact h ((hE hz').2 ⟨by omega,by omega,by omega,by omega,by omega,by assumption,by assumption⟩))
          | (exfalso;exact hz (hZ.2 ⟨by assumption,by assumption,by assumption,by assumption⟩)))
theorem Zex [Known](x:EidV):AP Tryz.prog 41 [.agg (eC x)] (.agg (eC x)) []:=by
 refine AP.ofA ?_
 refine Zao Tryz.func41 rfl Tryz.ntmps41 rfl rfl ?_
 repeat'(first|(apply Zah Zab;exact Z))
 (apply Zay [];(apply Zad Zab;exact Z);(iterate 4 exact Z))
 all_goals rfl
theorem Zmc {n:Nat}(h:0<n/10):Lib.decDigits n=Lib.decDigits (n/10)++[UInt8.ofNat (48+n % 10)]:=by
 rw[Lib.decDigits,dif_neg (by omega)]
theorem ZiX {n:Nat}(h:n/10=0):Lib.decDigits n=[UInt8.ofNat (48+n % 10)]:=by
 rw[Lib.decDigits,dif_pos (by omega),Nat.mod_eq_of_lt (by omega)]
theorem Zmd {k:Nat}(h:k<10):(UInt8.ofNat (48+k)).toNat=48+k:=by
 rw[UInt8.toNat_ofNat'];omega
theorem ZkZ:∀(k u:Nat),u<10 ^ (k+1)->(Lib.decDigits u).length<=k+1
 | 0,u,h=>by rw[Lib.decDigits,dif_pos (by simpa using h)];simp
 | k+1,u,h=>by
  rw[Lib.decDigits]
  by_cases h1:u<10
  ·rw[dif_pos h1];simp
  ·rw[dif_neg h1,List.length_append]
   have:=ZkZ k (u/10) (by rw[Nat.pow_succ]at h;omega)
   simp;omega
theorem Zhl [Known](N:Nat)(hN:N<18446744073709551616):AP Tryz.prog 194 [.int .u64 (N:Int)] (.str (Lib.decDigits N)) []:=by
 refine AP.ofA ?_
 refine Zao Tryz.func194 rfl Tryz.ntmps194 rfl rfl ?_
 repeat'(first|(apply Zah Zab;exact Z))
 refine ZaF (fun k tm bx fr=>∃(n:Nat) (out:List UInt8),k=n+(if out=[] then 1 else 0)/\n<=N/\((out=[]/\n=N)\/(out ≠ []/\(if n=0 then out=Lib.decDigits N else Lib.decDigits n++out=Lib.decDigits N)))/\tm=[(0,.int .u64 (n:Int)),(2,.str []),(3,.str out)]/\bx=[]/\fr=[]) (N+2) (Lands.mk' (m:=N+1) (by omega) ⟨N,[],by simp,Nat.le_refl _,.inl ⟨rfl,rfl⟩,rfl,rfl,rfl⟩ ?_ rfl rfl rfl rfl rfl rfl) ?_
 ·exact .cons rfl (.cons rfl (.cons rfl .nil))
 rintro k tm bx fr ⟨n,out,hk,hn,hI,rfl,rfl,rfl⟩
 have hol:out.length<=20:=by
  have hd:=ZkZ 19 N (by omega)
  rcases hI with⟨rfl,_⟩ | ⟨_,h⟩
  ·simp
  ·split at h
   ·rw[h];exact hd
   ·rw[<- h,List.length_append]at hd;omega
 have e0:IntKind.u8.wrap (IntKind.u64.wrap (48+((n:Int)).tmod 10))=((UInt8.ofNat (48+n % 10)).toNat:Int):=by
  have hm:((n:Int)).tmod 10=((n % 10:Nat):Int):=by rw[Int.tmod_eq_emod_of_nonneg (by omega)];omega
  rw[hm,IntWalk.u64_in _ (by omega),Zmd (by omega),IntWalk.u8_in _ (by omega)];omega
 have e1:((n:Int)).tdiv 10=((n/10:Nat):Int):=by rw[Int.tdiv_eq_ediv_of_nonneg (by omega)];omega
 have e2:IntKind.u64.wrap ((n/10:Nat):Int)=((n/10:Nat):Int):=IntWalk.u64_in _ (by omega)
 have l1:[UInt8.ofNat (48+n % 10)].length+out.length<=maxLen:=by simp;unfold maxLen;omega
 have hgo:((out=[]/\n=N)\/(out ≠ []/\0<n/\Lib.decDigits n++out=Lib.decDigits N))->(if n/10=0 then [UInt8.ofNat (48+n % 10)]++out=Lib.decDigits N else Lib.decDigits (n/10)++([UInt8.ofNat (48+n % 10)]++out)=Lib.decDigits N):=fun h=>by
  have hh:Lib.decDigits n++out=Lib.decDigits N:=by
   rcases h with⟨rfl,rfl⟩ | ⟨_,_,h⟩
   ·simp
   ·exact h
  split
  ·rename_i h1;rw[<- hh,ZiX h1]
  ·rename_i h1;rw[<- hh,Zmc (n:=n) (by omega),List.append_assoc]
 rcases Nat.eq_zero_or_pos n with h0|h0
 ·subst h0
  have t1:decide (((0:Nat):Int)>0)=false:=by decide
  cases out with
  | nil=>
   repeat'(first|rw[e0]|rw[e2]|rw[e1]|(apply Zco Zab;exact Z;exact(show _=[UInt8.ofNat (48+0 % 10)].map E.byte from rfl);(iterate 7 exact Z))|(apply ZeZ;exact Z;exact Z;exact l1;exact Z)|(apply Zaj Zab;exact Z)|(apply Zah Zab;exact Z)|(apply Zav Zab;exact Z)|(apply Zae;(iterate 3 exact Z);exact Go.Zqm)|(apply Zag;exact Z;exact Go.Zqm;exact Z;exact Z)|(apply Zac;exact Z;exact Go.Zqm)|refine Zbb ?_|(apply Ze7 Zab;(iterate 12 exact Z))|(apply Zgy;exact Z;exact Z;(first|exact Go.Zqm|rotate_left);exact Z)|(apply Zgz;exact Z;exact Z;(first|exact Go.Zqm|rotate_left);exact Z))
   refine Lands.mk' (m:=0) (by simp at hk;omega) ⟨0,[UInt8.ofNat (48+0 % 10)]++[],by simp,by omega,.inr ⟨by simp,?_⟩,rfl,rfl,rfl⟩ ?_ rfl rfl rfl rfl rfl rfl
   ·rw[if_pos rfl]
    rcases hI with⟨_,rfl⟩ | ⟨h,_⟩
    ·rw[ZiX (by omega)];rfl
    ·exact absurd rfl h
   ·exact .cons rfl (.cons rfl (.cons rfl .nil))
  | cons c r=>
   have t2:(c::r==[])=false:=by simp
   have hR:c::r=Lib.decDigits N:=by
    rcases hI with⟨h,_⟩ | ⟨_,h⟩
    ·cases h
    ·exact h
   repeat'(first|(apply Zaj Zab;exact Z)|(apply Zah Zab;exact Z)|(apply Zav Zab;exact Z)|(apply Zae;(iterate 3 exact Z);exact Go.Zqm)|(apply Zag;exact Z;exact Go.Zqm;exact Z;exact Z)|(apply Zaf;exact Z;exact Go.Zqm))
   all_goals(apply Zay [];(apply Zad Zab;exact Z);(iterate 4 exact Z))
   all_goals first|rfl|(rw[hR];done)|(rw[<- hR];rfl)
 ·have t1:decide ((n:Int)>0)=true:=decide_eq_true (by omega)
  have hx:=hgo (by
   rcases hI with h|⟨h,h2⟩
   ·exact .inl h
   ·rw[if_neg (by omega)]at h2;exact .inr ⟨h,h0,h2⟩)
  repeat'(first|rw[e0]|rw[e2]|rw[e1]|(apply Zco Zab;exact Z;exact(show _=[UInt8.ofNat (48+n % 10)].map E.byte from rfl);(iterate 7 exact Z))|(apply ZeZ;exact Z;exact Z;exact l1;exact Z)|(apply Zaj Zab;exact Z)|(apply Zah Zab;exact Z)|(apply Zav Zab;exact Z)|(apply Zal;(iterate 3 exact Z);exact Go.Zqm)|(apply Zak;exact Z;exact Go.Zqm;exact Z;exact Z)|(apply Zac;exact Z;exact Go.Zqm)|refine Zbb ?_|(apply Ze7 Zab;(iterate 12 exact Z))|(apply Zgy;exact Z;exact Z;(first|exact Go.Zqm|rotate_left);exact Z)|(apply Zgz;exact Z;exact Z;(first|exact Go.Zqm|rotate_left);exact Z))
  refine Lands.mk' (m:=n/10) (by omega) ⟨n/10,[UInt8.ofNat (48+n % 10)]++out,by simp,by omega,.inr ⟨by simp,hx⟩,rfl,rfl,rfl⟩ ?_ rfl rfl rfl rfl rfl rfl
  exact .cons rfl (.cons rfl (.cons rfl .nil))
def isD (c:UInt8):Bool:=decide ((c.toNat:Int) ≥ 48)&&decide ((c.toNat:Int)<=57)
def ZcP:Nat->Nat->List UInt8->Nat × Nat
 | 0,a,_=>(a,0)
 | f+1,a,[]=>(a,0)
 | f+1,a,c::r=>if isD c then((ZcP f (10*a+(c.toNat-48)) r).1,(ZcP f (10*a+(c.toNat-48)) r).2+1) else(a,0)
theorem Zgp {c:UInt8}:isD c=true ↔ 48<=c.toNat/\c.toNat<=57:=by
 simp only[isD,Bool.and_eq_true,decide_eq_true_eq];omega
def Zc6 (x:EidV):List UInt8:=[47,47]++x.h++[47]++x.d
theorem ZbT {x:EidV}(h:ZaY x=true)(hz:isZ x=false)(hi:x.i=true):x.n<=4294967295/\x.s<=4294967295/\x.h=[]/\x.d=[]/\1<=x.n:=by
 rw[Zgj hz hi]at h
 simp only[Bool.and_eq_true,decide_eq_true_eq,beq_iff_eq]at h
 obtain⟨⟨⟨⟨_,_,_,h1,h2,_⟩,h3⟩,h4⟩,h5⟩:=h
 exact⟨by omega,by omega,h1,h2,by omega⟩
theorem ZbU {x:EidV}(h:ZaY x=true)(hz:isZ x=false)(hi:x.i=false):x.n=0/\x.s=0/\1<=x.h.length/\x.h.length<=16/\x.d.length<=24/\x.h.all (okB 45)=true/\x.d.all (okB 47)=true:=by
 rw[Zgk hz hi]at h
 simp only[Bool.and_eq_true,decide_eq_true_eq,beq_iff_eq]at h
 obtain⟨⟨⟨⟨⟨⟨_,h1,h2,_⟩,h3⟩,h4⟩,h5⟩,h6⟩,h7⟩:=h
 exact⟨by omega,by omega,by omega,by omega,by omega,h6,h7⟩
theorem Zk0 (n:Nat)(hn:n<18446744073709551616):(Lib.decDigits n).length<=20:=by
 rw[Lib.decDigits_length]
 rcases Nat.eq_zero_or_pos n with rfl|h
 ·rw[Lib.nDigits_small (by omega)];omega
 ·have:=Lib.numDigits_eq n h hn;split at this<;>omega
def Zcx (x:EidV):List UInt8:=
 if isZ x then [100,116,110,58,110,111,110,101]
 else if x.i then [105,112,110,58]++Lib.decDigits x.n++[46]++Lib.decDigits x.s
 else [100,116,110,58]++Zc6 x
end Go.Proofs.YtakblclkflnnpaaGreatDoor
end

/- Package eid: an item's name: numbers; all items. -/
import Derived.Test.YtakblclkflnnpaaGreatDoorM29
import Derived.Test.YtakblclkflnnpaaGreatDoorM27
import Derived.Test.YtakblclkflnnpaaGreatDoorM01
import Derived.Test.YtakblclkflnnpaaGreatDoorM07
import Derived.Test.YtakblclkflnnpaaGreatDoorProg
import Derived.Test.YtakblclkflnnpaaGreatDoorM25
import Derived.Lib.ItoaNum
set_option linter.unusedVariables false
set_option linter.unusedSimpArgs false
section
open Go.RowKit Go.Pl Go.Av
namespace Go.Proofs.YtakblclkflnnpaaGreatDoor
set_option maxHeartbeats 4000000
theorem ZoH [Known][KnownU8](n:Nat)(b:List UInt8)(s r:It)(hw:wfI (.mk 4 n b [s,r]))(hr:ZaM (.mk 4 n b [s,r])=true)(h1:ZcB 1 s=false):AP Tryz.prog 85 [itD (.mk 4 n b [s,r])] (ZoF (Zd7 s r)) []:=by
 have hR:=Zb5 _ hw
 rw[hr]at hR
 obtain⟨_,_,_,hws,hwr,_⟩:=hw
 have hS1:=Zc1 s hws 1 (by omega)
 have hS2:=Zc1 s hws 2 (by omega)
 have hN:=Znv r hwr
 have n1:=ZdE 1
 have n2:=ZdE 2
 replace n1:AP Tryz.prog _ [.int .u64 1] (.agg [.int .i64 0,.int .u64 1,.sl .ext [],.sl .ext []]) []:=n1
 replace n2:AP Tryz.prog _ [.int .u64 2] (.agg [.int .i64 0,.int .u64 2,.sl .ext [],.sl .ext []]) []:=n2
 rw[h1]at hS1
 have hU:=Zcd [s,r]
 unfold Zd7
 rw[h1]
 dsimp only
 obtain⟨ks,ns,bs,ls⟩:=s
 obtain⟨kr,nr,br,lr⟩:=r
 have t2:(((ZaC [It.mk ks ns bs ls,It.mk kr nr br lr]).length:Int) != 2)=false:=rfl
 cases h2:ZcB 2 (.mk ks ns bs ls) with
 | false=>
  rw[h2]at hS2
  show AP Tryz.prog _ _ (.tup [.agg [.bool false,.int .u64 0,.int .u64 0,.str [],.str []],.int .i64 3]) []
  refine AP.ofA ?_
  refine Zan Tryz.func85 rfl Tryz.ntmps85 rfl rfl ?_
  repeat'(first|(apply Zdr 11 Zab ZaK;decide +kernel;kernel_rfl;kernel_rfl;kernel_rfl;exact Z;exact Z)|exact AV.nil _ _|(apply ZjA;exact Z;exact Z)|(apply ZjB;(iterate 4 exact Z))|(apply Zjz;(iterate 4 exact Z))|(apply Zf3;(iterate 4 exact Z))|(apply Zaa (hR);kernel_rfl;(iterate 4 exact Z))|(apply Zaa (hS1);kernel_rfl;(iterate 4 exact Z))|(apply Zaa (hS2);kernel_rfl;(iterate 4 exact Z))|(apply Zaa (n1);kernel_rfl;(iterate 4 exact Z))|(apply Zaa (n2);kernel_rfl;(iterate 4 exact Z))|(apply Zai Zab;exact Z)|(apply Zah Zab;exact Z)|(apply Zaw Zab;exact Z)|(apply Zae;(iterate 3 exact Z);exact Go.Zqy)|(apply Zau;(iterate 3 exact Z);exact Go.Zqy)|(apply Zag;exact Z;exact Go.Zqy;exact Z;exact Z)|(apply Zac;exact Z;exact Go.Zqy)|(apply Zaf;exact Z;exact Go.Zqy)|(apply Zao Zab;(iterate 4 exact Z))|(apply Zam 2 ZaK;decide +kernel;kernel_rfl;kernel_rfl;kernel_rfl;exact Z;exact Z)|(apply Zam 6 ZaK;decide +kernel;kernel_rfl;kernel_rfl;kernel_rfl;exact Z;exact Z)|(apply Zaq;(iterate 4 exact Z))|exact AE.nil _ _ _ _|(apply Zat;exact Z)|(apply Zax;exact Z;exact Z;decide +kernel;exact Z)|(apply Zay;exact Z)|exact AO.nil _ _ _|(apply Zap;(decide +kernel))|exact AOs.nil|exact ZaE rfl rfl|(apply Zav Zab;(iterate 6 exact Z);(first|exact Go.Zqy|rotate_left);(first|with_reducible assumption|decide +kernel|exact Z);(first|exact Zak rfl|with_reducible assumption|decide +kernel|rotate_left)))
  all_goals(apply Zaz [];(apply Zad Zab;exact Z);(iterate 4 exact Z))
  all_goals rfl
 | true=>
  rw[h2]at hS2
  dsimp only
  cases hq:Zep (.mk kr nr br lr) with
  | none=>
   rw[hq]at hN
   replace hN:AP Tryz.prog _ _ (.tup [.sl .ext [],.bool false]) []:=hN
   show AP Tryz.prog _ _ (.tup [.agg [.bool false,.int .u64 0,.int .u64 0,.str [],.str []],.int .i64 3]) []
   refine AP.ofA ?_
   refine Zan Tryz.func85 rfl Tryz.ntmps85 rfl rfl ?_
   repeat'(first|(apply Zdr 11 Zab ZaK;decide +kernel;kernel_rfl;kernel_rfl;kernel_rfl;exact Z;exact Z)|exact AV.nil _ _|(apply ZjA;exact Z;exact Z)|(apply ZjB;(iterate 4 exact Z))|(apply Zjz;(iterate 4 exact Z))|(apply Zf3;(iterate 4 exact Z))|(apply Zaa (hR);kernel_rfl;(iterate 4 exact Z))|(apply Zaa (hS1);kernel_rfl;(iterate 4 exact Z))|(apply Zaa (hS2);kernel_rfl;(iterate 4 exact Z))|(apply Zaa (n1);kernel_rfl;(iterate 4 exact Z))|(apply Zaa (n2);kernel_rfl;(iterate 4 exact Z))|(apply Zaa (hN);kernel_rfl;(iterate 4 exact Z))|(apply Zai Zab;exact Z)|(apply Zah Zab;exact Z)|(apply Zaw Zab;exact Z)|(apply Zae;(iterate 3 exact Z);exact Go.Zqy)|(apply Zau;(iterate 3 exact Z);exact Go.Zqy)|(apply Zag;exact Z;exact Go.Zqy;exact Z;exact Z)|(apply Zac;exact Z;exact Go.Zqy)|(apply Zaf;exact Z;exact Go.Zqy)|(apply Zao Zab;(iterate 4 exact Z))|(apply Zam 2 ZaK;decide +kernel;kernel_rfl;kernel_rfl;kernel_rfl;exact Z;exact Z)|(apply Zam 6 ZaK;decide +kernel;kernel_rfl;kernel_rfl;kernel_rfl;exact Z;exact Z)|(apply Zaq;(iterate 4 exact Z))|exact AE.nil _ _ _ _|(apply Zat;exact Z)|(apply Zax;exact Z;exact Z;decide +kernel;exact Z)|(apply Zay;exact Z)|exact AO.nil _ _ _|(apply Zap;(decide +kernel))|exact AOs.nil|exact ZaE rfl rfl|(apply Zav Zab;(iterate 6 exact Z);(first|exact Go.Zqy|rotate_left);(first|with_reducible assumption|decide +kernel|exact Z);(first|exact Zak rfl|with_reducible assumption|decide +kernel|rotate_left)))
   all_goals(apply Zaz [];(apply Zad Zab;exact Z);(iterate 4 exact Z))
   all_goals rfl
  | some ac=>
   obtain⟨a,c⟩:=ac
   rw[hq]at hN
   replace hN:AP Tryz.prog _ _ (.tup [.sl .ext [.int .u64 (a:Int),.int .u64 (c:Int)],.bool true]) []:=hN
   have hE:=Zfo ⟨true,a,c,[],[]⟩
   dsimp only
   generalize ZaP ⟨true,a,c,[],[]⟩=R at *
   replace hE:AP Tryz.prog _ [.agg [.bool true,.int .u64 (a:Int),.int .u64 (c:Int),.str [],.str []]] (.bool R) []:=hE
   cases R
   all_goals
    refine AP.ofA ?_
    refine Zan Tryz.func85 rfl Tryz.ntmps85 rfl rfl ?_
    repeat'(first|(apply Zdr 11 Zab ZaK;decide +kernel;kernel_rfl;kernel_rfl;kernel_rfl;exact Z;exact Z)|exact AV.nil _ _|(apply ZjA;exact Z;exact Z)|(apply ZjB;(iterate 4 exact Z))|(apply Zjz;(iterate 4 exact Z))|(apply Zf3;(iterate 4 exact Z))|(apply Zaa (hR);kernel_rfl;(iterate 4 exact Z))|(apply Zaa (hS1);kernel_rfl;(iterate 4 exact Z))|(apply Zaa (hS2);kernel_rfl;(iterate 4 exact Z))|(apply Zaa (n1);kernel_rfl;(iterate 4 exact Z))|(apply Zaa (n2);kernel_rfl;(iterate 4 exact Z))|(apply Zaa (hN);kernel_rfl;(iterate 4 exact Z))|(apply Zaa (hE);kernel_rfl;(iterate 4 exact Z))|(apply Zai Zab;exact Z)|(apply Zah Zab;exact Z)|(apply Zaw Zab;exact Z)|(apply Zae;(iterate 3 exact Z);exact Go.Zqy)|(apply Zau;(iterate 3 exact Z);exact Go.Zqy)|(apply Zag;exact Z;exact Go.Zqy;exact Z;exact Z)|(apply Zac;exact Z;exact Go.Zqy)|(apply Zaf;exact Z;exact Go.Zqy)|(apply Zao Zab;(iterate 4 exact Z))|(apply Zam 2 ZaK;decide +kernel;kernel_rfl;kernel_rfl;kernel_rfl;exact Z;exact Z)|(apply Zam 6 ZaK;decide +kernel;kernel_rfl;kernel_rfl;kernel_rfl;exact Z;exact Z)|(apply Zaq;(iterate 4 exact Z))|exact AE.nil _ _ _ _|(apply Zat;exact Z)|(apply Zax;exact Z;exact Z;decide +kernel;exact Z)|(apply Zay;exact Z)|exact AO.nil _ _ _|(apply Zap;(decide +kernel))|exact AOs.nil|exact ZaE rfl rfl|(apply Zav Zab;(iterate 6 exact Z);(first|exact Go.Zqy|rotate_left);(first|with_reducible assumption|decide +kernel|exact Z);(first|exact Zak rfl|with_reducible assumption|decide +kernel|rotate_left)))
    all_goals(apply Zaz [];(apply Zad Zab;exact Z);(iterate 4 exact Z))
    all_goals rfl
theorem Zl6 [Known][KnownU8](x:It)(hw:wfI x):AP Tryz.prog 85 [itD x] (ZoF (Zbc x)) []:=by
 cases hr:ZaM x with
 | false=>
  have e:Zbc x=(Zdv,false):=by unfold Zbc;rw[hr]
  rw[e]
  exact Zhh x hw (.inl hr)
 | true=>
  obtain⟨k,n,b,l⟩:=x
  by_cases hk:k=4
  ·subst hk
   match l,hw,hr with
   | [s,r],hw,hr=>
    have e:Zbc (.mk 4 n b [s,r])=Zd7 s r:=by unfold Zbc;rw[hr];dsimp only;rw[if_pos rfl]
    rw[e]
    cases h1:ZcB 1 s with
    | true=>exact ZoG n b s r hw hr h1
    | false=>exact ZoH n b s r hw hr h1
   | [],hw,hr=>
    have e:Zbc (.mk 4 n b [])=(Zdv,false):=by unfold Zbc;rw[hr]
    rw[e];exact Zhh _ hw (.inr (.inr (by simp[It.l])))
   | [s],hw,hr=>
    have e:Zbc (.mk 4 n b [s])=(Zdv,false):=by unfold Zbc;rw[hr]
    rw[e];exact Zhh _ hw (.inr (.inr (by simp[It.l])))
   | s::r::y::l,hw,hr=>
    have e:Zbc (.mk 4 n b (s::r::y::l))=(Zdv,false):=by unfold Zbc;rw[hr]
    rw[e];exact Zhh _ hw (.inr (.inr (by simp[It.l])))
  ·have e:Zbc (.mk k n b l)=(Zdv,false):=by
    unfold Zbc;rw[hr]
    match l with
    | [s,r]=>dsimp only;rw[if_neg hk]
    | []=>rfl
    | [s]=>rfl
    | s::r::y::l=>rfl
   rw[e]
   exact Zhh _ hw (.inr (.inl hk))
structure BlkV where
 ty:Nat
 num:Nat
 fl:Nat
 sum:Int
 data:List UInt8
abbrev bkC (b:BlkV):List D:=[.int .u64 (b.ty:Int),.int .u64 (b.num:Int),.int .u64 (b.fl:Int),.int .i64 b.sum,byE b.data]
theorem Znw (d:List UInt8)(hd:d.length<=100000):wfI (Zbn d 0).1:=by
 rcases Zdi d (by omega) with⟨e,_,h,_⟩ | ⟨y,n,h,hw,_⟩
 ·rw[h];exact⟨by decide,by simp,by simp,trivial⟩
 ·rw[h];exact hw
theorem ZhU [Known][KnownU8](d:List UInt8)(hd:d.length<=100000):AP Tryz.prog 156 [byE d] (.tup [itD (Zbn d 0).1,.bool (Zb3 d)]) []:=by
 have hR:=ZiN d 0 (by omega)
 have hS:=Zg8 d (by omega)
 rcases Zdi d (by omega) with⟨e,he,h,hs⟩ | ⟨⟨k,n,b,l⟩,m,h,hw,hr,_⟩
 ·rw[h]at hR ⊢
  rw[hs]at hS ⊢
  replace hR:AP Tryz.prog _ _ (.tup [.agg [.int .i64 0,.int .u64 0,.sl .ext [],.sl .ext []],.int .i64 0,.int .i64 (e:Int)]) []:=hR
  have t1:((e:Int)==0)=false:=by rw[beq_eq_false_iff_ne];omega
  refine AP.ofA ?_
  refine Zan Tryz.func156 rfl Tryz.ntmps156 rfl rfl ?_
  repeat'(first|(apply Zaa (hR);kernel_rfl;(iterate 4 exact Z))|(apply Zai Zab;exact Z)|(apply Zah Zab;exact Z)|(apply Zau;(iterate 3 exact Z);exact Go.Zqy)|(apply Zag;exact Z;exact Go.Zqy;exact Z;exact Z)|(apply Zam 8 ZaK;decide +kernel;kernel_rfl;kernel_rfl;kernel_rfl;exact Z;exact Z)|(apply Zaq;(iterate 4 exact Z))|exact AE.nil _ _ _ _|(apply Zat;exact Z)|(apply Zfe;exact Z)|(apply Zax;exact Z;exact Z;decide +kernel;exact Z)|(apply Zay;exact Z)|(apply ZhJ;exact Z)|exact AO.nil _ _ _|(apply Zap;(decide +kernel))|(apply ZaZ;(iterate 3 exact Z))|exact AOs.nil|exact ZaE rfl rfl|exact ZfN rfl)
  all_goals(apply Zaz [];(apply Zad Zab;exact Z);(iterate 4 exact Z))
  all_goals rfl
 ·rw[h]at hR ⊢
  replace hR:AP Tryz.prog _ _ (.tup [.agg (itC k n b l),.int .i64 (m:Int),.int .i64 0]) []:=hR
  refine AP.ofA ?_
  refine Zan Tryz.func156 rfl Tryz.ntmps156 rfl rfl ?_
  repeat'(first|(apply Zaa (hR);kernel_rfl;(iterate 4 exact Z))|(apply Zaa (hS);kernel_rfl;(iterate 4 exact Z))|(apply Zai Zab;exact Z)|(apply Zah Zab;exact Z)|(apply Zae;(iterate 3 exact Z);exact Go.Zqy)|(apply Zaj;exact Z;exact Go.Zqy;exact Z;exact Z)|(apply Zam 8 ZaK;decide +kernel;kernel_rfl;kernel_rfl;kernel_rfl;exact Z;exact Z)|(apply Zaq;(iterate 4 exact Z))|exact AE.nil _ _ _ _|(apply Zat;exact Z)|(apply Zfe;exact Z)|(apply Zax;exact Z;exact Z;decide +kernel;exact Z)|(apply Zay;exact Z)|(apply ZhJ;exact Z)|exact AO.nil _ _ _|(apply Zap;(decide +kernel))|(apply ZaZ;(iterate 3 exact Z))|exact AOs.nil|exact ZaE rfl rfl|exact ZfN rfl)
  all_goals(apply Zaz [];(apply Zad Zab;exact Z);(iterate 4 exact Z))
  all_goals rfl
def ZfG (d:List UInt8):EidV × Bool:=((match(Zbc (Zbn d 0).1).2 with|true=>(Zbc (Zbn d 0).1).1|false=>Zdv),Zb3 d&&(Zbc (Zbn d 0).1).2)
theorem ZhV [Known][KnownU8](d:List UInt8)(hd:d.length<=100000):AP Tryz.prog 103 [byE d] (.tup [.agg (eC (ZfG d).1),.bool (ZfG d).2]) []:=by
 have hI:=ZhU d hd
 have hR:=Zl6 (Zbn d 0).1 (Znw d hd)
 unfold ZfG
 dsimp only
 generalize (Zbn d 0).1=x at *
 generalize Zbc x=r at *
 obtain⟨⟨zi,zn,zs,zh,zd⟩,ok⟩:=r
 obtain⟨k,n,b,l⟩:=x
 unfold ZoF at hR
 cases ok with
 | false=>
  replace hR:AP Tryz.prog _ _ (.tup [.agg [.bool false,.int .u64 0,.int .u64 0,.str [],.str []],.int .i64 3]) []:=hR
  cases hs:Zb3 d<;>rw[hs]at hI
  all_goals
   refine AP.ofA ?_
   refine Zan Tryz.func103 rfl Tryz.ntmps103 rfl rfl ?_
   repeat'(first|(apply Zaa (hI);kernel_rfl;(iterate 4 exact Z))|(apply Zaa (hR);kernel_rfl;(iterate 4 exact Z))|(apply Zai Zab;exact Z)|(apply Zah Zab;exact Z)|(apply Zae;(iterate 3 exact Z);exact Go.Zqy)|(apply Zau;(iterate 3 exact Z);exact Go.Zqy)|(apply Zaj;exact Z;exact Go.Zqy;exact Z;exact Z)|(apply Zag;exact Z;exact Go.Zqy;exact Z;exact Z))
   all_goals(apply Zaz [];(apply Zad Zab;exact Z);(iterate 4 exact Z))
   all_goals rfl
 | true=>
  replace hR:AP Tryz.prog _ _ (.tup [.agg [.bool zi,.int .u64 (zn:Int),.int .u64 (zs:Int),.str zh,.str zd],.int .i64 0]) []:=hR
  cases hs:Zb3 d<;>rw[hs]at hI
  all_goals
   refine AP.ofA ?_
   refine Zan Tryz.func103 rfl Tryz.ntmps103 rfl rfl ?_
   repeat'(first|(apply Zaa (hI);kernel_rfl;(iterate 4 exact Z))|(apply Zaa (hR);kernel_rfl;(iterate 4 exact Z))|(apply Zai Zab;exact Z)|(apply Zah Zab;exact Z)|(apply Zae;(iterate 3 exact Z);exact Go.Zqy)|(apply Zau;(iterate 3 exact Z);exact Go.Zqy)|(apply Zaj;exact Z;exact Go.Zqy;exact Z;exact Z)|(apply Zag;exact Z;exact Go.Zqy;exact Z;exact Z))
   all_goals(apply Zaz [];(apply Zad Zab;exact Z);(iterate 4 exact Z))
   all_goals rfl
def ZhW (d:List UInt8):Nat × Bool:=((Zbn d 0).1.n,Zb3 d&&(It.beq (Zbn d 0).1 (.mk 0 (Zbn d 0).1.n [] [])&&decide (((Zbn d 0).1.n:Int)<=1099511627776)))
theorem ZmA [Known][KnownU8](d:List UInt8)(hd:d.length<=100000):AP Tryz.prog 104 [byE d] (.tup [.int .u64 ((ZhW d).1:Int),.bool (ZhW d).2]) []:=by
 have hI:=ZhU d hd
 have hw:=Znw d hd
 unfold ZhW
 dsimp only
 generalize (Zbn d 0).1=x at *
 obtain⟨k,n,b,l⟩:=x
 have hS:=Zen (.mk k n b l) hw (.mk 0 n [] []) ⟨hw.1,by simp,by simp,trivial⟩
 have hN:=Zch n
 dsimp only[It.n]
 cases hs:Zb3 d with
 | false=>
  rw[hs]at hI
  refine AP.ofA ?_
  refine Zan Tryz.func104 rfl Tryz.ntmps104 rfl rfl ?_
  repeat'(first|(apply Zaa (hI);kernel_rfl;(iterate 4 exact Z))|(apply Zai Zab;exact Z)|(apply Zah Zab;exact Z)|(apply Zau;(iterate 3 exact Z);exact Go.Zqy)|(apply Zag;exact Z;exact Go.Zqy;exact Z;exact Z)|(apply Zam 16 ZaK;decide +kernel;kernel_rfl;kernel_rfl;kernel_rfl;exact Z;exact Z)|(apply Zaq;(iterate 4 exact Z))|exact AE.nil _ _ _ _|(apply Zat;exact Z)|(apply Zax;exact Z;exact Z;decide +kernel;exact Z)|(apply Zay;exact Z)|exact AO.nil _ _ _|(apply Zap;(decide +kernel))|exact AOs.nil|exact ZaE rfl rfl)
  all_goals(apply Zaz [];(apply Zad Zab;exact Z);(iterate 4 exact Z))
  all_goals rfl
 | true=>
 rw[hs]at hI
 cases t1:It.beq (.mk k n b l) (.mk 0 n [] []) with
 | false=>
  rw[t1]at hS
  refine AP.ofA ?_
  refine Zan Tryz.func104 rfl Tryz.ntmps104 rfl rfl ?_
  repeat'(first|(apply Zaa (hI);kernel_rfl;(iterate 4 exact Z))|(apply Zaa (hS);kernel_rfl;(iterate 4 exact Z))|(apply Zaa (hN);kernel_rfl;(iterate 4 exact Z))|(apply Zai Zab;exact Z)|(apply Zah Zab;exact Z)|(apply Zae;(iterate 3 exact Z);exact Go.Zqy)|(apply Zau;(iterate 3 exact Z);exact Go.Zqy)|(apply Zaj;exact Z;exact Go.Zqy;exact Z;exact Z)|(apply Zag;exact Z;exact Go.Zqy;exact Z;exact Z)|(apply Zam 16 ZaK;decide +kernel;kernel_rfl;kernel_rfl;kernel_rfl;exact Z;exact Z)|(apply Zaq;(iterate 4 exact Z))|exact AE.nil _ _ _ _|(apply Zat;exact Z)|(apply Zax;exact Z;exact Z;decide +kernel;exact Z)|(apply Zay;exact Z)|exact AO.nil _ _ _|(apply Zap;(decide +kernel))|exact AOs.nil|exact ZaE rfl rfl)
  all_goals(apply Zaz [];(apply Zad Zab;exact Z);(iterate 4 exact Z))
  all_goals rfl
 | true=>
 rw[t1]at hS
 cases t2:decide ((n:Int)<=1099511627776)
 all_goals
  refine AP.ofA ?_
  refine Zan Tryz.func104 rfl Tryz.ntmps104 rfl rfl ?_
  repeat'(first|(apply Zaa (hI);kernel_rfl;(iterate 4 exact Z))|(apply Zaa (hS);kernel_rfl;(iterate 4 exact Z))|(apply Zaa (hN);kernel_rfl;(iterate 4 exact Z))|(apply Zai Zab;exact Z)|(apply Zah Zab;exact Z)|(apply Zae;(iterate 3 exact Z);exact Go.Zqy)|(apply Zaj;exact Z;exact Go.Zqy;exact Z;exact Z)|(apply Zam 16 ZaK;decide +kernel;kernel_rfl;kernel_rfl;kernel_rfl;exact Z;exact Z)|(apply Zaq;(iterate 4 exact Z))|exact AE.nil _ _ _ _|(apply Zat;exact Z)|(apply Zax;exact Z;exact Z;decide +kernel;exact Z)|(apply Zay;exact Z)|exact AO.nil _ _ _|(apply Zap;(decide +kernel))|exact AOs.nil|exact ZaE rfl rfl)
  all_goals(apply Zaz [];(apply Zad Zab;exact Z);(iterate 4 exact Z))
  all_goals rfl
def ZhX (ok:Bool)(x:It):Nat × Nat × Bool:=match ok with
 | false=>(0,0,false)
 | true=>match x with
  | .mk k n b l=>match k==4 with
   | false=>(0,0,false)
   | true=>match l with
    | [.mk k1 n1 b1 l1,.mk k2 n2 b2 l2]=>(n1,n2,It.beq (.mk k n b [.mk k1 n1 b1 l1,.mk k2 n2 b2 l2]) (.mk 4 0 [] [.mk 0 n1 [] [],.mk 0 n2 [] []])&&(decide ((n1:Int) ≥ 1)&&(decide ((n1:Int)<=255)&&decide ((n2:Int)<=(n1:Int)))))
    | _=>(0,0,false)
def ZcL (d:List UInt8):Nat × Nat × Bool:=ZhX (Zb3 d) (Zbn d 0).1
theorem Zp2 [Known][KnownU8](d:List UInt8)(k:Int)(n:Nat)(b:List UInt8)(l:List It)(hI:AP Tryz.prog 156 [byE d] (.tup [itD (.mk k n b l),.bool false]) []):AP Tryz.prog 105 [byE d] (.tup [.int .u64 0,.int .u64 0,.bool false]) []:=by
 refine AP.ofA ?_
 refine Zan Tryz.func105 rfl Tryz.ntmps105 rfl rfl ?_
 repeat'(first|(apply Zaa (hI);kernel_rfl;(iterate 4 exact Z))|(apply Zai Zab;exact Z)|(apply Zah Zab;exact Z)|(apply Zaw Zab;exact Z)|(apply Zal;(iterate 3 exact Z);exact Go.Zqy)|(apply Zaj;exact Z;exact Go.Zqy;exact Z;exact Z)|(apply Zac;exact Z;exact Go.Zqy))
 all_goals(apply Zaz [];(apply Zad Zab;exact Z);(iterate 4 exact Z))
 all_goals rfl
theorem Zp3 [Known][KnownU8](d:List UInt8)(k:Int)(n:Nat)(b:List UInt8)(l:List It)(hI:AP Tryz.prog 156 [byE d] (.tup [itD (.mk k n b l),.bool true]) [])(tk:(k==4)=false):AP Tryz.prog 105 [byE d] (.tup [.int .u64 0,.int .u64 0,.bool false]) []:=by
 have tk2:(k != 4)=true:=by rw[bne,tk];rfl
 refine AP.ofA ?_
 refine Zan Tryz.func105 rfl Tryz.ntmps105 rfl rfl ?_
 repeat'(first|(apply Zaa (hI);kernel_rfl;(iterate 4 exact Z))|(apply Zai Zab;exact Z)|(apply Zah Zab;exact Z)|(apply Zaw Zab;exact Z)|(apply Zae;(iterate 3 exact Z);exact Go.Zqy)|(apply Zal;(iterate 3 exact Z);exact Go.Zqy)|(apply Zaj;exact Z;exact Go.Zqy;exact Z;exact Z)|(apply Zag;exact Z;exact Go.Zqy;exact Z;exact Z)|(apply Zac;exact Z;exact Go.Zqy))
 all_goals(apply Zaz [];(apply Zad Zab;exact Z);(iterate 4 exact Z))
 all_goals rfl
theorem Zpu [Known][KnownU8](d:List UInt8)(k:Int)(n:Nat)(b:List UInt8)(l:List It)(hI:AP Tryz.prog 156 [byE d] (.tup [itD (.mk k n b l),.bool true]) [])(tk:(k==4)=true)(h2:l.length ≠ 2):AP Tryz.prog 105 [byE d] (.tup [.int .u64 0,.int .u64 0,.bool false]) []:=by
 have tk2:(k != 4)=false:=by rw[bne,tk];rfl
 have hlen:=Zas l
 have t2:(((ZaC l).length:Int) != 2)=true:=by rw[hlen];simp;omega
 refine AP.ofA ?_
 refine Zan Tryz.func105 rfl Tryz.ntmps105 rfl rfl ?_
 repeat'(first|(apply Zaa (hI);kernel_rfl;(iterate 4 exact Z))|(apply Zai Zab;exact Z)|(apply Zah Zab;exact Z)|(apply Zaw Zab;exact Z)|(apply Zae;(iterate 3 exact Z);exact Go.Zqy)|(apply Zag;exact Z;exact Go.Zqy;exact Z;exact Z)|(apply Zac;exact Z;exact Go.Zqy)|(apply Zao Zab;(iterate 4 exact Z)))
 all_goals(apply Zaz [];(apply Zad Zab;exact Z);(iterate 4 exact Z))
 all_goals rfl
end Go.Proofs.YtakblclkflnnpaaGreatDoor
end
section
open Go.RowKit Go.Pl
namespace Go.Pl
variable {P:Program} {t:TypeId}
theorem ZhY {α β γ δ ε:Type}{R0:Rep α}{R1:Rep β}{R2:Rep γ}{R3:Rep δ}{R4:Rep ε}{fs:Array Field}{f0 f1 f2 f3 f4:Field}(hs:P.underlying t=some (.struct fs))(hfs:fs = #[f0,f1,f2,f3,f4])
  (h00:f0.offset=0) (h01:f1.offset=R0.n) (h02:f2.offset=R0.n+R1.n) (h03:f3.offset=R0.n+R1.n+R2.n) (h04:f4.offset=R0.n+R1.n+R2.n+R3.n)
  (hc0:P.cellsOf f0.type=R0.n) (hc1:P.cellsOf f1.type=R1.n) (hc2:P.cellsOf f2.type=R2.n) (hc3:P.cellsOf f3.type=R3.n) (hc4:P.cellsOf f4.type=R4.n) (hc:P.cellsOf t=R0.n+(R1.n+(R2.n+(R3.n+R4.n))))
  (h0:Zee P f0.type R0) (h1:Zee P f1.type R1) (h2:Zee P f2.type R2) (h3:Zee P f3.type R3) (h4:Zee P f4.type R4):Zee P t (R0.prod (R1.prod (R2.prod (R3.prod R4)))):=by
 intro H enc W spare held fuel cs y h
 obtain⟨xs,n,_,_,hl,hxl,hg⟩:=DataW.trod_struct hs h
 subst hfs
 have e0:=hg 0 f0 rfl
 have e1:=hg 1 f1 rfl
 have e2:=hg 2 f2 rfl
 have e3:=hg 3 f3 rfl
 have e4:=hg 4 f4 rfl
 rw[h00,hc0,List.drop_zero]at e0
 rw[h01,hc1]at e1
 rw[h02,hc2]at e2
 rw[h03,hc3]at e3
 rw[h04,hc4]at e4
 have hn:xs.length=5:=hxl
 have hx0:xs[0]?=some (xs[0]'(by omega)):=List.getElem?_eq_getElem (by omega)
 have hx1:xs[1]?=some (xs[1]'(by omega)):=List.getElem?_eq_getElem (by omega)
 have hx2:xs[2]?=some (xs[2]'(by omega)):=List.getElem?_eq_getElem (by omega)
 have hx3:xs[3]?=some (xs[3]'(by omega)):=List.getElem?_eq_getElem (by omega)
 have hx4:xs[4]?=some (xs[4]'(by omega)):=List.getElem?_eq_getElem (by omega)
 obtain⟨x0,k0⟩:=h0 H enc W spare held n _ _ (e0.trans hx0)
 obtain⟨x1,k1⟩:=h1 H enc W spare held n _ _ (e1.trans hx1)
 obtain⟨x2,k2⟩:=h2 H enc W spare held n _ _ (e2.trans hx2)
 obtain⟨x3,k3⟩:=h3 H enc W spare held n _ _ (e3.trans hx3)
 obtain⟨x4,k4⟩:=h4 H enc W spare held n _ _ (e4.trans hx4)
 refine⟨(x0,x1,x2,x3,x4),cs.take R0.n,cs.drop R0.n,(List.take_append_drop _ _).symm,k0,(cs.drop R0.n).take R1.n,(cs.drop R0.n).drop R1.n,(List.take_append_drop _ _).symm,k1,
  ((cs.drop R0.n).drop R1.n).take R2.n,((cs.drop R0.n).drop R1.n).drop R2.n,(List.take_append_drop _ _).symm,?_,(((cs.drop R0.n).drop R1.n).drop R2.n).take R3.n,(((cs.drop R0.n).drop R1.n).drop R2.n).drop R3.n,(List.take_append_drop _ _).symm,?_,?_⟩
 ·rw[List.drop_drop];exact k2
 ·rw[List.drop_drop,List.drop_drop,show R0.n+(R1.n+R2.n)=R0.n+R1.n+R2.n from by omega];exact k3
 ·rw[List.drop_drop,List.drop_drop,List.drop_drop,show R0.n+(R1.n+(R2.n+R3.n))=R0.n+R1.n+R2.n+R3.n from by omega]
  rw[List.take_of_length_le (i:=R4.n) (by rw[List.length_drop];omega)]at k4
  exact k4
abbrev RE:Rep (Bool × Nat × Nat × List UInt8 × List UInt8):=Rep.bool.prod (Rep.u64.prod (Rep.u64.prod (Rep.str.prod Rep.str)))
end Go.Pl
end
section
open Go.RowKit Go.Pl
namespace Go.Proofs.YtakblclkflnnpaaGreatDoor
theorem Zpv:Zee Tryz.prog 24 RE:=
 ZhY Tryz.underlying24 rfl rfl rfl rfl rfl rfl (by kernel_rfl) (by kernel_rfl) (by kernel_rfl) (by kernel_rfl) (by kernel_rfl) (by kernel_rfl) (Zjc Tryz.underlying4) (Zgz Tryz.underlying22) (Zgz Tryz.underlying22) (ZgA Tryz.underlying9) (ZgA Tryz.underlying9)
end Go.Proofs.YtakblclkflnnpaaGreatDoor
end
section
open Go.RowKit Go.Pl Go.Av
namespace Go.Proofs.YtakblclkflnnpaaGreatDoor
set_option maxHeartbeats 4000000
theorem Znx:ToE RE (fun x=>.agg [.bool x.1,.int .u64 (x.2.1:Int),.int .u64 (x.2.2.1:Int),.str x.2.2.2.1,.str x.2.2.2.2]):=
 ToE.bool.prod (ToE.u64.prod (ToE.u64.prod (ToE.str.prod ToE.str)))
abbrev XE:=Bool × Nat × Nat × List UInt8 × List UInt8
def XE.v (x:XE):EidV:=⟨x.1,x.2.1,x.2.2.1,x.2.2.2.1,x.2.2.2.2⟩
theorem Zpw [Known]{W:World}{cs:List Value}{x:XE}(h:RE.ok W (· < W.heap.size) cs x):V W (g0 W) [] (.agg (eC x.v)) (.agg cs.toArray):=
 Znx.agg (l:=[.bool x.1,.int .u64 (x.2.1:Int),.int .u64 (x.2.2.1:Int),.str x.2.2.2.1,.str x.2.2.2.2]) rfl h
theorem ZhZ {x:EidV}(hi:x.i=true):ZaP x=true ↔ x.h=[]/\x.d=[]/\1<=(x.n:Int)/\(x.n:Int)<=4294967295/\(x.s:Int)<=4294967295:=by
 have hz:isZ x=false:=by simp[isZ,hi]
 rw[Zgl hz hi]
 simp[hi,and_assoc]
theorem Zl7 {x:EidV}(hi:x.i=false):isZ x=true ↔ (x.n:Int)=0/\(x.s:Int)=0/\x.h=[]/\x.d=[]:=by
 simp[isZ,hi]
theorem Zh0 {x:EidV}(hi:x.i=false)(hz:isZ x=false):ZaP x=true ↔ (x.n:Int)=0/\(x.s:Int)=0/\(x.h.length:Int) ≥ 1/\(x.h.length:Int)<=16/\(x.d.length:Int)<=24/\x.h.all (okB 45)=true/\x.d.all (okB 47)=true:=by
 rw[Zgm hz hi]
 simp only[Bool.and_eq_true,beq_iff_eq,decide_eq_true_eq,and_true,true_and,and_assoc,hi,beq_self_eq_true]
def Zb7 (x:EidV):Int:=if x.i then(if ZaP x then 1 else -1) else if isZ x then 0 else if ZaP x then 2 else -1
theorem Zgq (x:EidV):decide (Zb7 x ≥ 0)=ZaP x:=by
 unfold Zb7
 cases hi:x.i with
 | true=>cases ZaP x<;>rfl
 | false=>
  cases hz:isZ x with
  | true=>rw[Zgk hz];rfl
  | false=>cases ZaP x<;>rfl
theorem Zh1 (x:EidV):decide (Zb7 x<1)=(!(ZaP x)||isZ x):=by
 unfold Zb7
 cases hi:x.i with
 | true=>
  have hz:isZ x=false:=by simp[isZ,hi]
  rw[hz];cases ZaP x<;>rfl
 | false=>
  cases hz:isZ x with
  | true=>rw[Zgk hz];rfl
  | false=>cases ZaP x<;>rfl
theorem Zfs [Known](s:List UInt8)(b:Bool)(m:Nat)(hm:m=if b then 47 else 45)(hs:s.length<=9223372036854775807):AP Tryz.prog 109 [.str s,.bool b] (.bool (s.all (okB m))) []:=by
 refine AP.ofA ?_
 refine Zan Tryz.func109 rfl Tryz.ntmps109 rfl rfl ?_
 repeat'(first|(apply Zah Zab;exact Z))
 refine ZaG (fun k tm bx fr=>∃ i,k+i=s.length/\(∀ c ∈ s.take i,okB m c=true)/\tm=[(0,.str s),(1,.bool b),(5,.int .i64 (i:Int))]/\bx=[]/\fr=[]) (s.length+1) (Lands.mk' (m:=s.length) (Nat.lt_succ_self _) ⟨0,rfl,by simp,rfl,rfl,rfl⟩ ?_ rfl rfl rfl rfl rfl rfl) ?_
 ·exact .cons rfl (.cons rfl (.cons rfl .nil))
 rintro k tm bx fr ⟨i,hk,hall,rfl,rfl,rfl⟩
 rcases Nat.lt_or_ge i s.length with hlt|hge
 ·have hd:decide ((i:Int)<(s.length:Int))=true:=by simp;omega
  obtain⟨c,hc⟩:∃ c,s[i]?=some c:=⟨_,List.getElem?_eq_getElem hlt⟩
  have hv:s[((i:Nat):Int).toNat]?=some c:=by simpa using hc
  have ei:IntKind.i64.wrap ((i:Int)+1)=((i+1:Nat):Int):=by rw[IntWalk.i64_in _ (by omega)];omega
  have hstep:okB m c=true->∀ x ∈ s.take (i+1),okB m x=true:=fun h x hx=>by
   rw[List.take_add_one,hc]at hx
   rcases List.mem_append.1 hx with hx|hx
   ·exact hall x hx
   ·simp at hx;subst hx;exact h
  have hbad:¬ okB m c=true->s.all (okB m)=false:=fun h=>List.all_eq_false.2 ⟨c,List.mem_of_getElem? hc,h⟩
  cases b with
  | false=>
   have hm':m=45:=hm
   subst hm'
   repeat'(first|rw[ei]|(apply ZcX Zab;(iterate 5 exact Z);exact Int.natCast_nonneg _;exact hv)|(apply Zai Zab;exact Z)|(apply Zah Zab;exact Z)|(apply Zaw Zab;exact Z)|(apply Zae;(iterate 3 exact Z);(first|with_reducible assumption|(solve|simp only[bn])))|(apply Zau;(iterate 3 exact Z);(first|with_reducible assumption|(solve|simp only[bn])))|(apply Zal;(iterate 3 exact Z);(first|with_reducible assumption|(solve|simp only[bn])))|(apply Ze3;(iterate 3 exact Z))|(apply Zbh;exact Z;exact Z;all_goals intro hb)|(apply Zaj;exact Z;(first|with_reducible assumption|(solve|simp only[bn]));exact Z;exact Z)|(apply Zag;exact Z;(first|with_reducible assumption|(solve|simp only[bn]));exact Z;exact Z)|(apply Zac;exact Z;(first|with_reducible assumption|(solve|simp only[bn])))|(apply Zaf;exact Z;(first|with_reducible assumption|(solve|simp only[bn])))|refine Zbk ?_|(apply ZaV Zab;(iterate 4 exact Z)))
   all_goals first
    | (refine Lands.mk' (m:=k-1) (by omega) ⟨i+1,by omega,hstep ?_,rfl,rfl,rfl⟩ ?_ rfl rfl rfl rfl rfl rfl
       ·rw[ZcZ]
        clear hstep hbad hall
        simp only[decide_eq_true_eq,decide_eq_false_iff_not,beq_iff_eq,beq_eq_false_iff_ne,ne_eq,Bool.not_eq_false',Bool.not_eq_true']at *
        omega
       ·exact .cons rfl (.cons rfl (.cons rfl .nil)))
    | ((apply Zaz [];(apply Zad Zab;exact Z);(iterate 4 exact Z))
       ·rw[hbad (fun h=>by
          rw[ZcZ]at h
          clear hstep hbad hall
          simp only[decide_eq_true_eq,decide_eq_false_iff_not,beq_iff_eq,beq_eq_false_iff_ne,ne_eq,Bool.not_eq_false',Bool.not_eq_true']at *
          omega)]
       ·rfl)
  | true=>
   have hm':m=47:=hm
   subst hm'
   repeat'(first|rw[ei]|(apply ZcX Zab;(iterate 5 exact Z);exact Int.natCast_nonneg _;exact hv)|(apply Zai Zab;exact Z)|(apply Zah Zab;exact Z)|(apply Zaw Zab;exact Z)|(apply Zae;(iterate 3 exact Z);(first|with_reducible assumption|(solve|simp only[bn])))|(apply Zau;(iterate 3 exact Z);(first|with_reducible assumption|(solve|simp only[bn])))|(apply Zal;(iterate 3 exact Z);(first|with_reducible assumption|(solve|simp only[bn])))|(apply Ze3;(iterate 3 exact Z))|(apply Zbh;exact Z;exact Z;all_goals intro hb)|(apply Zaj;exact Z;(first|with_reducible assumption|(solve|simp only[bn]));exact Z;exact Z)|(apply Zag;exact Z;(first|with_reducible assumption|(solve|simp only[bn]));exact Z;exact Z)|(apply Zac;exact Z;(first|with_reducible assumption|(solve|simp only[bn])))|(apply Zaf;exact Z;(first|with_reducible assumption|(solve|simp only[bn])))|(apply Zbp;exact Z;all_goals intro hb)|refine Zbk ?_|(apply ZaV Zab;(iterate 4 exact Z)))
   all_goals first
    | (refine Lands.mk' (m:=k-1) (by omega) ⟨i+1,by omega,hstep ?_,rfl,rfl,rfl⟩ ?_ rfl rfl rfl rfl rfl rfl
       ·rw[ZcZ]
        clear hstep hbad hall
        simp only[decide_eq_true_eq,decide_eq_false_iff_not,beq_iff_eq,beq_eq_false_iff_ne,ne_eq,Bool.not_eq_false',Bool.not_eq_true']at *
        omega
       ·exact .cons rfl (.cons rfl (.cons rfl .nil)))
    | ((apply Zaz [];(apply Zad Zab;exact Z);(iterate 4 exact Z))
       ·rw[hbad (fun h=>by
          rw[ZcZ]at h
          clear hstep hbad hall
          simp only[decide_eq_true_eq,decide_eq_false_iff_not,beq_iff_eq,beq_eq_false_iff_ne,ne_eq,Bool.not_eq_false',Bool.not_eq_true']at *
          omega)]
       ·rfl)
 ·have hd:decide ((i:Int)<(s.length:Int))=false:=by simp;omega
  repeat'(first|(apply Zai Zab;exact Z)|(apply Zah Zab;exact Z)|(apply Zaw Zab;exact Z)|(apply Zaf;exact Z;(first|with_reducible assumption|(solve|simp only[bn])))|(apply ZaV Zab;(iterate 4 exact Z)))
  (apply Zaz [];(apply Zad Zab;exact Z);(iterate 4 exact Z))
  ·rw[List.take_of_length_le hge]at hall
   rw[List.all_eq_true.2 hall]
  ·rfl
def Fit (x:EidV):Prop:=x.h.length<=9223372036854775807/\x.d.length<=9223372036854775807
theorem Zcz [Known](x:EidV)(hx:Fit x):AP Tryz.prog 45 [.agg (eC x)] (.int .i64 (Zb7 x)) []:=by
 refine AP.ofA ?_
 refine Zan Tryz.func45 rfl Tryz.ntmps45 rfl rfl ?_
 cases hi:x.i with
 | true=>
  have hE:=ZhZ hi
  repeat'(first|(apply Zai Zab;exact Z)|(apply Zah Zab;exact Z)|(apply Zaw Zab;exact Z)|(apply Zae;(iterate 3 exact Z);(first|with_reducible assumption|(solve|simp only[bn])))|(apply Zal;(iterate 3 exact Z);(first|with_reducible assumption|(solve|simp only[bn])))|(apply Zbh;exact Z;exact Z;all_goals intro hb)|(apply Zaj;exact Z;(first|with_reducible assumption|(solve|simp only[bn]));exact Z;exact Z)|(apply Zag;exact Z;(first|with_reducible assumption|(solve|simp only[bn]));exact Z;exact Z)|(apply Zac;exact Z;(first|with_reducible assumption|(solve|simp only[bn])))|(apply Zbp;exact Z;all_goals intro hb))
  all_goals(apply Zaz [];(apply Zad Zab;exact Z);(iterate 4 exact Z))
  all_goals first
   | rfl
   | (unfold Zb7
      rw[hi]
      simp only[if_true]
      simp only[decide_eq_true_eq,decide_eq_false_iff_not,beq_iff_eq,beq_eq_false_iff_ne,ne_eq,bne_iff_ne,bne_eq_false_iff_eq,Bool.not_eq_false',Bool.not_eq_true']at *
      split
      ·first
         | rfl
         | (exfalso;rename_i h;obtain⟨h1,h2,h3,h4,h5⟩:=hE.1 h;first|contradiction|omega)
      ·first
         | rfl
         | (exfalso;rename_i h;exact h (hE.2 ⟨by assumption,by assumption,by omega,by omega,by omega⟩)))
 | false=>
  have hZ:=Zl7 hi
  have hE:=fun hz=>Zh0 (x:=x) hi hz
  repeat'(first|(apply Zaa (Zfs x.h false 45 rfl hx.1);kernel_rfl;(iterate 4 exact Z))|(apply Zaa (Zfs x.d true 47 rfl hx.2);kernel_rfl;(iterate 4 exact Z))|(apply Zai Zab;exact Z)|(apply Zah Zab;exact Z)|(apply Zaw Zab;exact Z)|(apply Zae;(iterate 3 exact Z);(first|with_reducible assumption|(solve|simp only[bn])))|(apply Zau;(iterate 3 exact Z);(first|with_reducible assumption|(solve|simp only[bn])))|(apply Zal;(iterate 3 exact Z);(first|with_reducible assumption|(solve|simp only[bn])))|(apply Zbh;exact Z;exact Z;all_goals intro hb)|(apply Zaj;exact Z;(first|with_reducible assumption|(solve|simp only[bn]));exact Z;exact Z)|(apply Zag;exact Z;(first|with_reducible assumption|(solve|simp only[bn]));exact Z;exact Z)|(apply Zac;exact Z;(first|with_reducible assumption|(solve|simp only[bn])))|(apply Zaf;exact Z;(first|with_reducible assumption|(solve|simp only[bn])))|(apply Zbp;exact Z;all_goals intro hb)|(apply ZaV Zab;(iterate 4 exact Z)))
  all_goals(apply Zaz [];(apply Zad Zab;exact Z);(iterate 4 exact Z))
  all_goals first
   | rfl
   | (unfold Zb7
      rw[hi]
      simp only[Bool.false_eq_true,if_false]
      simp only[decide_eq_true_eq,decide_eq_false_iff_not,beq_iff_eq,beq_eq_false_iff_ne,ne_eq,bne_iff_ne,bne_eq_false_iff_eq,Bool.not_eq_false',Bool.not_eq_true']at *
      split
      ·first
         | rfl
         | (exfalso;rename_i h;obtain⟨h1,h2,h3,h4⟩:=hZ.1 h;first|contradiction|omega)
      ·rename_i hz
       have hz':isZ x=false:=by simpa using hz
       split
       ·first
          | rfl
          | (exfalso;rename_i h;obtain⟨h1,h2,h3,h4,h5,h6,h7⟩:=(hE hz').1 h;first|contradiction|omega|(simp_all;done))
       ·first
          | rfl
          | (exfalso;rename_i h;exact h ((hE hz').2 ⟨by omega,by omega,by omega,by omega,by omega,by assumption,by assumption⟩))
          | (exfalso;exact hz (hZ.2 ⟨by assumption,by assumption,by assumption,by assumption⟩)))
theorem ZoI [Known](x:EidV):AP Tryz.prog 41 [.agg (eC x)] (.agg (eC x)) []:=by
 refine AP.ofA ?_
 refine Zan Tryz.func41 rfl Tryz.ntmps41 rfl rfl ?_
 repeat'(first|(apply Zah Zab;exact Z))
 (apply Zaz [];(apply Zad Zab;exact Z);(iterate 4 exact Z))
 all_goals rfl
theorem Zl8 {n:Nat}(h:0<n/10):Lib.decDigits n=Lib.decDigits (n/10)++[UInt8.ofNat (48+n % 10)]:=by
 rw[Lib.decDigits,dif_neg (by omega)]
theorem ZiY {n:Nat}(h:n/10=0):Lib.decDigits n=[UInt8.ofNat (48+n % 10)]:=by
 rw[Lib.decDigits,dif_pos (by omega),Nat.mod_eq_of_lt (by omega)]
theorem Zl9 {k:Nat}(h:k<10):(UInt8.ofNat (48+k)).toNat=48+k:=by
 rw[UInt8.toNat_ofNat'];omega
theorem ZkV:∀(k u:Nat),u<10 ^ (k+1)->(Lib.decDigits u).length<=k+1
 | 0,u,h=>by rw[Lib.decDigits,dif_pos (by simpa using h)];simp
 | k+1,u,h=>by
  rw[Lib.decDigits]
  by_cases h1:u<10
  ·rw[dif_pos h1];simp
  ·rw[dif_neg h1,List.length_append]
   have:=ZkV k (u/10) (by rw[Nat.pow_succ]at h;omega)
   simp;omega
theorem Zhi [Known](N:Nat)(hN:N<18446744073709551616):AP Tryz.prog 194 [.int .u64 (N:Int)] (.str (Lib.decDigits N)) []:=by
 refine AP.ofA ?_
 refine Zan Tryz.func194 rfl Tryz.ntmps194 rfl rfl ?_
 repeat'(first|(apply Zah Zab;exact Z))
 refine ZaG (fun k tm bx fr=>∃(n:Nat) (out:List UInt8),k=n+(if out=[] then 1 else 0)/\n<=N/\((out=[]/\n=N)\/(out ≠ []/\(if n=0 then out=Lib.decDigits N else Lib.decDigits n++out=Lib.decDigits N)))/\tm=[(0,.int .u64 (n:Int)),(2,.str []),(3,.str out)]/\bx=[]/\fr=[]) (N+2) (Lands.mk' (m:=N+1) (by omega) ⟨N,[],by simp,Nat.le_refl _,.inl ⟨rfl,rfl⟩,rfl,rfl,rfl⟩ ?_ rfl rfl rfl rfl rfl rfl) ?_
 ·exact .cons rfl (.cons rfl (.cons rfl .nil))
 rintro k tm bx fr ⟨n,out,hk,hn,hI,rfl,rfl,rfl⟩
 have hol:out.length<=20:=by
  have hd:=ZkV 19 N (by omega)
  rcases hI with⟨rfl,_⟩ | ⟨_,h⟩
  ·simp
  ·split at h
   ·rw[h];exact hd
   ·rw[<- h,List.length_append]at hd;omega
 have e0:IntKind.u8.wrap (IntKind.u64.wrap (48+((n:Int)).tmod 10))=((UInt8.ofNat (48+n % 10)).toNat:Int):=by
  have hm:((n:Int)).tmod 10=((n % 10:Nat):Int):=by rw[Int.tmod_eq_emod_of_nonneg (by omega)];omega
  rw[hm,IntWalk.u64_in _ (by omega),Zl9 (by omega),IntWalk.u8_in _ (by omega)];omega
 have e1:((n:Int)).tdiv 10=((n/10:Nat):Int):=by rw[Int.tdiv_eq_ediv_of_nonneg (by omega)];omega
 have e2:IntKind.u64.wrap ((n/10:Nat):Int)=((n/10:Nat):Int):=IntWalk.u64_in _ (by omega)
 have l1:[UInt8.ofNat (48+n % 10)].length+out.length<=maxLen:=by simp;unfold maxLen;omega
 have hgo:((out=[]/\n=N)\/(out ≠ []/\0<n/\Lib.decDigits n++out=Lib.decDigits N))->(if n/10=0 then [UInt8.ofNat (48+n % 10)]++out=Lib.decDigits N else Lib.decDigits (n/10)++([UInt8.ofNat (48+n % 10)]++out)=Lib.decDigits N):=fun h=>by
  have hh:Lib.decDigits n++out=Lib.decDigits N:=by
   rcases h with⟨rfl,rfl⟩ | ⟨_,_,h⟩
   ·simp
   ·exact h
  split
  ·rename_i h1;rw[<- hh,ZiY h1]
  ·rename_i h1;rw[<- hh,Zl8 (n:=n) (by omega),List.append_assoc]
 rcases Nat.eq_zero_or_pos n with h0|h0
 ·subst h0
  have t1:decide (((0:Nat):Int)>0)=false:=by decide
  cases out with
  | nil=>
   repeat'(first|rw[e0]|rw[e2]|rw[e1]|(apply Zcg Zab;exact Z;exact(show _=[UInt8.ofNat (48+0 % 10)].map E.byte from rfl);(iterate 7 exact Z))|(apply Zey;exact Z;exact Z;exact l1;exact Z)|(apply Zai Zab;exact Z)|(apply Zah Zab;exact Z)|(apply Zaw Zab;exact Z)|(apply Zae;(iterate 3 exact Z);exact Go.Zqy)|(apply Zag;exact Z;exact Go.Zqy;exact Z;exact Z)|(apply Zac;exact Z;exact Go.Zqy)|refine Zbe ?_|(apply Zfb Zab;(iterate 12 exact Z))|(apply ZgC;exact Z;exact Z;(first|exact Go.Zqy|rotate_left);exact Z)|(apply ZgD;exact Z;exact Z;(first|exact Go.Zqy|rotate_left);exact Z))
   refine Lands.mk' (m:=0) (by simp at hk;omega) ⟨0,[UInt8.ofNat (48+0 % 10)]++[],by simp,by omega,.inr ⟨by simp,?_⟩,rfl,rfl,rfl⟩ ?_ rfl rfl rfl rfl rfl rfl
   ·rw[if_pos rfl]
    rcases hI with⟨_,rfl⟩ | ⟨h,_⟩
    ·rw[ZiY (by omega)];rfl
    ·exact absurd rfl h
   ·exact .cons rfl (.cons rfl (.cons rfl .nil))
  | cons c r=>
   have t2:(c::r==[])=false:=by simp
   have hR:c::r=Lib.decDigits N:=by
    rcases hI with⟨h,_⟩ | ⟨_,h⟩
    ·cases h
    ·exact h
   repeat'(first|(apply Zai Zab;exact Z)|(apply Zah Zab;exact Z)|(apply Zaw Zab;exact Z)|(apply Zae;(iterate 3 exact Z);exact Go.Zqy)|(apply Zag;exact Z;exact Go.Zqy;exact Z;exact Z)|(apply Zaf;exact Z;exact Go.Zqy))
   all_goals(apply Zaz [];(apply Zad Zab;exact Z);(iterate 4 exact Z))
   all_goals first|rfl|(rw[hR];done)|(rw[<- hR];rfl)
 ·have t1:decide ((n:Int)>0)=true:=decide_eq_true (by omega)
  have hx:=hgo (by
   rcases hI with h|⟨h,h2⟩
   ·exact .inl h
   ·rw[if_neg (by omega)]at h2;exact .inr ⟨h,h0,h2⟩)
  repeat'(first|rw[e0]|rw[e2]|rw[e1]|(apply Zcg Zab;exact Z;exact(show _=[UInt8.ofNat (48+n % 10)].map E.byte from rfl);(iterate 7 exact Z))|(apply Zey;exact Z;exact Z;exact l1;exact Z)|(apply Zai Zab;exact Z)|(apply Zah Zab;exact Z)|(apply Zaw Zab;exact Z)|(apply Zal;(iterate 3 exact Z);exact Go.Zqy)|(apply Zaj;exact Z;exact Go.Zqy;exact Z;exact Z)|(apply Zac;exact Z;exact Go.Zqy)|refine Zbe ?_|(apply Zfb Zab;(iterate 12 exact Z))|(apply ZgC;exact Z;exact Z;(first|exact Go.Zqy|rotate_left);exact Z)|(apply ZgD;exact Z;exact Z;(first|exact Go.Zqy|rotate_left);exact Z))
  refine Lands.mk' (m:=n/10) (by omega) ⟨n/10,[UInt8.ofNat (48+n % 10)]++out,by simp,by omega,.inr ⟨by simp,hx⟩,rfl,rfl,rfl⟩ ?_ rfl rfl rfl rfl rfl rfl
  exact .cons rfl (.cons rfl (.cons rfl .nil))
def isD (c:UInt8):Bool:=decide ((c.toNat:Int) ≥ 48)&&decide ((c.toNat:Int)<=57)
def ZcU:Nat->Nat->List UInt8->Nat × Nat
 | 0,a,_=>(a,0)
 | f+1,a,[]=>(a,0)
 | f+1,a,c::r=>if isD c then((ZcU f (10*a+(c.toNat-48)) r).1,(ZcU f (10*a+(c.toNat-48)) r).2+1) else(a,0)
theorem Zgr {c:UInt8}:isD c=true ↔ 48<=c.toNat/\c.toNat<=57:=by
 simp only[isD,Bool.and_eq_true,decide_eq_true_eq];omega
end Go.Proofs.YtakblclkflnnpaaGreatDoor
end

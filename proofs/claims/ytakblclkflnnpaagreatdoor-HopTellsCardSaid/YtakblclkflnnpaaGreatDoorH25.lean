/- Package eid: an item's name. -/
import Derived.Test.YtakblclkflnnpaaGreatDoorH23
import Derived.Test.YtakblclkflnnpaaGreatDoorH24
import Derived.Test.YtakblclkflnnpaaGreatDoorH22
import Derived.Test.YtakblclkflnnpaaGreatDoorH21
set_option linter.unusedVariables false
set_option linter.unusedSimpArgs false
section
open Go.RowKit Go.Pl Go.Av
namespace Go.Proofs.YtakblclkflnnpaaGreatDoor
set_option maxHeartbeats 4000000
def Ze3 (s r:It):EidV × Bool:=
 match Zc6 1 s with
 | true=>(match Zc6 0 r with
  | true=>(Zdj,true)
  | false=>(match r.k==3 with
   | true=>ppV r.b
   | false=>(Zdj,false)))
 | false=>(match Zc6 2 s with
  | true=>(match Zfk r with
   | some (a,c)=>(⟨true,a,c,[],[]⟩,ZaH ⟨true,a,c,[],[]⟩)
   | none=>(Zdj,false))
  | false=>(Zdj,false))
def Zbf (x:It):EidV × Bool:=match ZaD x,x with
 | true,.mk k _ _ [s,r]=>if k=4 then Ze3 s r else(Zdj,false)
 | _,_=>(Zdj,false)
abbrev ZrX (x:EidV × Bool):D:=.tup [.agg (eC (match x.2 with|true=>x.1|false=>Zdj)),.int .i64 (match x.2 with|true=>0|false=>3)]
theorem ZiJ [Known][KnownU8](x:It)(hw:wfI x)(h:ZaD x=false\/x.k ≠ 4\/x.l.length ≠ 2):AP Tryz.prog 85 [itD x] (ZrX (Zdj,false)) []:=by
 have hR:=Zce x hw
 show AP Tryz.prog _ _ (.tup [.agg [.bool false,.int .u64 0,.int .u64 0,.str [],.str []],.int .i64 3]) []
 cases hr:ZaD x with
 | false=>
  rw[hr]at hR
  obtain⟨k,n,b,l⟩:=x
  refine AP.ofA (Zam Tryz.func85 U Tryz.ntmps85 U U ?_)
  repeat'(first|(apply Zaa (hR);kernel_rfl;(iterate 4 exact U))|(apply Zai Zab;exact U)|(apply Zag Zab;exact U)|(apply Zau Zab;exact U)|refine Zal U U U Qt ?_|refine Zak U Qt U U ?_|refine Zad U Qt ?_)
  all_goals exact Qe
 | true=>
  rw[hr]at hR h
  obtain⟨k,n,b,l⟩:=x
  simp only[It.k,It.l]at h
  by_cases hk:k=4
  ·have t1:(k != 4)=false:=by simpa using hk
   have hl:l.length ≠ 2:=by
    rcases h with h|h|h
    ·cases h
    ·exact absurd hk h
    ·exact h
   have t2:(((ZaC l).length:Int) != 2)=true:=by rw[Zaq];simp;omega
   refine AP.ofA (Zam Tryz.func85 U Tryz.ntmps85 U U ?_)
   repeat'(first|(apply Zaa (hR);kernel_rfl;(iterate 4 exact U))|(apply Zai Zab;exact U)|(apply Zag Zab;exact U)|(apply Zau Zab;exact U)|refine Zae U U U Qt ?_|refine Zah U Qt U U ?_|refine Zad U Qt ?_|refine Zan Zab U U U U ?_)
   all_goals exact Qe
  ·have t1:(k != 4)=true:=by simpa using hk
   refine AP.ofA (Zam Tryz.func85 U Tryz.ntmps85 U U ?_)
   repeat'(first|(apply Zaa (hR);kernel_rfl;(iterate 4 exact U))|(apply Zai Zab;exact U)|(apply Zag Zab;exact U)|(apply Zau Zab;exact U)|refine Zae U U U Qt ?_|refine Zal U U U Qt ?_|refine Zak U Qt U U ?_|refine Zah U Qt U U ?_|refine Zad U Qt ?_)
   all_goals exact Qe
theorem ZrY [Known][KnownU8](n:Nat)(b:List UInt8)(s r:It)(hw:wfI (.mk 4 n b [s,r]))(hr:ZaD (.mk 4 n b [s,r])=true)(h1:Zc6 1 s=true):AP Tryz.prog 85 [itD (.mk 4 n b [s,r])] (ZrX (Ze3 s r)) []:=by
 have hR:=Zce _ hw
 rw[hr]at hR
 obtain⟨_,_,_,hws,hwr,_⟩:=hw
 have e1:s=.mk 0 1 [] []:=It.beq_iff.1 h1
 have hS1:=ZdI s hws 1 (by omega)
 have hS2:=ZdI s hws 2 (by omega)
 have hR0:=ZdI r hwr 0 (by omega)
 have n0:=Zew 0
 have n1:=Zew 1
 have n2:=Zew 2
 replace n0:AP Tryz.prog _ [.int .u64 0] (.agg [.int .i64 0,.int .u64 0,.sl .ext [],.sl .ext []]) []:=n0
 replace n1:AP Tryz.prog _ [.int .u64 1] (.agg [.int .i64 0,.int .u64 1,.sl .ext [],.sl .ext []]) []:=n1
 replace n2:AP Tryz.prog _ [.int .u64 2] (.agg [.int .i64 0,.int .u64 2,.sl .ext [],.sl .ext []]) []:=n2
 have h2:Zc6 2 s=false:=by rw[e1];rfl
 rw[h1]at hS1
 rw[h2]at hS2
 have hU:=ZcF [s,r]
 unfold Ze3
 rw[h1]
 dsimp only
 have hbl:r.b.length<=140737488351232:=by obtain⟨kr,nr,br,lr⟩:=r;exact hwr.2.1
 have hP:=Zs0 r.b hbl
 obtain⟨ks,ns,bs,ls⟩:=s
 obtain⟨kr,nr,br,lr⟩:=r
 simp only[It.b,It.k]at hP ⊢
 have t2:(((ZaC [It.mk ks ns bs ls,It.mk kr nr br lr]).length:Int) != 2)=false:=rfl
 cases h0:Zc6 0 (.mk kr nr br lr) with
 | true=>
  rw[h0]at hR0
  show AP Tryz.prog _ _ (.tup [.agg [.bool false,.int .u64 0,.int .u64 0,.str [],.str []],.int .i64 0]) []
  refine AP.ofA (Zam Tryz.func85 U Tryz.ntmps85 U U ?_)
  repeat'(first|(apply Zej 11 Zab ZaQ;decide +kernel;kernel_rfl;kernel_rfl;kernel_rfl;exact U;exact U)|exact AV.nil _ _|(apply ZlD;exact U;exact U)|(apply ZlE;(iterate 4 exact U))|(apply ZlC;(iterate 4 exact U))|refine Zhg U U U U ?_|(apply Zaa (hR);kernel_rfl;(iterate 4 exact U))|(apply Zaa (hS1);kernel_rfl;(iterate 4 exact U))|(apply Zaa (hR0);kernel_rfl;(iterate 4 exact U))|(apply Zaa (n0);kernel_rfl;(iterate 4 exact U))|(apply Zaa (n1);kernel_rfl;(iterate 4 exact U))|(apply Zai Zab;exact U)|(apply Zag Zab;exact U)|(apply Zau Zab;exact U)|refine Zae U U U Qt ?_|refine Zak U Qt U U ?_|refine Zah U Qt U U ?_|refine Zad U Qt ?_|refine Zaf U Qt ?_|refine Zan Zab U U U U ?_|(apply Zao 6 ZaQ;decide +kernel;kernel_rfl;kernel_rfl;kernel_rfl;exact U;exact U)|(apply Zas;(iterate 4 exact U))|exact AE.nil _ _ _ _|(apply Zaw;exact U)|(apply Zay;exact U;exact U;decide +kernel;exact U)|(apply Zaz;exact U)|exact AO.nil _ _ _|(apply Zar;(decide +kernel))|exact AOs.nil|exact ZaJ rfl rfl|(apply Zat Zab;(iterate 6 exact U);(first|exact Qt|rotate_left);(first|with_reducible assumption|decide +kernel|exact U);(first|exact Zaj rfl|with_reducible assumption|decide +kernel|rotate_left)))
  all_goals exact Qe
 | false=>
  rw[h0]at hR0
  generalize ppV br=xp at *
  obtain⟨⟨qi,qn,qs,qh,qd⟩,qb⟩:=xp
  replace hP:AP Tryz.prog _ [.str br] (.tup [.agg [.bool qi,.int .u64 (qn:Int),.int .u64 (qs:Int),.str qh,.str qd],.bool qb]) []:=hP
  cases hk:kr==3 with
  | true=>
   cases qb
   all_goals
    refine AP.ofA (Zam Tryz.func85 U Tryz.ntmps85 U U ?_)
    repeat'(first|(apply Zej 11 Zab ZaQ;decide +kernel;kernel_rfl;kernel_rfl;kernel_rfl;exact U;exact U)|exact AV.nil _ _|(apply ZlD;exact U;exact U)|(apply ZlE;(iterate 4 exact U))|(apply ZlC;(iterate 4 exact U))|refine Zhg U U U U ?_|(apply Zaa (hR);kernel_rfl;(iterate 4 exact U))|(apply Zaa (hS1);kernel_rfl;(iterate 4 exact U))|(apply Zaa (hR0);kernel_rfl;(iterate 4 exact U))|(apply Zaa (n0);kernel_rfl;(iterate 4 exact U))|(apply Zaa (n1);kernel_rfl;(iterate 4 exact U))|(apply Zaa (hP);kernel_rfl;(iterate 4 exact U))|(apply Zai Zab;exact U)|(apply Zag Zab;exact U)|(apply Zau Zab;exact U)|refine Zae U U U Qt ?_|refine Zak U Qt U U ?_|refine Zah U Qt U U ?_|refine Zad U Qt ?_|refine Zaf U Qt ?_|refine Zan Zab U U U U ?_|(apply Zao 2 ZaQ;decide +kernel;kernel_rfl;kernel_rfl;kernel_rfl;exact U;exact U)|(apply Zao 6 ZaQ;decide +kernel;kernel_rfl;kernel_rfl;kernel_rfl;exact U;exact U)|(apply Zas;(iterate 4 exact U))|exact AE.nil _ _ _ _|(apply Zaw;exact U)|(apply Zay;exact U;exact U;decide +kernel;exact U)|(apply Zaz;exact U)|exact AO.nil _ _ _|(apply Zar;(decide +kernel))|exact AOs.nil|exact ZaJ rfl rfl|(apply Zat Zab;(iterate 6 exact U);(first|exact Qt|rotate_left);(first|with_reducible assumption|decide +kernel|exact U);(first|exact Zaj rfl|with_reducible assumption|decide +kernel|rotate_left))|refine Zdq Zab U U U U U U U U U ?_)
    all_goals exact Qe
  | false=>
   refine AP.ofA (Zam Tryz.func85 U Tryz.ntmps85 U U ?_)
   repeat'(first|(apply Zej 11 Zab ZaQ;decide +kernel;kernel_rfl;kernel_rfl;kernel_rfl;exact U;exact U)|exact AV.nil _ _|(apply ZlD;exact U;exact U)|(apply ZlE;(iterate 4 exact U))|(apply ZlC;(iterate 4 exact U))|refine Zhg U U U U ?_|(apply Zaa (hR);kernel_rfl;(iterate 4 exact U))|(apply Zaa (hS1);kernel_rfl;(iterate 4 exact U))|(apply Zaa (hS2);kernel_rfl;(iterate 4 exact U))|(apply Zaa (hR0);kernel_rfl;(iterate 4 exact U))|(apply Zaa (n0);kernel_rfl;(iterate 4 exact U))|(apply Zaa (n1);kernel_rfl;(iterate 4 exact U))|(apply Zaa (n2);kernel_rfl;(iterate 4 exact U))|(apply Zai Zab;exact U)|(apply Zag Zab;exact U)|(apply Zau Zab;exact U)|refine Zae U U U Qt ?_|refine Zak U Qt U U ?_|refine Zah U Qt U U ?_|refine Zad U Qt ?_|refine Zaf U Qt ?_|refine Zan Zab U U U U ?_|(apply Zao 2 ZaQ;decide +kernel;kernel_rfl;kernel_rfl;kernel_rfl;exact U;exact U)|(apply Zao 6 ZaQ;decide +kernel;kernel_rfl;kernel_rfl;kernel_rfl;exact U;exact U)|(apply Zas;(iterate 4 exact U))|exact AE.nil _ _ _ _|(apply Zaw;exact U)|(apply Zay;exact U;exact U;decide +kernel;exact U)|(apply Zaz;exact U)|exact AO.nil _ _ _|(apply Zar;(decide +kernel))|exact AOs.nil|exact ZaJ rfl rfl|(apply Zat Zab;(iterate 6 exact U);(first|exact Qt|rotate_left);(first|with_reducible assumption|decide +kernel|exact U);(first|exact Zaj rfl|with_reducible assumption|decide +kernel|rotate_left)))
   all_goals exact Qe
theorem ZrZ [Known][KnownU8](n:Nat)(b:List UInt8)(s r:It)(hw:wfI (.mk 4 n b [s,r]))(hr:ZaD (.mk 4 n b [s,r])=true)(h1:Zc6 1 s=false):AP Tryz.prog 85 [itD (.mk 4 n b [s,r])] (ZrX (Ze3 s r)) []:=by
 have hR:=Zce _ hw
 rw[hr]at hR
 obtain⟨_,_,_,hws,hwr,_⟩:=hw
 have hS1:=ZdI s hws 1 (by omega)
 have hS2:=ZdI s hws 2 (by omega)
 have hN:=ZqL r hwr
 have n1:=Zew 1
 have n2:=Zew 2
 replace n1:AP Tryz.prog _ [.int .u64 1] (.agg [.int .i64 0,.int .u64 1,.sl .ext [],.sl .ext []]) []:=n1
 replace n2:AP Tryz.prog _ [.int .u64 2] (.agg [.int .i64 0,.int .u64 2,.sl .ext [],.sl .ext []]) []:=n2
 rw[h1]at hS1
 have hU:=ZcF [s,r]
 unfold Ze3
 rw[h1]
 dsimp only
 obtain⟨ks,ns,bs,ls⟩:=s
 obtain⟨kr,nr,br,lr⟩:=r
 have t2:(((ZaC [It.mk ks ns bs ls,It.mk kr nr br lr]).length:Int) != 2)=false:=rfl
 cases h2:Zc6 2 (.mk ks ns bs ls) with
 | false=>
  rw[h2]at hS2
  show AP Tryz.prog _ _ (.tup [.agg [.bool false,.int .u64 0,.int .u64 0,.str [],.str []],.int .i64 3]) []
  refine AP.ofA (Zam Tryz.func85 U Tryz.ntmps85 U U ?_)
  repeat'(first|(apply Zej 11 Zab ZaQ;decide +kernel;kernel_rfl;kernel_rfl;kernel_rfl;exact U;exact U)|exact AV.nil _ _|(apply ZlD;exact U;exact U)|(apply ZlE;(iterate 4 exact U))|(apply ZlC;(iterate 4 exact U))|refine Zhg U U U U ?_|(apply Zaa (hR);kernel_rfl;(iterate 4 exact U))|(apply Zaa (hS1);kernel_rfl;(iterate 4 exact U))|(apply Zaa (hS2);kernel_rfl;(iterate 4 exact U))|(apply Zaa (n1);kernel_rfl;(iterate 4 exact U))|(apply Zaa (n2);kernel_rfl;(iterate 4 exact U))|(apply Zai Zab;exact U)|(apply Zag Zab;exact U)|(apply Zau Zab;exact U)|refine Zae U U U Qt ?_|refine Zap U U U Qt ?_|refine Zah U Qt U U ?_|refine Zad U Qt ?_|refine Zaf U Qt ?_|refine Zan Zab U U U U ?_|(apply Zao 2 ZaQ;decide +kernel;kernel_rfl;kernel_rfl;kernel_rfl;exact U;exact U)|(apply Zao 6 ZaQ;decide +kernel;kernel_rfl;kernel_rfl;kernel_rfl;exact U;exact U)|(apply Zas;(iterate 4 exact U))|exact AE.nil _ _ _ _|(apply Zaw;exact U)|(apply Zay;exact U;exact U;decide +kernel;exact U)|(apply Zaz;exact U)|exact AO.nil _ _ _|(apply Zar;(decide +kernel))|exact AOs.nil|exact ZaJ rfl rfl|(apply Zat Zab;(iterate 6 exact U);(first|exact Qt|rotate_left);(first|with_reducible assumption|decide +kernel|exact U);(first|exact Zaj rfl|with_reducible assumption|decide +kernel|rotate_left)))
  all_goals exact Qe
 | true=>
  rw[h2]at hS2
  dsimp only
  cases hq:Zfk (.mk kr nr br lr) with
  | none=>
   rw[hq]at hN
   replace hN:AP Tryz.prog _ _ (.tup [.sl .ext [],.bool false]) []:=hN
   show AP Tryz.prog _ _ (.tup [.agg [.bool false,.int .u64 0,.int .u64 0,.str [],.str []],.int .i64 3]) []
   refine AP.ofA (Zam Tryz.func85 U Tryz.ntmps85 U U ?_)
   repeat'(first|(apply Zej 11 Zab ZaQ;decide +kernel;kernel_rfl;kernel_rfl;kernel_rfl;exact U;exact U)|exact AV.nil _ _|(apply ZlD;exact U;exact U)|(apply ZlE;(iterate 4 exact U))|(apply ZlC;(iterate 4 exact U))|refine Zhg U U U U ?_|(apply Zaa (hR);kernel_rfl;(iterate 4 exact U))|(apply Zaa (hS1);kernel_rfl;(iterate 4 exact U))|(apply Zaa (hS2);kernel_rfl;(iterate 4 exact U))|(apply Zaa (n1);kernel_rfl;(iterate 4 exact U))|(apply Zaa (n2);kernel_rfl;(iterate 4 exact U))|(apply Zaa (hN);kernel_rfl;(iterate 4 exact U))|(apply Zai Zab;exact U)|(apply Zag Zab;exact U)|(apply Zau Zab;exact U)|refine Zae U U U Qt ?_|refine Zap U U U Qt ?_|refine Zah U Qt U U ?_|refine Zad U Qt ?_|refine Zaf U Qt ?_|refine Zan Zab U U U U ?_|(apply Zao 2 ZaQ;decide +kernel;kernel_rfl;kernel_rfl;kernel_rfl;exact U;exact U)|(apply Zao 6 ZaQ;decide +kernel;kernel_rfl;kernel_rfl;kernel_rfl;exact U;exact U)|(apply Zas;(iterate 4 exact U))|exact AE.nil _ _ _ _|(apply Zaw;exact U)|(apply Zay;exact U;exact U;decide +kernel;exact U)|(apply Zaz;exact U)|exact AO.nil _ _ _|(apply Zar;(decide +kernel))|exact AOs.nil|exact ZaJ rfl rfl|(apply Zat Zab;(iterate 6 exact U);(first|exact Qt|rotate_left);(first|with_reducible assumption|decide +kernel|exact U);(first|exact Zaj rfl|with_reducible assumption|decide +kernel|rotate_left)))
   all_goals exact Qe
  | some ac=>
   obtain⟨a,c⟩:=ac
   rw[hq]at hN
   replace hN:AP Tryz.prog _ _ (.tup [.sl .ext [.int .u64 (a:Int),.int .u64 (c:Int)],.bool true]) []:=hN
   have hE:=Zc2 ⟨true,a,c,[],[]⟩
   dsimp only
   generalize ZaH ⟨true,a,c,[],[]⟩=R at *
   replace hE:AP Tryz.prog _ [.agg [.bool true,.int .u64 (a:Int),.int .u64 (c:Int),.str [],.str []]] (.bool R) []:=hE
   cases R
   all_goals
    refine AP.ofA (Zam Tryz.func85 U Tryz.ntmps85 U U ?_)
    repeat'(first|(apply Zej 11 Zab ZaQ;decide +kernel;kernel_rfl;kernel_rfl;kernel_rfl;exact U;exact U)|exact AV.nil _ _|(apply ZlD;exact U;exact U)|(apply ZlE;(iterate 4 exact U))|(apply ZlC;(iterate 4 exact U))|refine Zhg U U U U ?_|(apply Zaa (hR);kernel_rfl;(iterate 4 exact U))|(apply Zaa (hS1);kernel_rfl;(iterate 4 exact U))|(apply Zaa (hS2);kernel_rfl;(iterate 4 exact U))|(apply Zaa (n1);kernel_rfl;(iterate 4 exact U))|(apply Zaa (n2);kernel_rfl;(iterate 4 exact U))|(apply Zaa (hN);kernel_rfl;(iterate 4 exact U))|(apply Zaa (hE);kernel_rfl;(iterate 4 exact U))|(apply Zai Zab;exact U)|(apply Zag Zab;exact U)|(apply Zau Zab;exact U)|refine Zae U U U Qt ?_|refine Zap U U U Qt ?_|refine Zah U Qt U U ?_|refine Zad U Qt ?_|refine Zaf U Qt ?_|refine Zan Zab U U U U ?_|(apply Zao 2 ZaQ;decide +kernel;kernel_rfl;kernel_rfl;kernel_rfl;exact U;exact U)|(apply Zao 6 ZaQ;decide +kernel;kernel_rfl;kernel_rfl;kernel_rfl;exact U;exact U)|(apply Zas;(iterate 4 exact U))|exact AE.nil _ _ _ _|(apply Zaw;exact U)|(apply Zay;exact U;exact U;decide +kernel;exact U)|(apply Zaz;exact U)|exact AO.nil _ _ _|(apply Zar;(decide +kernel))|exact AOs.nil|exact ZaJ rfl rfl|(apply Zat Zab;(iterate 6 exact U);(first|exact Qt|rotate_left);(first|with_reducible assumption|decide +kernel|exact U);(first|exact Zaj rfl|with_reducible assumption|decide +kernel|rotate_left)))
    all_goals exact Qe
theorem Zo4 [Known][KnownU8](x:It)(hw:wfI x):AP Tryz.prog 85 [itD x] (ZrX (Zbf x)) []:=by
 cases hr:ZaD x with
 | false=>
  have e:Zbf x=(Zdj,false):=by unfold Zbf;rw[hr]
  rw[e]
  exact ZiJ x hw (.inl hr)
 | true=>
  obtain⟨k,n,b,l⟩:=x
  by_cases hk:k=4
  ·subst hk
   match l,hw,hr with
   | [s,r],hw,hr=>
    have e:Zbf (.mk 4 n b [s,r])=Ze3 s r:=by unfold Zbf;rw[hr];dsimp only;rw[if_pos rfl]
    rw[e]
    cases h1:Zc6 1 s with
    | true=>exact ZrY n b s r hw hr h1
    | false=>exact ZrZ n b s r hw hr h1
   | [],hw,hr=>
    have e:Zbf (.mk 4 n b [])=(Zdj,false):=by unfold Zbf;rw[hr]
    rw[e];exact ZiJ _ hw (.inr (.inr (by simp[It.l])))
   | [s],hw,hr=>
    have e:Zbf (.mk 4 n b [s])=(Zdj,false):=by unfold Zbf;rw[hr]
    rw[e];exact ZiJ _ hw (.inr (.inr (by simp[It.l])))
   | s::r::y::l,hw,hr=>
    have e:Zbf (.mk 4 n b (s::r::y::l))=(Zdj,false):=by unfold Zbf;rw[hr]
    rw[e];exact ZiJ _ hw (.inr (.inr (by simp[It.l])))
  ·have e:Zbf (.mk k n b l)=(Zdj,false):=by
    unfold Zbf;rw[hr]
    match l with
    | [s,r]=>dsimp only;rw[if_neg hk]
    | []=>rfl
    | [s]=>rfl
    | s::r::y::l=>rfl
   rw[e]
   exact ZiJ _ hw (.inr (.inl hk))
structure BlkV where
 ty:Nat
 num:Nat
 fl:Nat
 sum:Int
 data:List UInt8
abbrev bkC (b:BlkV):List D:=[.int .u64 (b.ty:Int),.int .u64 (b.num:Int),.int .u64 (b.fl:Int),.int .i64 b.sum,byE b.data]
theorem Zo5 (d:List UInt8)(hd:d.length<=100000):wfI (Zbu d 0).1:=by
 rcases ZdZ d (by omega) with⟨e,_,h,_⟩ | ⟨y,n,h,hw,_⟩
 ·rw[h];exact⟨by decide,by simp,by simp,trivial⟩
 ·rw[h];exact hw
theorem ZjC [Known][KnownU8](d:List UInt8)(hd:d.length<=100000):AP Tryz.prog 156 [byE d] (.tup [itD (Zbu d 0).1,.bool (Zcw d)]) []:=by
 have hR:=ZkC d 0 (by omega)
 have hS:=ZiD d (by omega)
 rcases ZdZ d (by omega) with⟨e,he,h,hs⟩ | ⟨⟨k,n,b,l⟩,m,h,hw,hr,_⟩
 ·rw[h]at hR ⊢
  rw[hs]at hS ⊢
  replace hR:AP Tryz.prog _ _ (.tup [.agg [.int .i64 0,.int .u64 0,.sl .ext [],.sl .ext []],.int .i64 0,.int .i64 (e:Int)]) []:=hR
  have t1:((e:Int)==0)=false:=by rw[beq_eq_false_iff_ne];omega
  refine AP.ofA (Zam Tryz.func156 U Tryz.ntmps156 U U ?_)
  repeat'(first|(apply Zaa (hR);kernel_rfl;(iterate 4 exact U))|(apply Zai Zab;exact U)|(apply Zag Zab;exact U)|refine Zap U U U Qt ?_|refine Zah U Qt U U ?_|(apply Zao 8 ZaQ;decide +kernel;kernel_rfl;kernel_rfl;kernel_rfl;exact U;exact U)|(apply Zas;(iterate 4 exact U))|exact AE.nil _ _ _ _|(apply Zaw;exact U)|(apply ZeI;exact U)|(apply Zay;exact U;exact U;decide +kernel;exact U)|(apply Zaz;exact U)|(apply ZhA;exact U)|exact AO.nil _ _ _|(apply Zar;(decide +kernel))|(apply Za6;(iterate 3 exact U))|exact AOs.nil|exact ZaJ rfl rfl|exact Zfy rfl)
  all_goals exact Qe
 ·rw[h]at hR ⊢
  replace hR:AP Tryz.prog _ _ (.tup [.agg (itC k n b l),.int .i64 (m:Int),.int .i64 0]) []:=hR
  refine AP.ofA (Zam Tryz.func156 U Tryz.ntmps156 U U ?_)
  repeat'(first|(apply Zaa (hR);kernel_rfl;(iterate 4 exact U))|(apply Zaa (hS);kernel_rfl;(iterate 4 exact U))|(apply Zai Zab;exact U)|(apply Zag Zab;exact U)|refine Zae U U U Qt ?_|refine Zak U Qt U U ?_|(apply Zao 8 ZaQ;decide +kernel;kernel_rfl;kernel_rfl;kernel_rfl;exact U;exact U)|(apply Zas;(iterate 4 exact U))|exact AE.nil _ _ _ _|(apply Zaw;exact U)|(apply ZeI;exact U)|(apply Zay;exact U;exact U;decide +kernel;exact U)|(apply Zaz;exact U)|(apply ZhA;exact U)|exact AO.nil _ _ _|(apply Zar;(decide +kernel))|(apply Za6;(iterate 3 exact U))|exact AOs.nil|exact ZaJ rfl rfl|exact Zfy rfl)
  all_goals exact Qe
def ZgV (d:List UInt8):EidV × Bool:=((match(Zbf (Zbu d 0).1).2 with|true=>(Zbf (Zbu d 0).1).1|false=>Zdj),Zcw d&&(Zbf (Zbu d 0).1).2)
theorem ZjD [Known][KnownU8](d:List UInt8)(hd:d.length<=100000):AP Tryz.prog 103 [byE d] (.tup [.agg (eC (ZgV d).1),.bool (ZgV d).2]) []:=by
 have hI:=ZjC d hd
 have hR:=Zo4 (Zbu d 0).1 (Zo5 d hd)
 unfold ZgV
 dsimp only
 generalize (Zbu d 0).1=x at *
 generalize Zbf x=r at *
 obtain⟨⟨zi,zn,zs,zh,zd⟩,ok⟩:=r
 obtain⟨k,n,b,l⟩:=x
 unfold ZrX at hR
 cases ok with
 | false=>
  replace hR:AP Tryz.prog _ _ (.tup [.agg [.bool false,.int .u64 0,.int .u64 0,.str [],.str []],.int .i64 3]) []:=hR
  cases hs:Zcw d<;>rw[hs]at hI
  all_goals
   refine AP.ofA (Zam Tryz.func103 U Tryz.ntmps103 U U ?_)
   repeat'(first|(apply Zaa (hI);kernel_rfl;(iterate 4 exact U))|(apply Zaa (hR);kernel_rfl;(iterate 4 exact U))|(apply Zai Zab;exact U)|(apply Zag Zab;exact U)|refine Zae U U U Qt ?_|refine Zap U U U Qt ?_|refine Zak U Qt U U ?_|refine Zah U Qt U U ?_)
   all_goals exact Qe
 | true=>
  replace hR:AP Tryz.prog _ _ (.tup [.agg [.bool zi,.int .u64 (zn:Int),.int .u64 (zs:Int),.str zh,.str zd],.int .i64 0]) []:=hR
  cases hs:Zcw d<;>rw[hs]at hI
  all_goals
   refine AP.ofA (Zam Tryz.func103 U Tryz.ntmps103 U U ?_)
   repeat'(first|(apply Zaa (hI);kernel_rfl;(iterate 4 exact U))|(apply Zaa (hR);kernel_rfl;(iterate 4 exact U))|(apply Zai Zab;exact U)|(apply Zag Zab;exact U)|refine Zae U U U Qt ?_|refine Zap U U U Qt ?_|refine Zak U Qt U U ?_|refine Zah U Qt U U ?_)
   all_goals exact Qe
def Zh4 (d:List UInt8):Nat × Bool:=((Zbu d 0).1.n,Zcw d&&(It.beq (Zbu d 0).1 (.mk 0 (Zbu d 0).1.n [] [])&&decide (((Zbu d 0).1.n:Int)<=1099511627776)))
theorem ZpS [Known][KnownU8](d:List UInt8)(hd:d.length<=100000):AP Tryz.prog 104 [byE d] (.tup [.int .u64 ((Zh4 d).1:Int),.bool (Zh4 d).2]) []:=by
 have hI:=ZjC d hd
 have hw:=Zo5 d hd
 unfold Zh4
 dsimp only
 generalize (Zbu d 0).1=x at *
 obtain⟨k,n,b,l⟩:=x
 have hS:=ZhH (.mk k n b l) hw (.mk 0 n [] []) ⟨hw.1,by simp,by simp,trivial⟩
 have hN:=Zca n
 dsimp only[It.n]
 cases hs:Zcw d with
 | false=>
  rw[hs]at hI
  refine AP.ofA (Zam Tryz.func104 U Tryz.ntmps104 U U ?_)
  repeat'(first|(apply Zaa (hI);kernel_rfl;(iterate 4 exact U))|(apply Zai Zab;exact U)|(apply Zag Zab;exact U)|refine Zap U U U Qt ?_|refine Zah U Qt U U ?_|(apply Zao 16 ZaQ;decide +kernel;kernel_rfl;kernel_rfl;kernel_rfl;exact U;exact U)|(apply Zas;(iterate 4 exact U))|exact AE.nil _ _ _ _|(apply Zaw;exact U)|(apply Zay;exact U;exact U;decide +kernel;exact U)|(apply Zaz;exact U)|exact AO.nil _ _ _|(apply Zar;(decide +kernel))|exact AOs.nil|exact ZaJ rfl rfl)
  all_goals exact Qe
 | true=>
 rw[hs]at hI
 cases t1:It.beq (.mk k n b l) (.mk 0 n [] []) with
 | false=>
  rw[t1]at hS
  refine AP.ofA (Zam Tryz.func104 U Tryz.ntmps104 U U ?_)
  repeat'(first|(apply Zaa (hI);kernel_rfl;(iterate 4 exact U))|(apply Zaa (hS);kernel_rfl;(iterate 4 exact U))|(apply Zaa (hN);kernel_rfl;(iterate 4 exact U))|(apply Zai Zab;exact U)|(apply Zag Zab;exact U)|refine Zae U U U Qt ?_|refine Zap U U U Qt ?_|refine Zak U Qt U U ?_|refine Zah U Qt U U ?_|(apply Zao 16 ZaQ;decide +kernel;kernel_rfl;kernel_rfl;kernel_rfl;exact U;exact U)|(apply Zas;(iterate 4 exact U))|exact AE.nil _ _ _ _|(apply Zaw;exact U)|(apply Zay;exact U;exact U;decide +kernel;exact U)|(apply Zaz;exact U)|exact AO.nil _ _ _|(apply Zar;(decide +kernel))|exact AOs.nil|exact ZaJ rfl rfl)
  all_goals exact Qe
 | true=>
 rw[t1]at hS
 cases t2:decide ((n:Int)<=1099511627776)
 all_goals
  refine AP.ofA (Zam Tryz.func104 U Tryz.ntmps104 U U ?_)
  repeat'(first|(apply Zaa (hI);kernel_rfl;(iterate 4 exact U))|(apply Zaa (hS);kernel_rfl;(iterate 4 exact U))|(apply Zaa (hN);kernel_rfl;(iterate 4 exact U))|(apply Zai Zab;exact U)|(apply Zag Zab;exact U)|refine Zae U U U Qt ?_|refine Zak U Qt U U ?_|(apply Zao 16 ZaQ;decide +kernel;kernel_rfl;kernel_rfl;kernel_rfl;exact U;exact U)|(apply Zas;(iterate 4 exact U))|exact AE.nil _ _ _ _|(apply Zaw;exact U)|(apply Zay;exact U;exact U;decide +kernel;exact U)|(apply Zaz;exact U)|exact AO.nil _ _ _|(apply Zar;(decide +kernel))|exact AOs.nil|exact ZaJ rfl rfl)
  all_goals exact Qe
def ZiK (ok:Bool)(x:It):Nat × Nat × Bool:=match ok with
 | false=>(0,0,false)
 | true=>match x with
  | .mk k n b l=>match k==4 with
   | false=>(0,0,false)
   | true=>match l with
    | [.mk k1 n1 b1 l1,.mk k2 n2 b2 l2]=>(n1,n2,It.beq (.mk k n b [.mk k1 n1 b1 l1,.mk k2 n2 b2 l2]) (.mk 4 0 [] [.mk 0 n1 [] [],.mk 0 n2 [] []])&&(decide ((n1:Int) ≥ 1)&&(decide ((n1:Int)<=255)&&decide ((n2:Int)<=(n1:Int)))))
    | _=>(0,0,false)
def Zdk (d:List UInt8):Nat × Nat × Bool:=ZiK (Zcw d) (Zbu d 0).1
theorem ZtI [Known][KnownU8](d:List UInt8)(k:Int)(n:Nat)(b:List UInt8)(l:List It)(hI:AP Tryz.prog 156 [byE d] (.tup [itD (.mk k n b l),.bool false]) []):AP Tryz.prog 105 [byE d] (.tup [.int .u64 0,.int .u64 0,.bool false]) []:=by
 refine AP.ofA (Zam Tryz.func105 U Tryz.ntmps105 U U ?_)
 repeat'(first|(apply Zaa (hI);kernel_rfl;(iterate 4 exact U))|(apply Zai Zab;exact U)|(apply Zag Zab;exact U)|(apply Zau Zab;exact U)|refine Zal U U U Qt ?_|refine Zak U Qt U U ?_|refine Zad U Qt ?_)
 all_goals exact Qe
theorem ZtJ [Known][KnownU8](d:List UInt8)(k:Int)(n:Nat)(b:List UInt8)(l:List It)(hI:AP Tryz.prog 156 [byE d] (.tup [itD (.mk k n b l),.bool true]) [])(tk:(k==4)=false):AP Tryz.prog 105 [byE d] (.tup [.int .u64 0,.int .u64 0,.bool false]) []:=by
 have tk2:(k != 4)=true:=by rw[bne,tk];rfl
 refine AP.ofA (Zam Tryz.func105 U Tryz.ntmps105 U U ?_)
 repeat'(first|(apply Zaa (hI);kernel_rfl;(iterate 4 exact U))|(apply Zai Zab;exact U)|(apply Zag Zab;exact U)|(apply Zau Zab;exact U)|refine Zae U U U Qt ?_|refine Zal U U U Qt ?_|refine Zak U Qt U U ?_|refine Zah U Qt U U ?_|refine Zad U Qt ?_)
 all_goals exact Qe
theorem Zs4 [Known][KnownU8](d:List UInt8)(k:Int)(n:Nat)(b:List UInt8)(l:List It)(hI:AP Tryz.prog 156 [byE d] (.tup [itD (.mk k n b l),.bool true]) [])(tk:(k==4)=true)(h2:l.length ≠ 2):AP Tryz.prog 105 [byE d] (.tup [.int .u64 0,.int .u64 0,.bool false]) []:=by
 have tk2:(k != 4)=false:=by rw[bne,tk];rfl
 have hlen:=Zaq l
 have t2:(((ZaC l).length:Int) != 2)=true:=by rw[hlen];simp;omega
 refine AP.ofA (Zam Tryz.func105 U Tryz.ntmps105 U U ?_)
 repeat'(first|(apply Zaa (hI);kernel_rfl;(iterate 4 exact U))|(apply Zai Zab;exact U)|(apply Zag Zab;exact U)|(apply Zau Zab;exact U)|refine Zae U U U Qt ?_|refine Zah U Qt U U ?_|refine Zad U Qt ?_|refine Zan Zab U U U U ?_)
 all_goals exact Qe
theorem ZtK [Known][KnownU8](d:List UInt8)(k:Int)(n:Nat)(b:List UInt8)(L:List E)(k1:Int)(n1:Nat)(b1:List UInt8)(l1:List It)(k2:Int)(n2:Nat)(b2:List UInt8)(l2:List It)(s:Bool)(N:D)
  (hI:AP Tryz.prog 156 [byE d] (.tup [.agg [.int .i64 k,.int .u64 (n:Int),byE b,.sl .ext L],.bool true]) []) (tk2:(k != 4)=false) (t2:((L.length:Int) != 2)=false) (hU:Uni 4 L)
  (hv0:L[(0:Int).toNat]?=some (.agg [.int .i64 k1,.int .u64 (n1:Int),.sl (b1.map E.byte),.sl (ZaC l1)])) (hv1:L[(1:Int).toNat]?=some (.agg [.int .i64 k2,.int .u64 (n2:Int),.sl (b2.map E.byte),.sl (ZaC l2)]))
  (hN:AP Tryz.prog 96 [.sl .ext [.int .u64 (n1:Int),.int .u64 (n2:Int)]] (.agg [.int .i64 4,.int .u64 0,.sl .ext [],.sl .ext [nmE n1,nmE n2]]) []) (hS:AP Tryz.prog 88 [.agg [.int .i64 k,.int .u64 (n:Int),byE b,.sl .ext L],.agg [.int .i64 4,.int .u64 0,.sl .ext [],.sl .ext [nmE n1,nmE n2]]] (.bool s) []) (ts:s=false) :
  AP Tryz.prog 105 [byE d] (.tup [.int .u64 (n1:Int),.int .u64 (n2:Int),.bool false]) []:=by
 subst ts
 refine AP.ofA (Zam Tryz.func105 U Tryz.ntmps105 U U ?_)
 repeat'(first|(apply Zaa (hI);kernel_rfl;(iterate 4 exact U))|(apply Zaa (hS);kernel_rfl;(iterate 4 exact U))|(apply Zaa (hN);kernel_rfl;(iterate 4 exact U))|(apply Zai Zab;exact U)|(apply Zag Zab;exact U)|(apply Zau Zab;exact U)|refine Zae U U U Qt ?_|refine Zap U U U Qt ?_|refine Zah U Qt U U ?_|refine Zaf U Qt ?_|refine Zan Zab U U U U ?_|refine ZaL Zab U U U U U U U U U U U U ?_|(apply Zao 11 ZaQ;decide +kernel;kernel_rfl;kernel_rfl;kernel_rfl;exact U;exact U)|(apply Zao 23 ZaQ;decide +kernel;kernel_rfl;kernel_rfl;kernel_rfl;exact U;exact U)|(apply Zas;(iterate 4 exact U))|exact AE.nil _ _ _ _|(apply Zaw;exact U)|(apply Zay;exact U;exact U;decide +kernel;exact U)|(apply Zaz;exact U)|exact AO.nil _ _ _|(apply Zar;(decide +kernel))|exact AOs.nil|exact ZaJ rfl rfl|exact Zdh rfl rfl rfl rfl rfl|(apply Zat Zab;(iterate 6 exact U);(first|exact Qt|rotate_left);(first|with_reducible assumption|decide +kernel|exact U);(first|exact Zaj rfl|with_reducible assumption|decide +kernel|rotate_left)))
 all_goals exact Qe
theorem ZtL [Known][KnownU8](d:List UInt8)(k:Int)(n:Nat)(b:List UInt8)(L:List E)(k1:Int)(n1:Nat)(b1:List UInt8)(l1:List It)(k2:Int)(n2:Nat)(b2:List UInt8)(l2:List It)(s:Bool)(N:D)
  (hI:AP Tryz.prog 156 [byE d] (.tup [.agg [.int .i64 k,.int .u64 (n:Int),byE b,.sl .ext L],.bool true]) []) (tk2:(k != 4)=false) (t2:((L.length:Int) != 2)=false) (hU:Uni 4 L)
  (hv0:L[(0:Int).toNat]?=some (.agg [.int .i64 k1,.int .u64 (n1:Int),.sl (b1.map E.byte),.sl (ZaC l1)])) (hv1:L[(1:Int).toNat]?=some (.agg [.int .i64 k2,.int .u64 (n2:Int),.sl (b2.map E.byte),.sl (ZaC l2)]))
  (hN:AP Tryz.prog 96 [.sl .ext [.int .u64 (n1:Int),.int .u64 (n2:Int)]] (.agg [.int .i64 4,.int .u64 0,.sl .ext [],.sl .ext [nmE n1,nmE n2]]) []) (hS:AP Tryz.prog 88 [.agg [.int .i64 k,.int .u64 (n:Int),byE b,.sl .ext L],.agg [.int .i64 4,.int .u64 0,.sl .ext [],.sl .ext [nmE n1,nmE n2]]] (.bool s) []) (ts:s=true) (t4:decide ((n1:Int) ≥ 1)=false) :
  AP Tryz.prog 105 [byE d] (.tup [.int .u64 (n1:Int),.int .u64 (n2:Int),.bool false]) []:=by
 subst ts
 refine AP.ofA (Zam Tryz.func105 U Tryz.ntmps105 U U ?_)
 repeat'(first|(apply Zaa (hI);kernel_rfl;(iterate 4 exact U))|(apply Zaa (hS);kernel_rfl;(iterate 4 exact U))|(apply Zaa (hN);kernel_rfl;(iterate 4 exact U))|(apply Zai Zab;exact U)|(apply Zag Zab;exact U)|(apply Zau Zab;exact U)|refine Zae U U U Qt ?_|refine Zap U U U Qt ?_|refine Zak U Qt U U ?_|refine Zah U Qt U U ?_|refine Zaf U Qt ?_|refine Zan Zab U U U U ?_|refine ZaL Zab U U U U U U U U U U U U ?_|(apply Zao 11 ZaQ;decide +kernel;kernel_rfl;kernel_rfl;kernel_rfl;exact U;exact U)|(apply Zao 23 ZaQ;decide +kernel;kernel_rfl;kernel_rfl;kernel_rfl;exact U;exact U)|(apply Zas;(iterate 4 exact U))|exact AE.nil _ _ _ _|(apply Zaw;exact U)|(apply Zay;exact U;exact U;decide +kernel;exact U)|(apply Zaz;exact U)|exact AO.nil _ _ _|(apply Zar;(decide +kernel))|exact AOs.nil|exact ZaJ rfl rfl|exact Zdh rfl rfl rfl rfl rfl|(apply Zat Zab;(iterate 6 exact U);(first|exact Qt|rotate_left);(first|with_reducible assumption|decide +kernel|exact U);(first|exact Zaj rfl|with_reducible assumption|decide +kernel|rotate_left)))
 all_goals exact Qe
end Go.Proofs.YtakblclkflnnpaaGreatDoor
end

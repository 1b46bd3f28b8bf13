/- Package eid: an item's name: numbers; all items. -/
import Derived.Test.YtakblclkflnnpaaGreatDoorP28
import Derived.Test.YtakblclkflnnpaaGreatDoorP26
import Derived.Test.YtakblclkflnnpaaGreatDoorP21
import Derived.Test.YtakblclkflnnpaaGreatDoorP16
import Derived.Test.YtakblclkflnnpaaGreatDoorP10
import Derived.Test.YtakblclkflnnpaaGreatDoorP12
import Derived.Test.YtakblclkflnnpaaGreatDoorP19
import Derived.Test.YtakblclkflnnpaaGreatDoorP18
set_option linter.unusedVariables false
set_option linter.unusedSimpArgs false
section
open Go.RowKit Go.Pl Go.Av
namespace Go.Proofs.YtakblclkflnnpaaGreatDoor
set_option maxHeartbeats 4000000
theorem ZoI [Known][KnownU8](n:Nat)(b:List UInt8)(s r:It)(hw:wfI (.mk 4 n b [s,r]))(hr:Zaw (.mk 4 n b [s,r])=true)(h1:ZcJ 1 s=false):AP Tryz.prog 85 [itD (.mk 4 n b [s,r])] (Zn7 (Zeo s r)) []:=by
 have hR:=Zb7 _ hw
 rw[hr]at hR
 obtain⟨_,_,_,hws,hwr,_⟩:=hw
 have hS1:=Zde s hws 1 (by omega)
 have hS2:=Zde s hws 2 (by omega)
 have hN:=ZnU r hwr
 have n1:=ZdY 1
 have n2:=ZdY 2
 replace n1:AP Tryz.prog _ [.int .u64 1] (.agg [.int .i64 0,.int .u64 1,.sl .ext [],.sl .ext []]) []:=n1
 replace n2:AP Tryz.prog _ [.int .u64 2] (.agg [.int .i64 0,.int .u64 2,.sl .ext [],.sl .ext []]) []:=n2
 rw[h1]at hS1
 have hU:=ZbG [s,r]
 unfold Zeo
 rw[h1]
 dsimp only
 obtain⟨ks,ns,bs,ls⟩:=s
 obtain⟨kr,nr,br,lr⟩:=r
 have t2:(((Zas [It.mk ks ns bs ls,It.mk kr nr br lr]).length:Int) != 2)=false:=rfl
 cases h2:ZcJ 2 (.mk ks ns bs ls) with
 | false=>
  rw[h2]at hS2
  show AP Tryz.prog _ _ (.tup [.agg [.bool false,.int .u64 0,.int .u64 0,.str [],.str []],.int .i64 3]) []
  refine AP.ofA ?_
  refine Zap Tryz.func85 rfl Tryz.ntmps85 rfl rfl ?_
  repeat'(first|(apply ZdK 11 Zab ZaR;decide +kernel;kernel_rfl;kernel_rfl;kernel_rfl;exact Z;exact Z)|exact AV.nil _ _|(apply ZjP;exact Z;exact Z)|(apply ZjQ;(iterate 4 exact Z))|(apply ZjO;(iterate 4 exact Z))|(apply Zf8;(iterate 4 exact Z))|(apply Zaa (hR);kernel_rfl;(iterate 4 exact Z))|(apply Zaa (hS1);kernel_rfl;(iterate 4 exact Z))|(apply Zaa (hS2);kernel_rfl;(iterate 4 exact Z))|(apply Zaa (n1);kernel_rfl;(iterate 4 exact Z))|(apply Zaa (n2);kernel_rfl;(iterate 4 exact Z))|(apply Zaj Zab;exact Z)|(apply Zai Zab;exact Z)|(apply Zay Zab;exact Z)|(apply Zaf;(iterate 3 exact Z);exact Go.Zqn)|(apply Zau;(iterate 3 exact Z);exact Go.Zqn)|(apply Zah;exact Z;exact Go.Zqn;exact Z;exact Z)|(apply Zac;exact Z;exact Go.Zqn)|(apply Zae;exact Z;exact Go.Zqn)|(apply Zal Zab;(iterate 4 exact Z))|(apply Zam 2 ZaR;decide +kernel;kernel_rfl;kernel_rfl;kernel_rfl;exact Z;exact Z)|(apply Zam 6 ZaR;decide +kernel;kernel_rfl;kernel_rfl;kernel_rfl;exact Z;exact Z)|(apply Zar;(iterate 4 exact Z))|exact AE.nil _ _ _ _|(apply Zav;exact Z)|(apply Zaz;exact Z;exact Z;decide +kernel;exact Z)|(apply ZaA;exact Z)|exact AO.nil _ _ _|(apply Zaq;(decide +kernel))|exact AOs.nil|exact ZaI rfl rfl|(apply Zat Zab;(iterate 6 exact Z);(first|exact Go.Zqn|rotate_left);(first|with_reducible assumption|decide +kernel|exact Z);(first|exact Zag rfl|with_reducible assumption|decide +kernel|rotate_left)))
  all_goals(apply Zax [];(apply Zad Zab;exact Z);(iterate 4 exact Z))
  all_goals rfl
 | true=>
  rw[h2]at hS2
  dsimp only
  cases hq:Zey (.mk kr nr br lr) with
  | none=>
   rw[hq]at hN
   replace hN:AP Tryz.prog _ _ (.tup [.sl .ext [],.bool false]) []:=hN
   show AP Tryz.prog _ _ (.tup [.agg [.bool false,.int .u64 0,.int .u64 0,.str [],.str []],.int .i64 3]) []
   refine AP.ofA ?_
   refine Zap Tryz.func85 rfl Tryz.ntmps85 rfl rfl ?_
   repeat'(first|(apply ZdK 11 Zab ZaR;decide +kernel;kernel_rfl;kernel_rfl;kernel_rfl;exact Z;exact Z)|exact AV.nil _ _|(apply ZjP;exact Z;exact Z)|(apply ZjQ;(iterate 4 exact Z))|(apply ZjO;(iterate 4 exact Z))|(apply Zf8;(iterate 4 exact Z))|(apply Zaa (hR);kernel_rfl;(iterate 4 exact Z))|(apply Zaa (hS1);kernel_rfl;(iterate 4 exact Z))|(apply Zaa (hS2);kernel_rfl;(iterate 4 exact Z))|(apply Zaa (n1);kernel_rfl;(iterate 4 exact Z))|(apply Zaa (n2);kernel_rfl;(iterate 4 exact Z))|(apply Zaa (hN);kernel_rfl;(iterate 4 exact Z))|(apply Zaj Zab;exact Z)|(apply Zai Zab;exact Z)|(apply Zay Zab;exact Z)|(apply Zaf;(iterate 3 exact Z);exact Go.Zqn)|(apply Zau;(iterate 3 exact Z);exact Go.Zqn)|(apply Zah;exact Z;exact Go.Zqn;exact Z;exact Z)|(apply Zac;exact Z;exact Go.Zqn)|(apply Zae;exact Z;exact Go.Zqn)|(apply Zal Zab;(iterate 4 exact Z))|(apply Zam 2 ZaR;decide +kernel;kernel_rfl;kernel_rfl;kernel_rfl;exact Z;exact Z)|(apply Zam 6 ZaR;decide +kernel;kernel_rfl;kernel_rfl;kernel_rfl;exact Z;exact Z)|(apply Zar;(iterate 4 exact Z))|exact AE.nil _ _ _ _|(apply Zav;exact Z)|(apply Zaz;exact Z;exact Z;decide +kernel;exact Z)|(apply ZaA;exact Z)|exact AO.nil _ _ _|(apply Zaq;(decide +kernel))|exact AOs.nil|exact ZaI rfl rfl|(apply Zat Zab;(iterate 6 exact Z);(first|exact Go.Zqn|rotate_left);(first|with_reducible assumption|decide +kernel|exact Z);(first|exact Zag rfl|with_reducible assumption|decide +kernel|rotate_left)))
   all_goals(apply Zax [];(apply Zad Zab;exact Z);(iterate 4 exact Z))
   all_goals rfl
  | some ac=>
   obtain⟨a,c⟩:=ac
   rw[hq]at hN
   replace hN:AP Tryz.prog _ _ (.tup [.sl .ext [.int .u64 (a:Int),.int .u64 (c:Int)],.bool true]) []:=hN
   have hE:=Zc1 ⟨true,a,c,[],[]⟩
   dsimp only
   generalize ZaL ⟨true,a,c,[],[]⟩=R at *
   replace hE:AP Tryz.prog _ [.agg [.bool true,.int .u64 (a:Int),.int .u64 (c:Int),.str [],.str []]] (.bool R) []:=hE
   cases R
   all_goals
    refine AP.ofA ?_
    refine Zap Tryz.func85 rfl Tryz.ntmps85 rfl rfl ?_
    repeat'(first|(apply ZdK 11 Zab ZaR;decide +kernel;kernel_rfl;kernel_rfl;kernel_rfl;exact Z;exact Z)|exact AV.nil _ _|(apply ZjP;exact Z;exact Z)|(apply ZjQ;(iterate 4 exact Z))|(apply ZjO;(iterate 4 exact Z))|(apply Zf8;(iterate 4 exact Z))|(apply Zaa (hR);kernel_rfl;(iterate 4 exact Z))|(apply Zaa (hS1);kernel_rfl;(iterate 4 exact Z))|(apply Zaa (hS2);kernel_rfl;(iterate 4 exact Z))|(apply Zaa (n1);kernel_rfl;(iterate 4 exact Z))|(apply Zaa (n2);kernel_rfl;(iterate 4 exact Z))|(apply Zaa (hN);kernel_rfl;(iterate 4 exact Z))|(apply Zaa (hE);kernel_rfl;(iterate 4 exact Z))|(apply Zaj Zab;exact Z)|(apply Zai Zab;exact Z)|(apply Zay Zab;exact Z)|(apply Zaf;(iterate 3 exact Z);exact Go.Zqn)|(apply Zau;(iterate 3 exact Z);exact Go.Zqn)|(apply Zah;exact Z;exact Go.Zqn;exact Z;exact Z)|(apply Zac;exact Z;exact Go.Zqn)|(apply Zae;exact Z;exact Go.Zqn)|(apply Zal Zab;(iterate 4 exact Z))|(apply Zam 2 ZaR;decide +kernel;kernel_rfl;kernel_rfl;kernel_rfl;exact Z;exact Z)|(apply Zam 6 ZaR;decide +kernel;kernel_rfl;kernel_rfl;kernel_rfl;exact Z;exact Z)|(apply Zar;(iterate 4 exact Z))|exact AE.nil _ _ _ _|(apply Zav;exact Z)|(apply Zaz;exact Z;exact Z;decide +kernel;exact Z)|(apply ZaA;exact Z)|exact AO.nil _ _ _|(apply Zaq;(decide +kernel))|exact AOs.nil|exact ZaI rfl rfl|(apply Zat Zab;(iterate 6 exact Z);(first|exact Go.Zqn|rotate_left);(first|with_reducible assumption|decide +kernel|exact Z);(first|exact Zag rfl|with_reducible assumption|decide +kernel|rotate_left)))
    all_goals(apply Zax [];(apply Zad Zab;exact Z);(iterate 4 exact Z))
    all_goals rfl
theorem ZgB [Known][KnownU8](x:It)(hw:wfI x):AP Tryz.prog 85 [itD x] (Zn7 (ZaQ x)) []:=by
 cases hr:Zaw x with
 | false=>
  have e:ZaQ x=(Zcf,false):=by unfold ZaQ;rw[hr]
  rw[e]
  exact Zhw x hw (.inl hr)
 | true=>
  obtain⟨k,n,b,l⟩:=x
  by_cases hk:k=4
  ·subst hk
   match l,hw,hr with
   | [s,r],hw,hr=>
    have e:ZaQ (.mk 4 n b [s,r])=Zeo s r:=by unfold ZaQ;rw[hr];dsimp only;rw[if_pos rfl]
    rw[e]
    cases h1:ZcJ 1 s with
    | true=>exact ZoH n b s r hw hr h1
    | false=>exact ZoI n b s r hw hr h1
   | [],hw,hr=>
    have e:ZaQ (.mk 4 n b [])=(Zcf,false):=by unfold ZaQ;rw[hr]
    rw[e];exact Zhw _ hw (.inr (.inr (by simp[It.l])))
   | [s],hw,hr=>
    have e:ZaQ (.mk 4 n b [s])=(Zcf,false):=by unfold ZaQ;rw[hr]
    rw[e];exact Zhw _ hw (.inr (.inr (by simp[It.l])))
   | s::r::y::l,hw,hr=>
    have e:ZaQ (.mk 4 n b (s::r::y::l))=(Zcf,false):=by unfold ZaQ;rw[hr]
    rw[e];exact Zhw _ hw (.inr (.inr (by simp[It.l])))
  ·have e:ZaQ (.mk k n b l)=(Zcf,false):=by
    unfold ZaQ;rw[hr]
    match l with
    | [s,r]=>dsimp only;rw[if_neg hk]
    | []=>rfl
    | [s]=>rfl
    | s::r::y::l=>rfl
   rw[e]
   exact Zhw _ hw (.inr (.inl hk))
structure BlkV where
 ty:Nat
 num:Nat
 fl:Nat
 sum:Int
 data:List UInt8
abbrev ZoJ (n m:Nat):It:=.mk 4 0 [] [.mk 0 n [] [],.mk 0 m [] []]
theorem Zjd (x:It)(a:Int):∀ y ∈ (Zee x a).1,y ∈ x.l:=by
 obtain⟨k,n,b,l⟩:=x
 unfold Zee
 dsimp only[It.l]
 have hs:∀(m:Nat) (y:It),y ∈ l.take m->y ∈ l:=fun m y h=>List.mem_of_mem_take h
 repeat' split
 all_goals first|exact hs _|(intro y h;exact h)|(intro y h;exact absurd h (by simp))
theorem ZoK:wfI z0:=⟨by decide,by simp,by simp,trivial⟩
theorem ZnV (s:Nat){l:List It}(hws:wfs l)(hl:l.length<=1000000):wfI (ZdR s l):=by
 refine⟨by decide,by simp,by simp;omega,Zgs hws ⟨⟨by decide,?_,by simp,trivial⟩,trivial⟩⟩
 have:(ZdP s (Za1 (ZaJ s l))).length<=4:=by
  unfold ZdP
  split<;>simp
 omega
theorem ZnW {l:List It}(a:Int)(hws:wfs l)(hl:l.length<=1000000):wfI (Zfp l a).1:=by
 unfold Zfp
 have h0:wfI (.mk 4 0 [] l):=⟨by decide,by simp,by omega,hws⟩
 repeat' split
 all_goals first|exact ZoK|exact h0|exact ZnV _ hws hl
def Zcg (x:EidV):List UInt8:=[47,47]++x.h++[47]++x.d
theorem ZbL {x:EidV}(h:ZaL x=true)(hz:isZ x=false)(hi:x.i=true):x.n<=4294967295/\x.s<=4294967295/\x.h=[]/\x.d=[]/\1<=x.n:=by
 rw[Zgq hz hi]at h
 simp only[Bool.and_eq_true,decide_eq_true_eq,beq_iff_eq]at h
 obtain⟨⟨⟨⟨_,_,_,h1,h2,_⟩,h3⟩,h4⟩,h5⟩:=h
 exact⟨by omega,by omega,h1,h2,by omega⟩
theorem Zbx {x:EidV}(h:ZaL x=true)(hz:isZ x=false)(hi:x.i=false):x.n=0/\x.s=0/\1<=x.h.length/\x.h.length<=16/\x.d.length<=24/\x.h.all (okB 45)=true/\x.d.all (okB 47)=true:=by
 rw[Zgr hz hi]at h
 simp only[Bool.and_eq_true,decide_eq_true_eq,beq_iff_eq]at h
 obtain⟨⟨⟨⟨⟨⟨_,h1,h2,_⟩,h3⟩,h4⟩,h5⟩,h6⟩,h7⟩:=h
 exact⟨by omega,by omega,by omega,by omega,by omega,h6,h7⟩
theorem ZnX [Known](x:EidV)(h1:x.h.length<=16)(h2:x.d.length<=24):AP Tryz.prog 136 [.agg (eC x)] (.str (Zcg x)) []:=by
 have l1:[(47:UInt8),47].length+x.h.length<=maxLen:=by simp;unfold maxLen;omega
 have l2:([(47:UInt8),47]++x.h).length + [(47:UInt8)].length<=maxLen:=by simp;unfold maxLen;omega
 have l3:([(47:UInt8),47]++x.h++[47]).length+x.d.length<=maxLen:=by simp;unfold maxLen;omega
 refine AP.ofA ?_
 refine Zap Tryz.func136 rfl Tryz.ntmps136 rfl rfl ?_
 repeat'(first|(apply ZeG;exact Z;exact Z;(first|exact l1|exact l2|exact l3);exact Z)|(apply Zaj Zab;exact Z)|(apply Zai Zab;exact Z))
 all_goals(apply Zax [];(apply Zad Zab;exact Z);(iterate 4 exact Z))
 all_goals rfl
def Za2 (x:EidV):It:=
 if isZ x then .mk 4 0 [] [.mk 0 1 [] [],.mk 0 0 [] []]
 else if x.i then .mk 4 0 [] [.mk 0 2 [] [],.mk 4 0 [] [.mk 0 x.n [] [],.mk 0 x.s [] []]]
 else .mk 4 0 [] [.mk 0 1 [] [],.mk 3 0 (Zcg x) []]
theorem Zdv [Known](x:EidV):AP Tryz.prog 81 [.agg (eC x)] (.tup [itD (if ZaL x then Za2 x else .mk 0 0 [] []),.int .i64 (if ZaL x then 0 else 3)]) []:=by
 have hR:=Zc1 x
 cases hr:ZaL x with
 | false=>
  rw[hr]at hR
  refine AP.ofA ?_
  refine Zap Tryz.func81 rfl Tryz.ntmps81 rfl rfl ?_
  repeat'(first|(apply Zaa (hR);kernel_rfl;(iterate 4 exact Z))|(apply Zaj Zab;exact Z)|(apply Zai Zab;exact Z)|(apply Zay Zab;exact Z)|(apply Zac;exact Z;exact Go.Zqn))
  all_goals(apply Zax [];(apply Zad Zab;exact Z);(iterate 4 exact Z))
  all_goals rfl
 | true=>
  rw[hr]at hR
  rw[if_pos rfl,if_pos rfl]
  unfold Za2
  cases hz:isZ x with
  | true=>
   rw[if_pos rfl]
   have n1:=Zb6 1
   have n0:=Zb6 0
   have hL:=ZcE [.mk 0 1 [] [],.mk 0 0 [] []] (by decide) (by simp[wfI,wfs])
   replace n1:AP Tryz.prog _ [.int .u64 1] (.agg [.int .i64 0,.int .u64 1,.sl .ext [],.sl .ext []]) []:=n1
   replace n0:AP Tryz.prog _ [.int .u64 0] (.agg [.int .i64 0,.int .u64 0,.sl .ext [],.sl .ext []]) []:=n0
   unfold isZ at hz
   refine AP.ofA ?_
   refine Zap Tryz.func81 rfl Tryz.ntmps81 rfl rfl ?_
   repeat'(first|(apply Zaa (hR);kernel_rfl;(iterate 4 exact Z))|(apply Zaa (n1);kernel_rfl;(iterate 4 exact Z))|(apply Zaa (n0);kernel_rfl;(iterate 4 exact Z))|(apply Zaa (hL);kernel_rfl;(iterate 4 exact Z))|(apply Zaj Zab;exact Z)|(apply Zai Zab;exact Z)|(apply Zay Zab;exact Z)|(apply Zac;exact Z;exact Go.Zqn)|(apply Zae;exact Z;exact Go.Zqn)|(apply Za5 Zab;(iterate 12 exact Z))|(apply ZdQ Zab;(iterate 4 exact Z);kernel_rfl;kernel_rfl;(iterate 3 exact Z)))
   all_goals(apply Zax [];(apply Zad Zab;exact Z);(iterate 4 exact Z))
   all_goals rfl
  | false=>
   rw[if_neg (by simp)]
   cases hi:x.i with
   | true=>
    obtain⟨b1,b2,_⟩:=ZbL hr hz hi
    rw[if_pos rfl]
    have n2:=Zb6 2
    have nn:=Zb6 x.n
    have ns:=Zb6 x.s
    have hL1:=ZcE [.mk 0 x.n [] [],.mk 0 x.s [] []] (by simp) (by simp[wfI,wfs];omega)
    have hL:=ZcE [.mk 0 2 [] [],.mk 4 0 [] [.mk 0 x.n [] [],.mk 0 x.s [] []]] (by simp) (by simp[wfI,wfs];omega)
    replace n2:AP Tryz.prog _ [.int .u64 2] (.agg [.int .i64 0,.int .u64 2,.sl .ext [],.sl .ext []]) []:=n2
    replace nn:AP Tryz.prog _ [.int .u64 (x.n:Int)] (.agg [.int .i64 0,.int .u64 (x.n:Int),.sl .ext [],.sl .ext []]) []:=nn
    replace ns:AP Tryz.prog _ [.int .u64 (x.s:Int)] (.agg [.int .i64 0,.int .u64 (x.s:Int),.sl .ext [],.sl .ext []]) []:=ns
    replace hL1:AP Tryz.prog _ _ (.agg [.int .i64 4,.int .u64 0,.sl .ext [],.sl .ext [.agg [.int .i64 0,.int .u64 (x.n:Int),.sl [],.sl []],.agg [.int .i64 0,.int .u64 (x.s:Int),.sl [],.sl []]]]) []:=hL1
    unfold isZ at hz
    refine AP.ofA ?_
    refine Zap Tryz.func81 rfl Tryz.ntmps81 rfl rfl ?_
    repeat'(first|(apply Zaa (hR);kernel_rfl;(iterate 4 exact Z))|(apply Zaa (n2);kernel_rfl;(iterate 4 exact Z))|(apply Zaa (nn);kernel_rfl;(iterate 4 exact Z))|(apply Zaa (ns);kernel_rfl;(iterate 4 exact Z))|(apply Zaa (hL1);kernel_rfl;(iterate 4 exact Z))|(apply Zaa (hL);kernel_rfl;(iterate 4 exact Z))|(apply Zaj Zab;exact Z)|(apply Zai Zab;exact Z)|(apply Zay Zab;exact Z)|(apply Zac;exact Z;exact Go.Zqn)|(apply Zae;exact Z;exact Go.Zqn)|(apply Za5 Zab;(iterate 12 exact Z))|(apply ZdQ Zab;(iterate 4 exact Z);kernel_rfl;kernel_rfl;(iterate 3 exact Z))|(apply Zam 6 ZaR;decide +kernel;kernel_rfl;kernel_rfl;kernel_rfl;exact Z;exact Z)|(apply Zar;(iterate 4 exact Z))|exact AE.nil _ _ _ _|(apply Zav;exact Z)|(apply Zaz;exact Z;exact Z;decide +kernel;exact Z)|(apply ZaA;exact Z)|exact AO.nil _ _ _|(apply Zaq;(decide +kernel))|exact AOs.nil|exact ZaI rfl rfl)
    all_goals(apply Zax [];(apply Zad Zab;exact Z);(iterate 4 exact Z))
    all_goals rfl
   | false=>
    obtain⟨_,_,_,b1,b2,_⟩:=Zbx hr hz hi
    rw[if_neg (by simp)]
    have n1:=Zb6 1
    have hP:=ZnX x b1 b2
    have hT:=Znu (Zcg x)
    have hpl:(Zcg x).length<=1099511627776:=by unfold Zcg;simp;omega
    generalize Zcg x=p at *
    have hL:=ZcE [.mk 0 1 [] [],.mk 3 0 p []] (by simp) (by simp[wfI,wfs];omega)
    replace n1:AP Tryz.prog _ [.int .u64 1] (.agg [.int .i64 0,.int .u64 1,.sl .ext [],.sl .ext []]) []:=n1
    replace hT:AP Tryz.prog _ [.str p] (.agg [.int .i64 3,.int .u64 0,byE p,.sl .ext []]) []:=hT
    unfold isZ at hz
    refine AP.ofA ?_
    refine Zap Tryz.func81 rfl Tryz.ntmps81 rfl rfl ?_
    repeat'(first|(apply Zaa (hR);kernel_rfl;(iterate 4 exact Z))|(apply Zaa (n1);kernel_rfl;(iterate 4 exact Z))|(apply Zaa (hP);kernel_rfl;(iterate 4 exact Z))|(apply Zaa (hT);kernel_rfl;(iterate 4 exact Z))|(apply Zaa (hL);kernel_rfl;(iterate 4 exact Z))|(apply Zaj Zab;exact Z)|(apply Zai Zab;exact Z)|(apply Zay Zab;exact Z)|(apply Zae;exact Z;exact Go.Zqn)|(apply Za5 Zab;(iterate 12 exact Z))|(apply ZdQ Zab;(iterate 4 exact Z);kernel_rfl;kernel_rfl;(iterate 3 exact Z))|(apply Zam 2 ZaR;decide +kernel;kernel_rfl;kernel_rfl;kernel_rfl;exact Z;exact Z)|(apply Zar;(iterate 4 exact Z))|exact AE.nil _ _ _ _|(apply Zav;exact Z)|(apply Zaz;exact Z;exact Z;decide +kernel;exact Z)|(apply ZaA;exact Z)|exact AO.nil _ _ _|(apply Zaq;(decide +kernel))|exact AOs.nil|exact ZaI rfl rfl)
    all_goals(apply Zax [];(apply Zad Zab;exact Z);(iterate 4 exact Z))
    all_goals rfl
theorem Zmx {x:EidV}(h:ZaL x=true)(hz:isZ x=false)(hi:x.i=false):ppV (Zcg x)=(x,true):=by
 obtain⟨b1,b2,b3,b4,b5,b6,b7⟩:=Zbx h hz hi
 have e1:Zcg x=[47,47]++(x.h++47::x.d):=by simp[Zcg]
 rw[e1]
 unfold ppV
 rw[Zek]
 dsimp only
 rw[Zdd (Zex b6 (by decide))]
 dsimp only
 have ex:(⟨false,0,0,x.h,x.d⟩:EidV)=x:=by
  obtain⟨i,n,s,hh,d⟩:=x
  simp only at hi b1 b2
  rw[hi,b1,b2]
 rw[ex,h]
 have:(x.h != [])=true:=by
  rw[bne_iff_ne]
  intro e
  rw[e]at b3
  simp at b3
 rw[this]
 rfl
theorem ZcQ {x:EidV}(h:ZaL x=true):wfI (Za2 x):=by
 unfold Za2
 cases hz:isZ x with
 | true=>rw[if_pos rfl];simp[wfI,wfs]
 | false=>
  rw[if_neg (by simp)]
  cases hi:x.i with
  | true=>
   obtain⟨b1,b2,b3,b4,b5⟩:=ZbL h hz hi
   rw[if_pos rfl]
   simp[wfI,wfs]
   omega
  | false=>
   obtain⟨b1,b2,b3,b4,b5,b6,b7⟩:=Zbx h hz hi
   rw[if_neg (by simp)]
   simp[wfI,wfs,Zcg]
   omega
theorem ZbE {x:EidV}(h:ZaL x=true)(hr:Zaw (Za2 x)=true):ZaQ (Za2 x)=(x,true):=by
 unfold ZaQ
 rw[hr]
 unfold Za2
 cases hz:isZ x with
 | true=>
  rw[if_pos rfl,ZcF.1 hz]
  rfl
 | false=>
  rw[if_neg (by simp)]
  cases hi:x.i with
  | true=>
   obtain⟨b1,b2,b3,b4,b5⟩:=ZbL h hz hi
   rw[if_pos rfl]
   dsimp only
   rw[if_pos rfl]
   have ex:(⟨true,x.n,x.s,[],[]⟩:EidV)=x:=by
    obtain⟨i,n,s,hh,d⟩:=x
    simp only at hi b3 b4
    rw[hi,b3,b4]
   have e1:ZcJ 1 (.mk 0 2 [] [])=false:=rfl
   have e2:ZcJ 2 (.mk 0 2 [] [])=true:=rfl
   have e3:∀ n,ZcJ n (.mk 0 n [] [])=true:=fun n=>It.beq_iff.2 rfl
   have e4:Zey (.mk 4 0 [] [.mk 0 x.n [] [],.mk 0 x.s [] []])=some (x.n,x.s):=by
    unfold Zey
    dsimp only
    rw[if_pos rfl]
    simp only[It.n,e3,Bool.and_self]
   unfold Zeo
   rw[e1,e2,e4]
   dsimp only
   rw[ex,h]
  | false=>
   rw[if_neg (by simp)]
   dsimp only
   rw[if_pos rfl]
   have e1:ZcJ 1 (.mk 0 1 [] [])=true:=rfl
   have e2:ZcJ 0 (.mk 3 0 (Zcg x) [])=false:=rfl
   unfold Zeo
   rw[e1,e2]
   exact Zmx h hz hi
theorem Zlk {m:Nat}(hm:m<128){c:UInt8}(h:okB m c=true):c.toNat<128:=by
 simp only[okB,Bool.or_eq_true,Bool.and_eq_true,decide_eq_true_eq,beq_iff_eq]at h
 omega
theorem Zbu {x:EidV}(h:ZaL x=true):Zaw (Za2 x)=true:=by
 unfold Za2
 cases hz:isZ x with
 | true=>rw[if_pos rfl];rfl
 | false=>
  rw[if_neg (by simp)]
  cases hi:x.i with
  | true=>rw[if_pos rfl];simp[Zaw,ZcT,Zcl,ZdF]
  | false=>
   obtain⟨b1,b2,b3,b4,b5,b6,b7⟩:=Zbx h hz hi
   rw[if_neg (by simp)]
   have hv:ZaD (Zcg x)=true:=by
    rw[ZbJ (Zcg x).length (Zcg x) (Nat.le_refl _) fun c hc=>?_,List.drop_length]
    ·rfl
    ·rw[List.take_length]at hc
     simp only[Zcg,List.mem_append,List.mem_cons,List.not_mem_nil,or_false]at hc
     rcases hc with((hc|hc)|hc)|hc
     ·rcases hc with hc|hc<;>rw[hc]<;>decide
     ·exact Zlk (by decide) (List.all_eq_true.1 b6 c hc)
     ·rw[hc];decide
     ·exact Zlk (by decide) (List.all_eq_true.1 b7 c hc)
   simp[Zaw,ZcT,Zcl,ZdF,hv]
theorem ZgC (x:It):It.beq x x=true:=It.beq_iff.2 rfl
theorem Zll {l r:List It}{a:Int}(h:ZaM l a ≥ 0):ZaM (l++r) a=ZaM l a:=by
 rcases ZbU l a with e|⟨_,h0,h1⟩
 ·omega
 ·unfold ZaM
  rw[List.getElem?_append_left (by omega)]
theorem Zhx {l:List It}{a:Int}{x:It}(h:Zfp l a=(x,0)):Zee x a=(l,0):=by
 unfold Zfp at h
 cases d0:(decide (a<0)||decide (a ≥ (l.length:Int))) with
 | true=>rw[d0]at h;simp at h
 | false=>
 rw[d0]at h
 cases d1:(l.all Zaw&&decide (ZaM l a ≥ 0)) with
 | false=>rw[d1]at h;simp at h
 | true=>
 rw[d1]at h
 rw[Bool.and_eq_true,decide_eq_true_eq]at d1
 obtain⟨_,d1⟩:=d1
 rw[Bool.or_eq_false_iff,decide_eq_false_iff_not,decide_eq_false_iff_not]at d0
 dsimp only at h
 cases d2:decide (ZaM l a>0) with
 | false=>
  rw[d2]at h
  dsimp only at h
  cases hr:Zaw (.mk 4 0 [] l) with
  | false=>rw[hr]at h;simp at h
  | true=>
   rw[hr]at h
   simp only[Prod.mk.injEq,and_true]at h
   subst h
   have e:ZaM l a=0:=by have:=of_decide_eq_false d2;omega
   unfold Zee
   dsimp only
   rw[hr,e]
   rfl
 | true=>
  rw[d2]at h
  dsimp only at h
  have hs:(ZaM l a).toNat=1\/(ZaM l a).toNat=2:=by
   rcases ZbU l a with e|⟨e,_⟩
   ·omega
   ·have:=of_decide_eq_true d2;omega
  cases hz:Zaw (ZaJ (ZaM l a).toNat l) with
  | false=>rw[hz]at h;simp at h
  | true=>
   rw[hz]at h
   dsimp only at h
   cases hr:Zaw (ZdR (ZaM l a).toNat l) with
   | false=>rw[hr]at h;simp at h
   | true=>
    rw[hr]at h
    simp only[Prod.mk.injEq,and_true]at h
    subst h
    have hlen:=ZeV (ZaM l a).toNat (Za1 (ZaJ (ZaM l a).toNat l)) hs
    unfold ZdR at hr ⊢
    unfold Zee
    dsimp only
    rw[hr,Zll d1]
    have e1:decide (ZaM l a<0)=false:=decide_eq_false (by omega)
    have e2:(ZaM l a==0)=false:=by rw[beq_eq_false_iff_ne];have:=of_decide_eq_true d2;omega
    rw[e1,e2]
    have e3:(l++[It.mk 2 0 (ZdP (ZaM l a).toNat (Za1 (ZaJ (ZaM l a).toNat l))) []]).length-1=l.length:=by simp
    rw[e3]
    have e4:(l++[It.mk 2 0 (ZdP (ZaM l a).toNat (Za1 (ZaJ (ZaM l a).toNat l))) []])[l.length]?=some (It.mk 2 0 (ZdP (ZaM l a).toNat (Za1 (ZaJ (ZaM l a).toNat l))) []):=by simp
    have e5:(l++[It.mk 2 0 (ZdP (ZaM l a).toNat (Za1 (ZaJ (ZaM l a).toNat l))) []]).take l.length=l:=by simp
    rw[e4,e5]
    dsimp only
    have e6:decide (((l.length:Nat):Int)<=a)=false:=decide_eq_false (by omega)
    rw[e6,ZgC,hlen,hz]
    simp
theorem Zbi (k:Int)(n:Nat)(b:List UInt8)(l:List It):(Za1 (.mk k n b l)).length<=9+(b.length+(Za0 l).length):=by
 rw[Za1,List.length_append,List.length_append]
 split
 ·rename_i h
  have h1:=ZkH h rfl
  have h2:ZaH (It.mk k n b l).hn<=8:=by
   unfold ZaH
   repeat' split
   all_goals omega
  dsimp only at h1
  omega
 ·simp
theorem Zcn (n:Nat):(Za1 (.mk 0 n [] [])).length<=9:=by
 have:=Zbi 0 n [] []
 simpa[Za0]using this
theorem ZgD (n m:Nat):(Za1 (ZoJ n m)).length<=27:=by
 have h0:=Zbi 4 0 [] [.mk 0 n [] [],.mk 0 m [] []]
 have h1:=Zcn n
 have h2:=Zcn m
 simp only[Za0,List.length_append,List.length_nil,Nat.add_zero,Nat.zero_add]at h0
 have e:ZoJ n m=.mk 4 0 [] [.mk 0 n [] [],.mk 0 m [] []]:=rfl
 rw[e]
 omega
theorem ZgE:∀(l:List It) (d:Nat) (m:Int),0<=Zbg l d m->∀ y ∈ l,y.b.length<=3000
 | [],_,_,_,y,hy=>by simp at hy
 | x::l,d,m,h,y,hy=>by
  rw[Zbg]at h
  split at h
  ·omega
  ·rename_i hm
   have h1:0<=Za3 x d m:=by
    rcases Int.lt_or_le (Za3 x d m) 0 with h2|h2
    ·exfalso
     cases l with
     | nil=>rw[Zbg]at h;omega
     | cons y l=>rw[Zbg,if_pos h2]at h;omega
    ·exact h2
   rcases List.mem_cons.1 hy with rfl|hy
   ·obtain⟨k,n,b,r⟩:=y
    rw[Za3]at h1
    split at h1
    ·omega
    ·split at h1
     ·omega
     ·simp only[It.b];omega
   ·exact ZgE l d _ h y hy
theorem Zif {x:It}(h:0<=Za3 x 1 300)(hn:nI x):wfI x/\x.l.length<=1000000/\(∀ y ∈ x.l,y.b.length<=3000)/\∀ s m,s=1\/s=2->(Za1 (ZaJ s (x.l.take m))).length<=1000000000:=by
 have hw:=(ZeU x 1 300 (by omega) h hn).1
 obtain⟨k,n,b,l⟩:=x
 rw[Za3]at h
 split at h
 ·omega
 split at h
 ·omega
 have h2:0<=Zbg l 2 299:=h
 have hs:=Zfl l 2 299 (by omega) h2 hn.2
 have hlt:Zbg l 2 299<=299:=(Zc0 l 2 299 (by omega)).1
 refine⟨hw,?_,ZgE l 2 299 h2,fun s m hsm=>?_⟩
 ·have:=hs.2.2.1
  simp only[It.l]
  omega
 ·have h0:=Zbi 4 0 [] (l.take m++[.mk 2 0 (List.replicate (2*s) 0) []])
  have h3:=Zbi 2 0 (List.replicate (2*s) 0) []
  have h4:=ZaG l m
  have h5:∀(a c:List It),Za0 (a++c)=Za0 a++Za0 c:=fun a c=>by
   induction a with
   | nil=>rfl
   | cons y a ih=>rw[List.cons_append,Za0,Za0,ih,List.append_assoc]
  rw[h5]at h0
  simp only[Za0,List.length_append,List.length_nil,List.length_replicate,Nat.add_zero,Nat.zero_add]at h0 h3
  have h6:=hs.2.1
  show(Za1 (.mk 4 0 [] (l.take m++[.mk 2 0 (List.replicate (2*s) 0) []]))).length<=1000000000
  omega
theorem Zig {y:It}(h:(Za1 y).length<=900000000):∀ s m,s=1\/s=2->(Za1 (ZaJ s (y.l.take m))).length<=1000000000:=by
 intro s m hs
 have h0:=Zbi 4 0 [] (y.l.take m++[.mk 2 0 (List.replicate (2*s) 0) []])
 have h1:=Zbi 2 0 (List.replicate (2*s) 0) []
 have h2:=ZaG y.l m
 have h3:(Za0 y.l).length<=(Za1 y).length:=by
  obtain⟨k,n,b,l⟩:=y
  rw[Za1,List.length_append,List.length_append]
  show(Za0 l).length<=_
  omega
 have h5:∀(a c:List It),Za0 (a++c)=Za0 a++Za0 c:=fun a c=>by
  induction a with
  | nil=>rfl
  | cons y a ih=>rw[List.cons_append,Za0,Za0,ih,List.append_assoc]
 rw[h5]at h0
 simp only[Za0,List.length_append,List.length_nil,List.length_replicate,Nat.add_zero,Nat.zero_add]at h0 h1
 show(Za1 (.mk 4 0 [] (y.l.take m++[.mk 2 0 (List.replicate (2*s) 0) []]))).length<=_
 omega
def ZfO (x:EidV)(t q:Nat):It:=.mk 4 0 [] [Za2 x,.mk 4 0 [] [.mk 0 t [] [],.mk 0 q [] []]]
theorem ZbM {x:EidV}{t q:Nat}:Zb9 x t q=true ↔ ZaL x=true/\t<=1099511627776/\q<=1099511627776:=by
 unfold Zb9
 simp only[Bool.and_eq_true,decide_eq_true_eq]
 rw[and_assoc]
 exact and_congr Iff.rfl (and_congr (by omega) (by omega))
theorem Zmy {x:EidV}{t q:Nat}(h:Zb9 x t q=true):wfI (ZfO x t q):=by
 obtain⟨h1,h2,h3⟩:=ZbM.1 h
 have hw:=ZcQ h1
 unfold ZfO
 generalize Za2 x=y at *
 simp[wfI,wfs,hw]
 omega
theorem Zfx [Known](x:EidV)(t q:Nat):AP Tryz.prog 82 [.agg (iC x t q)] (.tup [itD (if Zb9 x t q then ZfO x t q else .mk 0 0 [] []),.int .i64 (if Zb9 x t q then 0 else 3)]) []:=by
 have hR:=Zhj x t q
 cases hr:Zb9 x t q with
 | false=>
  rw[hr]at hR
  refine AP.ofA ?_
  refine Zap Tryz.func82 rfl Tryz.ntmps82 rfl rfl ?_
  repeat'(first|(apply Zaa (hR);kernel_rfl;(iterate 4 exact Z))|(apply Zaj Zab;exact Z)|(apply Zai Zab;exact Z)|(apply Zay Zab;exact Z)|(apply Zac;exact Z;exact Go.Zqn))
  all_goals(apply Zax [];(apply Zad Zab;exact Z);(iterate 4 exact Z))
  all_goals rfl
 | true=>
  rw[hr]at hR
  rw[if_pos rfl,if_pos rfl]
  obtain⟨h1,h2,h3⟩:=ZbM.1 hr
  have hE:=Zdv x
  rw[h1,if_pos rfl,if_pos rfl]at hE
  have hw:=ZcQ h1
  have nt:=Zb6 t
  have nq:=Zb6 q
  unfold ZfO
  generalize Za2 x=y at *
  have hL1:=ZcE [.mk 0 t [] [],.mk 0 q [] []] (by simp) (by simp[wfI,wfs];omega)
  have hL:=ZcE [y,.mk 4 0 [] [.mk 0 t [] [],.mk 0 q [] []]] (by simp) (by simp[wfI,wfs,hw];omega)
  obtain⟨k,n,b,l⟩:=y
  replace nt:AP Tryz.prog _ [.int .u64 (t:Int)] (.agg [.int .i64 0,.int .u64 (t:Int),.sl .ext [],.sl .ext []]) []:=nt
  replace nq:AP Tryz.prog _ [.int .u64 (q:Int)] (.agg [.int .i64 0,.int .u64 (q:Int),.sl .ext [],.sl .ext []]) []:=nq
  replace hE:AP Tryz.prog _ [.agg (eC x)] (.tup [.agg [.int .i64 k,.int .u64 (n:Int),byE b,.sl .ext (Zas l)],.int .i64 0]) []:=hE
  replace hL1:AP Tryz.prog _ _ (.agg [.int .i64 4,.int .u64 0,.sl .ext [],.sl .ext [.agg [.int .i64 0,.int .u64 (t:Int),.sl [],.sl []],.agg [.int .i64 0,.int .u64 (q:Int),.sl [],.sl []]]]) []:=hL1
  refine AP.ofA ?_
  refine Zap Tryz.func82 rfl Tryz.ntmps82 rfl rfl ?_
  repeat'(first|(apply Zaa (hR);kernel_rfl;(iterate 4 exact Z))|(apply Zaa (hE);kernel_rfl;(iterate 4 exact Z))|(apply Zaa (nt);kernel_rfl;(iterate 4 exact Z))|(apply Zaa (nq);kernel_rfl;(iterate 4 exact Z))|(apply Zaa (hL1);kernel_rfl;(iterate 4 exact Z))|(apply Zaa (hL);kernel_rfl;(iterate 4 exact Z))|(apply Zaj Zab;exact Z)|(apply Zai Zab;exact Z)|(apply Zay Zab;exact Z)|(apply Zae;exact Z;exact Go.Zqn)|(apply Za5 Zab;(iterate 12 exact Z))|(apply Zam 13 ZaR;decide +kernel;kernel_rfl;kernel_rfl;kernel_rfl;exact Z;exact Z)|(apply Zar;(iterate 4 exact Z))|exact AE.nil _ _ _ _|(apply Zav;exact Z)|(apply Zfe;exact Z)|(apply Zaz;exact Z;exact Z;decide +kernel;exact Z)|(apply ZaA;exact Z)|(apply Zh0;exact Z)|exact AO.nil _ _ _|(apply Zaq;(decide +kernel))|(apply ZaZ;(iterate 3 exact Z))|exact AOs.nil|exact ZaI rfl rfl|exact ZdO rfl rfl rfl rfl rfl|exact ZfU rfl)
  all_goals(apply Zax [];(apply Zad Zab;exact Z);(iterate 4 exact Z))
  all_goals rfl
def Za6 (p:PriV):List It:=[.mk 0 7 [] [],.mk 0 p.fl [] [],.mk 0 p.sum.toNat [] [],Za2 p.dest,Za2 p.src,Za2 p.rep,.mk 4 0 [] [.mk 0 p.t [] [],.mk 0 p.q [] []],.mk 0 p.life [] []]
def ZbF (p:PriV):It × Int:=match Zbc p with
 | true=>Zfp (Za6 p) 2
 | false=>(z0,3)
theorem ZbT {p:PriV}(h:Zbc p=true):0<=p.sum/\p.sum<=2/\ZaL p.dest=true/\ZaL p.rep=true/\Zb9 p.src p.t p.q=true/\p.life<=1099511627776:=by
 unfold Zbc at h
 simp only[Bool.and_eq_true,decide_eq_true_eq]at h
 obtain⟨_,h1,h2,h3,h4,h5,h6⟩:=h
 exact⟨h1,h2,h3,h4,h5,by omega⟩
theorem Zlm {p:PriV}(h:Zbc p=true)(hfl:p.fl<18446744073709551616):wfs (Za6 p):=by
 obtain⟨h1,h2,h3,h4,h5,h6⟩:=ZbT h
 obtain⟨i1,i2,i3⟩:=ZbM.1 h5
 refine⟨?_,?_,?_,ZcQ h3,ZcQ i1,ZcQ h4,?_,?_,trivial⟩
 all_goals first|(simp[wfI,wfs];done)|(simp[wfI,wfs];omega)
theorem Zln [Known][KnownU8](p:PriV)(hfl:p.fl<18446744073709551616)(hlim:∀ s,s=1\/s=2->(Za1 (ZaJ s (Za6 p))).length<=1000000000):AP Tryz.prog 16 [.agg (prC p)] (ZkT (ZbF p)) []:=by
 have hR:=Zeg p
 unfold ZbF
 cases hr:Zbc p with
 | false=>
  rw[hr]at hR
  obtain⟨fl,sum,⟨di,dn,ds,dh,dd⟩,⟨ri,rn,rs,rh,rd⟩,⟨xi,xn,xs,xh,xd⟩,t,q,life⟩:=p
  dsimp only[z0]at *
  refine AP.ofA ?_
  refine Zap Tryz.func16 rfl Tryz.ntmps16 rfl rfl ?_
  repeat'(first|(apply Zaa (hR);kernel_rfl;(iterate 4 exact Z))|(apply Zaj Zab;exact Z)|(apply Zai Zab;exact Z)|(apply Zay Zab;exact Z)|(apply Zac;exact Z;exact Go.Zqn))
  all_goals(apply Zax [];(apply Zad Zab;exact Z);(iterate 4 exact Z))
  all_goals rfl
 | true=>
  rw[hr]at hR
  obtain⟨h1,h2,h3,h4,h5,h6⟩:=ZbT hr
  have hS:=ZnD (Za6 p) 2 (Zlm hr hfl) (by simp[Za6]) hlim
  have hD:=Zdv p.dest
  have hP:=Zdv p.rep
  have hI:=Zfx p.src p.t p.q
  rw[if_pos h3,if_pos h3]at hD
  rw[if_pos h4,if_pos h4]at hP
  rw[if_pos h5,if_pos h5]at hI
  have hN:=Zb6 7
  have hF:=Zb6 p.fl
  have hM:=Zb6 p.sum.toNat
  have hL:=Zb6 p.life
  dsimp only
  generalize Zfp (Za6 p) 2=r at *
  unfold Za6 at hS
  unfold ZfO at hI
  obtain⟨fl,sum,⟨di,dn,ds,dh,dd⟩,⟨ri,rn,rs,rh,rd⟩,⟨xi,xn,xs,xh,xd⟩,t,q,life⟩:=p
  dsimp only at *
  generalize Za2 ⟨di,dn,ds,dh,dd⟩=I1 at *
  generalize Za2 ⟨ri,rn,rs,rh,rd⟩=I2 at *
  generalize Za2 ⟨xi,xn,xs,xh,xd⟩=I3 at *
  obtain⟨ak,an,ab,al⟩:=I1
  obtain⟨bk,bn,bb,bl⟩:=I2
  obtain⟨ck,cn,cb,cl⟩:=I3
  obtain⟨⟨k,n,b,l⟩,e⟩:=r
  have es:IntKind.u64.wrap sum=((sum.toNat:Nat):Int):=by rw[IntWalk.u64_in _ (by omega)];omega
  have hU:=ZbG [It.mk ck cn cb cl,.mk 4 0 [] [.mk 0 t [] [],.mk 0 q [] []]]
  have hv0:(Zas [It.mk ck cn cb cl,.mk 4 0 [] [.mk 0 t [] [],.mk 0 q [] []]])[(0:Int).toNat]?=some (.agg [.int .i64 ck,.int .u64 (cn:Int),.sl (cb.map E.byte),.sl (Zas cl)]):=rfl
  have hv1:(Zas [It.mk ck cn cb cl,.mk 4 0 [] [.mk 0 t [] [],.mk 0 q [] []]])[(1:Int).toNat]?=some (.agg [.int .i64 4,.int .u64 0,.sl [],.sl [nmE t,nmE q]]):=rfl
  generalize hLe:Zas [It.mk ck cn cb cl,.mk 4 0 [] [.mk 0 t [] [],.mk 0 q [] []]]=LL at *
  replace hI:AP Tryz.prog 82 [.agg (iC ⟨xi,xn,xs,xh,xd⟩ t q)] (.tup [.agg [.int .i64 4,.int .u64 0,.sl .ext [],.sl .ext LL],.int .i64 0]) []:=by rw[<- hLe];exact hI
  replace hS:AP Tryz.prog 83 [.sl .ext [nmE 7,nmE fl,nmE sum.toNat,.agg [.int .i64 ak,.int .u64 (an:Int),.sl (ab.map E.byte),.sl (Zas al)],.agg [.int .i64 ck,.int .u64 (cn:Int),.sl (cb.map E.byte),.sl (Zas cl)],.agg [.int .i64 bk,.int .u64 (bn:Int),.sl (bb.map E.byte),.sl (Zas bl)],.agg [.int .i64 4,.int .u64 0,.sl [],.sl [nmE t,nmE q]],nmE life],.int .i64 2] (ZkT (.mk k n b l,e)) []:=hS
  refine AP.ofA ?_
  refine Zap Tryz.func16 rfl Tryz.ntmps16 rfl rfl ?_
  repeat'(first|(apply Zaa (hR);kernel_rfl;(iterate 4 exact Z))|rw[es]|(apply Zaa (hD);kernel_rfl;(iterate 4 exact Z))|(apply Zaa (hP);kernel_rfl;(iterate 4 exact Z))|(apply Zaa (hI);kernel_rfl;(iterate 4 exact Z))|(apply Zaa (hN);kernel_rfl;(iterate 4 exact Z))|(apply Zaa (hF);kernel_rfl;(iterate 4 exact Z))|(apply Zaa (hM);kernel_rfl;(iterate 4 exact Z))|(apply Zaa (hL);kernel_rfl;(iterate 4 exact Z))|(apply Zaa (hS);kernel_rfl;(iterate 4 exact Z))|(apply Zaj Zab;exact Z)|(apply Zai Zab;exact Z)|(apply Zay Zab;exact Z)|(apply Zae;exact Z;exact Go.Zqn)|(apply Za5 Zab;(iterate 12 exact Z))|(apply Zam 21 ZaR;decide +kernel;kernel_rfl;kernel_rfl;kernel_rfl;exact Z;exact Z)|(apply Zar;(iterate 4 exact Z))|exact AE.nil _ _ _ _|(apply Zav;exact Z)|(apply Zaz;exact Z;exact Z;decide +kernel;exact Z)|(apply ZaA;exact Z)|exact AO.nil _ _ _|(apply Zaq;(decide +kernel))|exact AOs.nil|exact ZaI rfl rfl|(apply Zat Zab;(iterate 6 exact Z);(first|exact Go.Zqn|rotate_left);(first|with_reducible assumption|decide +kernel|exact Z);(first|exact Zag rfl|with_reducible assumption|decide +kernel|rotate_left)))
  all_goals(apply Zax [];(apply Zad Zab;exact Z);(iterate 4 exact Z))
  all_goals rfl
theorem ZpW [Known][KnownU8](k:Int)(n:Nat)(b:List UInt8)(xl:List E)(L:List E)(e:Int)
  (hO:AP Tryz.prog 84 [.agg [.int .i64 k,.int .u64 (n:Int),byE b,.sl .ext xl],.int .i64 2] (.tup [.sl .ext L,.int .i64 e]) []) (t1:(e != 0)=true) :
  AP Tryz.prog 17 [.agg [.int .i64 k,.int .u64 (n:Int),byE b,.sl .ext xl]] (.tup [.agg [.int .u64 0,.int .i64 0,.bool false,.int .u64 0,.int .u64 0,.str [],.str [],.bool false,.int .u64 0,.int .u64 0,.str [],.str [],.bool false,.int .u64 0,.int .u64 0,.str [],.str [],.int .u64 0,.int .u64 0,.int .u64 0],.int .i64 e]) []:=by
 refine AP.ofA ?_
 refine Zap Tryz.func17 rfl Tryz.ntmps17 rfl rfl ?_
 repeat'(first|(apply Zaa (hO);kernel_rfl;(iterate 4 exact Z))|(apply Zaj Zab;exact Z)|(apply Zai Zab;exact Z)|(apply Zay Zab;exact Z)|(apply Zac;exact Z;exact Go.Zqn))
 all_goals(apply Zax [];(apply Zad Zab;exact Z);(iterate 4 exact Z))
 all_goals rfl
theorem ZpX [Known][KnownU8](k:Int)(n:Nat)(b:List UInt8)(xl:List E)(L:List E)(e:Int)
  (hO:AP Tryz.prog 84 [.agg [.int .i64 k,.int .u64 (n:Int),byE b,.sl .ext xl],.int .i64 2] (.tup [.sl .ext L,.int .i64 e]) []) (t1:(e != 0)=false) (t2:((L.length:Int) != 8)=true) :
  AP Tryz.prog 17 [.agg [.int .i64 k,.int .u64 (n:Int),byE b,.sl .ext xl]] (.tup [.agg [.int .u64 0,.int .i64 0,.bool false,.int .u64 0,.int .u64 0,.str [],.str [],.bool false,.int .u64 0,.int .u64 0,.str [],.str [],.bool false,.int .u64 0,.int .u64 0,.str [],.str [],.int .u64 0,.int .u64 0,.int .u64 0],.int .i64 3]) []:=by
 refine AP.ofA ?_
 refine Zap Tryz.func17 rfl Tryz.ntmps17 rfl rfl ?_
 repeat'(first|(apply Zaa (hO);kernel_rfl;(iterate 4 exact Z))|(apply Zaj Zab;exact Z)|(apply Zai Zab;exact Z)|(apply Zay Zab;exact Z)|(apply Zac;exact Z;exact Go.Zqn)|(apply Zae;exact Z;exact Go.Zqn)|(apply Zal Zab;(iterate 4 exact Z)))
 all_goals(apply Zax [];(apply Zad Zab;exact Z);(iterate 4 exact Z))
 all_goals rfl
end Go.Proofs.YtakblclkflnnpaaGreatDoor
end

/- Package eid: an item's name: numbers; all items. -/
import Derived.Test.YtmljabhmajehnaaGreatDoorW22
import Derived.Test.YtmljabhmajehnaaGreatDoorW19
import Derived.Test.YtmljabhmajehnaaGreatDoorW13
import Derived.Test.YtmljabhmajehnaaGreatDoorW12
import Derived.Test.YtmljabhmajehnaaGreatDoorW15
set_option linter.unusedVariables false
set_option linter.unusedSimpArgs false
section
open Go.RowKit Go.Pl Go.Av
namespace Go.Proofs.YtmljabhmajehnaaGreatDoor
set_option maxHeartbeats 4000000
theorem L3 [Known][KnownU8](n:Nat)(b:List UInt8)(s r:It)(hw:wfI (.mk 4 n b [s,r]))(hr:ZN (.mk 4 n b [s,r])=true)(h1:Wv 1 s=false):AP Tryz.prog 112 [itD (.mk 4 n b [s,r])] (Gy (Ux s r)) []:=by
 have hR:=Wt _ hw
 rw[hr]at hR
 obtain⟨_,_,_,hws,hwr,_⟩:=hw
 have hS1:=VL s hws 1 (by omega)
 have hS2:=VL s hws 2 (by omega)
 have hN:=MZ r hwr
 have n1:=Uw 1
 have n2:=Uw 2
 replace n1:AP Tryz.prog _ [.int .u64 1] (.agg [.int .i64 0,.int .u64 1,.sl .ext [],.sl .ext []]) []:=n1
 replace n2:AP Tryz.prog _ [.int .u64 2] (.agg [.int .i64 0,.int .u64 2,.sl .ext [],.sl .ext []]) []:=n2
 rw[h1]at hS1
 have hU:=Yz [s,r]
 unfold Ux
 rw[h1]
 dsimp only
 obtain⟨ks,ns,bs,ls⟩:=s
 obtain⟨kr,nr,br,lr⟩:=r
 have t2:(((Zu [It.mk ks ns bs ls,It.mk kr nr br lr]).length:Int) != 2)=false:=rfl
 cases h2:Wv 2 (.mk ks ns bs ls) with
 | false=>
  rw[h2]at hS2
  show AP Tryz.prog _ _ (.tup [.agg [.bool false,.int .u64 0,.int .u64 0,.str [],.str []],.int .i64 3]) []
  refine AP.ofA (Zl Tryz.func112 Z Tryz.ntmps112 Z Z ?_)
  repeat'(first|(apply Ud 11 Za ZD;decide +kernel;kernel_rfl;kernel_rfl;kernel_rfl;exact Z;exact Z)|exact AV.nil _ _|(apply KQ;exact Z;exact Z)|(apply KR;(iterate 4 exact Z))|(apply KP;(iterate 4 exact Z))|refine JK Z Z Z Z ?_|(apply Zb (hR);kernel_rfl;(iterate 4 exact Z))|(apply Zb (hS1);kernel_rfl;(iterate 4 exact Z))|(apply Zb (hS2);kernel_rfl;(iterate 4 exact Z))|(apply Zb (n1);kernel_rfl;(iterate 4 exact Z))|(apply Zb (n2);kernel_rfl;(iterate 4 exact Z))|(apply Zi Za;exact Z)|(apply Zf Za;exact Z)|(apply Zp Za;exact Z)|refine Ze Z Z Z Qt ?_|refine Zt Z Z Z Qt ?_|refine Zh Z Qt Z Z ?_|refine Zd Z Qt ?_|refine Zg Z Qt ?_|refine Zm Za Z Z Z Z ?_|(apply Zo 2 ZD;decide +kernel;kernel_rfl;kernel_rfl;kernel_rfl;exact Z;exact Z)|(apply Zo 6 ZD;decide +kernel;kernel_rfl;kernel_rfl;kernel_rfl;exact Z;exact Z)|(apply Zs;(iterate 4 exact Z))|exact AE.nil _ _ _ _|(apply Zw;exact Z)|(apply Zz;exact Z;exact Z;decide +kernel;exact Z)|(apply ZA;exact Z)|exact AO.nil _ _ _|(apply Zr;(decide +kernel))|exact AOs.nil|exact ZF rfl rfl|(apply Zv Za;(iterate 6 exact Z);(first|exact Qt|rotate_left);(first|with_reducible assumption|decide +kernel|exact Z);(first|exact Zk rfl|with_reducible assumption|decide +kernel|rotate_left)))
  all_goals exact Qe
 | true=>
  rw[h2]at hS2
  dsimp only
  cases hq:Ue (.mk kr nr br lr) with
  | none=>
   rw[hq]at hN
   replace hN:AP Tryz.prog _ _ (.tup [.sl .ext [],.bool false]) []:=hN
   show AP Tryz.prog _ _ (.tup [.agg [.bool false,.int .u64 0,.int .u64 0,.str [],.str []],.int .i64 3]) []
   refine AP.ofA (Zl Tryz.func112 Z Tryz.ntmps112 Z Z ?_)
   repeat'(first|(apply Ud 11 Za ZD;decide +kernel;kernel_rfl;kernel_rfl;kernel_rfl;exact Z;exact Z)|exact AV.nil _ _|(apply KQ;exact Z;exact Z)|(apply KR;(iterate 4 exact Z))|(apply KP;(iterate 4 exact Z))|refine JK Z Z Z Z ?_|(apply Zb (hR);kernel_rfl;(iterate 4 exact Z))|(apply Zb (hS1);kernel_rfl;(iterate 4 exact Z))|(apply Zb (hS2);kernel_rfl;(iterate 4 exact Z))|(apply Zb (n1);kernel_rfl;(iterate 4 exact Z))|(apply Zb (n2);kernel_rfl;(iterate 4 exact Z))|(apply Zb (hN);kernel_rfl;(iterate 4 exact Z))|(apply Zi Za;exact Z)|(apply Zf Za;exact Z)|(apply Zp Za;exact Z)|refine Ze Z Z Z Qt ?_|refine Zt Z Z Z Qt ?_|refine Zh Z Qt Z Z ?_|refine Zd Z Qt ?_|refine Zg Z Qt ?_|refine Zm Za Z Z Z Z ?_|(apply Zo 2 ZD;decide +kernel;kernel_rfl;kernel_rfl;kernel_rfl;exact Z;exact Z)|(apply Zo 6 ZD;decide +kernel;kernel_rfl;kernel_rfl;kernel_rfl;exact Z;exact Z)|(apply Zs;(iterate 4 exact Z))|exact AE.nil _ _ _ _|(apply Zw;exact Z)|(apply Zz;exact Z;exact Z;decide +kernel;exact Z)|(apply ZA;exact Z)|exact AO.nil _ _ _|(apply Zr;(decide +kernel))|exact AOs.nil|exact ZF rfl rfl|(apply Zv Za;(iterate 6 exact Z);(first|exact Qt|rotate_left);(first|with_reducible assumption|decide +kernel|exact Z);(first|exact Zk rfl|with_reducible assumption|decide +kernel|rotate_left)))
   all_goals exact Qe
  | some ac=>
   obtain⟨a,c⟩:=ac
   rw[hq]at hN
   replace hN:AP Tryz.prog _ _ (.tup [.sl .ext [.int .u64 (a:Int),.int .u64 (c:Int)],.bool true]) []:=hN
   have hE:=Vz ⟨true,a,c,[],[]⟩
   dsimp only
   generalize ZM ⟨true,a,c,[],[]⟩=R at *
   replace hE:AP Tryz.prog _ [.agg [.bool true,.int .u64 (a:Int),.int .u64 (c:Int),.str [],.str []]] (.bool R) []:=hE
   cases R
   all_goals
    refine AP.ofA (Zl Tryz.func112 Z Tryz.ntmps112 Z Z ?_)
    repeat'(first|(apply Ud 11 Za ZD;decide +kernel;kernel_rfl;kernel_rfl;kernel_rfl;exact Z;exact Z)|exact AV.nil _ _|(apply KQ;exact Z;exact Z)|(apply KR;(iterate 4 exact Z))|(apply KP;(iterate 4 exact Z))|refine JK Z Z Z Z ?_|(apply Zb (hR);kernel_rfl;(iterate 4 exact Z))|(apply Zb (hS1);kernel_rfl;(iterate 4 exact Z))|(apply Zb (hS2);kernel_rfl;(iterate 4 exact Z))|(apply Zb (n1);kernel_rfl;(iterate 4 exact Z))|(apply Zb (n2);kernel_rfl;(iterate 4 exact Z))|(apply Zb (hN);kernel_rfl;(iterate 4 exact Z))|(apply Zb (hE);kernel_rfl;(iterate 4 exact Z))|(apply Zi Za;exact Z)|(apply Zf Za;exact Z)|(apply Zp Za;exact Z)|refine Ze Z Z Z Qt ?_|refine Zt Z Z Z Qt ?_|refine Zh Z Qt Z Z ?_|refine Zd Z Qt ?_|refine Zg Z Qt ?_|refine Zm Za Z Z Z Z ?_|(apply Zo 2 ZD;decide +kernel;kernel_rfl;kernel_rfl;kernel_rfl;exact Z;exact Z)|(apply Zo 6 ZD;decide +kernel;kernel_rfl;kernel_rfl;kernel_rfl;exact Z;exact Z)|(apply Zs;(iterate 4 exact Z))|exact AE.nil _ _ _ _|(apply Zw;exact Z)|(apply Zz;exact Z;exact Z;decide +kernel;exact Z)|(apply ZA;exact Z)|exact AO.nil _ _ _|(apply Zr;(decide +kernel))|exact AOs.nil|exact ZF rfl rfl|(apply Zv Za;(iterate 6 exact Z);(first|exact Qt|rotate_left);(first|with_reducible assumption|decide +kernel|exact Z);(first|exact Zk rfl|with_reducible assumption|decide +kernel|rotate_left)))
    all_goals exact Qe
theorem ID [Known][KnownU8](x:It)(hw:wfI x):AP Tryz.prog 112 [itD x] (Gy (ZS x)) []:=by
 cases hr:ZN x with
 | false=>
  have e:ZS x=(Ye,false):=by unfold ZS;rw[hr]
  rw[e]
  exact XT x hw (.inl hr)
 | true=>
  obtain⟨k,n,b,l⟩:=x
  by_cases hk:k=4
  ·subst hk
   match l,hw,hr with
   | [s,r],hw,hr=>
    have e:ZS (.mk 4 n b [s,r])=Ux s r:=by unfold ZS;rw[hr];dsimp only;rw[if_pos rfl]
    rw[e]
    cases h1:Wv 1 s with
    | true=>exact L2 n b s r hw hr h1
    | false=>exact L3 n b s r hw hr h1
   | [],hw,hr=>
    have e:ZS (.mk 4 n b [])=(Ye,false):=by unfold ZS;rw[hr]
    rw[e];exact XT _ hw (.inr (.inr (by simp[It.l])))
   | [s],hw,hr=>
    have e:ZS (.mk 4 n b [s])=(Ye,false):=by unfold ZS;rw[hr]
    rw[e];exact XT _ hw (.inr (.inr (by simp[It.l])))
   | s::r::y::l,hw,hr=>
    have e:ZS (.mk 4 n b (s::r::y::l))=(Ye,false):=by unfold ZS;rw[hr]
    rw[e];exact XT _ hw (.inr (.inr (by simp[It.l])))
  ·have e:ZS (.mk k n b l)=(Ye,false):=by
    unfold ZS;rw[hr]
    match l with
    | [s,r]=>dsimp only;rw[if_neg hk]
    | []=>rfl
    | [s]=>rfl
    | s::r::y::l=>rfl
   rw[e]
   exact XT _ hw (.inr (.inl hk))
theorem NN {x:EidV}(h:ZM x=true)(hz:isZ x=false)(hi:x.i=false):ppV (YR x)=(x,true):=by
 obtain⟨b1,b2,b3,b4,b5,b6,b7⟩:=YS h hz hi
 have e1:YR x=[47,47]++(x.h++47::x.d):=by simp[YR]
 rw[e1]
 unfold ppV
 rw[UX]
 dsimp only
 rw[VK (QL b6 (by decide))]
 dsimp only
 have ex:(⟨false,0,0,x.h,x.d⟩:EidV)=x:=by
  obtain⟨i,n,s,hh,d⟩:=x
  simp only at hi b1 b2
  rw[hi,b1,b2]
 rw[ex,h]
 have:(x.h != [])=true:=by
  rw[bne_iff_ne]
  intro e
  rw[e]at b3
  simp at b3
 rw[this]
 rfl
theorem Vf {x:EidV}(h:ZM x=true):wfI (Z1 x):=by
 unfold Z1
 cases hz:isZ x with
 | true=>rw[if_pos rfl];simp[wfI,wfs]
 | false=>
  rw[if_neg (by simp)]
  cases hi:x.i with
  | true=>
   obtain⟨b1,b2,b3,b4,b5⟩:=Wf h hz hi
   rw[if_pos rfl]
   simp[wfI,wfs]
   omega
  | false=>
   obtain⟨b1,b2,b3,b4,b5,b6,b7⟩:=YS h hz hi
   rw[if_neg (by simp)]
   simp[wfI,wfs,YR]
   omega
theorem UY {x:EidV}(h:ZM x=true)(hr:ZN (Z1 x)=true):ZS (Z1 x)=(x,true):=by
 unfold ZS
 rw[hr]
 unfold Z1
 cases hz:isZ x with
 | true=>
  rw[if_pos rfl,WS.1 hz]
  rfl
 | false=>
  rw[if_neg (by simp)]
  cases hi:x.i with
  | true=>
   obtain⟨b1,b2,b3,b4,b5⟩:=Wf h hz hi
   rw[if_pos rfl]
   dsimp only
   rw[if_pos rfl]
   have ex:(⟨true,x.n,x.s,[],[]⟩:EidV)=x:=by
    obtain⟨i,n,s,hh,d⟩:=x
    simp only at hi b3 b4
    rw[hi,b3,b4]
   have e1:Wv 1 (.mk 0 2 [] [])=false:=rfl
   have e2:Wv 2 (.mk 0 2 [] [])=true:=rfl
   have e3:∀ n,Wv n (.mk 0 n [] [])=true:=fun n=>It.beq_iff.2 rfl
   have e4:Ue (.mk 4 0 [] [.mk 0 x.n [] [],.mk 0 x.s [] []])=some (x.n,x.s):=by
    unfold Ue
    dsimp only
    rw[if_pos rfl]
    simp only[It.n,e3,Bool.and_self]
   unfold Ux
   rw[e1,e2,e4]
   dsimp only
   rw[ex,h]
  | false=>
   rw[if_neg (by simp)]
   dsimp only
   rw[if_pos rfl]
   have e1:Wv 1 (.mk 0 1 [] [])=true:=rfl
   have e2:Wv 0 (.mk 3 0 (YR x) [])=false:=rfl
   unfold Ux
   rw[e1,e2]
   exact NN h hz hi
theorem Hw {m:Nat}(hm:m<128){c:UInt8}(h:okB m c=true):c.toNat<128:=by
 simp only[okB,Bool.or_eq_true,Bool.and_eq_true,decide_eq_true_eq,beq_iff_eq]at h
 omega
theorem VV {x:EidV}(h:ZM x=true):ZN (Z1 x)=true:=by
 unfold Z1
 cases hz:isZ x with
 | true=>rw[if_pos rfl];rfl
 | false=>
  rw[if_neg (by simp)]
  cases hi:x.i with
  | true=>rw[if_pos rfl];simp[ZN,Y3,YB,WD]
  | false=>
   obtain⟨b1,b2,b3,b4,b5,b6,b7⟩:=YS h hz hi
   rw[if_neg (by simp)]
   have hv:ZG (YR x)=true:=by
    rw[We (YR x).length (YR x) (Nat.le_refl _) fun c hc=>?_,List.drop_length]
    ·rfl
    ·rw[List.take_length]at hc
     simp only[YR,List.mem_append,List.mem_cons,List.not_mem_nil,or_false]at hc
     rcases hc with((hc|hc)|hc)|hc
     ·rcases hc with hc|hc<;>rw[hc]<;>decide
     ·exact Hw (by decide) (List.all_eq_true.1 b6 c hc)
     ·rw[hc];decide
     ·exact Hw (by decide) (List.all_eq_true.1 b7 c hc)
   simp[ZN,Y3,YB,WD,hv]
theorem Tl {k:Int}{n:Nat}{b:List UInt8}{l:List It}(h:ZN (.mk k n b l)=true):WD k n b l=true/\∀ y ∈ l,∃ d m m',Y3 y d m=some m':=by
 unfold ZN at h
 cases hw:Y3 (.mk k n b l) 1 256 with
 | none=>rw[hw]at h;cases h
 | some m=>
  obtain⟨_,_,h1,h2⟩:=W4 hw
  refine⟨h1,?_⟩
  clear hw h h1
  generalize (256:Nat)-1=m0 at h2
  induction l generalizing m0 with
  | nil=>intro y hy;cases hy
  | cons x l ih=>
   intro y hy
   obtain⟨m1,w1,w2⟩:=WE h2
   rcases List.mem_cons.1 hy with rfl|hy
   ·exact⟨_,_,_,w1⟩
   ·exact ih _ w2 y hy
theorem Gz {x:It}{a c:Nat}(h:Ue x=some (a,c)):∃ n b,x=.mk 4 n b [.mk 0 a [] [],.mk 0 c [] []]:=by
 unfold Ue at h
 split at h
 ·rename_i k n b y0 y1
  split at h
  ·rename_i hk
   split at h
   ·rename_i hy
    simp only[Option.some.injEq,Prod.mk.injEq]at h
    rw[Bool.and_eq_true]at hy
    have e0:=It.beq_iff.1 hy.1
    have e1:=It.beq_iff.1 hy.2
    rw[h.1]at e0
    rw[h.2]at e1
    rw[hk,e0,e1]
    exact⟨n,b,rfl⟩
   ·cases h
  ·cases h
 ·cases h
theorem VM {x:It}(h:(ZS x).2=true):ZM (ZS x).1=true/\Z1 (ZS x).1=x:=by
 unfold ZS at h ⊢
 cases hr:ZN x with
 | false=>rw[hr]at h;cases h
 | true=>
  obtain⟨k,n,b,l⟩:=x
  rw[hr]at h
  match l,hr,h with
  | [],hr,h=>cases h
  | [s],hr,h=>cases h
  | s::r::y::l,hr,h=>cases h
  | [s,r],hr,h=>
   dsimp only at h ⊢
   by_cases hk:k=4
   case neg=>rw[if_neg hk]at h;cases h
   rw[if_pos hk]at h ⊢
   subst hk
   obtain⟨ho,hm⟩:=Tl hr
   have hn:n=0/\b=[]:=by simpa[WD]using ho
   obtain⟨rfl,rfl⟩:=hn
   obtain⟨rk,rn,rb,rl⟩:=r
   obtain⟨d,m,m',hwr⟩:=hm (.mk rk rn rb rl) (by simp)
   obtain⟨_,_,ho2,_⟩:=W4 hwr
   unfold Ux at h ⊢
   cases h1:Wv 1 s with
   | true=>
    have es:=It.beq_iff.1 h1
    rw[h1]at h
    cases h0:Wv 0 (.mk rk rn rb rl) with
    | true=>
     have er:=It.beq_iff.1 h0
     dsimp only
     rw[es,er]
     exact⟨by decide,rfl⟩
    | false=>
     rw[h0]at h
     dsimp only at h ⊢
     cases h3:(It.mk rk rn rb rl).k==3 with
     | false=>rw[h3]at h;cases h
     | true=>
      rw[h3]at h
      have hk3:rk=3:=by simpa[It.k]using h3
      subst hk3
      have hn:rn=0/\rl=[]:=by
       have:WD 3 rn rb rl=true:=ho2
       simp[WD]at this
       exact⟨this.1,this.2.1⟩
      obtain⟨rfl,rfl⟩:=hn
      dsimp only[It.b]at h ⊢
      unfold ppV at h ⊢
      dsimp only at h ⊢
      simp only[Bool.and_eq_true,bne_iff_ne]at h
      obtain⟨k3,k4,k5,k6⟩:=h
      have e2:=Qm k3
      generalize (WF [47,47] rb).1=q at *
      refine⟨k6,?_⟩
      unfold Z1
      rw[if_neg (by rw[WS];intro e;exact k5 (congrArg EidV.h e)),if_neg (by simp),es,e2]
      have:=Ql k4
      conv=>rhs;rw[this]
      simp[YR]
   | false=>
    rw[h1]at h
    cases h2:Wv 2 s with
    | false=>rw[h2]at h;cases h
    | true=>
     have es:=It.beq_iff.1 h2
     rw[h2]at h
     dsimp only at h ⊢
     cases hq:Ue (.mk rk rn rb rl) with
     | none=>rw[hq]at h;cases h
     | some ac=>
      obtain⟨a,c⟩:=ac
      rw[hq]at h
      dsimp only at h ⊢
      refine⟨h,?_⟩
      obtain⟨n2,b2,e2⟩:=Gz hq
      cases e2
      have hn:rn=0/\rb=[]:=by simpa[WD]using ho2
      obtain⟨rfl,rfl⟩:=hn
      unfold Z1
      rw[if_neg (by simp[isZ]),if_pos rfl,es]
abbrev KU (x:It):D:=.tup [.agg (eC (match(ZS x).2 with|true=>(ZS x).1|false=>Ye)),.bool (ZS x).2]
theorem UZ {x:It}(h:(ZS x).2=false):KU x=.tup [.agg (eC Ye),.bool false]:=by unfold KU;rw[h]
theorem Tm {x:It}{e:EidV}(h:ZS x=(e,true)):KU x=.tup [.agg (eC e),.bool true]:=by unfold KU;rw[h]
theorem JM {e:EidV}(h:ZM e=true):∃ s z,Z1 e=.mk 4 0 [] [s,z]/\((isZ e=true/\z=.mk 0 0 [] [])\/(isZ e=false/\e.i=true/\z=.mk 4 0 [] [.mk 0 e.n [] [],.mk 0 e.s [] []]/\e.h=[]/\e.d=[])\/(isZ e=false/\e.i=false/\z=.mk 3 0 (YR e) []/\Wr e=V1++YR e)):=by
 unfold Z1
 cases hz:isZ e with
 | true=>rw[if_pos rfl];exact⟨_,_,rfl,.inl ⟨rfl,rfl⟩⟩
 | false=>
  rw[if_neg (by simp)]
  cases hi:e.i with
  | true=>
   obtain⟨_,_,h1,h2,_⟩:=Wf h hz hi
   rw[if_pos rfl];exact⟨_,_,rfl,.inr (.inl ⟨rfl,rfl,rfl,h1,h2⟩)⟩
  | false=>
   rw[if_neg (by simp)]
   refine⟨_,_,rfl,.inr (.inr ⟨rfl,rfl,rfl,?_⟩)⟩
   unfold Wr
   rw[hz,if_neg (by simp),hi,if_neg (by simp)]
   rfl
theorem Lp {k:Int}{n:Nat}{b:List UInt8}{l:List It}(h:k ≠ 4\/l.length ≠ 2):(ZS (.mk k n b l)).2=false:=by
 cases hp:(ZS (.mk k n b l)).2 with
 | false=>rfl
 | true=>
  obtain⟨h1,h2⟩:=VM hp
  obtain⟨s,z,e,_⟩:=JM h1
  rw[e]at h2
  cases h2
  rcases h with h|h
  ·exact absurd rfl h
  ·exact absurd rfl h
theorem GA {n:Nat}{b:List UInt8}{s z:It}{c:EidV}
  (hZ:z=.mk 0 0 [] []->c=Ye) (hI:∀ p q,z=.mk 4 0 [] [.mk 0 p [] [],.mk 0 q [] []]->c=⟨true,p,q,[],[]⟩) (hT:∀ t,z=.mk 3 0 t []->(Z3 (V1++t)).2=true->c=(Z3 (V1++t)).1)
  (hp:(ZS (.mk 4 n b [s,z])).2=true):c=(ZS (.mk 4 n b [s,z])).1:=by
 obtain⟨h1,h2⟩:=VM hp
 generalize (ZS (.mk 4 n b [s,z])).1=e at *
 obtain⟨s',z',ee,hh⟩:=JM h1
 rw[ee]at h2
 cases h2
 rcases hh with⟨hz,hh⟩ | ⟨hz,hi,hh,e1,e2⟩ | ⟨hz,hi,hh,ht⟩
 ·rw[hZ hh,WS.1 hz]
 ·rw[hI _ _ hh]
  obtain⟨i,n,s,h,d⟩:=e
  simp only at hi e1 e2
  rw[hi,e1,e2]
 ·have hq:=QM h1
  rw[ht]at hq
  have:=hT _ hh (by rw[hq])
  rw[this,hq]
theorem Tn {n n3:Nat}{b t:List UInt8}{s:It}{l:List It}(h:(Z3 (V1++t)).2=false):(ZS (.mk 4 n b [s,.mk 3 n3 t l])).2=false:=by
 cases hp:(ZS (.mk 4 n b [s,.mk 3 n3 t l])).2 with
 | false=>rfl
 | true=>
  obtain⟨h1,h2⟩:=VM hp
  generalize (ZS (.mk 4 n b [s,.mk 3 n3 t l])).1=e at *
  obtain⟨s',z',ee,hh⟩:=JM h1
  rw[ee]at h2
  cases h2
  rcases hh with⟨hz,hh⟩ | ⟨hz,hi,hh,e1,e2⟩ | ⟨hz,hi,hh,ht⟩
  ·cases hh
  ·cases hh
  ·cases hh
   have hq:=QM h1
   rw[ht]at hq
   rw[hq]at h;cases h
theorem RT {x:It}{c:EidV}(hc:(ZS x).2=true->c=(ZS x).1)(hk:ZM c=false):(ZS x).2=false:=by
 cases hp:(ZS x).2 with
 | false=>rfl
 | true=>rw[hc hp,(VM hp).1]at hk;cases hk
theorem SE {x:It}{c:EidV}(hc:(ZS x).2=true->c=(ZS x).1)(hs:It.beq (Z1 c) x=false):(ZS x).2=false:=by
 cases hp:(ZS x).2 with
 | false=>rfl
 | true=>rw[hc hp,(VM hp).2,It.beq_iff.2 rfl]at hs;cases hs
theorem SF {x:It}{c:EidV}(hk:ZM c=true)(hs:It.beq (Z1 c) x=true):ZS x=(c,true):=by
 rw[<- It.beq_iff.1 hs,UY hk (VV hk)]
end Go.Proofs.YtmljabhmajehnaaGreatDoor
end
section
open Go.RowKit Go.Pl Go.Av
namespace Go.Proofs.YtmljabhmajehnaaGreatDoor
set_option maxHeartbeats 4000000
mutual
def Y8:It->Nat->Int->Int
 | .mk k n b l,d,m=>if 9<d then -1 else if 3000<b.length then -1 else Ww l (d+1) (m-1)
def Ww:List It->Nat->Int->Int
 | [],_,m=>m
 | x::l,d,m=>if m<0 then m else Ww l d (Y8 x d m)
end
mutual
theorem Qo:∀(x:It) (d:Nat) (m:Int),0<=m->Y8 x d m<m /\ -1<=Y8 x d m
 | .mk k n b l,d,m,h=>by
  rw[Y8]
  split
  ·omega
  ·split
   ·omega
   ·have:=Qp l (d+1) (m-1) (by omega);omega
theorem Qp:∀(l:List It) (d:Nat) (m:Int),-1<=m->Ww l d m<=m /\ -1<=Ww l d m
 | [],_,m,h=>by rw[Ww];omega
 | x::l,d,m,h=>by
  rw[Ww]
  split
  ·omega
  ·have h1:=Qo x d m (by omega)
   have h2:=Qp l d (Y8 x d m) (by omega)
   omega
end
mutual
def nI:It->Prop
 | .mk _ n _ l=>n<18446744073709551616/\nIs l
def nIs:List It->Prop
 | []=>True
 | x::l=>nI x/\nIs l
end
mutual
def WT:It->Nat->Bool
 | .mk _ _ _ l,d=>match d with
  | 0=>false
  | d+1=>WU l d
def WU:List It->Nat->Bool
 | [],_=>true
 | x::l,d=>WT x d&&WU l d
end
mutual
theorem IE:∀(x:It) (d:Nat) (m:Int),m<=400->0<=Y8 x d m->nI x->wfI x/\(ZH x).length<=3009*(m-Y8 x d m)/\m-Y8 x d m ≥ 1/\WT x (10-d)=true
 | .mk k n b l,d,m,hm,h,hn=>by
  rw[Y8]at h ⊢
  split at h
  ·omega
  split at h
  ·omega
  rename_i h1 h2
  rw[if_neg h1,if_neg h2]
  obtain⟨q1,q2,q3,q4⟩:=KV l (d+1) (m-1) (by omega) h hn.2
  refine⟨⟨hn.1,by omega,by omega,q1⟩,?_,by omega,?_⟩
  ·rw[ZH]
   have hw:(if ZW (k,(It.mk k n b l).hn,false) then ZJ (k,(It.mk k n b l).hn,false) else []).length<=9:=by
    split
    ·rename_i hr;rw[YM _ hr];exact Nl _
    ·exact Nat.zero_le _
   rw[List.length_append,List.length_append]
   omega
  ·obtain⟨e,he⟩:∃ e,10-d=e+1:=⟨9-d,by omega⟩
   rw[he,WT]
   rw[show 10-(d+1)=e by omega]at q4
   exact q4
theorem KV:∀(l:List It) (d:Nat) (m:Int),m<=400->0<=Ww l d m->nIs l->wfs l/\(ZO l).length<=3009*(m-Ww l d m)/\m-Ww l d m ≥ l.length/\WU l (10-d)=true
 | [],_,m,_,h,hn=>by simp[wfs,ZO,Ww,WU]
 | x::l,d,m,hm,h,hn=>by
  rw[Ww]at h ⊢
  split at h
  ·omega
  rename_i h1
  rw[if_neg h1]
  have h0:0<=Y8 x d m:=by
   rcases Int.lt_or_le (Y8 x d m) 0 with hlt|hge
   ·have:=Qp l d (Y8 x d m) (by have:=Qo x d m (by omega);omega);omega
   ·exact hge
  obtain⟨q1,q2,q3,q4⟩:=IE x d m hm h0 hn.1
  obtain⟨r1,r2,r3,r4⟩:=KV l d _ (by have:=Qo x d m (by omega);omega) h hn.2
  refine⟨⟨q1,r1⟩,?_,?_,?_⟩
  ·rw[ZO,List.length_append];omega
  ·rw[List.length_cons];omega
  ·rw[WU,q4,r4];rfl
end
end Go.Proofs.YtmljabhmajehnaaGreatDoor
end
section
open Go.RowKit Go.Pl Go.Av
namespace Go.Proofs.YtmljabhmajehnaaGreatDoor
mutual
def WZ:It->Nat
 | .mk _ _ _ l=>1+WV l
def WV:List It->Nat
 | []=>0
 | x::l=>WZ x+WV l
end
mutual
def VW:It->Bool
 | .mk k n b l=>WD k n b l&&QB l
def QB:List It->Bool
 | []=>true
 | x::l=>VW x&&QB l
end
mutual
theorem IF:∀(x:It) (d m:Nat),Y3 x d m=if WT x (7-d)=true/\WZ x<=m/\VW x=true then some (m-WZ x) else none
 | .mk k n b l,d,m=>by
  rw[Y3]
  split
  ·rename_i h
   rw[if_neg]
   rintro⟨h1,_⟩
   rw[show 7-d=0 by omega,WT]at h1
   cases h1
  rename_i hd
  rw[show 7-d=(7-(d+1))+1 by omega,WT,WZ,VW]
  split
  ·rename_i h
   rw[if_neg]
   rintro⟨_,h1,_⟩
   omega
  rename_i hm
  cases ho:WD k n b l with
  | false=>
   dsimp only
   rw[if_neg]
   rintro⟨_,_,h1⟩
   simp at h1
  | true=>
   dsimp only
   rw[KW l (d+1) (m-1),Bool.true_and]
   by_cases h:WU l (7-(d+1))=true/\WV l<=m-1/\QB l=true
   ·rw[if_pos h,if_pos ⟨h.1,by omega,h.2.2⟩]
    congr 1;omega
   ·rw[if_neg h,if_neg]
    exact fun⟨a,b,c⟩=>h ⟨a,by omega,c⟩
theorem KW:∀(l:List It) (d m:Nat),YB l d m=if WU l (7-d)=true/\WV l<=m/\QB l=true then some (m-WV l) else none
 | [],d,m=>by rw[YB,if_pos ⟨by rw[WU],by rw[WV];omega,by rw[QB]⟩,WV];rfl
 | x::l,d,m=>by
  rw[YB,IF x d m,WU,WV,QB]
  by_cases h:WT x (7-d)=true/\WZ x<=m/\VW x=true
  ·rw[if_pos h]
   dsimp only
   rw[KW l d (m-WZ x),h.1,h.2.2,Bool.true_and,Bool.true_and]
   by_cases h2:WU l (7-d)=true/\WV l<=m-WZ x/\QB l=true
   ·rw[if_pos h2,if_pos ⟨h2.1,by omega,h2.2.2⟩]
    congr 1;omega
   ·rw[if_neg h2,if_neg]
    exact fun⟨a,b,c⟩=>h2 ⟨a,by omega,c⟩
  ·rw[if_neg h]
   dsimp only
   rw[if_neg]
   rintro⟨a,b,c⟩
   rw[Bool.and_eq_true]at a c
   exact h ⟨a.1,by omega,c.1⟩
end
theorem Qq (x:It):ZN x=(WT x 6&&(decide (WZ x<=256)&&VW x)):=by
 unfold ZN
 rw[IF]
 split
 ·rename_i h
  obtain⟨a,b,c⟩:=h
  rw[show 7-1=6 from rfl]at a
  simp[a,b,c]
 ·rename_i h
  rw[show 7-1=6 from rfl]at h
  show false=_
  cases h2:(WT x 6&&(decide (WZ x<=256)&&VW x)) with
  | false=>rfl
  | true=>
   simp only[Bool.and_eq_true,decide_eq_true_eq]at h2
   exact absurd ⟨h2.1,h2.2.1,h2.2.2⟩ h
mutual
theorem GB:∀(x:It) (d e:Nat),WT x d=true->d<=e->WT x e=true
 | .mk k n b l,0,e,h,_=>by rw[WT]at h;cases h
 | .mk k n b l,d+1,0,h,hle=>by omega
 | .mk k n b l,d+1,e+1,h,hle=>by
  rw[WT]at h ⊢
  exact XU l d e h (by omega)
theorem XU:∀(l:List It) (d e:Nat),WU l d=true->d<=e->WU l e=true
 | [],_,_,_,_=>by rw[WU]
 | x::l,d,e,h,hle=>by
  rw[WU,Bool.and_eq_true]at h ⊢
  exact⟨GB x d e h.1 hle,XU l d e h.2 hle⟩
end
mutual
theorem GC:∀(x:It) (d:Nat) (m:Int),0<=Y8 x d m->(WZ x:Int)=m-Y8 x d m
 | .mk k n b l,d,m,h=>by
  rw[Y8]at h ⊢
  split at h
  ·omega
  split at h
  ·omega
  rename_i h1 h2
  rw[if_neg h1,if_neg h2,WZ]
  have:=J7 l (d+1) (m-1) h
  omega
theorem J7:∀(l:List It) (d:Nat) (m:Int),0<=Ww l d m->(WV l:Int)=m-Ww l d m
 | [],d,m,h=>by rw[Ww,WV];omega
 | x::l,d,m,h=>by
  rw[Ww]at h ⊢
  split at h
  ·omega
  rename_i h1
  rw[if_neg h1,WV]
  have h0:0<=Y8 x d m:=by
   rcases Int.lt_or_le (Y8 x d m) 0 with hlt|hge
   ·have:=Qp l d (Y8 x d m) (by have:=Qo x d m (by omega);omega);omega
   ·exact hge
  have a:=GC x d m h0
  have b:=J7 l d _ h
  omega
end
end Go.Proofs.YtmljabhmajehnaaGreatDoor
end
section
open Go.RowKit Go.Pl Go.Av
namespace Go.Proofs.YtmljabhmajehnaaGreatDoor
set_option maxHeartbeats 4000000
theorem M0 {l l':List It}(h:l.length ≠ l'.length):It.beqs l l'=false:=by
 rw[<- Bool.not_eq_true]
 intro e
 exact h (congrArg List.length (It.beqs_iff.1 e))
theorem VN [Known]:∀(x:It),wfI x->∀ y:It,wfI y->AP Tryz.prog 71 [itD x,itD y] (.bool (It.beq x y)) []:=by
 refine It.ind fun k n b l ih hw y hw'=>?_
 obtain⟨k',n',b',l'⟩:=y
 obtain⟨_,_,hl,hws⟩:=hw
 obtain⟨_,_,hl',hws'⟩:=hw'
 have e1:=Zx l
 have e2:=Zx l'
 rw[It.beq]
 by_cases h1:k=k'
 case neg=>
  have t1:(k != k')=true:=by simpa using h1
  have tt:((k==k')&&((n==n')&&((b==b')&&It.beqs l l')))=false:=by simp[h1]
  rw[tt]
  refine AP.ofA (Zl Tryz.func71 Z Tryz.ntmps71 Z Z ?_)
  repeat'(first|(apply Zi Za;exact Z)|(apply Zf Za;exact Z)|(apply Zp Za;exact Z)|refine Zn Z Z Z Qt ?_|refine Zj Z Qt Z Z ?_|refine Zd Z Qt ?_)
  all_goals exact Qe
 have t1:(k != k')=false:=by simpa using h1
 by_cases h2:n=n'
 case neg=>
  have t2:((n:Int) != (n':Int))=true:=by simp;omega
  have tt:((k==k')&&((n==n')&&((b==b')&&It.beqs l l')))=false:=by simp[h2]
  rw[tt]
  refine AP.ofA (Zl Tryz.func71 Z Tryz.ntmps71 Z Z ?_)
  repeat'(first|(apply Zi Za;exact Z)|(apply Zf Za;exact Z)|(apply Zp Za;exact Z)|refine Ze Z Z Z Qt ?_|refine Zn Z Z Z Qt ?_|refine Zj Z Qt Z Z ?_|refine Zh Z Qt Z Z ?_|refine Zd Z Qt ?_)
  all_goals exact Qe
 have t2:((n:Int) != (n':Int))=false:=by simp;omega
 by_cases h3:b=b'
 case neg=>
  have t3:(b != b')=true:=by simpa using h3
  have tt:((k==k')&&((n==n')&&((b==b')&&It.beqs l l')))=false:=by simp[h3]
  rw[tt]
  refine AP.ofA (Zl Tryz.func71 Z Tryz.ntmps71 Z Z ?_)
  repeat'(first|(apply Zi Za;exact Z)|(apply Zf Za;exact Z)|(apply Zp Za;exact Z)|refine Ze Z Z Z Qt ?_|refine Zn Z Z Z Qt ?_|refine Zj Z Qt Z Z ?_|refine Zh Z Qt Z Z ?_|refine Zd Z Qt ?_|refine WC Za Z Z Z Z Z Z Z Z Z ?_)
  all_goals exact Qe
 have t3:(b != b')=false:=by simpa using h3
 have e:((k==k')&&((n==n')&&((b==b')&&It.beqs l l')))=It.beqs l l':=by simp[h1,h2,h3]
 rw[e]
 by_cases hne:l.length=l'.length
 case neg=>
  have t4:(((Zu l).length:Int) != ((Zu l').length:Int))=true:=by rw[e1,e2];simp;omega
  rw[M0 hne]
  refine AP.ofA (Zl Tryz.func71 Z Tryz.ntmps71 Z Z ?_)
  repeat'(first|(apply Zi Za;exact Z)|(apply Zf Za;exact Z)|(apply Zp Za;exact Z)|refine Ze Z Z Z Qt ?_|refine Zh Z Qt Z Z ?_|refine Zd Z Qt ?_|refine Zm Za Z Z Z Z ?_|refine WC Za Z Z Z Z Z Z Z Z Z ?_)
  all_goals exact Qe
 have t4:(((Zu l).length:Int) != ((Zu l').length:Int))=false:=by rw[e1,e2,hne];simp
 generalize hfin:It.beqs l l'=fin
 have ih':∀ y ∈ l,∀ y' ∈ l',AP Tryz.prog 71 [itD y,itD y'] (.bool (It.beq y y')) []:=fun y hy y' hy'=>ih y hy (Y5 hws y hy) y' (Y5 hws' y' hy')
 clear ih e h1 h2 h3
 refine AP.ofA (Zl Tryz.func71 Z Tryz.ntmps71 Z Z ?_)
 repeat'(first|(apply Zi Za;exact Z)|(apply Zf Za;exact Z)|(apply Zp Za;exact Z)|refine Ze Z Z Z Qt ?_|refine Zh Z Qt Z Z ?_|refine Zg Z Qt ?_|refine Zm Za Z Z Z Z ?_|refine WC Za Z Z Z Z Z Z Z Z Z ?_)
 refine ZQ (fun f tm bx fr=>∃ i:Nat,f+i=l.length/\It.beqs (l.drop i) (l'.drop i)=fin/\tm=[(2,.ptr 0 0),(3,.ptr 1 0),(5,.int .i64 (i:Int)),(4,.bool false)]/\bx=[itC k n b l,itC k' n' b' l']/\fr=[]) (l.length+1) (Lands.mk' (m:=l.length) (Nat.lt_succ_self _) ⟨0,rfl,hfin,rfl,rfl,rfl⟩ ?_ rfl rfl rfl rfl rfl rfl) ?_
 ·exact .cons rfl (.cons rfl (.cons rfl (.cons rfl .nil)))
 rintro f tm bx fr ⟨i,hf,hfin,rfl,rfl,rfl⟩
 have hU:=Yz l
 have hU':=Yz l'
 rcases Nat.lt_or_ge i l.length with hlt|hge
 ·have hdl:decide ((i:Int)<((Zu l).length:Int))=true:=decide_eq_true (by omega)
  obtain⟨⟨k1,n1,b1,l1⟩,hy⟩:∃ y,l[i]?=some y:=⟨_,List.getElem?_eq_getElem hlt⟩
  obtain⟨⟨k2,n2,b2,l2⟩,hy'⟩:∃ y,l'[i]?=some y:=⟨_,List.getElem?_eq_getElem (by omega)⟩
  have hv:(Zu l)[((i:Nat):Int).toNat]?=some (.agg [.int .i64 k1,.int .u64 (n1:Int),.sl (b1.map E.byte),.sl (Zu l1)]):=by
   rw[Int.toNat_natCast,Yk,List.getElem?_map,hy];rfl
  have hv':(Zu l')[((i:Nat):Int).toNat]?=some (.agg [.int .i64 k2,.int .u64 (n2:Int),.sl (b2.map E.byte),.sl (Zu l2)]):=by
   rw[Int.toNat_natCast,Yk,List.getElem?_map,hy'];rfl
  have hc:=ih' _ (List.mem_of_getElem? hy) _ (List.mem_of_getElem? hy')
  have hdr:l.drop i=It.mk k1 n1 b1 l1::l.drop (i+1):=by
   rw[List.drop_eq_getElem_cons hlt];congr 1
   exact(List.getElem?_eq_some_iff.1 hy).2
  have hdr':l'.drop i=It.mk k2 n2 b2 l2::l'.drop (i+1):=by
   rw[List.drop_eq_getElem_cons (by omega)];congr 1
   exact(List.getElem?_eq_some_iff.1 hy').2
  rw[hdr,hdr',It.beqs]at hfin
  have ei:IntKind.i64.wrap ((i:Int)+1)=((i+1:Nat):Int):=by rw[IntWalk.i64_in _ (by omega)];omega
  cases hb:It.beq (.mk k1 n1 b1 l1) (.mk k2 n2 b2 l2) with
  | false=>
   rw[hb]at hfin hc
   subst hfin
   repeat'(first|(apply Zb (hc);kernel_rfl;(iterate 4 exact Z))|(apply Zi Za;exact Z)|(apply Zf Za;exact Z)|(apply Zp Za;exact Z)|refine Zd Z Qt ?_|refine Yy ?_|refine Zm Za Z Z Z Z ?_|(apply ZP 10 ZD;decide +kernel;kernel_rfl;kernel_rfl;exact Z;exact Z)|(apply ZZ;(iterate 3 exact Z))|refine AD.nil _|exact Ym rfl|(apply Zv Za;(iterate 6 exact Z);(first|exact Qt|rotate_left);(first|with_reducible assumption|decide +kernel|exact Z);(first|exact Zk rfl|with_reducible assumption|decide +kernel|rotate_left)))
   all_goals exact Qe
  | true=>
   rw[hb]at hfin hc
   repeat'(first|rw[ei]|(apply Zb (hc);kernel_rfl;(iterate 4 exact Z))|(apply Zi Za;exact Z)|(apply Zf Za;exact Z)|(apply Zp Za;exact Z)|refine Zd Z Qt ?_|refine Zg Z Qt ?_|refine Zm Za Z Z Z Z ?_|(apply ZP 10 ZD;decide +kernel;kernel_rfl;kernel_rfl;exact Z;exact Z)|(apply ZZ;(iterate 3 exact Z))|refine AD.nil _|exact Ym rfl|(apply Zv Za;(iterate 6 exact Z);(first|exact Qt|rotate_left);(first|with_reducible assumption|decide +kernel|exact Z);(first|exact Zk rfl|with_reducible assumption|decide +kernel|rotate_left)))
   refine Lands.mk' (m:=f-1) (by omega) ⟨i+1,by omega,hfin,rfl,rfl,rfl⟩ ?_ rfl rfl rfl rfl rfl rfl
   exact .cons rfl (.cons rfl (.cons rfl (.cons rfl .nil)))
 ·have hdl:decide ((i:Int)<((Zu l).length:Int))=false:=decide_eq_false (by omega)
  rw[List.drop_eq_nil_of_le hge,List.drop_eq_nil_of_le (by omega)]at hfin
  have hfin:true=fin:=hfin
  subst hfin
  repeat'(first|(apply Zi Za;exact Z)|(apply Zf Za;exact Z)|(apply Zp Za;exact Z)|refine Zg Z Qt ?_|refine Zm Za Z Z Z Z ?_)
  all_goals exact Qe
end Go.Proofs.YtmljabhmajehnaaGreatDoor
end

/- Items as the document's; which of these are equal. -/
import Derived.Test.YtmljabhmajehnaaGreatDoorO20
import Derived.Test.YtmljabhmajehnaaGreatDoorO13
import Derived.Test.YtmljabhmajehnaaGreatDoorO16
import Derived.Test.YtmljabhmajehnaaGreatDoorO11
import Derived.Test.YtmljabhmajehnaaGreatDoorO08
import Derived.Laws.RangeAny
import Derived.LoopTactic
import Derived.Test.YtmljabhmajehnaaGreatDoorO10
set_option linter.unusedVariables false
set_option linter.unusedSimpArgs false
section
open Go.RowKit Go.Pl Go.Av
namespace Go.Proofs.YtmljabhmajehnaaGreatDoor
set_option maxHeartbeats 4000000
theorem OV:∀ {l:List It} {d:Nat},YO l d=true->∀ y ∈ l,YV y d=true
 | x::l,d,h,y,hy=>by
  rw[YO,Bool.and_eq_true]at h
  rcases List.mem_cons.1 hy with rfl|hy
  ·exact h.1
  ·exact OV h.2 y hy
theorem SD {l l':List It}(h:l.length ≠ l'.length):It.beqs l l'=false:=by
 rw[<- Bool.not_eq_true]
 intro e
 exact h (congrArg List.length (It.beqs_iff.1 e))
theorem Qh [Known]:∀(x:It),wfI x->∀ y:It,wfI y->AP Tryz.prog 71 [itD x,itD y] (.bool (It.beq x y)) []:=by
 refine It.ind fun k n b l ih hw y hw'=>?_
 obtain⟨k',n',b',l'⟩:=y
 obtain⟨_,_,hl,hws⟩:=hw
 obtain⟨_,_,hl',hws'⟩:=hw'
 have e1:=Zv l
 have e2:=Zv l'
 rw[It.beq]
 by_cases h1:k=k'
 case neg=>
  have t1:(k != k')=true:=by simpa using h1
  have tt:((k==k')&&((n==n')&&((b==b')&&It.beqs l l')))=false:=by simp[h1]
  rw[tt]
  refine AP.ofA (Zl Tryz.func71 U Tryz.ntmps71 U U ?_)
  repeat'(first|(apply Zh Za;exact U)|(apply Zg Za;exact U)|(apply Zo Za;exact U)|refine Zn U U U Qt ?_|refine Zk U Qt U U ?_|refine Zd U Qt ?_)
  all_goals exact Qe
 have t1:(k != k')=false:=by simpa using h1
 by_cases h2:n=n'
 case neg=>
  have t2:((n:Int) != (n':Int))=true:=by simp;omega
  have tt:((k==k')&&((n==n')&&((b==b')&&It.beqs l l')))=false:=by simp[h2]
  rw[tt]
  refine AP.ofA (Zl Tryz.func71 U Tryz.ntmps71 U U ?_)
  repeat'(first|(apply Zh Za;exact U)|(apply Zg Za;exact U)|(apply Zo Za;exact U)|refine Ze U U U Qt ?_|refine Zn U U U Qt ?_|refine Zk U Qt U U ?_|refine Zi U Qt U U ?_|refine Zd U Qt ?_)
  all_goals exact Qe
 have t2:((n:Int) != (n':Int))=false:=by simp;omega
 by_cases h3:b=b'
 case neg=>
  have t3:(b != b')=true:=by simpa using h3
  have tt:((k==k')&&((n==n')&&((b==b')&&It.beqs l l')))=false:=by simp[h3]
  rw[tt]
  refine AP.ofA (Zl Tryz.func71 U Tryz.ntmps71 U U ?_)
  repeat'(first|(apply Zh Za;exact U)|(apply Zg Za;exact U)|(apply Zo Za;exact U)|refine Ze U U U Qt ?_|refine Zn U U U Qt ?_|refine Zk U Qt U U ?_|refine Zi U Qt U U ?_|refine Zd U Qt ?_|refine Vo Za U U U U U U U U U ?_)
  all_goals exact Qe
 have t3:(b != b')=false:=by simpa using h3
 have e:((k==k')&&((n==n')&&((b==b')&&It.beqs l l')))=It.beqs l l':=by simp[h1,h2,h3]
 rw[e]
 by_cases hne:l.length=l'.length
 case neg=>
  have t4:(((Zx l).length:Int) != ((Zx l').length:Int))=true:=by rw[e1,e2];simp;omega
  rw[SD hne]
  refine AP.ofA (Zl Tryz.func71 U Tryz.ntmps71 U U ?_)
  repeat'(first|(apply Zh Za;exact U)|(apply Zg Za;exact U)|(apply Zo Za;exact U)|refine Ze U U U Qt ?_|refine Zi U Qt U U ?_|refine Zd U Qt ?_|refine Zm Za U U U U ?_|refine Vo Za U U U U U U U U U ?_)
  all_goals exact Qe
 have t4:(((Zx l).length:Int) != ((Zx l').length:Int))=false:=by rw[e1,e2,hne];simp
 generalize hfin:It.beqs l l'=fin
 have ih':∀ y ∈ l,∀ y' ∈ l',AP Tryz.prog 71 [itD y,itD y'] (.bool (It.beq y y')) []:=fun y hy y' hy'=>ih y hy (Y8 hws y hy) y' (Y8 hws' y' hy')
 clear ih e h1 h2 h3
 refine AP.ofA (Zl Tryz.func71 U Tryz.ntmps71 U U ?_)
 repeat'(first|(apply Zh Za;exact U)|(apply Zg Za;exact U)|(apply Zo Za;exact U)|refine Ze U U U Qt ?_|refine Zi U Qt U U ?_|refine Zf U Qt ?_|refine Zm Za U U U U ?_|refine Vo Za U U U U U U U U U ?_)
 refine ZJ (fun f tm bx fr=>∃ i:Nat,f+i=l.length/\It.beqs (l.drop i) (l'.drop i)=fin/\tm=[(2,.ptr 0 0),(3,.ptr 1 0),(5,.int .i64 (i:Int)),(4,.bool false)]/\bx=[itC k n b l,itC k' n' b' l']/\fr=[]) (l.length+1) (Lands.mk' (m:=l.length) (Nat.lt_succ_self _) ⟨0,rfl,hfin,rfl,rfl,rfl⟩ ?_ rfl rfl rfl rfl rfl rfl) ?_
 ·exact .cons rfl (.cons rfl (.cons rfl (.cons rfl .nil)))
 rintro f tm bx fr ⟨i,hf,hfin,rfl,rfl,rfl⟩
 have hU:=Wl l
 have hU':=Wl l'
 rcases Nat.lt_or_ge i l.length with hlt|hge
 ·have hdl:decide ((i:Int)<((Zx l).length:Int))=true:=decide_eq_true (by omega)
  obtain⟨⟨k1,n1,b1,l1⟩,hy⟩:∃ y,l[i]?=some y:=⟨_,List.getElem?_eq_getElem hlt⟩
  obtain⟨⟨k2,n2,b2,l2⟩,hy'⟩:∃ y,l'[i]?=some y:=⟨_,List.getElem?_eq_getElem (by omega)⟩
  have hv:(Zx l)[((i:Nat):Int).toNat]?=some (.agg [.int .i64 k1,.int .u64 (n1:Int),.sl (b1.map E.byte),.sl (Zx l1)]):=by
   rw[Int.toNat_natCast,Yj,List.getElem?_map,hy];rfl
  have hv':(Zx l')[((i:Nat):Int).toNat]?=some (.agg [.int .i64 k2,.int .u64 (n2:Int),.sl (b2.map E.byte),.sl (Zx l2)]):=by
   rw[Int.toNat_natCast,Yj,List.getElem?_map,hy'];rfl
  have hc:=ih' _ (List.mem_of_getElem? hy) _ (List.mem_of_getElem? hy')
  have hdr:l.drop i=It.mk k1 n1 b1 l1::l.drop (i+1):=by
   rw[List.drop_eq_getElem_cons hlt];congr 1
   exact(List.getElem?_eq_some_iff.1 hy).2
  have hdr':l'.drop i=It.mk k2 n2 b2 l2::l'.drop (i+1):=by
   rw[List.drop_eq_getElem_cons (by omega)];congr 1
   exact(List.getElem?_eq_some_iff.1 hy').2
  rw[hdr,hdr',It.beqs]at hfin
  have ei:IntKind.i64.wrap ((i:Int)+1)=((i+1:Nat):Int):=by rw[IntWalk.i64_in _ (by omega)];omega
  cases hb:It.beq (.mk k1 n1 b1 l1) (.mk k2 n2 b2 l2) with
  | false=>
   rw[hb]at hfin hc
   subst hfin
   repeat'(first|(apply Zb (hc);kernel_rfl;(iterate 4 exact U))|(apply Zh Za;exact U)|(apply Zg Za;exact U)|(apply Zo Za;exact U)|refine Zd U Qt ?_|refine Z0 ?_|refine Zm Za U U U U ?_|(apply ZY 10 ZF;decide +kernel;kernel_rfl;kernel_rfl;exact U;exact U)|(apply Z8;(iterate 3 exact U))|refine AD.nil _|exact Yu rfl|(apply Zu Za;(iterate 6 exact U);(first|exact Qt|rotate_left);(first|with_reducible assumption|decide +kernel|exact U);(first|exact Zj rfl|with_reducible assumption|decide +kernel|rotate_left)))
   all_goals exact Qe
  | true=>
   rw[hb]at hfin hc
   repeat'(first|rw[ei]|(apply Zb (hc);kernel_rfl;(iterate 4 exact U))|(apply Zh Za;exact U)|(apply Zg Za;exact U)|(apply Zo Za;exact U)|refine Zd U Qt ?_|refine Zf U Qt ?_|refine Zm Za U U U U ?_|(apply ZY 10 ZF;decide +kernel;kernel_rfl;kernel_rfl;exact U;exact U)|(apply Z8;(iterate 3 exact U))|refine AD.nil _|exact Yu rfl|(apply Zu Za;(iterate 6 exact U);(first|exact Qt|rotate_left);(first|with_reducible assumption|decide +kernel|exact U);(first|exact Zj rfl|with_reducible assumption|decide +kernel|rotate_left)))
   refine Lands.mk' (m:=f-1) (by omega) ⟨i+1,by omega,hfin,rfl,rfl,rfl⟩ ?_ rfl rfl rfl rfl rfl rfl
   exact .cons rfl (.cons rfl (.cons rfl (.cons rfl .nil)))
 ·have hdl:decide ((i:Int)<((Zx l).length:Int))=false:=decide_eq_false (by omega)
  rw[List.drop_eq_nil_of_le hge,List.drop_eq_nil_of_le (by omega)]at hfin
  have hfin:true=fin:=hfin
  subst hfin
  repeat'(first|(apply Zh Za;exact U)|(apply Zg Za;exact U)|(apply Zo Za;exact U)|refine Zf U Qt ?_|refine Zm Za U U U U ?_)
  all_goals exact Qe
theorem UN (b:List UInt8)(hb:b.length<4294967296):(∃ e:Nat,e ≠ 0/\Yl b 0=(.mk 0 0 [] [],0,e)/\Wq b=false)\/(∃(y:It) (n:Nat),Yl b 0=(y,n,0)/\wfI y/\ZB y=true/\(ZN y).length<=n/\n<=b.length):=by
 have e:Yl b 0=match ZS 6 256 b with
   | .error e=>(.mk 0 0 [] [],0,e)
   | .ok (x,r,_)=>(x,b.length-r.length,0):=by rw[Yl,if_neg (by omega)];rfl
 unfold Wq
 rw[e]
 cases hx:ZS 6 256 b with
 | error c=>exact .inl ⟨c,Uh _ _ _ _ hx,rfl,rfl⟩
 | ok y=>
  obtain⟨y,r,m1⟩:=y
  obtain⟨hwk,hwf,pre,hpre,_,hlen⟩:=Q8 6 (Nat.le_refl _) _ _ _ _ _ hx (by omega)
  have hle:=hlen ⟨Nat.le_refl _,hb⟩
  have hpl:=congrArg List.length hpre
  rw[List.length_append]at hpl
  refine .inr ⟨y,b.length-r.length,rfl,hwf,?_,by omega,by omega⟩
  have hwk:Y2 y 1 256=some m1:=hwk
  unfold ZB;rw[hwk];rfl
theorem Md [Known](l:List It)(hne:l ≠ [])(hl:l.length<=1000000):AT Tryz.prog 166 [.sl .ext (Zx l)] [] [] (.sl (.own 0) (Zx l)) [] [⟨l.length,4,115⟩]:=by
 have hU:=Wl l
 have hlen:=Zv l
 rw[<- hlen]
 rw[<- hlen]at hl
 have hE:Zx l ≠ []:=fun h=>hne (by rw[h]at hlen;exact List.length_eq_zero_iff.1 hlen.symm)
 refine Zl Tryz.func166 rfl Tryz.ntmps166 rfl rfl ?_
 repeat'(first|(apply IE Za;(iterate 5 exact U);intro b hbn;(have hbn2:=hbn hE);subst hbn2;clear hbn)|(apply Zh Za;exact U)|(apply Zg Za;exact U)|(apply Zo Za;exact U)|(apply Zf;exact U;(first|with_reducible assumption|(solve|simp only[bn])))|refine QE Za U U U U U U U U U U U U ?_|(apply ZR Za;(iterate 6 exact U);(first|with_reducible assumption|exact U|rotate_left);exact U;exact U;(first|exact Zj rfl|with_reducible assumption|rotate_left);(first|exact Zj rfl|with_reducible assumption|rotate_left);(first|exact Qb|rotate_left);(first|exact Qb|rotate_left);(first|exact Qb|rotate_left);exact U;exact U))
 all_goals first|(apply Jz [] [0];(apply Zc Za;exact U);(iterate 7 exact U))|skip
 all_goals first|rfl|(simp at hl ⊢;(try unfold maxLen);omega)|(simp at hl ⊢;done)
theorem LH [Known][KnownU8](x:It)(hw:wfI x):AP Tryz.prog 161 [itD x] (.bool (!ZB x)) []:=by
 have hR:=WH x hw
 obtain⟨k,n,b,l⟩:=x
 refine AP.ofA (Zl Tryz.func161 U Tryz.ntmps161 U U ?_)
 repeat'(first|(apply Zb (hR);kernel_rfl;(iterate 4 exact U))|(apply Zh Za;exact U)|(apply Zg Za;exact U))
 all_goals exact Qe
def fiI:List It->Nat->Int
 | [],_ => -1
 | x::l,i=>match ZB x with|true=>fiI l (i+1)|false=>(i:Int)
theorem LI:∀(l:List It) (i:Nat),decide (fiI l i ≥ 0) = !(l.all ZB)
 | [],_=>rfl
 | x::l,i=>by
  rw[fiI,List.all_cons]
  cases ZB x with
  | true=>simpa using LI l (i+1)
  | false=>simp
theorem SE [Known][KnownU8](l:List It)(hws:wfs l)(hl:l.length<=1000000):AP Tryz.prog 185 [.sl .ext (Zx l),.fn 161 []] (.int .i64 (fiI l 0)) []:=by
 have hlen:=Zv l
 have hU:=Wl l
 generalize hfin:fiI l 0=fin
 refine AP.ofA (Zl Tryz.func185 U Tryz.ntmps185 U U ?_)
 repeat'(first|(apply Zh Za;exact U)|(apply Zg Za;exact U)|refine Zm Za U U U U ?_)
 refine ZJ (fun f tm bx fr=>∃(i:Nat),f+i=l.length/\fiI (l.drop i) i=fin/\tm=[(0,.sl .ext (Zx l)),(1,.fn 161 []),(4,.int .i64 0),(7,.int .i64 ((Zx l).length:Int)),(8,.int .i64 (i:Int))]/\bx=[]/\fr=[]) (l.length+1) (Lands.mk' (m:=l.length) (Nat.lt_succ_self _) ⟨0,by omega,hfin,rfl,rfl,rfl⟩ ?_ rfl rfl rfl rfl rfl rfl) ?_
 ·exact .cons rfl (.cons rfl (.cons rfl (.cons rfl (.cons rfl .nil))))
 rintro f tm bx fr ⟨i,hf,hq,rfl,rfl,rfl⟩
 rcases Nat.lt_or_ge i l.length with hlt|hge
 ·have hdl:decide ((i:Int)<((Zx l).length:Int))=true:=decide_eq_true (by omega)
  obtain⟨⟨k1,n1,b1,l1⟩,hy⟩:∃ y,l[i]?=some y:=⟨_,List.getElem?_eq_getElem hlt⟩
  have hv:(Zx l)[((i:Nat):Int).toNat]?=some (.agg [.int .i64 k1,.int .u64 (n1:Int),.sl (b1.map E.byte),.sl (Zx l1)]):=by
   rw[Int.toNat_natCast,Yj,List.getElem?_map,hy];rfl
  have hc:=LH _ (Y8 hws _ (List.mem_of_getElem? hy))
  have hdr:l.drop i=It.mk k1 n1 b1 l1::l.drop (i+1):=by
   rw[List.drop_eq_getElem_cons hlt];congr 1
   exact(List.getElem?_eq_some_iff.1 hy).2
  rw[hdr,fiI]at hq
  have ei:IntKind.i64.wrap ((i:Int)+1)=((i+1:Nat):Int):=by rw[IntWalk.i64_in _ (by omega)];omega
  cases hb:ZB (.mk k1 n1 b1 l1) with
  | true=>
   rw[hb]at hq hc
   replace hc:AP Tryz.prog _ _ (.bool false) []:=hc
   repeat'(first|rw[ei]|(apply V8 (hc);exact U;kernel_rfl;(iterate 3 exact U))|(apply Zh Za;exact U)|(apply Zg Za;exact U)|(apply Zo Za;exact U)|refine Zd U Qt ?_|refine Zf U Qt ?_|(apply Zu Za;(iterate 6 exact U);(first|exact Qt|rotate_left);(first|with_reducible assumption|decide +kernel|exact U);(first|exact Zj rfl|with_reducible assumption|decide +kernel|rotate_left)))
   refine Lands.mk' (m:=f-1) (by omega) ⟨i+1,by omega,hq,rfl,rfl,rfl⟩ ?_ rfl rfl rfl rfl rfl rfl
   exact .cons rfl (.cons rfl (.cons rfl (.cons rfl (.cons rfl .nil))))
  | false=>
   rw[hb]at hq hc
   replace hc:AP Tryz.prog _ _ (.bool true) []:=hc
   have hq:(i:Int)=fin:=hq
   subst hq
   repeat'(first|(apply V8 (hc);exact U;kernel_rfl;(iterate 3 exact U))|(apply Zh Za;exact U)|(apply Zg Za;exact U)|(apply Zo Za;exact U)|refine Zd U Qt ?_|refine Z0 ?_|(apply Zu Za;(iterate 6 exact U);(first|exact Qt|rotate_left);(first|with_reducible assumption|decide +kernel|exact U);(first|exact Zj rfl|with_reducible assumption|decide +kernel|rotate_left)))
   all_goals exact Qe
 ·have hdl:decide ((i:Int)<((Zx l).length:Int))=false:=decide_eq_false (by omega)
  rw[List.drop_eq_nil_of_le hge]at hq
  have hq:(-1:Int)=fin:=hq
  subst hq
  repeat'(first|(apply Zg Za;exact U)|refine Zf U Qt ?_)
  all_goals exact Qe
theorem LJ [Known][KnownU8](l:List It)(hws:wfs l)(hl:l.length<=1000000):AP Tryz.prog 162 [.sl .ext (Zx l),.fn 161 []] (.bool (!(l.all ZB))) []:=by
 have hI:=SE l hws hl
 rw[<- LI l 0]
 refine AP.ofA (Zl Tryz.func162 U Tryz.ntmps162 U U ?_)
 repeat'(first|(apply Zb (hI);kernel_rfl;(iterate 4 exact U))|(apply Zh Za;exact U)|(apply Zg Za;exact U))
 all_goals exact Qe
def Wn (l:List It)(a:Int):Int:=if a<0 then -1 else match l[a.toNat]? with
 | none => -1
 | some (.mk k n b r)=>match decide ((n:Int)>2) with
  | true => -1
  | false=>match It.beq (.mk k n b r) (.mk 0 n [] []) with
   | true=>(n:Int)
   | false => -1
theorem Me [Known](l:List It)(hws:wfs l)(a:Int):AP Tryz.prog 144 [.sl .ext (Zx l),.int .i64 a] (.int .i64 (Wn l a)) []:=by
 have hlen:=Zv l
 have hU:=Wl l
 unfold Wn
 rcases Int.lt_or_le a 0 with h0|h0
 ·have t1:decide (a<0)=true:=decide_eq_true h0
  rw[if_pos h0]
  refine AP.ofA (Zl Tryz.func144 U Tryz.ntmps144 U U ?_)
  repeat'(first|(apply Zh Za;exact U)|(apply Zg Za;exact U)|(apply Zo Za;exact U)|refine Zn U U U Qt ?_|refine Zk U Qt U U ?_|refine Zd U Qt ?_|(apply Zq 27 ZF;decide +kernel;kernel_rfl;kernel_rfl;kernel_rfl;exact U;exact U)|(apply Zt;(iterate 4 exact U))|exact AE.nil _ _ _ _|(apply Zw;exact U)|(apply Zz;exact U;exact U;decide +kernel;exact U)|(apply ZA;exact U)|exact AO.nil _ _ _|(apply Zs;(decide +kernel))|exact AOs.nil|exact ZI rfl rfl)
  all_goals exact Qe
 have t1:decide (a<0)=false:=decide_eq_false (by omega)
 rw[if_neg (by omega)]
 rcases Int.lt_or_le a l.length with h1|h1
 case inr=>
  have t2:decide (a ≥ ((Zx l).length:Int))=true:=decide_eq_true (by omega)
  rw[List.getElem?_eq_none (by omega)]
  refine AP.ofA (Zl Tryz.func144 U Tryz.ntmps144 U U ?_)
  repeat'(first|(apply Zh Za;exact U)|(apply Zg Za;exact U)|(apply Zo Za;exact U)|refine Ze U U U Qt ?_|refine Zn U U U Qt ?_|refine Zk U Qt U U ?_|refine Zi U Qt U U ?_|refine Zd U Qt ?_|refine Zm Za U U U U ?_|(apply Zq 27 ZF;decide +kernel;kernel_rfl;kernel_rfl;kernel_rfl;exact U;exact U)|(apply Zt;(iterate 4 exact U))|exact AE.nil _ _ _ _|(apply Zw;exact U)|(apply Zz;exact U;exact U;decide +kernel;exact U)|(apply ZA;exact U)|exact AO.nil _ _ _|(apply Zs;(decide +kernel))|exact AOs.nil|exact ZI rfl rfl)
  all_goals exact Qe
 have t2:decide (a ≥ ((Zx l).length:Int))=false:=decide_eq_false (by omega)
 obtain⟨⟨k,n,b,l1⟩,hy⟩:∃ y,l[a.toNat]?=some y:=⟨_,List.getElem?_eq_getElem (by omega)⟩
 have hv:(Zx l)[a.toNat]?=some (.agg [.int .i64 k,.int .u64 (n:Int),.sl (b.map E.byte),.sl (Zx l1)]):=by
  rw[Yj,List.getElem?_map,hy];rfl
 have hw:=Y8 hws _ (List.mem_of_getElem? hy)
 have hS:=Ki (.mk k n b l1) hw (.mk 0 n [] []) (by obtain⟨h1,_⟩:=hw;exact⟨h1,by simp,by simp,trivial⟩)
 have hN:=Wc n
 rw[hy]
 dsimp only
 cases t3:decide ((n:Int)>2) with
 | true=>
  refine AP.ofA (Zl Tryz.func144 U Tryz.ntmps144 U U ?_)
  repeat'(first|(apply Zh Za;exact U)|(apply Zg Za;exact U)|(apply Zo Za;exact U)|refine Ze U U U Qt ?_|refine Zn U U U Qt ?_|refine Zk U Qt U U ?_|refine Zi U Qt U U ?_|refine Zd U Qt ?_|refine Zm Za U U U U ?_|(apply Zq 27 ZF;decide +kernel;kernel_rfl;kernel_rfl;kernel_rfl;exact U;exact U)|(apply Zt;(iterate 4 exact U))|exact AE.nil _ _ _ _|(apply Zw;exact U)|(apply Zz;exact U;exact U;decide +kernel;exact U)|(apply ZA;exact U)|exact AO.nil _ _ _|(apply Zs;(decide +kernel))|exact AOs.nil|exact ZI rfl rfl|(apply Zu Za;(iterate 6 exact U);(first|exact Qt|rotate_left);(first|with_reducible assumption|decide +kernel|exact U);(first|exact Zj rfl|with_reducible assumption|decide +kernel|rotate_left)))
  all_goals exact Qe
 | false=>
  have en:IntKind.i64.wrap (n:Int)=(n:Int):=IntWalk.i64_in _ (by simp at t3;omega)
  cases t4:It.beq (.mk k n b l1) (.mk 0 n [] []) with
  | true=>
   rw[t4]at hS
   refine AP.ofA (Zl Tryz.func144 U Tryz.ntmps144 U U ?_)
   repeat'(first|(apply Zb (hN);kernel_rfl;(iterate 4 exact U))|(apply Zb (hS);kernel_rfl;(iterate 4 exact U))|rw[en]|(apply Zh Za;exact U)|(apply Zg Za;exact U)|(apply Zo Za;exact U)|refine Ze U U U Qt ?_|refine Zi U Qt U U ?_|refine Zf U Qt ?_|refine Zm Za U U U U ?_|(apply Zq 27 ZF;decide +kernel;kernel_rfl;kernel_rfl;kernel_rfl;exact U;exact U)|(apply Zt;(iterate 4 exact U))|exact AE.nil _ _ _ _|(apply Zw;exact U)|(apply Zz;exact U;exact U;decide +kernel;exact U)|(apply ZA;exact U)|exact AO.nil _ _ _|(apply Zs;(decide +kernel))|exact AOs.nil|exact ZI rfl rfl|(apply Zu Za;(iterate 6 exact U);(first|exact Qt|rotate_left);(first|with_reducible assumption|decide +kernel|exact U);(first|exact Zj rfl|with_reducible assumption|decide +kernel|rotate_left)))
   all_goals exact Qe
  | false=>
   rw[t4]at hS
   refine AP.ofA (Zl Tryz.func144 U Tryz.ntmps144 U U ?_)
   repeat'(first|(apply Zb (hN);kernel_rfl;(iterate 4 exact U))|(apply Zb (hS);kernel_rfl;(iterate 4 exact U))|(apply Zh Za;exact U)|(apply Zg Za;exact U)|(apply Zo Za;exact U)|refine Ze U U U Qt ?_|refine Zi U Qt U U ?_|refine Zd U Qt ?_|refine Zm Za U U U U ?_|(apply Zq 27 ZF;decide +kernel;kernel_rfl;kernel_rfl;kernel_rfl;exact U;exact U)|(apply Zt;(iterate 4 exact U))|exact AE.nil _ _ _ _|(apply Zw;exact U)|(apply Zz;exact U;exact U;decide +kernel;exact U)|(apply ZA;exact U)|exact AO.nil _ _ _|(apply Zs;(decide +kernel))|exact AOs.nil|exact ZI rfl rfl|(apply Zu Za;(iterate 6 exact U);(first|exact Qt|rotate_left);(first|with_reducible assumption|decide +kernel|exact U);(first|exact Zj rfl|with_reducible assumption|decide +kernel|rotate_left)))
   all_goals exact Qe
def okB (m:Nat)(c:UInt8):Bool:=(97<=c.toNat&&c.toNat<=122)||(48<=c.toNat&&c.toNat<=57)||c.toNat==45||c.toNat==m
theorem Ui {m:Nat}{c:UInt8}:okB m c=true ↔ (97<=(c.toNat:Int)/\(c.toNat:Int)<=122)\/(48<=(c.toNat:Int)/\(c.toNat:Int)<=57)\/(c.toNat:Int)=45\/(c.toNat:Int)=(m:Int):=by
 simp only[okB,Bool.or_eq_true,Bool.and_eq_true,decide_eq_true_eq,beq_iff_eq]
 omega
theorem Te (s:ByteArray)(m:Nat)(hm:m<128)(w:World)(B:Bool)(hB:s.data.toList.all (okB m)=B) :
  Calls Tryz.prog 98 #[.string s,.int .i32 (m:Int)] w fun e w'=>e=.returned (.bool B)/\Below w.heap.size w w':=by
 have hT:(∀ j,j<s.size->∀ c,s.data.toList[j]?=some c->okB m c=true)->B=true:=fun h=>by
  rw[<- hB,List.all_eq_true]
  intro x hx
  obtain⟨j,hj⟩:=List.getElem?_of_mem hx
  have hlt:=(List.getElem?_eq_some_iff.1 hj).1
  exact h j (by simpa using hlt) x hj
 have hF:∀(j:Nat) (c:UInt8),s.data.toList[j]?=some c->¬ okB m c=true->B=false:=fun j c hj hc=>by
  rw[<- hB,List.all_eq_false]
  exact⟨c,List.mem_of_getElem? hj,hc⟩
 clear hB
 go_enter Tryz.func98,Tryz.ntmps98
 go_wp2
 go_loopw [] (fun w'=>∃ pos,w'=w.iter s pos/\pos<=s.size/\Hid (∀ j,j<pos->∀ c,s.data.toList[j]?=some c->okB m c=true)) (fun w'=>s.size-w'.iterPos w.heap.size)
 case atStart=>exact⟨0,rfl,Nat.zero_le _,fun j hj=>by omega⟩
 case round=>
  obtain⟨pos,rfl,hps,hall⟩:=hrel
  have hb:∀ p,Below w.heap.size w (w.iter s p):=fun p=>(Below.refl _ _).alloc (Nat.le_refl _) _
  by_cases hp:pos<s.size
  ·have hget:s.data.toList[pos]?=some (s[pos]'hp):=by
    have hlt:pos<s.data.toList.length:=by simpa using hp
    rw[List.getElem?_eq_getElem hlt];rfl
   by_cases ha:(s[pos]'hp).toNat<128
   ·obtain⟨c,hc⟩:∃ c,c=s[pos]'hp:=⟨_,rfl⟩
    have hnx:∀ ty,(Instr.next (.pointer (some ⟨w.heap.size,0,none⟩)) true ty).run Tryz.prog (w.iter s pos)=.ok (.tuple #[.bool true,.int .i64 pos,.int .i32 (c.toNat:Int)]) (w.iter s (pos+1)):=fun ty=>by
     rw[hc];exact run_next_ascii w s pos ty hp ha
    rw[<- hc]at hget ha
    clear hc
    have hbad:=hid (hF pos c hget)
    have hstep:Hid (okB m c=true->∀ j,j<pos+1->∀ c,s.data.toList[j]?=some c->okB m c=true):=fun hc j hj c' hj'=>by
     rcases Nat.lt_or_ge j pos with h|h
     ·exact hall j h c' hj'
     ·have:j=pos:=by omega
      subst this
      rw[hget]at hj'
      injection hj' with hj'
      subst hj'
      exact hc
    clear hT hF hget
    go_wp2
    all_goals first
     | (go_ret
        have hBf:=hbad (fun h=>by rw[Ui]at h;clear hbad hstep hnx;(try simp only[bne_iff_ne,ne_eq,bne_eq_false_iff_eq]at *);omega)
        subst hBf
        exact⟨rfl,hb _⟩)
     | (refine⟨⟨pos+1,rfl,by omega,hstep ?_⟩,?_⟩
        ·rw[Ui]
         clear hbad hstep hnx
         try simp only[bne_iff_ne,ne_eq,bne_eq_false_iff_eq]at *
         omega
        ·simp;omega)
   ·obtain⟨hd1,hd2⟩:=decode_high s pos hp (by omega)
    have hle:=decode_le s pos
    have hnx:∀ ty,(Instr.next (.pointer (some ⟨w.heap.size,0,none⟩)) true ty).run Tryz.prog (w.iter s pos)=_:=fun ty=>run_next_any w s pos ty hp
    have hBf:=hF pos _ hget (fun h=>by rw[Ui]at h;omega)
    clear hT hF hget
    subst hBf
    generalize Utf8.decode s pos=dd at hd1 hd2 hle hnx
    have n1:¬ ((dd.1:Int)<97):=by omega
    have n2:((dd.1:Int)>122):=by omega
    have n3:¬ ((dd.1:Int)<48):=by omega
    have n4:((dd.1:Int)>57):=by omega
    have n5:¬ ((dd.1:Int)=45):=by omega
    have n6:¬ ((dd.1:Int)=(m:Int)):=by omega
    go_wp2
    all_goals first
     | (go_ret;exact⟨rfl,hb _⟩)
     | (exfalso;clear hnx hb hall;(try simp only[bne_iff_ne,ne_eq,bne_eq_false_iff_eq]at *);omega)
  ·have hnx:∀ ty,(Instr.next (.pointer (some ⟨w.heap.size,0,none⟩)) true ty).run Tryz.prog (w.iter s pos)=_:=fun ty=>run_next_end w s pos ty hp
   have hBt:=hT (fun j hj=>hall j (by omega))
   subst hBt
   go_wp2
   go_ret
   exact⟨rfl,hb _⟩
theorem GU [Known](s:List UInt8)(m:Nat)(hm:m<128):AP Tryz.prog 98 [.str s,.int .i32 (m:Int)] (.bool (s.all (okB m))) []:=by
 refine⟨fun g w vs hmem hl hv=>?_⟩
 obtain⟨v0,v1,rfl⟩:∃ v0 v1,vs=[v0,v1]:=by
  match vs,hl with
  | [v0,v1],_=>exact⟨v0,v1,rfl⟩
 have h0:=(hv 0 _ _ rfl rfl).str_inv.1
 have h1:=(hv 1 _ _ rfl rfl).int_inv
 subst h0 h1
 exact(Te ⟨s.toArray⟩ m hm w _ rfl).mono fun e w' ⟨he,hb⟩=>Gt hmem hb he (.bool _)
structure EidV where
 i:Bool
 n:Nat
 s:Nat
 h:List UInt8
 d:List UInt8
 deriving DecidableEq
abbrev eC (x:EidV):List D:=[.bool x.i,.int .u64 (x.n:Int),.int .u64 (x.s:Int),.str x.h,.str x.d]
def Wm:EidV:=⟨false,0,0,[],[]⟩
def isZ (x:EidV):Bool:=x.i==false&&((x.n:Int)==0&&((x.s:Int)==0&&(x.h==[]&&(x.d==[]&&true))))
def ZE (x:EidV):Bool:=
 if isZ x then true
 else if x.i then(x.i==true&&((x.n:Int)==(x.n:Int)&&((x.s:Int)==(x.s:Int)&&(x.h==[]&&(x.d==[]&&true)))))&&decide ((x.n:Int) ≥ 1)&&decide ((x.n:Int)<=4294967295)&&decide ((x.s:Int)<=4294967295)
 else(x.i==false&&((x.n:Int)==0&&((x.s:Int)==0&&(x.h==x.h&&(x.d==x.d&&true)))))&&decide ((x.h.length:Int) ≥ 1)&&decide ((x.h.length:Int)<=16)&&decide ((x.d.length:Int)<=24)&&x.h.all (okB 45)&&x.d.all (okB 47)
theorem KO {x:EidV}(h:isZ x=true):ZE x=true:=by unfold ZE;rw[if_pos h]
theorem KP {x:EidV}(h:isZ x=false)(hi:x.i=true):ZE x=((x.i==true&&((x.n:Int)==(x.n:Int)&&((x.s:Int)==(x.s:Int)&&(x.h==[]&&(x.d==[]&&true)))))&&decide ((x.n:Int) ≥ 1)&&decide ((x.n:Int)<=4294967295)&&decide ((x.s:Int)<=4294967295)):=by
 unfold ZE;rw[if_neg (by rw[h];decide),if_pos hi]
theorem KQ {x:EidV}(h:isZ x=false)(hi:x.i=false):ZE x=((x.i==false&&((x.n:Int)==0&&((x.s:Int)==0&&(x.h==x.h&&(x.d==x.d&&true)))))&&decide ((x.h.length:Int) ≥ 1)&&decide ((x.h.length:Int)<=16)&&decide ((x.d.length:Int)<=24)&&x.h.all (okB 45)&&x.d.all (okB 47)):=by
 unfold ZE;rw[if_neg (by rw[h];decide),if_neg (by rw[hi];decide)]
theorem VI [Known](x:EidV):AP Tryz.prog 51 [.agg (eC x)] (.bool (ZE x)) []:=by
 refine AP.ofA (Zl Tryz.func51 U Tryz.ntmps51 U U ?_)
 cases hz:isZ x with
 | true=>
  rw[KO hz]
  unfold isZ at hz
  repeat'(first|(apply Zh Za;exact U)|(apply Zg Za;exact U)|(apply Zo Za;exact U)|(apply Zd;exact U;(first|with_reducible assumption|(solve|simp only[bn])))|refine W1 Za U U U U Qk Qk U U U ?_)
  (apply Zp [];(apply Zc Za;exact U);(iterate 4 exact U))
  all_goals rfl
 | false=>
  cases hi:x.i with
  | true=>
   rw[KP hz hi]
   unfold isZ at hz
   repeat'(first|(apply Zh Za;exact U)|(apply Zg Za;exact U)|(apply Zo Za;exact U)|(apply Ze;(iterate 3 exact U);(first|with_reducible assumption|(solve|simp only[bn])))|(apply Zr;(iterate 3 exact U);(first|with_reducible assumption|(solve|simp only[bn])))|(apply Ys;exact U;exact U;all_goals intro hb)|(apply Zk;exact U;(first|with_reducible assumption|(solve|simp only[bn]));exact U;exact U)|(apply Zi;exact U;(first|with_reducible assumption|(solve|simp only[bn]));exact U;exact U)|(apply Zd;exact U;(first|with_reducible assumption|(solve|simp only[bn])))|(apply Zf;exact U;(first|with_reducible assumption|(solve|simp only[bn])))|refine W1 Za U U U U Qk Qk U U U ?_)
   all_goals(apply Zp [];(apply Zc Za;exact U);(iterate 4 exact U))
   all_goals first|rfl|(clear hi hz;simp only[*];done)|(clear hi hz;simp only[*];simp only[Bool.and_true,Bool.true_and,Bool.and_false,Bool.false_and];done)
  | false=>
   rw[KQ hz hi]
   unfold isZ at hz
   repeat'(first|(apply Zb (GU x.h 45 (by decide));kernel_rfl;(iterate 4 exact U))|(apply Zb (GU x.d 47 (by decide));kernel_rfl;(iterate 4 exact U))|(apply Zh Za;exact U)|(apply Zg Za;exact U)|(apply Zo Za;exact U)|(apply Ze;(iterate 3 exact U);(first|with_reducible assumption|(solve|simp only[bn])))|(apply Zr;(iterate 3 exact U);(first|with_reducible assumption|(solve|simp only[bn])))|(apply Ys;exact U;exact U;all_goals intro hb)|(apply Zk;exact U;(first|with_reducible assumption|(solve|simp only[bn]));exact U;exact U)|(apply Zi;exact U;(first|with_reducible assumption|(solve|simp only[bn]));exact U;exact U)|(apply Zf;exact U;(first|with_reducible assumption|(solve|simp only[bn])))|refine Yh Za U U U U ?_|refine W1 Za U U U U Qk Qk U U U ?_)
   all_goals(apply Zp [];(apply Zc Za;exact U);(iterate 4 exact U))
   all_goals first|rfl|(clear hi hz;simp only[*];done)|(clear hi hz;simp only[*];simp only[Bool.and_true,Bool.true_and,Bool.and_false,Bool.false_and];done)
abbrev SF (s:Int):Int:=s.fdiv (2 ^ (min (Int.toNat 1) IntKind.u32.bits))
def VJ (s p:Int):Int:=match(bits .and .u32 s 1==1) with
 | true=>bits .xor .u32 (SF s) p
 | false=>SF s
theorem LK [Known](s p:Int):AP Tryz.prog 200 [.int .u32 s,.int .u32 p] (.int .u32 (VJ s p)) []:=by
 unfold VJ
 cases t:(bits .and .u32 s 1==1)
 all_goals
  refine AP.ofA (Zl Tryz.func200 U Tryz.ntmps200 U U ?_)
  repeat'(first|(apply Zh Za;exact U)|(apply Zg Za;exact U)|refine Zd U Qt ?_|refine Zf U Qt ?_|(apply YI;exact U;exact U;(first|exact Qt|rotate_left);exact U))
  all_goals exact Qe
def GV (s:Int)(c:UInt8)(p:Int):Int:=
 VJ (VJ (VJ (VJ (VJ (VJ (VJ (VJ (bits .xor .u32 s (IntKind.u32.wrap (c.toNat:Int))) p) p) p) p) p) p) p) p
theorem Mf [Known](s p:Int)(c:UInt8):AP Tryz.prog 196 [.int .u32 s,.int .u8 (c.toNat:Int),.int .u32 p] (.int .u32 (GV s c p)) []:=by
 refine AP.ofA (Zl Tryz.func196 U Tryz.ntmps196 U U ?_)
 repeat'(first|(apply Zb (LK _ _);kernel_rfl;(iterate 4 exact U))|refine Yo 20 ?_|refine YH ?_|(apply Zh Za;exact U)|(apply Zg Za;exact U)|refine Zd U Qt ?_|refine Zf U Qt ?_)
 all_goals exact Qe
def IN (s p:Int)(b:List UInt8):Int:=b.foldl (fun s c=>GV s c p) s
theorem LM [Known](s p:Int)(b:List UInt8)(hb:b.length<=1000000000):AP Tryz.prog 188 [.int .u32 s,byE b,.int .u32 p] (.int .u32 (IN s p b)) []:=by
 have hl:(b.map E.byte).length=b.length:=List.length_map ..
 have hU:=Ym b
 generalize hfin:IN s p b=fin
 refine AP.ofA (Zl Tryz.func188 U Tryz.ntmps188 U U ?_)
 repeat'(first|(apply Zh Za;exact U)|(apply Zg Za;exact U)|refine Zm Za U U U U ?_)
 refine ZJ (fun k tm bx fr=>∃(i:Nat) (q:Int) (o:D),k+i=b.length/\IN q p (b.drop i)=fin/\tm=[(0,.int .u32 q),(1,byE b),(2,.int .u32 p),(6,.int .u32 0),(9,byE b),(10,.int .i64 (b.length:Int)),(11,.int .i64 (i:Int))]/\bx=[]/\fr=[]) (b.length+1) (Lands.mk' (m:=b.length) (Nat.lt_succ_self _) ⟨0,s,.tup [],by omega,hfin,rfl,rfl,rfl⟩ ?_ rfl rfl rfl rfl rfl rfl) ?_
 ·exact .cons rfl (.cons rfl (.cons rfl (.cons rfl (.cons rfl (.cons (by rw[<- hl];rfl) (.cons rfl .nil))))))
 rintro k tm bx fr ⟨i,q,o,hk,hq,rfl,rfl,rfl⟩
 rcases Nat.lt_or_ge i b.length with hlt|hge
 ·have hd:decide ((i:Int)<(b.length:Int))=true:=decide_eq_true (by omega)
  obtain⟨c,hc⟩:∃ c,b[i]?=some c:=⟨_,List.getElem?_eq_getElem hlt⟩
  have hv:(b.map E.byte)[((i:Nat):Int).toNat]?=some (E.byte c):=by
   rw[Int.toNat_natCast,List.getElem?_map,hc];rfl
  have hdr:b.drop i=c::b.drop (i+1):=by
   rw[List.drop_eq_getElem_cons hlt];congr 1
   exact(List.getElem?_eq_some_iff.1 hc).2
  rw[hdr]at hq
  have hq2:IN (GV q c p) p (b.drop (i+1))=fin:=hq
  have ei:IntKind.i64.wrap ((i:Int)+1)=((i+1:Nat):Int):=by rw[IntWalk.i64_in _ (by omega)];omega
  repeat'(first|(apply Zb (Mf _ _ _);kernel_rfl;(iterate 4 exact U))|rw[ei]|(apply Zh Za;exact U)|(apply Zg Za;exact U)|refine Zd U Qt ?_|(apply Zu Za;(iterate 6 exact U);(first|exact Qt|rotate_left);(first|with_reducible assumption|decide +kernel|exact U);(first|exact Zj rfl|with_reducible assumption|decide +kernel|rotate_left)))
  refine Lands.mk' (m:=k-1) (by omega) ⟨i+1,_,.tup [],by omega,hq2,rfl,rfl,rfl⟩ ?_ rfl rfl rfl rfl rfl rfl
  exact .cons rfl (.cons rfl (.cons rfl (.cons rfl (.cons rfl (.cons rfl (.cons rfl .nil))))))
 ·have hd:decide ((i:Int)<(b.length:Int))=false:=decide_eq_false (by omega)
  rw[List.drop_eq_nil_of_le hge]at hq
  have hq:q=fin:=hq
  subst hq
  repeat'(first|(apply Zg Za;exact U)|refine Zf U Qt ?_)
  all_goals exact Qe
def Qi (b:List UInt8):Int:=bits .xor .u16 (if IntKind.u16.signed then -1 else IntKind.u16.max) (IntKind.u16.wrap (IN 65535 33800 b))
def UO (b:List UInt8):Int:=bits .xor .u32 (if IntKind.u32.signed then -1 else IntKind.u32.max) (IN 4294967295 2197175160 b)
theorem LN [Known](b:List UInt8)(hb:b.length<=1000000000):AP Tryz.prog 167 [byE b] (.int .u16 (Qi b)) []:=by
 have hR:=LM 65535 33800 b hb
 refine AP.ofA (Zl Tryz.func167 U Tryz.ntmps167 U U ?_)
 repeat'(first|(apply Zb (hR);kernel_rfl;(iterate 4 exact U))|refine Lq U U ?_|(apply Zh Za;exact U)|(apply Zg Za;exact U))
 all_goals exact Qe
theorem SG [Known](b:List UInt8)(hb:b.length<=1000000000):AP Tryz.prog 168 [byE b] (.int .u32 (UO b)) []:=by
 have hR:=LM 4294967295 2197175160 b hb
 refine AP.ofA (Zl Tryz.func168 U Tryz.ntmps168 U U ?_)
 repeat'(first|(apply Zb (hR);kernel_rfl;(iterate 4 exact U))|refine Lq U U ?_|(apply Zh Za;exact U)|(apply Zg Za;exact U))
 all_goals exact Qe
end Go.Proofs.YtmljabhmajehnaaGreatDoor
end

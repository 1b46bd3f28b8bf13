/- The document's answers for names: the name of any text. -/
import Derived.Test.YtmljabhmajehnaaGreatDoorO36
import Derived.Test.YtmljabhmajehnaaGreatDoorO23
import Derived.Test.YtmljabhmajehnaaGreatDoorO26
import Derived.Test.YtmljabhmajehnaaGreatDoorO27
import Derived.Test.YtmljabhmajehnaaGreatDoorO21
import Derived.Test.YtmljabhmajehnaaGreatDoorO25
set_option linter.unusedVariables false
set_option linter.unusedSimpArgs false
section
open Go.RowKit Go.Pl Go.Av
namespace Go.Proofs.YtmljabhmajehnaaGreatDoor
set_option maxHeartbeats 4000000
theorem Hv {c:UInt8}(h:c ≠ 47):c.toNat ≠ 47:=fun e=>h (UInt8.toNat_inj.1 (by rw[e];rfl))
theorem Hw {s:List UInt8}{c:EidV}(h0:s ≠ Ut)(hc:(Yc s).2=true->c=(Yc s).1){i:Bool}{n q:Nat}{h d:List UInt8}(ec:c=⟨i,n,q,h,d⟩):K3 (decide (YT c<1)) (WT c != s) i n q h d=JH s:=by
 cases hk:decide (YT c<1) with
 | true=>rw[U0 (B6 h0 hc hk)];cases(WT c != s)<;>rfl
 | false=>
  cases ht:(WT c != s) with
  | true=>rw[U0 (B7 hc ht)];rfl
  | false=>rw[K2 (B8 hk ht),ec]
theorem JJ {c:EidV}(h:decide (YT c<1)=false):ZE c=true:=by
 rw[Kn,Bool.or_eq_false_iff]at h
 simpa using h.1
theorem Hx [Known](s:List UInt8)(hs:s.length<=1099511627776):AP Tryz.prog 152 [.str s] (JH s) []:=by
 cases h0:(s==Ut) with
 | true=>
  have e:Yc s=(Wm,true):=by unfold Yc;rw[if_pos h0]
  rw[K2 e]
  exact Fz s h0
 | false=>
  have hne:s ≠ Ut:=by simpa using h0
  by_cases hI:∃ r,r ≠ []/\s=Vw++r
  ·obtain⟨r,hr,rfl⟩:=hI
   have hl:(Vw++r).length=4+r.length:=by simp[Vw];omega
   have hrl:0<r.length:=List.length_pos_iff.2 hr
   have hn:=Hu 11 0 r
   have hC1:=Ii (Vw++r) 4 (by omega) (by omega)
   have ed:(Vw++r).drop 4=r:=rfl
   rw[ed]at hC1
   have hK:=WZ (X4 r) ⟨by simp[X4],by simp[X4]⟩
   rw[<- Hw hne Ro (show X4 r=⟨true,_,_,[],[]⟩ from rfl)]
   refine FB (Vw++r) (Wu 11 0 r).1 (if 4+(Wu 11 0 r).2<4+r.length then(Wu 11 0 (r.drop ((Wu 11 0 r).2+1))).1 else 0) (4+(Wu 11 0 r).2) ((4+(Wu 11 0 r).2+1)+(Wu 11 0 (r.drop ((Wu 11 0 r).2+1))).2) (YT (X4 r)) (WT (X4 r)) (decide (4+(Wu 11 0 r).2<4+r.length)) _ _ h0 (decide_eq_true (by omega)) (by omega) rfl hC1 (by rw[hl];simp only[Int.ofNat_lt]) (by rw[IntWalk.i64_in _ (by omega)];omega) (fun hz=>?_) (fun hz=>if_neg (of_decide_eq_false hz)) hK rfl (fun hz=>JI _ (JJ hz)) rfl
   have hz:=of_decide_eq_true hz
   rw[if_pos hz]
   have hC2:=Ii (Vw++r) (4+(Wu 11 0 r).2+1) (by omega) (by omega)
   have ed2:(Vw++r).drop (4+(Wu 11 0 r).2+1)=r.drop ((Wu 11 0 r).2+1):=by
    rw[show 4+(Wu 11 0 r).2+1=4+((Wu 11 0 r).2+1) by omega,<- List.drop_drop,ed]
   rw[ed2]at hC2
   exact hC2
  ·by_cases hT:∃ r,r ≠ []/\s=[100,116,110,58,47,47]++r
   ·obtain⟨r,hr,rfl⟩:=hT
    have hl:([100,116,110,58,47,47]++r:List UInt8).length=6+r.length:=by simp;omega
    have hrl:0<r.length:=List.length_pos_iff.2 hr
    have ed:([100,116,110,58,47,47]++r:List UInt8).drop 6=r:=rfl
    have eg:∀ i,([100,116,110,58,47,47]++r:List UInt8)[6+i]?=r[i]? := fun i=>by rw[<- List.getElem?_drop,ed]
    rcases Xw 47 r with hno|⟨a,b,rfl,hno⟩
    ·have hK:=WZ ⟨false,0,0,r,[]⟩ ⟨by show r.length<=_;omega,by simp⟩
     have h:=D2 ([100,116,110,58,47,47]++r) (6+r.length) r [] (YT ⟨false,0,0,r,[]⟩) (WT ⟨false,0,0,r,[]⟩) _ _ h0 (by omega) (decide_eq_true (by omega)) (by omega) rfl (decide_eq_true (by omega)) (by omega) rfl (by omega) (by omega)
      (fun i h6 hi=>by
       obtain⟨j,rfl⟩:∃ j,i=6+j:=⟨i-6,by omega⟩
       rw[eg]
       have hj:j<r.length:=by omega
       exact⟨r[j],List.getElem?_eq_getElem hj,Hv fun e=>hno (e ▸ List.getElem_mem hj)⟩)
      (fun h=>by omega) (by rw[List.take_of_length_le (by omega),ed]) (List.drop_of_length_le (by omega)) hK rfl (fun hz=>JI _ (JJ hz)) rfl
     rw[if_neg (by omega)]at h
     rw[U0 (Ht hne (fun r' hr' e=>hI ⟨r',hr',e⟩) (fun h d hh e=>hno (by rw[List.append_cancel_left e];simp)))]
     exact h
    ·have hal:(a++47::b).length=a.length+(b.length+1):=by simp
     have hK:=WZ ⟨false,0,0,a,b⟩ ⟨by show a.length<=_;omega,by show b.length<=_;omega⟩
     have h:=D2 ([100,116,110,58,47,47]++(a++47::b)) (6+a.length) a b (YT ⟨false,0,0,a,b⟩) (WT ⟨false,0,0,a,b⟩) _ _ h0 (by omega) (decide_eq_true (by omega)) (by omega) rfl (decide_eq_true (by omega)) (by omega) rfl (by omega) (by omega)
      (fun i h6 hi=>by
       obtain⟨j,rfl⟩:∃ j,i=6+j:=⟨i-6,by omega⟩
       rw[eg]
       have hj:j<a.length:=by omega
       exact⟨a[j],by rw[List.getElem?_append_left hj,List.getElem?_eq_getElem hj],Hv fun e=>hno (e ▸ List.getElem_mem hj)⟩)
      (fun h=>⟨47,by rw[eg,List.getElem?_append_right (Nat.le_refl _),Nat.sub_self];rfl,rfl⟩)
      (by
       have e:([100,116,110,58,47,47]++(a++47::b):List UInt8).take (6+a.length)=[100,116,110,58,47,47]++a:=by
        rw[<- List.append_assoc,List.take_append_of_le_length (by simp;omega),List.take_of_length_le (by simp;omega)]
       rw[e];rfl)
      (by
       have e:([100,116,110,58,47,47]++(a++47::b):List UInt8).drop (6+(a.length+1))=(a++47::b).drop (a.length+1):=by rw[<- List.drop_drop,ed]
       rw[show 6+a.length+1=6+(a.length+1) by omega,e,List.drop_append,List.drop_of_length_le (by omega)];simp)
      hK rfl (fun hz=>JI _ (JJ hz)) rfl
     rw[if_pos (by omega)]at h
     rw[<- Hw hne (Rp hno) rfl]
     exact h
   ·have hpn:=Ht hne (fun r' hr' e=>hI ⟨r',hr',e⟩) (fun h d hh e=>hT ⟨_,by simp,e⟩)
    rw[U0 hpn]
    have hK:=WZ Wm ⟨by decide,by decide⟩
    refine FA s h0 ?_ ?_ hK
    ·rcases Nat.lt_or_ge 4 s.length with h4|h4
     ·refine .inr ⟨decide_eq_true (by omega),by omega,?_⟩
      cases hb:((s.take (Int.toNat 4)).drop 0==[105,112,110,58]) with
      | false=>rfl
      | true=>
       have e:s.take 4=Vw:=beq_iff_eq.1 hb
       refine absurd ⟨s.drop 4,?_,?_⟩ hI
       ·intro hn;have:=congrArg List.length hn;simp at this;omega
       ·rw[<- e,List.take_append_drop]
     ·exact .inl (decide_eq_false (by omega))
    ·rcases Nat.lt_or_ge 6 s.length with h4|h4
     ·refine .inr ⟨decide_eq_true (by omega),by omega,?_⟩
      cases hb:((s.take (Int.toNat 6)).drop 0==[100,116,110,58,47,47]) with
      | false=>rfl
      | true=>
       have e:s.take 6=[100,116,110,58,47,47]:=beq_iff_eq.1 hb
       refine absurd ⟨s.drop 6,?_,?_⟩ hT
       ·intro hn;have:=congrArg List.length hn;simp at this;omega
       ·rw[<- e,List.take_append_drop]
     ·exact .inl (decide_eq_false (by omega))
theorem Ub [Known](n:Nat):AP Tryz.prog 129 [.int .u64 (n:Int)] (.agg [.int .i64 0,.int .u64 (n:Int),.sl .ext [],.sl .ext []]) []:=by
 refine AP.ofA (Zl Tryz.func129 U Tryz.ntmps129 U U ?_)
 repeat'(first|(apply Zg Za;exact U))
 all_goals exact Qe
theorem Wh [Known](x:EidV)(h:ZE x=true):AP Tryz.prog 90 [.agg (eC x)] (itD (ZW x)) []:=by
 have hK:=WZ x (XH h)
 unfold ZW
 cases hz:isZ x with
 | true=>
  rw[Rq hz]at hK
  rw[if_pos rfl]
  have n1:=Ub 1
  have n0:=Ub 0
  replace n1:AP Tryz.prog _ [.int .u64 1] (.agg [.int .i64 0,.int .u64 1,.sl .ext [],.sl .ext []]) []:=n1
  replace n0:AP Tryz.prog _ [.int .u64 0] (.agg [.int .i64 0,.int .u64 0,.sl .ext [],.sl .ext []]) []:=n0
  refine AP.ofA (Zl Tryz.func90 U Tryz.ntmps90 U U ?_)
  repeat'(first|(apply Zb (hK);kernel_rfl;(iterate 4 exact U))|(apply Zb (n1);kernel_rfl;(iterate 4 exact U))|(apply Zb (n0);kernel_rfl;(iterate 4 exact U))|(apply Zh Za;exact U)|(apply Zg Za;exact U)|refine Zd U Qt ?_|refine ZO Za U U U U U U U U U U U U ?_)
  all_goals exact Qe
 | false=>
  rw[if_neg (by simp)]
  cases hi:x.i with
  | true=>
   obtain⟨b1,b2,_⟩:=Wx h hz hi
   rw[Rr h hi]at hK
   rw[if_pos rfl]
   have n2:=Ub 2
   have nn:=Ub x.n
   have ns:=Ub x.s
   replace n2:AP Tryz.prog _ [.int .u64 2] (.agg [.int .i64 0,.int .u64 2,.sl .ext [],.sl .ext []]) []:=n2
   refine AP.ofA (Zl Tryz.func90 U Tryz.ntmps90 U U ?_)
   repeat'(first|(apply Zb (hK);kernel_rfl;(iterate 4 exact U))|(apply Zb (n2);kernel_rfl;(iterate 4 exact U))|(apply Zb (nn);kernel_rfl;(iterate 4 exact U))|(apply Zb (ns);kernel_rfl;(iterate 4 exact U))|(apply Zh Za;exact U)|(apply Zg Za;exact U)|refine Zd U Qt ?_|refine Zf U Qt ?_|refine ZO Za U U U U U U U U U U U U ?_|(apply Zq 6 ZF;decide +kernel;kernel_rfl;kernel_rfl;kernel_rfl;exact U;exact U)|(apply Zt;(iterate 4 exact U))|exact AE.nil _ _ _ _|(apply Zw;exact U)|(apply Zz;exact U;exact U;decide +kernel;exact U)|(apply ZA;exact U)|exact AO.nil _ _ _|(apply Zs;(decide +kernel))|exact AOs.nil|exact ZI rfl rfl)
   all_goals exact Qe
  | false=>
   obtain⟨_,_,_,b1,b2,_⟩:=Y6 h hz hi
   rw[Rt h hz hi]at hK
   rw[if_neg (by simp)]
   have n1:=Ub 1
   replace n1:AP Tryz.prog _ [.int .u64 1] (.agg [.int .i64 0,.int .u64 1,.sl .ext [],.sl .ext []]) []:=n1
   have l1:[(47:UInt8),47].length+x.h.length<=maxLen:=by simp;unfold maxLen;omega
   have l2:([(47:UInt8),47]++x.h).length + [(47:UInt8)].length<=maxLen:=by simp;unfold maxLen;omega
   have l3:([(47:UInt8),47]++x.h++[47]).length+x.d.length<=maxLen:=by simp;unfold maxLen;omega
   refine AP.ofA (Zl Tryz.func90 U Tryz.ntmps90 U U ?_)
   repeat'(first|(apply Zb (hK);kernel_rfl;(iterate 4 exact U))|(apply Zb (n1);kernel_rfl;(iterate 4 exact U))|(apply QB;exact U;exact U;(first|exact l1|exact l2|exact l3);exact U)|refine Lj Za U U U U U U U U ?_|(apply Zh Za;exact U)|(apply Zg Za;exact U)|refine Zf U Qt ?_|refine ZO Za U U U U U U U U U U U U ?_|(apply Zq 10 ZF;decide +kernel;kernel_rfl;kernel_rfl;kernel_rfl;exact U;exact U)|(apply Zt;(iterate 4 exact U))|exact AE.nil _ _ _ _|(apply Zw;exact U)|(apply Zz;exact U;exact U;decide +kernel;exact U)|(apply ZA;exact U)|exact AO.nil _ _ _|(apply Zs;(decide +kernel))|exact AOs.nil|exact ZI rfl rfl)
   all_goals exact Qe
theorem My {k:Int}{n:Nat}{b:List UInt8}{l:List It}(h:ZB (.mk k n b l)=true):Wb k n b l=true/\∀ y ∈ l,∃ d m m',Y2 y d m=some m':=by
 unfold ZB at h
 cases hw:Y2 (.mk k n b l) 1 256 with
 | none=>rw[hw]at h;cases h
 | some m=>
  obtain⟨_,_,h1,h2⟩:=Vg hw
  refine⟨h1,?_⟩
  clear hw h h1
  generalize (256:Nat)-1=m0 at h2
  induction l generalizing m0 with
  | nil=>intro y hy;cases hy
  | cons x l ih=>
   intro y hy
   obtain⟨m1,w1,w2⟩:=Vb h2
   rcases List.mem_cons.1 hy with rfl|hy
   ·exact⟨_,_,_,w1⟩
   ·exact ih _ w2 y hy
theorem Ty {x:It}{a c:Nat}(h:UQ x=some (a,c)):∃ n b,x=.mk 4 n b [.mk 0 a [] [],.mk 0 c [] []]:=by
 unfold UQ at h
 split at h
 ·rename_i k n b y0 y1
  split at h
  ·rename_i hk
   split at h
   ·rename_i hy
    simp only[Option.some.injEq,Prod.mk.injEq]at h
    rw[Bool.and_eq_true]at hy
    have e0:=It.beq_iff.1 hy.1
    have e1:=It.beq_iff.1 hy.2
    rw[h.1]at e0
    rw[h.2]at e1
    rw[hk,e0,e1]
    exact⟨n,b,rfl⟩
   ·cases h
  ·cases h
 ·cases h
theorem Uo {x:It}(h:(Z5 x).2=true):ZE (Z5 x).1=true/\ZW (Z5 x).1=x:=by
 unfold Z5 at h ⊢
 cases hr:ZB x with
 | false=>rw[hr]at h;cases h
 | true=>
  obtain⟨k,n,b,l⟩:=x
  rw[hr]at h
  match l,hr,h with
  | [],hr,h=>cases h
  | [s],hr,h=>cases h
  | s::r::y::l,hr,h=>cases h
  | [s,r],hr,h=>
   dsimp only at h ⊢
   by_cases hk:k=4
   case neg=>rw[if_neg hk]at h;cases h
   rw[if_pos hk]at h ⊢
   subst hk
   obtain⟨ho,hm⟩:=My hr
   have hn:n=0/\b=[]:=by simpa[Wb]using ho
   obtain⟨rfl,rfl⟩:=hn
   obtain⟨rk,rn,rb,rl⟩:=r
   obtain⟨d,m,m',hwr⟩:=hm (.mk rk rn rb rl) (by simp)
   obtain⟨_,_,ho2,_⟩:=Vg hwr
   unfold Qm at h ⊢
   cases h1:W0 1 s with
   | true=>
    have es:=It.beq_iff.1 h1
    rw[h1]at h
    cases h0:W0 0 (.mk rk rn rb rl) with
    | true=>
     have er:=It.beq_iff.1 h0
     dsimp only
     rw[es,er]
     exact⟨by decide,rfl⟩
    | false=>
     rw[h0]at h
     dsimp only at h ⊢
     cases h3:(It.mk rk rn rb rl).k==3 with
     | false=>rw[h3]at h;cases h
     | true=>
      rw[h3]at h
      have hk3:rk=3:=by simpa[It.k]using h3
      subst hk3
      have hn:rn=0/\rl=[]:=by
       have:Wb 3 rn rb rl=true:=ho2
       simp[Wb]at this
       exact⟨this.1,this.2.1⟩
      obtain⟨rfl,rfl⟩:=hn
      dsimp only[It.b]at h ⊢
      unfold ppV at h ⊢
      dsimp only at h ⊢
      simp only[Bool.and_eq_true,bne_iff_ne]at h
      obtain⟨k3,k4,k5,k6⟩:=h
      have e2:=Jd k3
      generalize (Vc [47,47] rb).1=q at *
      refine⟨k6,?_⟩
      unfold ZW
      rw[if_neg (by rw[Vx];intro e;exact k5 (congrArg EidV.h e)),if_neg (by simp),es,e2]
      have:=Jc k4
      conv=>rhs;rw[this]
      simp[Y5]
   | false=>
    rw[h1]at h
    cases h2:W0 2 s with
    | false=>rw[h2]at h;cases h
    | true=>
     have es:=It.beq_iff.1 h2
     rw[h2]at h
     dsimp only at h ⊢
     cases hq:UQ (.mk rk rn rb rl) with
     | none=>rw[hq]at h;cases h
     | some ac=>
      obtain⟨a,c⟩:=ac
      rw[hq]at h
      dsimp only at h ⊢
      refine⟨h,?_⟩
      obtain⟨n2,b2,e2⟩:=Ty hq
      cases e2
      have hn:rn=0/\rb=[]:=by simpa[Wb]using ho2
      obtain⟨rfl,rfl⟩:=hn
      unfold ZW
      rw[if_neg (by simp[isZ]),if_pos rfl,es]
abbrev K4 (x:It):D:=.tup [.agg (eC (match(Z5 x).2 with|true=>(Z5 x).1|false=>Wm)),.bool (Z5 x).2]
theorem QT {x:It}(h:(Z5 x).2=false):K4 x=.tup [.agg (eC Wm),.bool false]:=by unfold K4;rw[h]
theorem Mz {x:It}{e:EidV}(h:Z5 x=(e,true)):K4 x=.tup [.agg (eC e),.bool true]:=by unfold K4;rw[h]
theorem XI {e:EidV}(h:ZE e=true):∃ s z,ZW e=.mk 4 0 [] [s,z]/\((isZ e=true/\z=.mk 0 0 [] [])\/(isZ e=false/\e.i=true/\z=.mk 4 0 [] [.mk 0 e.n [] [],.mk 0 e.s [] []]/\e.h=[]/\e.d=[])\/(isZ e=false/\e.i=false/\z=.mk 3 0 (Y5 e) []/\WT e=Uz++Y5 e)):=by
 unfold ZW
 cases hz:isZ e with
 | true=>rw[if_pos rfl];exact⟨_,_,rfl,.inl ⟨rfl,rfl⟩⟩
 | false=>
  rw[if_neg (by simp)]
  cases hi:e.i with
  | true=>
   obtain⟨_,_,h1,h2,_⟩:=Wx h hz hi
   rw[if_pos rfl];exact⟨_,_,rfl,.inr (.inl ⟨rfl,rfl,rfl,h1,h2⟩)⟩
  | false=>
   rw[if_neg (by simp)]
   refine⟨_,_,rfl,.inr (.inr ⟨rfl,rfl,rfl,?_⟩)⟩
   unfold WT
   rw[hz,if_neg (by simp),hi,if_neg (by simp)]
   rfl
theorem Bm {k:Int}{n:Nat}{b:List UInt8}{l:List It}(h:k ≠ 4\/l.length ≠ 2):(Z5 (.mk k n b l)).2=false:=by
 cases hp:(Z5 (.mk k n b l)).2 with
 | false=>rfl
 | true=>
  obtain⟨h1,h2⟩:=Uo hp
  obtain⟨s,z,e,_⟩:=XI h1
  rw[e]at h2
  cases h2
  rcases h with h|h
  ·exact absurd rfl h
  ·exact absurd rfl h
theorem Tz {n:Nat}{b:List UInt8}{s z:It}{c:EidV}
  (hZ:z=.mk 0 0 [] []->c=Wm) (hI:∀ p q,z=.mk 4 0 [] [.mk 0 p [] [],.mk 0 q [] []]->c=⟨true,p,q,[],[]⟩) (hT:∀ t,z=.mk 3 0 t []->(Yc (Uz++t)).2=true->c=(Yc (Uz++t)).1)
  (hp:(Z5 (.mk 4 n b [s,z])).2=true):c=(Z5 (.mk 4 n b [s,z])).1:=by
 obtain⟨h1,h2⟩:=Uo hp
 generalize (Z5 (.mk 4 n b [s,z])).1=e at *
 obtain⟨s',z',ee,hh⟩:=XI h1
 rw[ee]at h2
 cases h2
 rcases hh with⟨hz,hh⟩ | ⟨hz,hi,hh,e1,e2⟩ | ⟨hz,hi,hh,ht⟩
 ·rw[hZ hh,Vx.1 hz]
 ·rw[hI _ _ hh]
  obtain⟨i,n,s,h,d⟩:=e
  simp only at hi e1 e2
  rw[hi,e1,e2]
 ·have hq:=JF h1
  rw[ht]at hq
  have:=hT _ hh (by rw[hq])
  rw[this,hq]
theorem MA {n n3:Nat}{b t:List UInt8}{s:It}{l:List It}(h:(Yc (Uz++t)).2=false):(Z5 (.mk 4 n b [s,.mk 3 n3 t l])).2=false:=by
 cases hp:(Z5 (.mk 4 n b [s,.mk 3 n3 t l])).2 with
 | false=>rfl
 | true=>
  obtain⟨h1,h2⟩:=Uo hp
  generalize (Z5 (.mk 4 n b [s,.mk 3 n3 t l])).1=e at *
  obtain⟨s',z',ee,hh⟩:=XI h1
  rw[ee]at h2
  cases h2
  rcases hh with⟨hz,hh⟩ | ⟨hz,hi,hh,e1,e2⟩ | ⟨hz,hi,hh,ht⟩
  ·cases hh
  ·cases hh
  ·cases hh
   have hq:=JF h1
   rw[ht]at hq
   rw[hq]at h;cases h
theorem FC {x:It}{c:EidV}(hc:(Z5 x).2=true->c=(Z5 x).1)(hk:ZE c=false):(Z5 x).2=false:=by
 cases hp:(Z5 x).2 with
 | false=>rfl
 | true=>rw[hc hp,(Uo hp).1]at hk;cases hk
theorem FD {x:It}{c:EidV}(hc:(Z5 x).2=true->c=(Z5 x).1)(hs:It.beq (ZW c) x=false):(Z5 x).2=false:=by
 cases hp:(Z5 x).2 with
 | false=>rfl
 | true=>rw[hc hp,(Uo hp).2,It.beq_iff.2 rfl]at hs;cases hs
theorem FE {x:It}{c:EidV}(hk:ZE c=true)(hs:It.beq (ZW c) x=true):Z5 x=(c,true):=by
 rw[<- It.beq_iff.1 hs,G5 hk (Vh hk)]
theorem D3 [Known](k:Int)(n:Nat)(b:List UInt8)(l:List It)(h:k ≠ 4\/l.length ≠ 2):AP Tryz.prog 117 [itD (.mk k n b l)] (.tup [.agg [.bool false,.int .u64 0,.int .u64 0,.str [],.str []],.bool false]) []:=by
 by_cases hk:k=4
 ·have t1:(k != 4)=false:=by simpa using hk
  have hl:l.length ≠ 2:=by
   rcases h with h|h
   ·exact absurd hk h
   ·exact h
  have t2:(((Zx l).length:Int) != 2)=true:=by rw[Zv];simp;omega
  refine AP.ofA (Zl Tryz.func117 U Tryz.ntmps117 U U ?_)
  repeat'(first|(apply Zh Za;exact U)|(apply Zg Za;exact U)|(apply Zo Za;exact U)|refine Ze U U U Qt ?_|refine Zi U Qt U U ?_|refine Zd U Qt ?_|refine Zm Za U U U U ?_)
  all_goals exact Qe
 ·have t1:(k != 4)=true:=by simpa using hk
  refine AP.ofA (Zl Tryz.func117 U Tryz.ntmps117 U U ?_)
  repeat'(first|(apply Zh Za;exact U)|(apply Zg Za;exact U)|(apply Zo Za;exact U)|refine Zn U U U Qt ?_|refine Zk U Qt U U ?_|refine Zd U Qt ?_)
  all_goals exact Qe
theorem FF [Known](s z:It)(n:Nat)(b:List UInt8)(n2:Nat)(b2:List UInt8)(kp:Int)(np:Nat)(bp:List UInt8)(lp:List It)(kq:Int)(nq:Nat)(bq:List UInt8)(lq:List It)(ez:z=.mk 4 n2 b2 [.mk kp np bp lp,.mk kq nq bq lq])(κ:Int)(w:It)(z4 R:Bool)
  (hK:AP Tryz.prog 87 [.agg [.bool true,.int .u64 (np:Int),.int .u64 (nq:Int),.str [],.str []]] (.int .i64 κ) []) (t4:decide (κ<0)=z4)
  (hW:z4=false->AP Tryz.prog 90 [.agg [.bool true,.int .u64 (np:Int),.int .u64 (nq:Int),.str [],.str []]] (itD w) [])
  (hS:z4=false->AP Tryz.prog 71 [itD w,itD (.mk 4 n b [s,z])] (.bool R) []) :
  AP Tryz.prog 117 [itD (.mk 4 n b [s,z])] (K3 z4 (!R) true np nq [] []) []:=by
 have hU:=Wl [s,z]
 subst ez
 have hU2:=Wl [.mk kp np bp lp,.mk kq nq bq lq]
 have t2:(((Zx [s,.mk 4 n2 b2 [.mk kp np bp lp,.mk kq nq bq lq]]).length:Int) != 2)=false:=rfl
 have t3:(((Zx [.mk kp np bp lp,.mk kq nq bq lq]).length:Int)==2)=true:=rfl
 obtain⟨sk,sn,sb,sl⟩:=s
 obtain⟨wk,wn,wb,wl⟩:=w
 cases z4 with
 | true=>
  clear hW hS
  cases R
  all_goals
   refine AP.ofA (Zl Tryz.func117 U Tryz.ntmps117 U U ?_)
   repeat'(first|(apply Zb (hK);kernel_rfl;(iterate 4 exact U))|(apply Zh Za;exact U)|(apply Zg Za;exact U)|(apply Zo Za;exact U)|refine Ze U U U Qt ?_|refine Zn U U U Qt ?_|refine Zk U Qt U U ?_|refine Zi U Qt U U ?_|refine Zd U Qt ?_|refine Zf U Qt ?_|refine Zm Za U U U U ?_|(apply Zq 7 ZF;decide +kernel;kernel_rfl;kernel_rfl;kernel_rfl;exact U;exact U)|(apply Zq 10 ZF;decide +kernel;kernel_rfl;kernel_rfl;kernel_rfl;exact U;exact U)|(apply Zt;(iterate 4 exact U))|exact AE.nil _ _ _ _|(apply Zw;exact U)|(apply Zz;exact U;exact U;decide +kernel;exact U)|(apply ZA;exact U)|exact AO.nil _ _ _|(apply Zs;(decide +kernel))|exact AOs.nil|exact ZI rfl rfl|(apply Zu Za;(iterate 6 exact U);(first|exact Qt|rotate_left);(first|with_reducible assumption|decide +kernel|exact U);(first|exact Zj rfl|with_reducible assumption|decide +kernel|rotate_left)))
   all_goals exact Qe
 | false=>
  have hW:=hW rfl
  have hS:=hS rfl
  cases R
  all_goals
   refine AP.ofA (Zl Tryz.func117 U Tryz.ntmps117 U U ?_)
   repeat'(first|(apply Zb (hK);kernel_rfl;(iterate 4 exact U))|(apply Zb (hW);kernel_rfl;(iterate 4 exact U))|(apply Zb (hS);kernel_rfl;(iterate 4 exact U))|(apply Zh Za;exact U)|(apply Zg Za;exact U)|(apply Zo Za;exact U)|refine Ze U U U Qt ?_|refine Zk U Qt U U ?_|refine Zi U Qt U U ?_|refine Zd U Qt ?_|refine Zf U Qt ?_|refine Zm Za U U U U ?_|(apply Zq 7 ZF;decide +kernel;kernel_rfl;kernel_rfl;kernel_rfl;exact U;exact U)|(apply Zq 10 ZF;decide +kernel;kernel_rfl;kernel_rfl;kernel_rfl;exact U;exact U)|(apply Zt;(iterate 4 exact U))|exact AE.nil _ _ _ _|(apply Zw;exact U)|(apply Zz;exact U;exact U;decide +kernel;exact U)|(apply ZA;exact U)|exact AO.nil _ _ _|(apply Zs;(decide +kernel))|exact AOs.nil|exact ZI rfl rfl|(apply Zu Za;(iterate 6 exact U);(first|exact Qt|rotate_left);(first|with_reducible assumption|decide +kernel|exact U);(first|exact Zj rfl|with_reducible assumption|decide +kernel|rotate_left)))
   all_goals exact Qe
theorem FG [Known](s:It)(n:Nat)(b:List UInt8)(kz:Int)(nz:Nat)(bz:List UInt8)(lz:List It)(hz:kz=4/\lz.length ≠ 2\/kz ≠ 4/\kz ≠ 3)(w:It)(R:Bool)
  (hK:AP Tryz.prog 87 [.agg [.bool false,.int .u64 0,.int .u64 0,.str [],.str []]] (.int .i64 0) [])
  (hW:AP Tryz.prog 90 [.agg [.bool false,.int .u64 0,.int .u64 0,.str [],.str []]] (itD w) [])
  (hS:AP Tryz.prog 71 [itD w,itD (.mk 4 n b [s,.mk kz nz bz lz])] (.bool R) []) :
  AP Tryz.prog 117 [itD (.mk 4 n b [s,.mk kz nz bz lz])] (K3 false (!R) false 0 0 [] []) []:=by
 have hU:=Wl [s,.mk kz nz bz lz]
 have t2:(((Zx [s,.mk kz nz bz lz]).length:Int) != 2)=false:=rfl
 obtain⟨sk,sn,sb,sl⟩:=s
 obtain⟨wk,wn,wb,wl⟩:=w
 have t5:(kz==3)=false:=by
  rcases hz with⟨rfl,_⟩ | ⟨_,h⟩
  ·rfl
  ·simpa using h
 rcases hz with⟨rfl,hl⟩ | ⟨hk,_⟩
 ·have t3:(((Zx lz).length:Int)==2)=false:=by rw[Zv];simp;omega
  cases R
  all_goals
   refine AP.ofA (Zl Tryz.func117 U Tryz.ntmps117 U U ?_)
   repeat'(first|(apply Zb (hK);kernel_rfl;(iterate 4 exact U))|(apply Zb (hW);kernel_rfl;(iterate 4 exact U))|(apply Zb (hS);kernel_rfl;(iterate 4 exact U))|(apply Zh Za;exact U)|(apply Zg Za;exact U)|(apply Zo Za;exact U)|refine Ze U U U Qt ?_|refine Zk U Qt U U ?_|refine Zi U Qt U U ?_|refine Zd U Qt ?_|refine Zf U Qt ?_|refine Zm Za U U U U ?_|(apply Zq 7 ZF;decide +kernel;kernel_rfl;kernel_rfl;kernel_rfl;exact U;exact U)|(apply Zt;(iterate 4 exact U))|exact AE.nil _ _ _ _|(apply Zw;exact U)|(apply Zz;exact U;exact U;decide +kernel;exact U)|(apply ZA;exact U)|exact AO.nil _ _ _|(apply Zs;(decide +kernel))|exact AOs.nil|exact ZI rfl rfl|(apply Zu Za;(iterate 6 exact U);(first|exact Qt|rotate_left);(first|with_reducible assumption|decide +kernel|exact U);(first|exact Zj rfl|with_reducible assumption|decide +kernel|rotate_left)))
   all_goals exact Qe
 ·have t3:(kz==4)=false:=by simpa using hk
  cases R
  all_goals
   refine AP.ofA (Zl Tryz.func117 U Tryz.ntmps117 U U ?_)
   repeat'(first|(apply Zb (hK);kernel_rfl;(iterate 4 exact U))|(apply Zb (hW);kernel_rfl;(iterate 4 exact U))|(apply Zb (hS);kernel_rfl;(iterate 4 exact U))|(apply Zh Za;exact U)|(apply Zg Za;exact U)|(apply Zo Za;exact U)|refine Ze U U U Qt ?_|refine Zr U U U Qt ?_|refine Zi U Qt U U ?_|refine Zd U Qt ?_|refine Zf U Qt ?_|refine Zm Za U U U U ?_|(apply Zq 7 ZF;decide +kernel;kernel_rfl;kernel_rfl;kernel_rfl;exact U;exact U)|(apply Zt;(iterate 4 exact U))|exact AE.nil _ _ _ _|(apply Zw;exact U)|(apply Zz;exact U;exact U;decide +kernel;exact U)|(apply ZA;exact U)|exact AO.nil _ _ _|(apply Zs;(decide +kernel))|exact AOs.nil|exact ZI rfl rfl|(apply Zu Za;(iterate 6 exact U);(first|exact Qt|rotate_left);(first|with_reducible assumption|decide +kernel|exact U);(first|exact Zj rfl|with_reducible assumption|decide +kernel|rotate_left)))
   all_goals exact Qe
theorem FH [Known](s:It)(n:Nat)(b:List UInt8)(nz:Nat)(bz:List UInt8)(lz:List It)(xi:Bool)(xn xs:Nat)(xh xd:List UInt8)(κ:Int)(w:It)(R:Bool)(hl:[(100:UInt8),116,110,58].length+bz.length<=maxLen)
  (hP:AP Tryz.prog 152 [.str ([100,116,110,58]++bz)] (.tup [.agg [.bool xi,.int .u64 (xn:Int),.int .u64 (xs:Int),.str xh,.str xd],.bool true]) [])
  (hK:AP Tryz.prog 87 [.agg [.bool xi,.int .u64 (xn:Int),.int .u64 (xs:Int),.str xh,.str xd]] (.int .i64 κ) []) (t4:decide (κ<0)=false)
  (hW:AP Tryz.prog 90 [.agg [.bool xi,.int .u64 (xn:Int),.int .u64 (xs:Int),.str xh,.str xd]] (itD w) [])
  (hS:AP Tryz.prog 71 [itD w,itD (.mk 4 n b [s,.mk 3 nz bz lz])] (.bool R) []) :
  AP Tryz.prog 117 [itD (.mk 4 n b [s,.mk 3 nz bz lz])] (K3 false (!R) xi xn xs xh xd) []:=by
 have hU:=Wl [s,.mk 3 nz bz lz]
 have t2:(((Zx [s,.mk 3 nz bz lz]).length:Int) != 2)=false:=rfl
 obtain⟨sk,sn,sb,sl⟩:=s
 obtain⟨wk,wn,wb,wl⟩:=w
 cases R
 all_goals
  refine AP.ofA (Zl Tryz.func117 U Tryz.ntmps117 U U ?_)
  repeat'(first|(apply Zb (hP);kernel_rfl;(iterate 4 exact U))|(apply Zb (hK);kernel_rfl;(iterate 4 exact U))|(apply Zb (hW);kernel_rfl;(iterate 4 exact U))|(apply Zb (hS);kernel_rfl;(iterate 4 exact U))|refine QB U U hl U ?_|refine Vo Za U U U U U U U U U ?_|(apply Zh Za;exact U)|(apply Zg Za;exact U)|(apply Zo Za;exact U)|refine Ze U U U Qt ?_|refine Zr U U U Qt ?_|refine Zi U Qt U U ?_|refine Zd U Qt ?_|refine Zf U Qt ?_|refine Zm Za U U U U ?_|(apply Zq 7 ZF;decide +kernel;kernel_rfl;kernel_rfl;kernel_rfl;exact U;exact U)|(apply Zt;(iterate 4 exact U))|exact AE.nil _ _ _ _|(apply Zw;exact U)|(apply Zz;exact U;exact U;decide +kernel;exact U)|(apply ZA;exact U)|exact AO.nil _ _ _|(apply Zs;(decide +kernel))|exact AOs.nil|exact ZI rfl rfl|(apply Zu Za;(iterate 6 exact U);(first|exact Qt|rotate_left);(first|with_reducible assumption|decide +kernel|exact U);(first|exact Zj rfl|with_reducible assumption|decide +kernel|rotate_left))|refine Vo Za U U U U U U U U U ?_)
  all_goals exact Qe
theorem FI [Known](s:It)(n:Nat)(b:List UInt8)(nz:Nat)(bz:List UInt8)(lz:List It)(hl:[(100:UInt8),116,110,58].length+bz.length<=maxLen)
  (hP:AP Tryz.prog 152 [.str ([100,116,110,58]++bz)] (.tup [.agg [.bool false,.int .u64 0,.int .u64 0,.str [],.str []],.bool false]) []) :
  AP Tryz.prog 117 [itD (.mk 4 n b [s,.mk 3 nz bz lz])] (.tup [.agg [.bool false,.int .u64 0,.int .u64 0,.str [],.str []],.bool false]) []:=by
 have hU:=Wl [s,.mk 3 nz bz lz]
 have t2:(((Zx [s,.mk 3 nz bz lz]).length:Int) != 2)=false:=rfl
 obtain⟨sk,sn,sb,sl⟩:=s
 refine AP.ofA (Zl Tryz.func117 U Tryz.ntmps117 U U ?_)
 repeat'(first|(apply Zb (hP);kernel_rfl;(iterate 4 exact U))|refine QB U U hl U ?_|refine Vo Za U U U U U U U U U ?_|(apply Zh Za;exact U)|(apply Zg Za;exact U)|(apply Zo Za;exact U)|refine Ze U U U Qt ?_|refine Zr U U U Qt ?_|refine Zi U Qt U U ?_|refine Zd U Qt ?_|refine Zf U Qt ?_|refine Zm Za U U U U ?_|(apply Zu Za;(iterate 6 exact U);(first|exact Qt|rotate_left);(first|with_reducible assumption|decide +kernel|exact U);(first|exact Zj rfl|with_reducible assumption|decide +kernel|rotate_left))|refine Vo Za U U U U U U U U U ?_)
 all_goals exact Qe
theorem XJ {x:It}{c:EidV}(hc:(Z5 x).2=true->c=(Z5 x).1){i:Bool}{n q:Nat}{h d:List UInt8}(ec:c=⟨i,n,q,h,d⟩):K3 (decide (YT c<0)) (!(It.beq (ZW c) x)) i n q h d=K4 x:=by
 have hk:=Jf c
 cases hr:ZE c with
 | false=>
  have e:decide (YT c<0)=true:=decide_eq_true (by have:=of_decide_eq_false (hk.trans hr);omega)
  rw[e,QT (FC hc hr)]
  cases !(It.beq (ZW c) x)<;>rfl
 | true=>
  have e:decide (YT c<0)=false:=decide_eq_false (by have:=of_decide_eq_true (hk.trans hr);omega)
  rw[e]
  cases hs:It.beq (ZW c) x with
  | false=>rw[QT (FD hc hs)];rfl
  | true=>rw[Mz (FE hr hs),ec];rfl
theorem X5 {c:EidV}(h:decide (YT c<0)=false):ZE c=true:=by
 rw[<- Jf]
 exact decide_eq_true (by have:=of_decide_eq_false h;omega)
theorem QU {c:EidV}(h:ZE c=true):decide (YT c<0)=false:=decide_eq_false (by have:=of_decide_eq_true ((Jf c).trans h);omega)
theorem Hy [Known](x:It)(hw:wfI x)(hb:∀ y ∈ x.l,y.b.length<=1099511627000):AP Tryz.prog 117 [itD x] (K4 x) []:=by
 obtain⟨k,n,b,l⟩:=x
 by_cases hk:k=4
 case neg=>rw[QT (Bm (.inl hk))];exact D3 k n b l (.inl hk)
 by_cases hl:l.length=2
 case neg=>rw[QT (Bm (.inr hl))];exact D3 k n b l (.inr hl)
 subst hk
 obtain⟨s,z,rfl⟩:∃ s z,l=[s,z]:=by
  match l,hl with
  | [s,z],_=>exact⟨s,z,rfl⟩
 have hbz:=hb z (by simp[It.l])
 clear hl hb
 have kZ:=WZ Wm ⟨by decide,by decide⟩
 have wZ:=Wh Wm (by decide)
 have sZ:=Qh (ZW Wm) (W7 (by decide)) _ hw
 obtain⟨kz,nz,bz,lz⟩:=z
 simp only[It.b]at hbz
 by_cases h3:kz=3
 ·subst h3
  have hP:=Hx (Uz++bz) (by simp[Uz];omega)
  have hml:[(100:UInt8),116,110,58].length+bz.length<=maxLen:=by simp;unfold maxLen;omega
  cases hp:(Yc (Uz++bz)).2 with
  | false=>
   rw[U0 hp]at hP
   rw[QT (MA hp)]
   exact FI s n b nz bz lz hml hP
  | true=>
   obtain⟨hr,_⟩:=VM hp
   unfold JH at hP
   rw[hp]at hP
   have hc:(Z5 (.mk 4 n b [s,.mk 3 nz bz lz])).2=true->(Yc (Uz++bz)).1=(Z5 (.mk 4 n b [s,.mk 3 nz bz lz])).1:=
    Tz (fun e=>by cases e) (fun p q e=>by cases e) (fun t e _=>by cases e;rfl)
   generalize (Yc (Uz++bz)).1=c at *
   rw[<- XJ hc (show c=⟨c.i,c.n,c.s,c.h,c.d⟩ from rfl),QU hr]
   exact FH s n b nz bz lz c.i c.n c.s c.h c.d (YT c) (ZW c) _ hml hP (WZ c (XH hr)) (QU hr) (Wh c hr) (Qh (ZW c) (W7 hr) _ hw)
 ·by_cases h4:kz=4/\lz.length=2
  ·obtain⟨rfl,hl2⟩:=h4
   obtain⟨⟨kp,np,bp,lp⟩,⟨kq,nq,bq,lq⟩,rfl⟩:∃ p q,lz=[p,q]:=by
    match lz,hl2 with
    | [p,q],_=>exact⟨p,q,rfl⟩
   have hc:(Z5 (.mk 4 n b [s,.mk 4 nz bz [.mk kp np bp lp,.mk kq nq bq lq]])).2=true->(⟨true,np,nq,[],[]⟩:EidV)=(Z5 (.mk 4 n b [s,.mk 4 nz bz [.mk kp np bp lp,.mk kq nq bq lq]])).1:=
    Tz (fun e=>by cases e) (fun p q e=>by cases e;rfl) (fun t e _=>by cases e)
   rw[<- XJ hc rfl]
   exact FF s _ n b nz bz kp np bp lp kq nq bq lq rfl (YT ⟨true,np,nq,[],[]⟩) (ZW ⟨true,np,nq,[],[]⟩) _ _ (WZ ⟨true,np,nq,[],[]⟩ ⟨Nat.zero_le _,Nat.zero_le _⟩) rfl (fun h=>Wh ⟨true,np,nq,[],[]⟩ (X5 h)) (fun h=>Qh (ZW ⟨true,np,nq,[],[]⟩) (W7 (X5 h)) _ hw)
  ·have hc:(Z5 (.mk 4 n b [s,.mk kz nz bz lz])).2=true->Wm=(Z5 (.mk 4 n b [s,.mk kz nz bz lz])).1:=
    Tz (fun e=>rfl) (fun p q e=>by cases e;exact absurd ⟨rfl,rfl⟩ h4) (fun t e _=>by cases e;exact absurd rfl h3)
   rw[<- XJ hc rfl]
   exact FG s n b kz nz bz lz (by
    by_cases h5:kz=4
    ·exact .inl ⟨h5,fun e=>h4 ⟨h5,e⟩⟩
    ·exact .inr ⟨h5,h3⟩) (ZW Wm) _ kZ wZ sZ
theorem Hz:∀ {l:List It} {y:It},y ∈ l->(ZN y).length<=(ZV l).length
 | x::l,y,h=>by
  rw[ZV,List.length_append]
  rcases List.mem_cons.1 h with rfl|h
  ·omega
  ·have:=Hz h;omega
theorem FJ (y:It):y.b.length<=(ZN y).length:=by
 obtain⟨k,n,b,l⟩:=y
 rw[ZN,List.length_append,List.length_append]
 show b.length<=_
 omega
theorem D4 (k:Int)(n:Nat)(b:List UInt8)(l:List It):(ZV l).length<=(ZN (.mk k n b l)).length:=by
 rw[ZN,List.length_append,List.length_append]
 omega
end Go.Proofs.YtmljabhmajehnaaGreatDoor
end

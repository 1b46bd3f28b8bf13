/- The document's answers for names: the name of any text. -/
import Derived.Test.YtakblclkflnnpaaGreatDoorH36
import Derived.Test.YtakblclkflnnpaaGreatDoorH23
import Derived.Test.YtakblclkflnnpaaGreatDoorH26
import Derived.Test.YtakblclkflnnpaaGreatDoorH27
import Derived.Test.YtakblclkflnnpaaGreatDoorH21
import Derived.Test.YtakblclkflnnpaaGreatDoorH25
set_option linter.unusedVariables false
set_option linter.unusedSimpArgs false
section
open Go.RowKit Go.Pl Go.Av
namespace Go.Proofs.YtakblclkflnnpaaGreatDoor
set_option maxHeartbeats 4000000
theorem Zk1 {c:UInt8}(h:c ≠ 47):c.toNat ≠ 47:=fun e=>h (UInt8.toNat_inj.1 (by rw[e];rfl))
theorem Zk2 {s:List UInt8}{c:EidV}(h0:s ≠ Ze1)(hc:(Zbe s).2=true->c=(Zbe s).1){i:Bool}{n q:Nat}{h d:List UInt8}(ec:c=⟨i,n,q,h,d⟩):ZjO (decide (Zcg c<1)) (Zc5 c != s) i n q h d=ZgE s:=by
 cases hk:decide (Zcg c<1) with
 | true=>rw[Zd9 (Zr7 h0 hc hk)];cases(Zc5 c != s)<;>rfl
 | false=>
  cases ht:(Zc5 c != s) with
  | true=>rw[Zd9 (Zr8 hc ht)];rfl
  | false=>rw[Zhp (Zr9 hk ht),ec]
theorem Zfr {c:EidV}(h:decide (Zcg c<1)=false):ZaH c=true:=by
 rw[ZjM,Bool.or_eq_false_iff]at h
 simpa using h.1
theorem ZjP [Known](s:List UInt8)(hs:s.length<=1099511627776):AP Tryz.prog 149 [.str s] (ZgE s) []:=by
 cases h0:(s==Ze1) with
 | true=>
  have e:Zbe s=(Zdj,true):=by unfold Zbe;rw[if_pos h0]
  rw[Zhp e]
  exact ZtO s h0
 | false=>
  have hne:s ≠ Ze1:=by simpa using h0
  by_cases hI:∃ r,r ≠ []/\s=Ze2++r
  ·obtain⟨r,hr,rfl⟩:=hI
   have hl:(Ze2++r).length=4+r.length:=by simp[Ze2];omega
   have hrl:0<r.length:=List.length_pos_iff.2 hr
   have hn:=Zk0 11 0 r
   have hC1:=Zi2 (Ze2++r) 4 (by omega) (by omega)
   have ed:(Ze2++r).drop 4=r:=rfl
   rw[ed]at hC1
   have hK:=ZcM (Zi1 r) ⟨by simp[Zi1],by simp[Zi1]⟩
   rw[<- Zk2 hne Zpn (show Zi1 r=⟨true,_,_,[],[]⟩ from rfl)]
   refine ZtQ (Ze2++r) (ZdB 11 0 r).1 (if 4+(ZdB 11 0 r).2<4+r.length then(ZdB 11 0 (r.drop ((ZdB 11 0 r).2+1))).1 else 0) (4+(ZdB 11 0 r).2) ((4+(ZdB 11 0 r).2+1)+(ZdB 11 0 (r.drop ((ZdB 11 0 r).2+1))).2) (Zcg (Zi1 r)) (Zc5 (Zi1 r)) (decide (4+(ZdB 11 0 r).2<4+r.length)) _ _ h0 (decide_eq_true (by omega)) (by omega) rfl hC1 (by rw[hl];simp only[Int.ofNat_lt]) (by rw[IntWalk.i64_in _ (by omega)];omega) (fun hz=>?_) (fun hz=>if_neg (of_decide_eq_false hz)) hK rfl (fun hz=>Zfq _ (Zfr hz)) rfl
   have hz:=of_decide_eq_true hz
   rw[if_pos hz]
   have hC2:=Zi2 (Ze2++r) (4+(ZdB 11 0 r).2+1) (by omega) (by omega)
   have ed2:(Ze2++r).drop (4+(ZdB 11 0 r).2+1)=r.drop ((ZdB 11 0 r).2+1):=by
    rw[show 4+(ZdB 11 0 r).2+1=4+((ZdB 11 0 r).2+1) by omega,<- List.drop_drop,ed]
   rw[ed2]at hC2
   exact hC2
  ·by_cases hT:∃ r,r ≠ []/\s=[100,116,110,58,47,47]++r
   ·obtain⟨r,hr,rfl⟩:=hT
    have hl:([100,116,110,58,47,47]++r:List UInt8).length=6+r.length:=by simp;omega
    have hrl:0<r.length:=List.length_pos_iff.2 hr
    have ed:([100,116,110,58,47,47]++r:List UInt8).drop 6=r:=rfl
    have eg:∀ i,([100,116,110,58,47,47]++r:List UInt8)[6+i]?=r[i]? := fun i=>by rw[<- List.getElem?_drop,ed]
    rcases Zgs 47 r with hno|⟨a,b,rfl,hno⟩
    ·have hK:=ZcM ⟨false,0,0,r,[]⟩ ⟨by show r.length<=_;omega,by simp⟩
     have h:=Ztx ([100,116,110,58,47,47]++r) (6+r.length) r [] (Zcg ⟨false,0,0,r,[]⟩) (Zc5 ⟨false,0,0,r,[]⟩) _ _ h0 (by omega) (decide_eq_true (by omega)) (by omega) rfl (decide_eq_true (by omega)) (by omega) rfl (by omega) (by omega)
      (fun i h6 hi=>by
       obtain⟨j,rfl⟩:∃ j,i=6+j:=⟨i-6,by omega⟩
       rw[eg]
       have hj:j<r.length:=by omega
       exact⟨r[j],List.getElem?_eq_getElem hj,Zk1 fun e=>hno (e ▸ List.getElem_mem hj)⟩)
      (fun h=>by omega) (by rw[List.take_of_length_le (by omega),ed]) (List.drop_of_length_le (by omega)) hK rfl (fun hz=>Zfq _ (Zfr hz)) rfl
     rw[if_neg (by omega)]at h
     rw[Zd9 (ZkZ hne (fun r' hr' e=>hI ⟨r',hr',e⟩) (fun h d hh e=>hno (by rw[List.append_cancel_left e];simp)))]
     exact h
    ·have hal:(a++47::b).length=a.length+(b.length+1):=by simp
     have hK:=ZcM ⟨false,0,0,a,b⟩ ⟨by show a.length<=_;omega,by show b.length<=_;omega⟩
     have h:=Ztx ([100,116,110,58,47,47]++(a++47::b)) (6+a.length) a b (Zcg ⟨false,0,0,a,b⟩) (Zc5 ⟨false,0,0,a,b⟩) _ _ h0 (by omega) (decide_eq_true (by omega)) (by omega) rfl (decide_eq_true (by omega)) (by omega) rfl (by omega) (by omega)
      (fun i h6 hi=>by
       obtain⟨j,rfl⟩:∃ j,i=6+j:=⟨i-6,by omega⟩
       rw[eg]
       have hj:j<a.length:=by omega
       exact⟨a[j],by rw[List.getElem?_append_left hj,List.getElem?_eq_getElem hj],Zk1 fun e=>hno (e ▸ List.getElem_mem hj)⟩)
      (fun h=>⟨47,by rw[eg,List.getElem?_append_right (Nat.le_refl _),Nat.sub_self];rfl,rfl⟩)
      (by
       have e:([100,116,110,58,47,47]++(a++47::b):List UInt8).take (6+a.length)=[100,116,110,58,47,47]++a:=by
        rw[<- List.append_assoc,List.take_append_of_le_length (by simp;omega),List.take_of_length_le (by simp;omega)]
       rw[e];rfl)
      (by
       have e:([100,116,110,58,47,47]++(a++47::b):List UInt8).drop (6+(a.length+1))=(a++47::b).drop (a.length+1):=by rw[<- List.drop_drop,ed]
       rw[show 6+a.length+1=6+(a.length+1) by omega,e,List.drop_append,List.drop_of_length_le (by omega)];simp)
      hK rfl (fun hz=>Zfq _ (Zfr hz)) rfl
     rw[if_pos (by omega)]at h
     rw[<- Zk2 hne (Zpo hno) rfl]
     exact h
   ·have hpn:=ZkZ hne (fun r' hr' e=>hI ⟨r',hr',e⟩) (fun h d hh e=>hT ⟨_,by simp,e⟩)
    rw[Zd9 hpn]
    have hK:=ZcM Zdj ⟨by decide,by decide⟩
    refine ZtP s h0 ?_ ?_ hK
    ·rcases Nat.lt_or_ge 4 s.length with h4|h4
     ·refine .inr ⟨decide_eq_true (by omega),by omega,?_⟩
      cases hb:((s.take (Int.toNat 4)).drop 0==[105,112,110,58]) with
      | false=>rfl
      | true=>
       have e:s.take 4=Ze2:=beq_iff_eq.1 hb
       refine absurd ⟨s.drop 4,?_,?_⟩ hI
       ·intro hn;have:=congrArg List.length hn;simp at this;omega
       ·rw[<- e,List.take_append_drop]
     ·exact .inl (decide_eq_false (by omega))
    ·rcases Nat.lt_or_ge 6 s.length with h4|h4
     ·refine .inr ⟨decide_eq_true (by omega),by omega,?_⟩
      cases hb:((s.take (Int.toNat 6)).drop 0==[100,116,110,58,47,47]) with
      | false=>rfl
      | true=>
       have e:s.take 6=[100,116,110,58,47,47]:=beq_iff_eq.1 hb
       refine absurd ⟨s.drop 6,?_,?_⟩ hT
       ·intro hn;have:=congrArg List.length hn;simp at this;omega
       ·rw[<- e,List.take_append_drop]
     ·exact .inl (decide_eq_false (by omega))
theorem Zdz [Known](n:Nat):AP Tryz.prog 111 [.int .u64 (n:Int)] (.agg [.int .i64 0,.int .u64 (n:Int),.sl .ext [],.sl .ext []]) []:=by
 refine AP.ofA (Zam Tryz.func111 U Tryz.ntmps111 U U ?_)
 repeat'(first|(apply Zag Zab;exact U))
 all_goals exact Qe
theorem Zcp [Known](x:EidV)(h:ZaH x=true):AP Tryz.prog 47 [.agg (eC x)] (itD (Zbg x)) []:=by
 have hK:=ZcM x (ZgF h)
 unfold Zbg
 cases hz:isZ x with
 | true=>
  rw[ZpV hz]at hK
  rw[if_pos rfl]
  have n1:=Zdz 1
  have n0:=Zdz 0
  replace n1:AP Tryz.prog _ [.int .u64 1] (.agg [.int .i64 0,.int .u64 1,.sl .ext [],.sl .ext []]) []:=n1
  replace n0:AP Tryz.prog _ [.int .u64 0] (.agg [.int .i64 0,.int .u64 0,.sl .ext [],.sl .ext []]) []:=n0
  refine AP.ofA (Zam Tryz.func47 U Tryz.ntmps47 U U ?_)
  repeat'(first|(apply Zaa (hK);kernel_rfl;(iterate 4 exact U))|(apply Zaa (n1);kernel_rfl;(iterate 4 exact U))|(apply Zaa (n0);kernel_rfl;(iterate 4 exact U))|(apply Zai Zab;exact U)|(apply Zag Zab;exact U)|refine Zad U Qt ?_|refine ZaL Zab U U U U U U U U U U U U ?_)
  all_goals exact Qe
 | false=>
  rw[if_neg (by simp)]
  cases hi:x.i with
  | true=>
   obtain⟨b1,b2,_⟩:=Zb9 h hz hi
   rw[ZpW h hi]at hK
   rw[if_pos rfl]
   have n2:=Zdz 2
   have nn:=Zdz x.n
   have ns:=Zdz x.s
   replace n2:AP Tryz.prog _ [.int .u64 2] (.agg [.int .i64 0,.int .u64 2,.sl .ext [],.sl .ext []]) []:=n2
   refine AP.ofA (Zam Tryz.func47 U Tryz.ntmps47 U U ?_)
   repeat'(first|(apply Zaa (hK);kernel_rfl;(iterate 4 exact U))|(apply Zaa (n2);kernel_rfl;(iterate 4 exact U))|(apply Zaa (nn);kernel_rfl;(iterate 4 exact U))|(apply Zaa (ns);kernel_rfl;(iterate 4 exact U))|(apply Zai Zab;exact U)|(apply Zag Zab;exact U)|refine Zad U Qt ?_|refine Zaf U Qt ?_|refine ZaL Zab U U U U U U U U U U U U ?_|(apply Zao 6 ZaQ;decide +kernel;kernel_rfl;kernel_rfl;kernel_rfl;exact U;exact U)|(apply Zas;(iterate 4 exact U))|exact AE.nil _ _ _ _|(apply Zaw;exact U)|(apply Zay;exact U;exact U;decide +kernel;exact U)|(apply Zaz;exact U)|exact AO.nil _ _ _|(apply Zar;(decide +kernel))|exact AOs.nil|exact ZaJ rfl rfl)
   all_goals exact Qe
  | false=>
   obtain⟨_,_,_,b1,b2,_⟩:=ZbJ h hz hi
   rw[ZpX h hz hi]at hK
   rw[if_neg (by simp)]
   have n1:=Zdz 1
   replace n1:AP Tryz.prog _ [.int .u64 1] (.agg [.int .i64 0,.int .u64 1,.sl .ext [],.sl .ext []]) []:=n1
   have l1:[(47:UInt8),47].length+x.h.length<=maxLen:=by simp;unfold maxLen;omega
   have l2:([(47:UInt8),47]++x.h).length + [(47:UInt8)].length<=maxLen:=by simp;unfold maxLen;omega
   have l3:([(47:UInt8),47]++x.h++[47]).length+x.d.length<=maxLen:=by simp;unfold maxLen;omega
   refine AP.ofA (Zam Tryz.func47 U Tryz.ntmps47 U U ?_)
   repeat'(first|(apply Zaa (hK);kernel_rfl;(iterate 4 exact U))|(apply Zaa (n1);kernel_rfl;(iterate 4 exact U))|(apply Zfx;exact U;exact U;(first|exact l1|exact l2|exact l3);exact U)|refine ZpK Zab U U U U U U U U ?_|(apply Zai Zab;exact U)|(apply Zag Zab;exact U)|refine Zaf U Qt ?_|refine ZaL Zab U U U U U U U U U U U U ?_|(apply Zao 10 ZaQ;decide +kernel;kernel_rfl;kernel_rfl;kernel_rfl;exact U;exact U)|(apply Zas;(iterate 4 exact U))|exact AE.nil _ _ _ _|(apply Zaw;exact U)|(apply Zay;exact U;exact U;decide +kernel;exact U)|(apply Zaz;exact U)|exact AO.nil _ _ _|(apply Zar;(decide +kernel))|exact AOs.nil|exact ZaJ rfl rfl)
   all_goals exact Qe
theorem ZnN {k:Int}{n:Nat}{b:List UInt8}{l:List It}(h:ZaD (.mk k n b l)=true):Zdi k n b l=true/\∀ y ∈ l,∃ d m m',Zcv y d m=some m':=by
 unfold ZaD at h
 cases hw:Zcv (.mk k n b l) 1 256 with
 | none=>rw[hw]at h;cases h
 | some m=>
  obtain⟨_,_,h1,h2⟩:=ZcI hw
  refine⟨h1,?_⟩
  clear hw h h1
  generalize (256:Nat)-1=m0 at h2
  induction l generalizing m0 with
  | nil=>intro y hy;cases hy
  | cons x l ih=>
   intro y hy
   obtain⟨m1,w1,w2⟩:=ZcE h2
   rcases List.mem_cons.1 hy with rfl|hy
   ·exact⟨_,_,_,w1⟩
   ·exact ih _ w2 y hy
theorem ZlL {x:It}{a c:Nat}(h:Zfk x=some (a,c)):∃ n b,x=.mk 4 n b [.mk 0 a [] [],.mk 0 c [] []]:=by
 unfold Zfk at h
 split at h
 ·rename_i k n b y0 y1
  split at h
  ·rename_i hk
   split at h
   ·rename_i hy
    simp only[Option.some.injEq,Prod.mk.injEq]at h
    rw[Bool.and_eq_true]at hy
    have e0:=It.beq_iff.1 hy.1
    have e1:=It.beq_iff.1 hy.2
    rw[h.1]at e0
    rw[h.2]at e1
    rw[hk,e0,e1]
    exact⟨n,b,rfl⟩
   ·cases h
  ·cases h
 ·cases h
theorem ZdA {x:It}(h:(Zbf x).2=true):ZaH (Zbf x).1=true/\Zbg (Zbf x).1=x:=by
 unfold Zbf at h ⊢
 cases hr:ZaD x with
 | false=>rw[hr]at h;cases h
 | true=>
  obtain⟨k,n,b,l⟩:=x
  rw[hr]at h
  match l,hr,h with
  | [],hr,h=>cases h
  | [s],hr,h=>cases h
  | s::r::y::l,hr,h=>cases h
  | [s,r],hr,h=>
   dsimp only at h ⊢
   by_cases hk:k=4
   case neg=>rw[if_neg hk]at h;cases h
   rw[if_pos hk]at h ⊢
   subst hk
   obtain⟨ho,hm⟩:=ZnN hr
   have hn:n=0/\b=[]:=by simpa[Zdi]using ho
   obtain⟨rfl,rfl⟩:=hn
   obtain⟨rk,rn,rb,rl⟩:=r
   obtain⟨d,m,m',hwr⟩:=hm (.mk rk rn rb rl) (by simp)
   obtain⟨_,_,ho2,_⟩:=ZcI hwr
   unfold Ze3 at h ⊢
   cases h1:Zc6 1 s with
   | true=>
    have es:=It.beq_iff.1 h1
    rw[h1]at h
    cases h0:Zc6 0 (.mk rk rn rb rl) with
    | true=>
     have er:=It.beq_iff.1 h0
     dsimp only
     rw[es,er]
     exact⟨by decide,rfl⟩
    | false=>
     rw[h0]at h
     dsimp only at h ⊢
     cases h3:(It.mk rk rn rb rl).k==3 with
     | false=>rw[h3]at h;cases h
     | true=>
      rw[h3]at h
      have hk3:rk=3:=by simpa[It.k]using h3
      subst hk3
      have hn:rn=0/\rl=[]:=by
       have:Zdi 3 rn rb rl=true:=ho2
       simp[Zdi]at this
       exact⟨this.1,this.2.1⟩
      obtain⟨rfl,rfl⟩:=hn
      dsimp only[It.b]at h ⊢
      unfold ppV at h ⊢
      dsimp only at h ⊢
      simp only[Bool.and_eq_true,bne_iff_ne]at h
      obtain⟨k3,k4,k5,k6⟩:=h
      have e2:=Ze0 k3
      generalize (Zev [47,47] rb).1=q at *
      refine⟨k6,?_⟩
      unfold Zbg
      rw[if_neg (by rw[Zc3];intro e;exact k5 (congrArg EidV.h e)),if_neg (by simp),es,e2]
      have:=ZeY k4
      conv=>rhs;rw[this]
      simp[Zck]
   | false=>
    rw[h1]at h
    cases h2:Zc6 2 s with
    | false=>rw[h2]at h;cases h
    | true=>
     have es:=It.beq_iff.1 h2
     rw[h2]at h
     dsimp only at h ⊢
     cases hq:Zfk (.mk rk rn rb rl) with
     | none=>rw[hq]at h;cases h
     | some ac=>
      obtain⟨a,c⟩:=ac
      rw[hq]at h
      dsimp only at h ⊢
      refine⟨h,?_⟩
      obtain⟨n2,b2,e2⟩:=ZlL hq
      cases e2
      have hn:rn=0/\rb=[]:=by simpa[Zdi]using ho2
      obtain⟨rfl,rfl⟩:=hn
      unfold Zbg
      rw[if_neg (by simp[isZ]),if_pos rfl,es]
abbrev ZjQ (x:It):D:=.tup [.agg (eC (match(Zbf x).2 with|true=>(Zbf x).1|false=>Zdj)),.bool (Zbf x).2]
theorem Ze7 {x:It}(h:(Zbf x).2=false):ZjQ x=.tup [.agg (eC Zdj),.bool false]:=by unfold ZjQ;rw[h]
theorem ZnO {x:It}{e:EidV}(h:Zbf x=(e,true)):ZjQ x=.tup [.agg (eC e),.bool true]:=by unfold ZjQ;rw[h]
theorem ZgG {e:EidV}(h:ZaH e=true):∃ s z,Zbg e=.mk 4 0 [] [s,z]/\((isZ e=true/\z=.mk 0 0 [] [])\/(isZ e=false/\e.i=true/\z=.mk 4 0 [] [.mk 0 e.n [] [],.mk 0 e.s [] []]/\e.h=[]/\e.d=[])\/(isZ e=false/\e.i=false/\z=.mk 3 0 (Zck e) []/\Zc5 e=ZgU++Zck e)):=by
 unfold Zbg
 cases hz:isZ e with
 | true=>rw[if_pos rfl];exact⟨_,_,rfl,.inl ⟨rfl,rfl⟩⟩
 | false=>
  rw[if_neg (by simp)]
  cases hi:e.i with
  | true=>
   obtain⟨_,_,h1,h2,_⟩:=Zb9 h hz hi
   rw[if_pos rfl];exact⟨_,_,rfl,.inr (.inl ⟨rfl,rfl,rfl,h1,h2⟩)⟩
  | false=>
   rw[if_neg (by simp)]
   refine⟨_,_,rfl,.inr (.inr ⟨rfl,rfl,rfl,?_⟩)⟩
   unfold Zc5
   rw[hz,if_neg (by simp),hi,if_neg (by simp)]
   rfl
theorem Zsa {k:Int}{n:Nat}{b:List UInt8}{l:List It}(h:k ≠ 4\/l.length ≠ 2):(Zbf (.mk k n b l)).2=false:=by
 cases hp:(Zbf (.mk k n b l)).2 with
 | false=>rfl
 | true=>
  obtain⟨h1,h2⟩:=ZdA hp
  obtain⟨s,z,e,_⟩:=ZgG h1
  rw[e]at h2
  cases h2
  rcases h with h|h
  ·exact absurd rfl h
  ·exact absurd rfl h
theorem ZnP {n:Nat}{b:List UInt8}{s z:It}{c:EidV}
  (hZ:z=.mk 0 0 [] []->c=Zdj) (hI:∀ p q,z=.mk 4 0 [] [.mk 0 p [] [],.mk 0 q [] []]->c=⟨true,p,q,[],[]⟩) (hT:∀ t,z=.mk 3 0 t []->(Zbe (ZgU++t)).2=true->c=(Zbe (ZgU++t)).1)
  (hp:(Zbf (.mk 4 n b [s,z])).2=true):c=(Zbf (.mk 4 n b [s,z])).1:=by
 obtain⟨h1,h2⟩:=ZdA hp
 generalize (Zbf (.mk 4 n b [s,z])).1=e at *
 obtain⟨s',z',ee,hh⟩:=ZgG h1
 rw[ee]at h2
 cases h2
 rcases hh with⟨hz,hh⟩ | ⟨hz,hi,hh,e1,e2⟩ | ⟨hz,hi,hh,ht⟩
 ·rw[hZ hh,Zc3.1 hz]
 ·rw[hI _ _ hh]
  obtain⟨i,n,s,h,d⟩:=e
  simp only at hi e1 e2
  rw[hi,e1,e2]
 ·have hq:=Zfo h1
  rw[ht]at hq
  have:=hT _ hh (by rw[hq])
  rw[this,hq]
theorem ZnQ {n n3:Nat}{b t:List UInt8}{s:It}{l:List It}(h:(Zbe (ZgU++t)).2=false):(Zbf (.mk 4 n b [s,.mk 3 n3 t l])).2=false:=by
 cases hp:(Zbf (.mk 4 n b [s,.mk 3 n3 t l])).2 with
 | false=>rfl
 | true=>
  obtain⟨h1,h2⟩:=ZdA hp
  generalize (Zbf (.mk 4 n b [s,.mk 3 n3 t l])).1=e at *
  obtain⟨s',z',ee,hh⟩:=ZgG h1
  rw[ee]at h2
  cases h2
  rcases hh with⟨hz,hh⟩ | ⟨hz,hi,hh,e1,e2⟩ | ⟨hz,hi,hh,ht⟩
  ·cases hh
  ·cases hh
  ·cases hh
   have hq:=Zfo h1
   rw[ht]at hq
   rw[hq]at h;cases h
theorem ZtR {x:It}{c:EidV}(hc:(Zbf x).2=true->c=(Zbf x).1)(hk:ZaH c=false):(Zbf x).2=false:=by
 cases hp:(Zbf x).2 with
 | false=>rfl
 | true=>rw[hc hp,(ZdA hp).1]at hk;cases hk
theorem ZtS {x:It}{c:EidV}(hc:(Zbf x).2=true->c=(Zbf x).1)(hs:It.beq (Zbg c) x=false):(Zbf x).2=false:=by
 cases hp:(Zbf x).2 with
 | false=>rfl
 | true=>rw[hc hp,(ZdA hp).2,It.beq_iff.2 rfl]at hs;cases hs
theorem ZtT {x:It}{c:EidV}(hk:ZaH c=true)(hs:It.beq (Zbg c) x=true):Zbf x=(c,true):=by
 rw[<- It.beq_iff.1 hs,ZjE hk (Zgt hk)]
theorem Zty [Known](k:Int)(n:Nat)(b:List UInt8)(l:List It)(h:k ≠ 4\/l.length ≠ 2):AP Tryz.prog 90 [itD (.mk k n b l)] (.tup [.agg [.bool false,.int .u64 0,.int .u64 0,.str [],.str []],.bool false]) []:=by
 by_cases hk:k=4
 ·have t1:(k != 4)=false:=by simpa using hk
  have hl:l.length ≠ 2:=by
   rcases h with h|h
   ·exact absurd hk h
   ·exact h
  have t2:(((ZaC l).length:Int) != 2)=true:=by rw[Zaq];simp;omega
  refine AP.ofA (Zam Tryz.func90 U Tryz.ntmps90 U U ?_)
  repeat'(first|(apply Zai Zab;exact U)|(apply Zag Zab;exact U)|(apply Zau Zab;exact U)|refine Zae U U U Qt ?_|refine Zah U Qt U U ?_|refine Zad U Qt ?_|refine Zan Zab U U U U ?_)
  all_goals exact Qe
 ·have t1:(k != 4)=true:=by simpa using hk
  refine AP.ofA (Zam Tryz.func90 U Tryz.ntmps90 U U ?_)
  repeat'(first|(apply Zai Zab;exact U)|(apply Zag Zab;exact U)|(apply Zau Zab;exact U)|refine Zal U U U Qt ?_|refine Zak U Qt U U ?_|refine Zad U Qt ?_)
  all_goals exact Qe
theorem ZtU [Known](s z:It)(n:Nat)(b:List UInt8)(n2:Nat)(b2:List UInt8)(kp:Int)(np:Nat)(bp:List UInt8)(lp:List It)(kq:Int)(nq:Nat)(bq:List UInt8)(lq:List It)(ez:z=.mk 4 n2 b2 [.mk kp np bp lp,.mk kq nq bq lq])(κ:Int)(w:It)(z4 R:Bool)
  (hK:AP Tryz.prog 45 [.agg [.bool true,.int .u64 (np:Int),.int .u64 (nq:Int),.str [],.str []]] (.int .i64 κ) []) (t4:decide (κ<0)=z4)
  (hW:z4=false->AP Tryz.prog 47 [.agg [.bool true,.int .u64 (np:Int),.int .u64 (nq:Int),.str [],.str []]] (itD w) [])
  (hS:z4=false->AP Tryz.prog 22 [itD w,itD (.mk 4 n b [s,z])] (.bool R) []) :
  AP Tryz.prog 90 [itD (.mk 4 n b [s,z])] (ZjO z4 (!R) true np nq [] []) []:=by
 have hU:=ZcF [s,z]
 subst ez
 have hU2:=ZcF [.mk kp np bp lp,.mk kq nq bq lq]
 have t2:(((ZaC [s,.mk 4 n2 b2 [.mk kp np bp lp,.mk kq nq bq lq]]).length:Int) != 2)=false:=rfl
 have t3:(((ZaC [.mk kp np bp lp,.mk kq nq bq lq]).length:Int)==2)=true:=rfl
 obtain⟨sk,sn,sb,sl⟩:=s
 obtain⟨wk,wn,wb,wl⟩:=w
 cases z4 with
 | true=>
  clear hW hS
  cases R
  all_goals
   refine AP.ofA (Zam Tryz.func90 U Tryz.ntmps90 U U ?_)
   repeat'(first|(apply Zaa (hK);kernel_rfl;(iterate 4 exact U))|(apply Zai Zab;exact U)|(apply Zag Zab;exact U)|(apply Zau Zab;exact U)|refine Zae U U U Qt ?_|refine Zal U U U Qt ?_|refine Zak U Qt U U ?_|refine Zah U Qt U U ?_|refine Zad U Qt ?_|refine Zaf U Qt ?_|refine Zan Zab U U U U ?_|(apply Zao 7 ZaQ;decide +kernel;kernel_rfl;kernel_rfl;kernel_rfl;exact U;exact U)|(apply Zao 10 ZaQ;decide +kernel;kernel_rfl;kernel_rfl;kernel_rfl;exact U;exact U)|(apply Zas;(iterate 4 exact U))|exact AE.nil _ _ _ _|(apply Zaw;exact U)|(apply Zay;exact U;exact U;decide +kernel;exact U)|(apply Zaz;exact U)|exact AO.nil _ _ _|(apply Zar;(decide +kernel))|exact AOs.nil|exact ZaJ rfl rfl|(apply Zat Zab;(iterate 6 exact U);(first|exact Qt|rotate_left);(first|with_reducible assumption|decide +kernel|exact U);(first|exact Zaj rfl|with_reducible assumption|decide +kernel|rotate_left)))
   all_goals exact Qe
 | false=>
  have hW:=hW rfl
  have hS:=hS rfl
  cases R
  all_goals
   refine AP.ofA (Zam Tryz.func90 U Tryz.ntmps90 U U ?_)
   repeat'(first|(apply Zaa (hK);kernel_rfl;(iterate 4 exact U))|(apply Zaa (hW);kernel_rfl;(iterate 4 exact U))|(apply Zaa (hS);kernel_rfl;(iterate 4 exact U))|(apply Zai Zab;exact U)|(apply Zag Zab;exact U)|(apply Zau Zab;exact U)|refine Zae U U U Qt ?_|refine Zak U Qt U U ?_|refine Zah U Qt U U ?_|refine Zad U Qt ?_|refine Zaf U Qt ?_|refine Zan Zab U U U U ?_|(apply Zao 7 ZaQ;decide +kernel;kernel_rfl;kernel_rfl;kernel_rfl;exact U;exact U)|(apply Zao 10 ZaQ;decide +kernel;kernel_rfl;kernel_rfl;kernel_rfl;exact U;exact U)|(apply Zas;(iterate 4 exact U))|exact AE.nil _ _ _ _|(apply Zaw;exact U)|(apply Zay;exact U;exact U;decide +kernel;exact U)|(apply Zaz;exact U)|exact AO.nil _ _ _|(apply Zar;(decide +kernel))|exact AOs.nil|exact ZaJ rfl rfl|(apply Zat Zab;(iterate 6 exact U);(first|exact Qt|rotate_left);(first|with_reducible assumption|decide +kernel|exact U);(first|exact Zaj rfl|with_reducible assumption|decide +kernel|rotate_left)))
   all_goals exact Qe
theorem ZtV [Known](s:It)(n:Nat)(b:List UInt8)(kz:Int)(nz:Nat)(bz:List UInt8)(lz:List It)(hz:kz=4/\lz.length ≠ 2\/kz ≠ 4/\kz ≠ 3)(w:It)(R:Bool)
  (hK:AP Tryz.prog 45 [.agg [.bool false,.int .u64 0,.int .u64 0,.str [],.str []]] (.int .i64 0) [])
  (hW:AP Tryz.prog 47 [.agg [.bool false,.int .u64 0,.int .u64 0,.str [],.str []]] (itD w) [])
  (hS:AP Tryz.prog 22 [itD w,itD (.mk 4 n b [s,.mk kz nz bz lz])] (.bool R) []) :
  AP Tryz.prog 90 [itD (.mk 4 n b [s,.mk kz nz bz lz])] (ZjO false (!R) false 0 0 [] []) []:=by
 have hU:=ZcF [s,.mk kz nz bz lz]
 have t2:(((ZaC [s,.mk kz nz bz lz]).length:Int) != 2)=false:=rfl
 obtain⟨sk,sn,sb,sl⟩:=s
 obtain⟨wk,wn,wb,wl⟩:=w
 have t5:(kz==3)=false:=by
  rcases hz with⟨rfl,_⟩ | ⟨_,h⟩
  ·rfl
  ·simpa using h
 rcases hz with⟨rfl,hl⟩ | ⟨hk,_⟩
 ·have t3:(((ZaC lz).length:Int)==2)=false:=by rw[Zaq];simp;omega
  cases R
  all_goals
   refine AP.ofA (Zam Tryz.func90 U Tryz.ntmps90 U U ?_)
   repeat'(first|(apply Zaa (hK);kernel_rfl;(iterate 4 exact U))|(apply Zaa (hW);kernel_rfl;(iterate 4 exact U))|(apply Zaa (hS);kernel_rfl;(iterate 4 exact U))|(apply Zai Zab;exact U)|(apply Zag Zab;exact U)|(apply Zau Zab;exact U)|refine Zae U U U Qt ?_|refine Zak U Qt U U ?_|refine Zah U Qt U U ?_|refine Zad U Qt ?_|refine Zaf U Qt ?_|refine Zan Zab U U U U ?_|(apply Zao 7 ZaQ;decide +kernel;kernel_rfl;kernel_rfl;kernel_rfl;exact U;exact U)|(apply Zas;(iterate 4 exact U))|exact AE.nil _ _ _ _|(apply Zaw;exact U)|(apply Zay;exact U;exact U;decide +kernel;exact U)|(apply Zaz;exact U)|exact AO.nil _ _ _|(apply Zar;(decide +kernel))|exact AOs.nil|exact ZaJ rfl rfl|(apply Zat Zab;(iterate 6 exact U);(first|exact Qt|rotate_left);(first|with_reducible assumption|decide +kernel|exact U);(first|exact Zaj rfl|with_reducible assumption|decide +kernel|rotate_left)))
   all_goals exact Qe
 ·have t3:(kz==4)=false:=by simpa using hk
  cases R
  all_goals
   refine AP.ofA (Zam Tryz.func90 U Tryz.ntmps90 U U ?_)
   repeat'(first|(apply Zaa (hK);kernel_rfl;(iterate 4 exact U))|(apply Zaa (hW);kernel_rfl;(iterate 4 exact U))|(apply Zaa (hS);kernel_rfl;(iterate 4 exact U))|(apply Zai Zab;exact U)|(apply Zag Zab;exact U)|(apply Zau Zab;exact U)|refine Zae U U U Qt ?_|refine Zap U U U Qt ?_|refine Zah U Qt U U ?_|refine Zad U Qt ?_|refine Zaf U Qt ?_|refine Zan Zab U U U U ?_|(apply Zao 7 ZaQ;decide +kernel;kernel_rfl;kernel_rfl;kernel_rfl;exact U;exact U)|(apply Zas;(iterate 4 exact U))|exact AE.nil _ _ _ _|(apply Zaw;exact U)|(apply Zay;exact U;exact U;decide +kernel;exact U)|(apply Zaz;exact U)|exact AO.nil _ _ _|(apply Zar;(decide +kernel))|exact AOs.nil|exact ZaJ rfl rfl|(apply Zat Zab;(iterate 6 exact U);(first|exact Qt|rotate_left);(first|with_reducible assumption|decide +kernel|exact U);(first|exact Zaj rfl|with_reducible assumption|decide +kernel|rotate_left)))
   all_goals exact Qe
theorem ZtW [Known](s:It)(n:Nat)(b:List UInt8)(nz:Nat)(bz:List UInt8)(lz:List It)(xi:Bool)(xn xs:Nat)(xh xd:List UInt8)(κ:Int)(w:It)(R:Bool)(hl:[(100:UInt8),116,110,58].length+bz.length<=maxLen)
  (hP:AP Tryz.prog 149 [.str ([100,116,110,58]++bz)] (.tup [.agg [.bool xi,.int .u64 (xn:Int),.int .u64 (xs:Int),.str xh,.str xd],.bool true]) [])
  (hK:AP Tryz.prog 45 [.agg [.bool xi,.int .u64 (xn:Int),.int .u64 (xs:Int),.str xh,.str xd]] (.int .i64 κ) []) (t4:decide (κ<0)=false)
  (hW:AP Tryz.prog 47 [.agg [.bool xi,.int .u64 (xn:Int),.int .u64 (xs:Int),.str xh,.str xd]] (itD w) [])
  (hS:AP Tryz.prog 22 [itD w,itD (.mk 4 n b [s,.mk 3 nz bz lz])] (.bool R) []) :
  AP Tryz.prog 90 [itD (.mk 4 n b [s,.mk 3 nz bz lz])] (ZjO false (!R) xi xn xs xh xd) []:=by
 have hU:=ZcF [s,.mk 3 nz bz lz]
 have t2:(((ZaC [s,.mk 3 nz bz lz]).length:Int) != 2)=false:=rfl
 obtain⟨sk,sn,sb,sl⟩:=s
 obtain⟨wk,wn,wb,wl⟩:=w
 cases R
 all_goals
  refine AP.ofA (Zam Tryz.func90 U Tryz.ntmps90 U U ?_)
  repeat'(first|(apply Zaa (hP);kernel_rfl;(iterate 4 exact U))|(apply Zaa (hK);kernel_rfl;(iterate 4 exact U))|(apply Zaa (hW);kernel_rfl;(iterate 4 exact U))|(apply Zaa (hS);kernel_rfl;(iterate 4 exact U))|refine Zfx U U hl U ?_|refine Zdq Zab U U U U U U U U U ?_|(apply Zai Zab;exact U)|(apply Zag Zab;exact U)|(apply Zau Zab;exact U)|refine Zae U U U Qt ?_|refine Zap U U U Qt ?_|refine Zah U Qt U U ?_|refine Zad U Qt ?_|refine Zaf U Qt ?_|refine Zan Zab U U U U ?_|(apply Zao 7 ZaQ;decide +kernel;kernel_rfl;kernel_rfl;kernel_rfl;exact U;exact U)|(apply Zas;(iterate 4 exact U))|exact AE.nil _ _ _ _|(apply Zaw;exact U)|(apply Zay;exact U;exact U;decide +kernel;exact U)|(apply Zaz;exact U)|exact AO.nil _ _ _|(apply Zar;(decide +kernel))|exact AOs.nil|exact ZaJ rfl rfl|(apply Zat Zab;(iterate 6 exact U);(first|exact Qt|rotate_left);(first|with_reducible assumption|decide +kernel|exact U);(first|exact Zaj rfl|with_reducible assumption|decide +kernel|rotate_left))|refine Zdq Zab U U U U U U U U U ?_)
  all_goals exact Qe
theorem ZtX [Known](s:It)(n:Nat)(b:List UInt8)(nz:Nat)(bz:List UInt8)(lz:List It)(hl:[(100:UInt8),116,110,58].length+bz.length<=maxLen)
  (hP:AP Tryz.prog 149 [.str ([100,116,110,58]++bz)] (.tup [.agg [.bool false,.int .u64 0,.int .u64 0,.str [],.str []],.bool false]) []) :
  AP Tryz.prog 90 [itD (.mk 4 n b [s,.mk 3 nz bz lz])] (.tup [.agg [.bool false,.int .u64 0,.int .u64 0,.str [],.str []],.bool false]) []:=by
 have hU:=ZcF [s,.mk 3 nz bz lz]
 have t2:(((ZaC [s,.mk 3 nz bz lz]).length:Int) != 2)=false:=rfl
 obtain⟨sk,sn,sb,sl⟩:=s
 refine AP.ofA (Zam Tryz.func90 U Tryz.ntmps90 U U ?_)
 repeat'(first|(apply Zaa (hP);kernel_rfl;(iterate 4 exact U))|refine Zfx U U hl U ?_|refine Zdq Zab U U U U U U U U U ?_|(apply Zai Zab;exact U)|(apply Zag Zab;exact U)|(apply Zau Zab;exact U)|refine Zae U U U Qt ?_|refine Zap U U U Qt ?_|refine Zah U Qt U U ?_|refine Zad U Qt ?_|refine Zaf U Qt ?_|refine Zan Zab U U U U ?_|(apply Zat Zab;(iterate 6 exact U);(first|exact Qt|rotate_left);(first|with_reducible assumption|decide +kernel|exact U);(first|exact Zaj rfl|with_reducible assumption|decide +kernel|rotate_left))|refine Zdq Zab U U U U U U U U U ?_)
 all_goals exact Qe
theorem ZgH {x:It}{c:EidV}(hc:(Zbf x).2=true->c=(Zbf x).1){i:Bool}{n q:Nat}{h d:List UInt8}(ec:c=⟨i,n,q,h,d⟩):ZjO (decide (Zcg c<0)) (!(It.beq (Zbg c) x)) i n q h d=ZjQ x:=by
 have hk:=Zfm c
 cases hr:ZaH c with
 | false=>
  have e:decide (Zcg c<0)=true:=decide_eq_true (by have:=of_decide_eq_false (hk.trans hr);omega)
  rw[e,Ze7 (ZtR hc hr)]
  cases !(It.beq (Zbg c) x)<;>rfl
 | true=>
  have e:decide (Zcg c<0)=false:=decide_eq_false (by have:=of_decide_eq_true (hk.trans hr);omega)
  rw[e]
  cases hs:It.beq (Zbg c) x with
  | false=>rw[Ze7 (ZtS hc hs)];rfl
  | true=>rw[ZnO (ZtT hr hs),ec];rfl
theorem ZgI {c:EidV}(h:decide (Zcg c<0)=false):ZaH c=true:=by
 rw[<- Zfm]
 exact decide_eq_true (by have:=of_decide_eq_false h;omega)
theorem Zeo {c:EidV}(h:ZaH c=true):decide (Zcg c<0)=false:=decide_eq_false (by have:=of_decide_eq_true ((Zfm c).trans h);omega)
theorem ZjR [Known](x:It)(hw:wfI x)(hb:∀ y ∈ x.l,y.b.length<=1099511627000):AP Tryz.prog 90 [itD x] (ZjQ x) []:=by
 obtain⟨k,n,b,l⟩:=x
 by_cases hk:k=4
 case neg=>rw[Ze7 (Zsa (.inl hk))];exact Zty k n b l (.inl hk)
 by_cases hl:l.length=2
 case neg=>rw[Ze7 (Zsa (.inr hl))];exact Zty k n b l (.inr hl)
 subst hk
 obtain⟨s,z,rfl⟩:∃ s z,l=[s,z]:=by
  match l,hl with
  | [s,z],_=>exact⟨s,z,rfl⟩
 have hbz:=hb z (by simp[It.l])
 clear hl hb
 have kZ:=ZcM Zdj ⟨by decide,by decide⟩
 have wZ:=Zcp Zdj (by decide)
 have sZ:=Zei (Zbg Zdj) (Zdf (by decide)) _ hw
 obtain⟨kz,nz,bz,lz⟩:=z
 simp only[It.b]at hbz
 by_cases h3:kz=3
 ·subst h3
  have hP:=ZjP (ZgU++bz) (by simp[ZgU];omega)
  have hml:[(100:UInt8),116,110,58].length+bz.length<=maxLen:=by simp;unfold maxLen;omega
  cases hp:(Zbe (ZgU++bz)).2 with
  | false=>
   rw[Zd9 hp]at hP
   rw[Ze7 (ZnQ hp)]
   exact ZtX s n b nz bz lz hml hP
  | true=>
   obtain⟨hr,_⟩:=ZcU hp
   unfold ZgE at hP
   rw[hp]at hP
   have hc:(Zbf (.mk 4 n b [s,.mk 3 nz bz lz])).2=true->(Zbe (ZgU++bz)).1=(Zbf (.mk 4 n b [s,.mk 3 nz bz lz])).1:=
    ZnP (fun e=>by cases e) (fun p q e=>by cases e) (fun t e _=>by cases e;rfl)
   generalize (Zbe (ZgU++bz)).1=c at *
   rw[<- ZgH hc (show c=⟨c.i,c.n,c.s,c.h,c.d⟩ from rfl),Zeo hr]
   exact ZtW s n b nz bz lz c.i c.n c.s c.h c.d (Zcg c) (Zbg c) _ hml hP (ZcM c (ZgF hr)) (Zeo hr) (Zcp c hr) (Zei (Zbg c) (Zdf hr) _ hw)
 ·by_cases h4:kz=4/\lz.length=2
  ·obtain⟨rfl,hl2⟩:=h4
   obtain⟨⟨kp,np,bp,lp⟩,⟨kq,nq,bq,lq⟩,rfl⟩:∃ p q,lz=[p,q]:=by
    match lz,hl2 with
    | [p,q],_=>exact⟨p,q,rfl⟩
   have hc:(Zbf (.mk 4 n b [s,.mk 4 nz bz [.mk kp np bp lp,.mk kq nq bq lq]])).2=true->(⟨true,np,nq,[],[]⟩:EidV)=(Zbf (.mk 4 n b [s,.mk 4 nz bz [.mk kp np bp lp,.mk kq nq bq lq]])).1:=
    ZnP (fun e=>by cases e) (fun p q e=>by cases e;rfl) (fun t e _=>by cases e)
   rw[<- ZgH hc rfl]
   exact ZtU s _ n b nz bz kp np bp lp kq nq bq lq rfl (Zcg ⟨true,np,nq,[],[]⟩) (Zbg ⟨true,np,nq,[],[]⟩) _ _ (ZcM ⟨true,np,nq,[],[]⟩ ⟨Nat.zero_le _,Nat.zero_le _⟩) rfl (fun h=>Zcp ⟨true,np,nq,[],[]⟩ (ZgI h)) (fun h=>Zei (Zbg ⟨true,np,nq,[],[]⟩) (Zdf (ZgI h)) _ hw)
  ·have hc:(Zbf (.mk 4 n b [s,.mk kz nz bz lz])).2=true->Zdj=(Zbf (.mk 4 n b [s,.mk kz nz bz lz])).1:=
    ZnP (fun e=>rfl) (fun p q e=>by cases e;exact absurd ⟨rfl,rfl⟩ h4) (fun t e _=>by cases e;exact absurd rfl h3)
   rw[<- ZgH hc rfl]
   exact ZtV s n b kz nz bz lz (by
    by_cases h5:kz=4
    ·exact .inl ⟨h5,fun e=>h4 ⟨h5,e⟩⟩
    ·exact .inr ⟨h5,h3⟩) (Zbg Zdj) _ kZ wZ sZ
theorem Zk3:∀ {l:List It} {y:It},y ∈ l->(ZaZ y).length<=(ZaX l).length
 | x::l,y,h=>by
  rw[ZaX,List.length_append]
  rcases List.mem_cons.1 h with rfl|h
  ·omega
  ·have:=Zk3 h;omega
theorem ZtY (y:It):y.b.length<=(ZaZ y).length:=by
 obtain⟨k,n,b,l⟩:=y
 rw[ZaZ,List.length_append,List.length_append]
 show b.length<=_
 omega
theorem Ztf (k:Int)(n:Nat)(b:List UInt8)(l:List It):(ZaX l).length<=(ZaZ (.mk k n b l)).length:=by
 rw[ZaZ,List.length_append,List.length_append]
 omega
end Go.Proofs.YtakblclkflnnpaaGreatDoor
end

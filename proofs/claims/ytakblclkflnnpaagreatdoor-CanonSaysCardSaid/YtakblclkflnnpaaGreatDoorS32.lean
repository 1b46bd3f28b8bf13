/- The document's answers for names: the name of any text. -/
import Derived.Test.YtakblclkflnnpaaGreatDoorS31
import Derived.Test.YtakblclkflnnpaaGreatDoorS27
import Derived.Test.YtakblclkflnnpaaGreatDoorS12
import Derived.Test.YtakblclkflnnpaaGreatDoorS30
set_option linter.unusedVariables false
set_option linter.unusedSimpArgs false
section
open Go.RowKit Go.Pl Go.Av
namespace Go.Proofs.YtakblclkflnnpaaGreatDoor
set_option maxHeartbeats 4000000
theorem Zi3 {c:UInt8}(h:c ≠ 47):c.toNat ≠ 47:=fun e=>h (UInt8.toNat_inj.1 (by rw[e];rfl))
theorem Zi4 {s:List UInt8}{c:EidV}(h0:s ≠ Zd1)(hc:(Za5 s).2=true->c=(Za5 s).1){i:Bool}{n q:Nat}{h d:List UInt8}(ec:c=⟨i,n,q,h,d⟩):Zh0 (decide (Zb8 c<1)) (Zcx c != s) i n q h d=Zfr s:=by
 cases hk:decide (Zb8 c<1) with
 | true=>rw[Zdk (Zon h0 hc hk)];cases(Zcx c != s)<;>rfl
 | false=>
  cases ht:(Zcx c != s) with
  | true=>rw[Zdk (Zoo hc ht)];rfl
  | false=>rw[Zf0 (Zop hk ht),ec]
theorem Zeo {c:EidV}(h:decide (Zb8 c<1)=false):ZaY c=true:=by
 rw[ZhY,Bool.or_eq_false_iff]at h
 simpa using h.1
theorem Zh1 [Known](s:List UInt8)(hs:s.length<=1099511627776):AP Tryz.prog 149 [.str s] (Zfr s) []:=by
 cases h0:(s==Zd1) with
 | true=>
  have e:Za5 s=(Zc2,true):=by unfold Za5;rw[if_pos h0]
  rw[Zf0 e]
  exact ZpR s h0
 | false=>
  have hne:s ≠ Zd1:=by simpa using h0
  by_cases hI:∃ r,r ≠ []/\s=Zd2++r
  ·obtain⟨r,hr,rfl⟩:=hI
   have hl:(Zd2++r).length=4+r.length:=by simp[Zd2];omega
   have hrl:0<r.length:=List.length_pos_iff.2 hr
   have hn:=Zi2 11 0 r
   have hC1:=Zho (Zd2++r) 4 (by omega) (by omega)
   have ed:(Zd2++r).drop 4=r:=rfl
   rw[ed]at hC1
   have hK:=ZcX (Zhn r) ⟨by simp[Zhn],by simp[Zhn]⟩
   rw[<- Zi4 hne Zmf (show Zhn r=⟨true,_,_,[],[]⟩ from rfl)]
   refine ZpT (Zd2++r) (ZcP 11 0 r).1 (if 4+(ZcP 11 0 r).2<4+r.length then(ZcP 11 0 (r.drop ((ZcP 11 0 r).2+1))).1 else 0) (4+(ZcP 11 0 r).2) ((4+(ZcP 11 0 r).2+1)+(ZcP 11 0 (r.drop ((ZcP 11 0 r).2+1))).2) (Zb8 (Zhn r)) (Zcx (Zhn r)) (decide (4+(ZcP 11 0 r).2<4+r.length)) _ _ h0 (decide_eq_true (by omega)) (by omega) rfl hC1 (by rw[hl];simp only[Int.ofNat_lt]) (by rw[IntWalk.i64_in _ (by omega)];omega) (fun hz=>?_) (fun hz=>if_neg (of_decide_eq_false hz)) hK rfl (fun hz=>Zen _ (Zeo hz)) rfl
   have hz:=of_decide_eq_true hz
   rw[if_pos hz]
   have hC2:=Zho (Zd2++r) (4+(ZcP 11 0 r).2+1) (by omega) (by omega)
   have ed2:(Zd2++r).drop (4+(ZcP 11 0 r).2+1)=r.drop ((ZcP 11 0 r).2+1):=by
    rw[show 4+(ZcP 11 0 r).2+1=4+((ZcP 11 0 r).2+1) by omega,<- List.drop_drop,ed]
   rw[ed2]at hC2
   exact hC2
  ·by_cases hT:∃ r,r ≠ []/\s=[100,116,110,58,47,47]++r
   ·obtain⟨r,hr,rfl⟩:=hT
    have hl:([100,116,110,58,47,47]++r:List UInt8).length=6+r.length:=by simp;omega
    have hrl:0<r.length:=List.length_pos_iff.2 hr
    have ed:([100,116,110,58,47,47]++r:List UInt8).drop 6=r:=rfl
    have eg:∀ i,([100,116,110,58,47,47]++r:List UInt8)[6+i]?=r[i]? := fun i=>by rw[<- List.getElem?_drop,ed]
    rcases Zfo 47 r with hno|⟨a,b,rfl,hno⟩
    ·have hK:=ZcX ⟨false,0,0,r,[]⟩ ⟨by show r.length<=_;omega,by simp⟩
     have h:=ZpD ([100,116,110,58,47,47]++r) (6+r.length) r [] (Zb8 ⟨false,0,0,r,[]⟩) (Zcx ⟨false,0,0,r,[]⟩) _ _ h0 (by omega) (decide_eq_true (by omega)) (by omega) rfl (decide_eq_true (by omega)) (by omega) rfl (by omega) (by omega)
      (fun i h6 hi=>by
       obtain⟨j,rfl⟩:∃ j,i=6+j:=⟨i-6,by omega⟩
       rw[eg]
       have hj:j<r.length:=by omega
       exact⟨r[j],List.getElem?_eq_getElem hj,Zi3 fun e=>hno (e ▸ List.getElem_mem hj)⟩)
      (fun h=>by omega) (by rw[List.take_of_length_le (by omega),ed]) (List.drop_of_length_le (by omega)) hK rfl (fun hz=>Zen _ (Zeo hz)) rfl
     rw[if_neg (by omega)]at h
     rw[Zdk (Zi1 hne (fun r' hr' e=>hI ⟨r',hr',e⟩) (fun h d hh e=>hno (by rw[List.append_cancel_left e];simp)))]
     exact h
    ·have hal:(a++47::b).length=a.length+(b.length+1):=by simp
     have hK:=ZcX ⟨false,0,0,a,b⟩ ⟨by show a.length<=_;omega,by show b.length<=_;omega⟩
     have h:=ZpD ([100,116,110,58,47,47]++(a++47::b)) (6+a.length) a b (Zb8 ⟨false,0,0,a,b⟩) (Zcx ⟨false,0,0,a,b⟩) _ _ h0 (by omega) (decide_eq_true (by omega)) (by omega) rfl (decide_eq_true (by omega)) (by omega) rfl (by omega) (by omega)
      (fun i h6 hi=>by
       obtain⟨j,rfl⟩:∃ j,i=6+j:=⟨i-6,by omega⟩
       rw[eg]
       have hj:j<a.length:=by omega
       exact⟨a[j],by rw[List.getElem?_append_left hj,List.getElem?_eq_getElem hj],Zi3 fun e=>hno (e ▸ List.getElem_mem hj)⟩)
      (fun h=>⟨47,by rw[eg,List.getElem?_append_right (Nat.le_refl _),Nat.sub_self];rfl,rfl⟩)
      (by
       have e:([100,116,110,58,47,47]++(a++47::b):List UInt8).take (6+a.length)=[100,116,110,58,47,47]++a:=by
        rw[<- List.append_assoc,List.take_append_of_le_length (by simp;omega),List.take_of_length_le (by simp;omega)]
       rw[e];rfl)
      (by
       have e:([100,116,110,58,47,47]++(a++47::b):List UInt8).drop (6+(a.length+1))=(a++47::b).drop (a.length+1):=by rw[<- List.drop_drop,ed]
       rw[show 6+a.length+1=6+(a.length+1) by omega,e,List.drop_append,List.drop_of_length_le (by omega)];simp)
      hK rfl (fun hz=>Zen _ (Zeo hz)) rfl
     rw[if_pos (by omega)]at h
     rw[<- Zi4 hne (Zmg hno) rfl]
     exact h
   ·have hpn:=Zi1 hne (fun r' hr' e=>hI ⟨r',hr',e⟩) (fun h d hh e=>hT ⟨_,by simp,e⟩)
    rw[Zdk hpn]
    have hK:=ZcX Zc2 ⟨by decide,by decide⟩
    refine ZpS s h0 ?_ ?_ hK
    ·rcases Nat.lt_or_ge 4 s.length with h4|h4
     ·refine .inr ⟨decide_eq_true (by omega),by omega,?_⟩
      cases hb:((s.take (Int.toNat 4)).drop 0==[105,112,110,58]) with
      | false=>rfl
      | true=>
       have e:s.take 4=Zd2:=beq_iff_eq.1 hb
       refine absurd ⟨s.drop 4,?_,?_⟩ hI
       ·intro hn;have:=congrArg List.length hn;simp at this;omega
       ·rw[<- e,List.take_append_drop]
     ·exact .inl (decide_eq_false (by omega))
    ·rcases Nat.lt_or_ge 6 s.length with h4|h4
     ·refine .inr ⟨decide_eq_true (by omega),by omega,?_⟩
      cases hb:((s.take (Int.toNat 6)).drop 0==[100,116,110,58,47,47]) with
      | false=>rfl
      | true=>
       have e:s.take 6=[100,116,110,58,47,47]:=beq_iff_eq.1 hb
       refine absurd ⟨s.drop 6,?_,?_⟩ hT
       ·intro hn;have:=congrArg List.length hn;simp at this;omega
       ·rw[<- e,List.take_append_drop]
     ·exact .inl (decide_eq_false (by omega))
def Zce (x:EidV):It:=
 if isZ x then .mk 4 0 [] [.mk 0 1 [] [],.mk 0 0 [] []]
 else if x.i then .mk 4 0 [] [.mk 0 2 [] [],.mk 4 0 [] [.mk 0 x.n [] [],.mk 0 x.s [] []]]
 else .mk 4 0 [] [.mk 0 1 [] [],.mk 3 0 (Zc6 x) []]
theorem ZcN [Known](n:Nat):AP Tryz.prog 111 [.int .u64 (n:Int)] (.agg [.int .i64 0,.int .u64 (n:Int),.sl .ext [],.sl .ext []]) []:=by
 refine AP.ofA ?_
 refine Zao Tryz.func111 rfl Tryz.ntmps111 rfl rfl ?_
 repeat'(first|(apply Zah Zab;exact Z))
 all_goals(apply Zay [];(apply Zad Zab;exact Z);(iterate 4 exact Z))
 all_goals rfl
theorem Zdl [Known](x:EidV)(h:ZaY x=true):AP Tryz.prog 47 [.agg (eC x)] (itD (Zce x)) []:=by
 have hK:=ZcX x (Zfs h)
 unfold Zce
 cases hz:isZ x with
 | true=>
  rw[ZmA hz]at hK
  rw[if_pos rfl]
  have n1:=ZcN 1
  have n0:=ZcN 0
  replace n1:AP Tryz.prog _ [.int .u64 1] (.agg [.int .i64 0,.int .u64 1,.sl .ext [],.sl .ext []]) []:=n1
  replace n0:AP Tryz.prog _ [.int .u64 0] (.agg [.int .i64 0,.int .u64 0,.sl .ext [],.sl .ext []]) []:=n0
  refine AP.ofA ?_
  refine Zao Tryz.func47 rfl Tryz.ntmps47 rfl rfl ?_
  repeat'(first|(apply Zaa (hK);kernel_rfl;(iterate 4 exact Z))|(apply Zaa (n1);kernel_rfl;(iterate 4 exact Z))|(apply Zaa (n0);kernel_rfl;(iterate 4 exact Z))|(apply Zaj Zab;exact Z)|(apply Zah Zab;exact Z)|(apply Zac;exact Z;exact Go.Zqm)|(apply Za2 Zab;(iterate 12 exact Z)))
  all_goals(apply Zay [];(apply Zad Zab;exact Z);(iterate 4 exact Z))
  all_goals rfl
 | false=>
  rw[if_neg (by simp)]
  cases hi:x.i with
  | true=>
   obtain⟨b1,b2,_⟩:=ZbT h hz hi
   rw[ZmB h hi]at hK
   rw[if_pos rfl]
   have n2:=ZcN 2
   have nn:=ZcN x.n
   have ns:=ZcN x.s
   replace n2:AP Tryz.prog _ [.int .u64 2] (.agg [.int .i64 0,.int .u64 2,.sl .ext [],.sl .ext []]) []:=n2
   refine AP.ofA ?_
   refine Zao Tryz.func47 rfl Tryz.ntmps47 rfl rfl ?_
   repeat'(first|(apply Zaa (hK);kernel_rfl;(iterate 4 exact Z))|(apply Zaa (n2);kernel_rfl;(iterate 4 exact Z))|(apply Zaa (nn);kernel_rfl;(iterate 4 exact Z))|(apply Zaa (ns);kernel_rfl;(iterate 4 exact Z))|(apply Zaj Zab;exact Z)|(apply Zah Zab;exact Z)|(apply Zac;exact Z;exact Go.Zqm)|(apply Zaf;exact Z;exact Go.Zqm)|(apply Za2 Zab;(iterate 12 exact Z))|(apply Zam 6 ZaJ;decide +kernel;kernel_rfl;kernel_rfl;kernel_rfl;exact Z;exact Z)|(apply Zaq;(iterate 4 exact Z))|exact AE.nil _ _ _ _|(apply Zas;exact Z)|(apply Zaw;exact Z;exact Z;decide +kernel;exact Z)|(apply Zax;exact Z)|exact AO.nil _ _ _|(apply Zap;(decide +kernel))|exact AOs.nil|exact ZaE rfl rfl)
   all_goals(apply Zay [];(apply Zad Zab;exact Z);(iterate 4 exact Z))
   all_goals rfl
  | false=>
   obtain⟨_,_,_,b1,b2,_⟩:=ZbU h hz hi
   rw[ZmC h hz hi]at hK
   rw[if_neg (by simp)]
   have n1:=ZcN 1
   replace n1:AP Tryz.prog _ [.int .u64 1] (.agg [.int .i64 0,.int .u64 1,.sl .ext [],.sl .ext []]) []:=n1
   have l1:[(47:UInt8),47].length+x.h.length<=maxLen:=by simp;unfold maxLen;omega
   have l2:([(47:UInt8),47]++x.h).length + [(47:UInt8)].length<=maxLen:=by simp;unfold maxLen;omega
   have l3:([(47:UInt8),47]++x.h++[47]).length+x.d.length<=maxLen:=by simp;unfold maxLen;omega
   refine AP.ofA ?_
   refine Zao Tryz.func47 rfl Tryz.ntmps47 rfl rfl ?_
   repeat'(first|(apply Zaa (hK);kernel_rfl;(iterate 4 exact Z))|(apply Zaa (n1);kernel_rfl;(iterate 4 exact Z))|(apply ZeZ;exact Z;exact Z;(first|exact l1|exact l2|exact l3);exact Z)|(apply ZnU Zab;(iterate 8 exact Z))|(apply Zaj Zab;exact Z)|(apply Zah Zab;exact Z)|(apply Zaf;exact Z;exact Go.Zqm)|(apply Za2 Zab;(iterate 12 exact Z))|(apply Zam 10 ZaJ;decide +kernel;kernel_rfl;kernel_rfl;kernel_rfl;exact Z;exact Z)|(apply Zaq;(iterate 4 exact Z))|exact AE.nil _ _ _ _|(apply Zas;exact Z)|(apply Zaw;exact Z;exact Z;decide +kernel;exact Z)|(apply Zax;exact Z)|exact AO.nil _ _ _|(apply Zap;(decide +kernel))|exact AOs.nil|exact ZaE rfl rfl)
   all_goals(apply Zay [];(apply Zad Zab;exact Z);(iterate 4 exact Z))
   all_goals rfl
theorem Zmh {x:EidV}(h:ZaY x=true)(hz:isZ x=false)(hi:x.i=false):ppV (Zc6 x)=(x,true):=by
 obtain⟨b1,b2,b3,b4,b5,b6,b7⟩:=ZbU h hz hi
 have e1:Zc6 x=[47,47]++(x.h++47::x.d):=by simp[Zc6]
 rw[e1]
 unfold ppV
 rw[ZdZ]
 dsimp only
 rw[ZcV (Zei b6 (by decide))]
 dsimp only
 have ex:(⟨false,0,0,x.h,x.d⟩:EidV)=x:=by
  obtain⟨i,n,s,hh,d⟩:=x
  simp only at hi b1 b2
  rw[hi,b1,b2]
 rw[ex,h]
 have:(x.h != [])=true:=by
  rw[bne_iff_ne]
  intro e
  rw[e]at b3
  simp at b3
 rw[this]
 rfl
theorem Zgr {x:EidV}(h:ZaY x=true):wfI (Zce x):=by
 unfold Zce
 cases hz:isZ x with
 | true=>rw[if_pos rfl];simp[wfI,wfs]
 | false=>
  rw[if_neg (by simp)]
  cases hi:x.i with
  | true=>
   obtain⟨b1,b2,b3,b4,b5⟩:=ZbT h hz hi
   rw[if_pos rfl]
   simp[wfI,wfs]
   omega
  | false=>
   obtain⟨b1,b2,b3,b4,b5,b6,b7⟩:=ZbU h hz hi
   rw[if_neg (by simp)]
   simp[wfI,wfs,Zc6]
   omega
theorem Zh2 {x:EidV}(h:ZaY x=true)(hr:ZaQ (Zce x)=true):Za9 (Zce x)=(x,true):=by
 unfold Za9
 rw[hr]
 unfold Zce
 cases hz:isZ x with
 | true=>
  rw[if_pos rfl,Zcw.1 hz]
  rfl
 | false=>
  rw[if_neg (by simp)]
  cases hi:x.i with
  | true=>
   obtain⟨b1,b2,b3,b4,b5⟩:=ZbT h hz hi
   rw[if_pos rfl]
   dsimp only
   rw[if_pos rfl]
   have ex:(⟨true,x.n,x.s,[],[]⟩:EidV)=x:=by
    obtain⟨i,n,s,hh,d⟩:=x
    simp only at hi b3 b4
    rw[hi,b3,b4]
   have e1:Zcy 1 (.mk 0 2 [] [])=false:=rfl
   have e2:Zcy 2 (.mk 0 2 [] [])=true:=rfl
   have e3:∀ n,Zcy n (.mk 0 n [] [])=true:=fun n=>It.beq_iff.2 rfl
   have e4:Zej (.mk 4 0 [] [.mk 0 x.n [] [],.mk 0 x.s [] []])=some (x.n,x.s):=by
    unfold Zej
    dsimp only
    rw[if_pos rfl]
    simp only[It.n,e3,Bool.and_self]
   unfold Zd3
   rw[e1,e2,e4]
   dsimp only
   rw[ex,h]
  | false=>
   rw[if_neg (by simp)]
   dsimp only
   rw[if_pos rfl]
   have e1:Zcy 1 (.mk 0 1 [] [])=true:=rfl
   have e2:Zcy 0 (.mk 3 0 (Zc6 x) [])=false:=rfl
   unfold Zd3
   rw[e1,e2]
   exact Zmh h hz hi
theorem Zk2 {m:Nat}(hm:m<128){c:UInt8}(h:okB m c=true):c.toNat<128:=by
 simp only[okB,Bool.or_eq_true,Bool.and_eq_true,decide_eq_true_eq,beq_iff_eq]at h
 omega
theorem Zh3 {x:EidV}(h:ZaY x=true):ZaQ (Zce x)=true:=by
 unfold Zce
 cases hz:isZ x with
 | true=>rw[if_pos rfl];rfl
 | false=>
  rw[if_neg (by simp)]
  cases hi:x.i with
  | true=>rw[if_pos rfl];simp[ZaQ,Zb5,ZbG,Zdx]
  | false=>
   obtain⟨b1,b2,b3,b4,b5,b6,b7⟩:=ZbU h hz hi
   rw[if_neg (by simp)]
   have hv:ZaD (Zc6 x)=true:=by
    rw[ZbN (Zc6 x).length (Zc6 x) (Nat.le_refl _) fun c hc=>?_,List.drop_length]
    ·rfl
    ·rw[List.take_length]at hc
     simp only[Zc6,List.mem_append,List.mem_cons,List.not_mem_nil,or_false]at hc
     rcases hc with((hc|hc)|hc)|hc
     ·rcases hc with hc|hc<;>rw[hc]<;>decide
     ·exact Zk2 (by decide) (List.all_eq_true.1 b6 c hc)
     ·rw[hc];decide
     ·exact Zk2 (by decide) (List.all_eq_true.1 b7 c hc)
   simp[ZaQ,Zb5,ZbG,Zdx,hv]
theorem Zk3 {k:Int}{n:Nat}{b:List UInt8}{l:List It}(h:ZaQ (.mk k n b l)=true):Zdx k n b l=true/\∀ y ∈ l,∃ d m m',Zb5 y d m=some m':=by
 unfold ZaQ at h
 cases hw:Zb5 (.mk k n b l) 1 256 with
 | none=>rw[hw]at h;cases h
 | some m=>
  obtain⟨_,_,h1,h2⟩:=Zca hw
  refine⟨h1,?_⟩
  clear hw h h1
  generalize (256:Nat)-1=m0 at h2
  induction l generalizing m0 with
  | nil=>intro y hy;cases hy
  | cons x l ih=>
   intro y hy
   obtain⟨m1,w1,w2⟩:=Zb6 h2
   rcases List.mem_cons.1 hy with rfl|hy
   ·exact⟨_,_,_,w1⟩
   ·exact ih _ w2 y hy
theorem ZjC {x:It}{a c:Nat}(h:Zej x=some (a,c)):∃ n b,x=.mk 4 n b [.mk 0 a [] [],.mk 0 c [] []]:=by
 unfold Zej at h
 split at h
 ·rename_i k n b y0 y1
  split at h
  ·rename_i hk
   split at h
   ·rename_i hy
    simp only[Option.some.injEq,Prod.mk.injEq]at h
    rw[Bool.and_eq_true]at hy
    have e0:=It.beq_iff.1 hy.1
    have e1:=It.beq_iff.1 hy.2
    rw[h.1]at e0
    rw[h.2]at e1
    rw[hk,e0,e1]
    exact⟨n,b,rfl⟩
   ·cases h
  ·cases h
 ·cases h
theorem ZcO {x:It}(h:(Za9 x).2=true):ZaY (Za9 x).1=true/\Zce (Za9 x).1=x:=by
 unfold Za9 at h ⊢
 cases hr:ZaQ x with
 | false=>rw[hr]at h;cases h
 | true=>
  obtain⟨k,n,b,l⟩:=x
  rw[hr]at h
  match l,hr,h with
  | [],hr,h=>cases h
  | [s],hr,h=>cases h
  | s::r::y::l,hr,h=>cases h
  | [s,r],hr,h=>
   dsimp only at h ⊢
   by_cases hk:k=4
   case neg=>rw[if_neg hk]at h;cases h
   rw[if_pos hk]at h ⊢
   subst hk
   obtain⟨ho,hm⟩:=Zk3 hr
   have hn:n=0/\b=[]:=by simpa[Zdx]using ho
   obtain⟨rfl,rfl⟩:=hn
   obtain⟨rk,rn,rb,rl⟩:=r
   obtain⟨d,m,m',hwr⟩:=hm (.mk rk rn rb rl) (by simp)
   obtain⟨_,_,ho2,_⟩:=Zca hwr
   unfold Zd3 at h ⊢
   cases h1:Zcy 1 s with
   | true=>
    have es:=It.beq_iff.1 h1
    rw[h1]at h
    cases h0:Zcy 0 (.mk rk rn rb rl) with
    | true=>
     have er:=It.beq_iff.1 h0
     dsimp only
     rw[es,er]
     exact⟨by decide,rfl⟩
    | false=>
     rw[h0]at h
     dsimp only at h ⊢
     cases h3:(It.mk rk rn rb rl).k==3 with
     | false=>rw[h3]at h;cases h
     | true=>
      rw[h3]at h
      have hk3:rk=3:=by simpa[It.k]using h3
      subst hk3
      have hn:rn=0/\rl=[]:=by
       have:Zdx 3 rn rb rl=true:=ho2
       simp[Zdx]at this
       exact⟨this.1,this.2.1⟩
      obtain⟨rfl,rfl⟩:=hn
      dsimp only[It.b]at h ⊢
      unfold ppV at h ⊢
      dsimp only at h ⊢
      simp only[Bool.and_eq_true,bne_iff_ne]at h
      obtain⟨k3,k4,k5,k6⟩:=h
      have e2:=Zd0 k3
      generalize (ZdC [47,47] rb).1=q at *
      refine⟨k6,?_⟩
      unfold Zce
      rw[if_neg (by rw[Zcw];intro e;exact k5 (congrArg EidV.h e)),if_neg (by simp),es,e2]
      have:=ZdY k4
      conv=>rhs;rw[this]
      simp[Zc6]
   | false=>
    rw[h1]at h
    cases h2:Zcy 2 s with
    | false=>rw[h2]at h;cases h
    | true=>
     have es:=It.beq_iff.1 h2
     rw[h2]at h
     dsimp only at h ⊢
     cases hq:Zej (.mk rk rn rb rl) with
     | none=>rw[hq]at h;cases h
     | some ac=>
      obtain⟨a,c⟩:=ac
      rw[hq]at h
      dsimp only at h ⊢
      refine⟨h,?_⟩
      obtain⟨n2,b2,e2⟩:=ZjC hq
      cases e2
      have hn:rn=0/\rb=[]:=by simpa[Zdx]using ho2
      obtain⟨rfl,rfl⟩:=hn
      unfold Zce
      rw[if_neg (by simp[isZ]),if_pos rfl,es]
abbrev Zh4 (x:It):D:=.tup [.agg (eC (match(Za9 x).2 with|true=>(Za9 x).1|false=>Zc2)),.bool (Za9 x).2]
theorem Zd4 {x:It}(h:(Za9 x).2=false):Zh4 x=.tup [.agg (eC Zc2),.bool false]:=by unfold Zh4;rw[h]
theorem Zk4 {x:It}{e:EidV}(h:Za9 x=(e,true)):Zh4 x=.tup [.agg (eC e),.bool true]:=by unfold Zh4;rw[h]
theorem Zft {e:EidV}(h:ZaY e=true):∃ s z,Zce e=.mk 4 0 [] [s,z]/\((isZ e=true/\z=.mk 0 0 [] [])\/(isZ e=false/\e.i=true/\z=.mk 4 0 [] [.mk 0 e.n [] [],.mk 0 e.s [] []]/\e.h=[]/\e.d=[])\/(isZ e=false/\e.i=false/\z=.mk 3 0 (Zc6 e) []/\Zcx e=ZfC++Zc6 e)):=by
 unfold Zce
 cases hz:isZ e with
 | true=>rw[if_pos rfl];exact⟨_,_,rfl,.inl ⟨rfl,rfl⟩⟩
 | false=>
  rw[if_neg (by simp)]
  cases hi:e.i with
  | true=>
   obtain⟨_,_,h1,h2,_⟩:=ZbT h hz hi
   rw[if_pos rfl];exact⟨_,_,rfl,.inr (.inl ⟨rfl,rfl,rfl,h1,h2⟩)⟩
  | false=>
   rw[if_neg (by simp)]
   refine⟨_,_,rfl,.inr (.inr ⟨rfl,rfl,rfl,?_⟩)⟩
   unfold Zcx
   rw[hz,if_neg (by simp),hi,if_neg (by simp)]
   rfl
theorem Zoq {k:Int}{n:Nat}{b:List UInt8}{l:List It}(h:k ≠ 4\/l.length ≠ 2):(Za9 (.mk k n b l)).2=false:=by
 cases hp:(Za9 (.mk k n b l)).2 with
 | false=>rfl
 | true=>
  obtain⟨h1,h2⟩:=ZcO hp
  obtain⟨s,z,e,_⟩:=Zft h1
  rw[e]at h2
  cases h2
  rcases h with h|h
  ·exact absurd rfl h
  ·exact absurd rfl h
theorem Zk5 {n:Nat}{b:List UInt8}{s z:It}{c:EidV}
  (hZ:z=.mk 0 0 [] []->c=Zc2) (hI:∀ p q,z=.mk 4 0 [] [.mk 0 p [] [],.mk 0 q [] []]->c=⟨true,p,q,[],[]⟩) (hT:∀ t,z=.mk 3 0 t []->(Za5 (ZfC++t)).2=true->c=(Za5 (ZfC++t)).1)
  (hp:(Za9 (.mk 4 n b [s,z])).2=true):c=(Za9 (.mk 4 n b [s,z])).1:=by
 obtain⟨h1,h2⟩:=ZcO hp
 generalize (Za9 (.mk 4 n b [s,z])).1=e at *
 obtain⟨s',z',ee,hh⟩:=Zft h1
 rw[ee]at h2
 cases h2
 rcases hh with⟨hz,hh⟩ | ⟨hz,hi,hh,e1,e2⟩ | ⟨hz,hi,hh,ht⟩
 ·rw[hZ hh,Zcw.1 hz]
 ·rw[hI _ _ hh]
  obtain⟨i,n,s,h,d⟩:=e
  simp only at hi e1 e2
  rw[hi,e1,e2]
 ·have hq:=Zel h1
  rw[ht]at hq
  have:=hT _ hh (by rw[hq])
  rw[this,hq]
theorem Zk6 {n n3:Nat}{b t:List UInt8}{s:It}{l:List It}(h:(Za5 (ZfC++t)).2=false):(Za9 (.mk 4 n b [s,.mk 3 n3 t l])).2=false:=by
 cases hp:(Za9 (.mk 4 n b [s,.mk 3 n3 t l])).2 with
 | false=>rfl
 | true=>
  obtain⟨h1,h2⟩:=ZcO hp
  generalize (Za9 (.mk 4 n b [s,.mk 3 n3 t l])).1=e at *
  obtain⟨s',z',ee,hh⟩:=Zft h1
  rw[ee]at h2
  cases h2
  rcases hh with⟨hz,hh⟩ | ⟨hz,hi,hh,e1,e2⟩ | ⟨hz,hi,hh,ht⟩
  ·cases hh
  ·cases hh
  ·cases hh
   have hq:=Zel h1
   rw[ht]at hq
   rw[hq]at h;cases h
theorem ZpU {x:It}{c:EidV}(hc:(Za9 x).2=true->c=(Za9 x).1)(hk:ZaY c=false):(Za9 x).2=false:=by
 cases hp:(Za9 x).2 with
 | false=>rfl
 | true=>rw[hc hp,(ZcO hp).1]at hk;cases hk
theorem ZpV {x:It}{c:EidV}(hc:(Za9 x).2=true->c=(Za9 x).1)(hs:It.beq (Zce c) x=false):(Za9 x).2=false:=by
 cases hp:(Za9 x).2 with
 | false=>rfl
 | true=>rw[hc hp,(ZcO hp).2,It.beq_iff.2 rfl]at hs;cases hs
theorem ZpW {x:It}{c:EidV}(hk:ZaY c=true)(hs:It.beq (Zce c) x=true):Za9 x=(c,true):=by
 rw[<- It.beq_iff.1 hs,Zh2 hk (Zh3 hk)]
theorem ZpE [Known](k:Int)(n:Nat)(b:List UInt8)(l:List It)(h:k ≠ 4\/l.length ≠ 2):AP Tryz.prog 90 [itD (.mk k n b l)] (.tup [.agg [.bool false,.int .u64 0,.int .u64 0,.str [],.str []],.bool false]) []:=by
 by_cases hk:k=4
 ·have t1:(k != 4)=false:=by simpa using hk
  have hl:l.length ≠ 2:=by
   rcases h with h|h
   ·exact absurd hk h
   ·exact h
  have t2:(((ZaB l).length:Int) != 2)=true:=by rw[Zar];simp;omega
  refine AP.ofA ?_
  refine Zao Tryz.func90 rfl Tryz.ntmps90 rfl rfl ?_
  repeat'(first|(apply Zaj Zab;exact Z)|(apply Zah Zab;exact Z)|(apply Zav Zab;exact Z)|(apply Zae;(iterate 3 exact Z);exact Go.Zqm)|(apply Zag;exact Z;exact Go.Zqm;exact Z;exact Z)|(apply Zac;exact Z;exact Go.Zqm)|(apply Zan Zab;(iterate 4 exact Z)))
  all_goals(apply Zay [];(apply Zad Zab;exact Z);(iterate 4 exact Z))
  all_goals rfl
 ·have t1:(k != 4)=true:=by simpa using hk
  refine AP.ofA ?_
  refine Zao Tryz.func90 rfl Tryz.ntmps90 rfl rfl ?_
  repeat'(first|(apply Zaj Zab;exact Z)|(apply Zah Zab;exact Z)|(apply Zav Zab;exact Z)|(apply Zal;(iterate 3 exact Z);exact Go.Zqm)|(apply Zak;exact Z;exact Go.Zqm;exact Z;exact Z)|(apply Zac;exact Z;exact Go.Zqm))
  all_goals(apply Zay [];(apply Zad Zab;exact Z);(iterate 4 exact Z))
  all_goals rfl
theorem ZpX [Known](s z:It)(n:Nat)(b:List UInt8)(n2:Nat)(b2:List UInt8)(kp:Int)(np:Nat)(bp:List UInt8)(lp:List It)(kq:Int)(nq:Nat)(bq:List UInt8)(lq:List It)(ez:z=.mk 4 n2 b2 [.mk kp np bp lp,.mk kq nq bq lq])(κ:Int)(w:It)(z4 R:Bool)
  (hK:AP Tryz.prog 45 [.agg [.bool true,.int .u64 (np:Int),.int .u64 (nq:Int),.str [],.str []]] (.int .i64 κ) []) (t4:decide (κ<0)=z4)
  (hW:z4=false->AP Tryz.prog 47 [.agg [.bool true,.int .u64 (np:Int),.int .u64 (nq:Int),.str [],.str []]] (itD w) [])
  (hS:z4=false->AP Tryz.prog 22 [itD w,itD (.mk 4 n b [s,z])] (.bool R) []) :
  AP Tryz.prog 90 [itD (.mk 4 n b [s,z])] (Zh0 z4 (!R) true np nq [] []) []:=by
 have hU:=Zcb [s,z]
 subst ez
 have hU2:=Zcb [.mk kp np bp lp,.mk kq nq bq lq]
 have t2:(((ZaB [s,.mk 4 n2 b2 [.mk kp np bp lp,.mk kq nq bq lq]]).length:Int) != 2)=false:=rfl
 have t3:(((ZaB [.mk kp np bp lp,.mk kq nq bq lq]).length:Int)==2)=true:=rfl
 obtain⟨sk,sn,sb,sl⟩:=s
 obtain⟨wk,wn,wb,wl⟩:=w
 cases z4 with
 | true=>
  clear hW hS
  cases R
  all_goals
   refine AP.ofA ?_
   refine Zao Tryz.func90 rfl Tryz.ntmps90 rfl rfl ?_
   repeat'(first|(apply Zaa (hK);kernel_rfl;(iterate 4 exact Z))|(apply Zaj Zab;exact Z)|(apply Zah Zab;exact Z)|(apply Zav Zab;exact Z)|(apply Zae;(iterate 3 exact Z);exact Go.Zqm)|(apply Zal;(iterate 3 exact Z);exact Go.Zqm)|(apply Zak;exact Z;exact Go.Zqm;exact Z;exact Z)|(apply Zag;exact Z;exact Go.Zqm;exact Z;exact Z)|(apply Zac;exact Z;exact Go.Zqm)|(apply Zaf;exact Z;exact Go.Zqm)|(apply Zan Zab;(iterate 4 exact Z))|(apply Zam 7 ZaJ;decide +kernel;kernel_rfl;kernel_rfl;kernel_rfl;exact Z;exact Z)|(apply Zam 10 ZaJ;decide +kernel;kernel_rfl;kernel_rfl;kernel_rfl;exact Z;exact Z)|(apply Zaq;(iterate 4 exact Z))|exact AE.nil _ _ _ _|(apply Zas;exact Z)|(apply Zaw;exact Z;exact Z;decide +kernel;exact Z)|(apply Zax;exact Z)|exact AO.nil _ _ _|(apply Zap;(decide +kernel))|exact AOs.nil|exact ZaE rfl rfl|(apply Zau Zab;(iterate 6 exact Z);(first|exact Go.Zqm|rotate_left);(first|with_reducible assumption|decide +kernel|exact Z);(first|exact Zai rfl|with_reducible assumption|decide +kernel|rotate_left)))
   all_goals(apply Zay [];(apply Zad Zab;exact Z);(iterate 4 exact Z))
   all_goals rfl
 | false=>
  have hW:=hW rfl
  have hS:=hS rfl
  cases R
  all_goals
   refine AP.ofA ?_
   refine Zao Tryz.func90 rfl Tryz.ntmps90 rfl rfl ?_
   repeat'(first|(apply Zaa (hK);kernel_rfl;(iterate 4 exact Z))|(apply Zaa (hW);kernel_rfl;(iterate 4 exact Z))|(apply Zaa (hS);kernel_rfl;(iterate 4 exact Z))|(apply Zaj Zab;exact Z)|(apply Zah Zab;exact Z)|(apply Zav Zab;exact Z)|(apply Zae;(iterate 3 exact Z);exact Go.Zqm)|(apply Zak;exact Z;exact Go.Zqm;exact Z;exact Z)|(apply Zag;exact Z;exact Go.Zqm;exact Z;exact Z)|(apply Zac;exact Z;exact Go.Zqm)|(apply Zaf;exact Z;exact Go.Zqm)|(apply Zan Zab;(iterate 4 exact Z))|(apply Zam 7 ZaJ;decide +kernel;kernel_rfl;kernel_rfl;kernel_rfl;exact Z;exact Z)|(apply Zam 10 ZaJ;decide +kernel;kernel_rfl;kernel_rfl;kernel_rfl;exact Z;exact Z)|(apply Zaq;(iterate 4 exact Z))|exact AE.nil _ _ _ _|(apply Zas;exact Z)|(apply Zaw;exact Z;exact Z;decide +kernel;exact Z)|(apply Zax;exact Z)|exact AO.nil _ _ _|(apply Zap;(decide +kernel))|exact AOs.nil|exact ZaE rfl rfl|(apply Zau Zab;(iterate 6 exact Z);(first|exact Go.Zqm|rotate_left);(first|with_reducible assumption|decide +kernel|exact Z);(first|exact Zai rfl|with_reducible assumption|decide +kernel|rotate_left)))
   all_goals(apply Zay [];(apply Zad Zab;exact Z);(iterate 4 exact Z))
   all_goals rfl
theorem ZpY [Known](s:It)(n:Nat)(b:List UInt8)(kz:Int)(nz:Nat)(bz:List UInt8)(lz:List It)(hz:kz=4/\lz.length ≠ 2\/kz ≠ 4/\kz ≠ 3)(w:It)(R:Bool)
  (hK:AP Tryz.prog 45 [.agg [.bool false,.int .u64 0,.int .u64 0,.str [],.str []]] (.int .i64 0) [])
  (hW:AP Tryz.prog 47 [.agg [.bool false,.int .u64 0,.int .u64 0,.str [],.str []]] (itD w) [])
  (hS:AP Tryz.prog 22 [itD w,itD (.mk 4 n b [s,.mk kz nz bz lz])] (.bool R) []) :
  AP Tryz.prog 90 [itD (.mk 4 n b [s,.mk kz nz bz lz])] (Zh0 false (!R) false 0 0 [] []) []:=by
 have hU:=Zcb [s,.mk kz nz bz lz]
 have t2:(((ZaB [s,.mk kz nz bz lz]).length:Int) != 2)=false:=rfl
 obtain⟨sk,sn,sb,sl⟩:=s
 obtain⟨wk,wn,wb,wl⟩:=w
 have t5:(kz==3)=false:=by
  rcases hz with⟨rfl,_⟩ | ⟨_,h⟩
  ·rfl
  ·simpa using h
 rcases hz with⟨rfl,hl⟩ | ⟨hk,_⟩
 ·have t3:(((ZaB lz).length:Int)==2)=false:=by rw[Zar];simp;omega
  cases R
  all_goals
   refine AP.ofA ?_
   refine Zao Tryz.func90 rfl Tryz.ntmps90 rfl rfl ?_
   repeat'(first|(apply Zaa (hK);kernel_rfl;(iterate 4 exact Z))|(apply Zaa (hW);kernel_rfl;(iterate 4 exact Z))|(apply Zaa (hS);kernel_rfl;(iterate 4 exact Z))|(apply Zaj Zab;exact Z)|(apply Zah Zab;exact Z)|(apply Zav Zab;exact Z)|(apply Zae;(iterate 3 exact Z);exact Go.Zqm)|(apply Zak;exact Z;exact Go.Zqm;exact Z;exact Z)|(apply Zag;exact Z;exact Go.Zqm;exact Z;exact Z)|(apply Zac;exact Z;exact Go.Zqm)|(apply Zaf;exact Z;exact Go.Zqm)|(apply Zan Zab;(iterate 4 exact Z))|(apply Zam 7 ZaJ;decide +kernel;kernel_rfl;kernel_rfl;kernel_rfl;exact Z;exact Z)|(apply Zaq;(iterate 4 exact Z))|exact AE.nil _ _ _ _|(apply Zas;exact Z)|(apply Zaw;exact Z;exact Z;decide +kernel;exact Z)|(apply Zax;exact Z)|exact AO.nil _ _ _|(apply Zap;(decide +kernel))|exact AOs.nil|exact ZaE rfl rfl|(apply Zau Zab;(iterate 6 exact Z);(first|exact Go.Zqm|rotate_left);(first|with_reducible assumption|decide +kernel|exact Z);(first|exact Zai rfl|with_reducible assumption|decide +kernel|rotate_left)))
   all_goals(apply Zay [];(apply Zad Zab;exact Z);(iterate 4 exact Z))
   all_goals rfl
 ·have t3:(kz==4)=false:=by simpa using hk
  cases R
  all_goals
   refine AP.ofA ?_
   refine Zao Tryz.func90 rfl Tryz.ntmps90 rfl rfl ?_
   repeat'(first|(apply Zaa (hK);kernel_rfl;(iterate 4 exact Z))|(apply Zaa (hW);kernel_rfl;(iterate 4 exact Z))|(apply Zaa (hS);kernel_rfl;(iterate 4 exact Z))|(apply Zaj Zab;exact Z)|(apply Zah Zab;exact Z)|(apply Zav Zab;exact Z)|(apply Zae;(iterate 3 exact Z);exact Go.Zqm)|(apply Zat;(iterate 3 exact Z);exact Go.Zqm)|(apply Zag;exact Z;exact Go.Zqm;exact Z;exact Z)|(apply Zac;exact Z;exact Go.Zqm)|(apply Zaf;exact Z;exact Go.Zqm)|(apply Zan Zab;(iterate 4 exact Z))|(apply Zam 7 ZaJ;decide +kernel;kernel_rfl;kernel_rfl;kernel_rfl;exact Z;exact Z)|(apply Zaq;(iterate 4 exact Z))|exact AE.nil _ _ _ _|(apply Zas;exact Z)|(apply Zaw;exact Z;exact Z;decide +kernel;exact Z)|(apply Zax;exact Z)|exact AO.nil _ _ _|(apply Zap;(decide +kernel))|exact AOs.nil|exact ZaE rfl rfl|(apply Zau Zab;(iterate 6 exact Z);(first|exact Go.Zqm|rotate_left);(first|with_reducible assumption|decide +kernel|exact Z);(first|exact Zai rfl|with_reducible assumption|decide +kernel|rotate_left)))
   all_goals(apply Zay [];(apply Zad Zab;exact Z);(iterate 4 exact Z))
   all_goals rfl
theorem ZpZ [Known](s:It)(n:Nat)(b:List UInt8)(nz:Nat)(bz:List UInt8)(lz:List It)(xi:Bool)(xn xs:Nat)(xh xd:List UInt8)(κ:Int)(w:It)(R:Bool)(hl:[(100:UInt8),116,110,58].length+bz.length<=maxLen)
  (hP:AP Tryz.prog 149 [.str ([100,116,110,58]++bz)] (.tup [.agg [.bool xi,.int .u64 (xn:Int),.int .u64 (xs:Int),.str xh,.str xd],.bool true]) [])
  (hK:AP Tryz.prog 45 [.agg [.bool xi,.int .u64 (xn:Int),.int .u64 (xs:Int),.str xh,.str xd]] (.int .i64 κ) []) (t4:decide (κ<0)=false)
  (hW:AP Tryz.prog 47 [.agg [.bool xi,.int .u64 (xn:Int),.int .u64 (xs:Int),.str xh,.str xd]] (itD w) [])
  (hS:AP Tryz.prog 22 [itD w,itD (.mk 4 n b [s,.mk 3 nz bz lz])] (.bool R) []) :
  AP Tryz.prog 90 [itD (.mk 4 n b [s,.mk 3 nz bz lz])] (Zh0 false (!R) xi xn xs xh xd) []:=by
 have hU:=Zcb [s,.mk 3 nz bz lz]
 have t2:(((ZaB [s,.mk 3 nz bz lz]).length:Int) != 2)=false:=rfl
 obtain⟨sk,sn,sb,sl⟩:=s
 obtain⟨wk,wn,wb,wl⟩:=w
 cases R
 all_goals
  refine AP.ofA ?_
  refine Zao Tryz.func90 rfl Tryz.ntmps90 rfl rfl ?_
  repeat'(first|(apply Zaa (hP);kernel_rfl;(iterate 4 exact Z))|(apply Zaa (hK);kernel_rfl;(iterate 4 exact Z))|(apply Zaa (hW);kernel_rfl;(iterate 4 exact Z))|(apply Zaa (hS);kernel_rfl;(iterate 4 exact Z))|(apply ZeZ;exact Z;exact Z;exact hl;exact Z)|(apply Zco Zab;(iterate 9 exact Z))|(apply Zaj Zab;exact Z)|(apply Zah Zab;exact Z)|(apply Zav Zab;exact Z)|(apply Zae;(iterate 3 exact Z);exact Go.Zqm)|(apply Zat;(iterate 3 exact Z);exact Go.Zqm)|(apply Zag;exact Z;exact Go.Zqm;exact Z;exact Z)|(apply Zac;exact Z;exact Go.Zqm)|(apply Zaf;exact Z;exact Go.Zqm)|(apply Zan Zab;(iterate 4 exact Z))|(apply Zam 7 ZaJ;decide +kernel;kernel_rfl;kernel_rfl;kernel_rfl;exact Z;exact Z)|(apply Zaq;(iterate 4 exact Z))|exact AE.nil _ _ _ _|(apply Zas;exact Z)|(apply Zaw;exact Z;exact Z;decide +kernel;exact Z)|(apply Zax;exact Z)|exact AO.nil _ _ _|(apply Zap;(decide +kernel))|exact AOs.nil|exact ZaE rfl rfl|(apply Zau Zab;(iterate 6 exact Z);(first|exact Go.Zqm|rotate_left);(first|with_reducible assumption|decide +kernel|exact Z);(first|exact Zai rfl|with_reducible assumption|decide +kernel|rotate_left))|(apply Zco Zab;(iterate 9 exact Z)))
  all_goals(apply Zay [];(apply Zad Zab;exact Z);(iterate 4 exact Z))
  all_goals rfl
theorem Zp0 [Known](s:It)(n:Nat)(b:List UInt8)(nz:Nat)(bz:List UInt8)(lz:List It)(hl:[(100:UInt8),116,110,58].length+bz.length<=maxLen)
  (hP:AP Tryz.prog 149 [.str ([100,116,110,58]++bz)] (.tup [.agg [.bool false,.int .u64 0,.int .u64 0,.str [],.str []],.bool false]) []) :
  AP Tryz.prog 90 [itD (.mk 4 n b [s,.mk 3 nz bz lz])] (.tup [.agg [.bool false,.int .u64 0,.int .u64 0,.str [],.str []],.bool false]) []:=by
 have hU:=Zcb [s,.mk 3 nz bz lz]
 have t2:(((ZaB [s,.mk 3 nz bz lz]).length:Int) != 2)=false:=rfl
 obtain⟨sk,sn,sb,sl⟩:=s
 refine AP.ofA ?_
 refine Zao Tryz.func90 rfl Tryz.ntmps90 rfl rfl ?_
 repeat'(first|(apply Zaa (hP);kernel_rfl;(iterate 4 exact Z))|(apply ZeZ;exact Z;exact Z;exact hl;exact Z)|(apply Zco Zab;(iterate 9 exact Z))|(apply Zaj Zab;exact Z)|(apply Zah Zab;exact Z)|(apply Zav Zab;exact Z)|(apply Zae;(iterate 3 exact Z);exact Go.Zqm)|(apply Zat;(iterate 3 exact Z);exact Go.Zqm)|(apply Zag;exact Z;exact Go.Zqm;exact Z;exact Z)|(apply Zac;exact Z;exact Go.Zqm)|(apply Zaf;exact Z;exact Go.Zqm)|(apply Zan Zab;(iterate 4 exact Z))|(apply Zau Zab;(iterate 6 exact Z);(first|exact Go.Zqm|rotate_left);(first|with_reducible assumption|decide +kernel|exact Z);(first|exact Zai rfl|with_reducible assumption|decide +kernel|rotate_left))|(apply Zco Zab;(iterate 9 exact Z)))
 all_goals(apply Zay [];(apply Zad Zab;exact Z);(iterate 4 exact Z))
 all_goals rfl
theorem Zfu {x:It}{c:EidV}(hc:(Za9 x).2=true->c=(Za9 x).1){i:Bool}{n q:Nat}{h d:List UInt8}(ec:c=⟨i,n,q,h,d⟩):Zh0 (decide (Zb8 c<0)) (!(It.beq (Zce c) x)) i n q h d=Zh4 x:=by
 have hk:=ZhX c
 cases hr:ZaY c with
 | false=>
  have e:decide (Zb8 c<0)=true:=decide_eq_true (by have:=of_decide_eq_false (hk.trans hr);omega)
  rw[e,Zd4 (ZpU hc hr)]
  cases !(It.beq (Zce c) x)<;>rfl
 | true=>
  have e:decide (Zb8 c<0)=false:=decide_eq_false (by have:=of_decide_eq_true (hk.trans hr);omega)
  rw[e]
  cases hs:It.beq (Zce c) x with
  | false=>rw[Zd4 (ZpV hc hs)];rfl
  | true=>rw[Zk4 (ZpW hr hs),ec];rfl
theorem Zfv {c:EidV}(h:decide (Zb8 c<0)=false):ZaY c=true:=by
 rw[<- ZhX]
 exact decide_eq_true (by have:=of_decide_eq_false h;omega)
theorem Zdw {c:EidV}(h:ZaY c=true):decide (Zb8 c<0)=false:=decide_eq_false (by have:=of_decide_eq_true ((ZhX c).trans h);omega)
theorem Zh5 [Known](x:It)(hw:wfI x)(hb:∀ y ∈ x.l,y.b.length<=1099511627000):AP Tryz.prog 90 [itD x] (Zh4 x) []:=by
 obtain⟨k,n,b,l⟩:=x
 by_cases hk:k=4
 case neg=>rw[Zd4 (Zoq (.inl hk))];exact ZpE k n b l (.inl hk)
 by_cases hl:l.length=2
 case neg=>rw[Zd4 (Zoq (.inr hl))];exact ZpE k n b l (.inr hl)
 subst hk
 obtain⟨s,z,rfl⟩:∃ s z,l=[s,z]:=by
  match l,hl with
  | [s,z],_=>exact⟨s,z,rfl⟩
 have hbz:=hb z (by simp[It.l])
 clear hl hb
 have kZ:=ZcX Zc2 ⟨by decide,by decide⟩
 have wZ:=Zdl Zc2 (by decide)
 have sZ:=Zdr (Zce Zc2) (Zgr (by decide)) _ hw
 obtain⟨kz,nz,bz,lz⟩:=z
 simp only[It.b]at hbz
 by_cases h3:kz=3
 ·subst h3
  have hP:=Zh1 (ZfC++bz) (by simp[ZfC];omega)
  have hml:[(100:UInt8),116,110,58].length+bz.length<=maxLen:=by simp;unfold maxLen;omega
  cases hp:(Za5 (ZfC++bz)).2 with
  | false=>
   rw[Zdk hp]at hP
   rw[Zd4 (Zk6 hp)]
   exact Zp0 s n b nz bz lz hml hP
  | true=>
   obtain⟨hr,_⟩:=Zcm hp
   unfold Zfr at hP
   rw[hp]at hP
   have hc:(Za9 (.mk 4 n b [s,.mk 3 nz bz lz])).2=true->(Za5 (ZfC++bz)).1=(Za9 (.mk 4 n b [s,.mk 3 nz bz lz])).1:=
    Zk5 (fun e=>by cases e) (fun p q e=>by cases e) (fun t e _=>by cases e;rfl)
   generalize (Za5 (ZfC++bz)).1=c at *
   rw[<- Zfu hc (show c=⟨c.i,c.n,c.s,c.h,c.d⟩ from rfl),Zdw hr]
   exact ZpZ s n b nz bz lz c.i c.n c.s c.h c.d (Zb8 c) (Zce c) _ hml hP (ZcX c (Zfs hr)) (Zdw hr) (Zdl c hr) (Zdr (Zce c) (Zgr hr) _ hw)
 ·by_cases h4:kz=4/\lz.length=2
  ·obtain⟨rfl,hl2⟩:=h4
   obtain⟨⟨kp,np,bp,lp⟩,⟨kq,nq,bq,lq⟩,rfl⟩:∃ p q,lz=[p,q]:=by
    match lz,hl2 with
    | [p,q],_=>exact⟨p,q,rfl⟩
   have hc:(Za9 (.mk 4 n b [s,.mk 4 nz bz [.mk kp np bp lp,.mk kq nq bq lq]])).2=true->(⟨true,np,nq,[],[]⟩:EidV)=(Za9 (.mk 4 n b [s,.mk 4 nz bz [.mk kp np bp lp,.mk kq nq bq lq]])).1:=
    Zk5 (fun e=>by cases e) (fun p q e=>by cases e;rfl) (fun t e _=>by cases e)
   rw[<- Zfu hc rfl]
   exact ZpX s _ n b nz bz kp np bp lp kq nq bq lq rfl (Zb8 ⟨true,np,nq,[],[]⟩) (Zce ⟨true,np,nq,[],[]⟩) _ _ (ZcX ⟨true,np,nq,[],[]⟩ ⟨Nat.zero_le _,Nat.zero_le _⟩) rfl (fun h=>Zdl ⟨true,np,nq,[],[]⟩ (Zfv h)) (fun h=>Zdr (Zce ⟨true,np,nq,[],[]⟩) (Zgr (Zfv h)) _ hw)
  ·have hc:(Za9 (.mk 4 n b [s,.mk kz nz bz lz])).2=true->Zc2=(Za9 (.mk 4 n b [s,.mk kz nz bz lz])).1:=
    Zk5 (fun e=>rfl) (fun p q e=>by cases e;exact absurd ⟨rfl,rfl⟩ h4) (fun t e _=>by cases e;exact absurd rfl h3)
   rw[<- Zfu hc rfl]
   exact ZpY s n b kz nz bz lz (by
    by_cases h5:kz=4
    ·exact .inl ⟨h5,fun e=>h4 ⟨h5,e⟩⟩
    ·exact .inr ⟨h5,h3⟩) (Zce Zc2) _ kZ wZ sZ
theorem Zi5:∀ {l:List It} {y:It},y ∈ l->(Zbg y).length<=(Zba l).length
 | x::l,y,h=>by
  rw[Zba,List.length_append]
  rcases List.mem_cons.1 h with rfl|h
  ·omega
  ·have:=Zi5 h;omega
theorem Zp1 (y:It):y.b.length<=(Zbg y).length:=by
 obtain⟨k,n,b,l⟩:=y
 rw[Zbg,List.length_append,List.length_append]
 show b.length<=_
 omega
theorem Zpk (k:Int)(n:Nat)(b:List UInt8)(l:List It):(Zba l).length<=(Zbg (.mk k n b l)).length:=by
 rw[Zbg,List.length_append,List.length_append]
 omega
end Go.Proofs.YtakblclkflnnpaaGreatDoor
end

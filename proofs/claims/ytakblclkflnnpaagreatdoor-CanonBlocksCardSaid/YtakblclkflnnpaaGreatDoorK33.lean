/- The document's answers for names: the name of any text. -/
import Derived.Test.YtakblclkflnnpaaGreatDoorK32
import Derived.Test.YtakblclkflnnpaaGreatDoorK28
import Derived.Test.YtakblclkflnnpaaGreatDoorK12
import Derived.Test.YtakblclkflnnpaaGreatDoorK31
set_option linter.unusedVariables false
set_option linter.unusedSimpArgs false
section
open Go.RowKit Go.Pl Go.Av
namespace Go.Proofs.YtakblclkflnnpaaGreatDoor
set_option maxHeartbeats 4000000
theorem ZjR {c:UInt8}(h:c ≠ 47):c.toNat ≠ 47:=fun e=>h (UInt8.toNat_inj.1 (by rw[e];rfl))
theorem ZjS {s:List UInt8}{c:EidV}(h0:s ≠ Zep)(hc:(Zbc s).2=true->c=(Zbc s).1){i:Bool}{n q:Nat}{h d:List UInt8}(ec:c=⟨i,n,q,h,d⟩):ZiH (decide (Zcl c<1)) (ZcJ c != s) i n q h d=ZfR s:=by
 cases hk:decide (Zcl c<1) with
 | true=>rw[ZdF (ZpJ h0 hc hk)];cases(ZcJ c != s)<;>rfl
 | false=>
  cases ht:(ZcJ c != s) with
  | true=>rw[ZdF (ZpK hc ht)];rfl
  | false=>rw[Zgw (ZpL hk ht),ec]
theorem ZeN {c:EidV}(h:decide (Zcl c<1)=false):Za3 c=true:=by
 rw[ZiF,Bool.or_eq_false_iff]at h
 simpa using h.1
theorem ZiI [Known](s:List UInt8)(hs:s.length<=1099511627776):AP Tryz.prog 149 [.str s] (ZfR s) []:=by
 cases h0:(s==Zep) with
 | true=>
  have e:Zbc s=(ZdR,true):=by unfold Zbc;rw[if_pos h0]
  rw[Zgw e]
  exact Zra s h0
 | false=>
  have hne:s ≠ Zep:=by simpa using h0
  by_cases hI:∃ r,r ≠ []/\s=Zeq++r
  ·obtain⟨r,hr,rfl⟩:=hI
   have hl:(Zeq++r).length=4+r.length:=by simp[Zeq];omega
   have hrl:0<r.length:=List.length_pos_iff.2 hr
   have hn:=ZjQ 11 0 r
   have hC1:=ZhW (Zeq++r) 4 (by omega) (by omega)
   have ed:(Zeq++r).drop 4=r:=rfl
   rw[ed]at hC1
   have hK:=Zdk (ZhV r) ⟨by simp[ZhV],by simp[ZhV]⟩
   rw[<- ZjS hne Znh (show ZhV r=⟨true,_,_,[],[]⟩ from rfl)]
   refine Zrc (Zeq++r) (Zdb 11 0 r).1 (if 4+(Zdb 11 0 r).2<4+r.length then(Zdb 11 0 (r.drop ((Zdb 11 0 r).2+1))).1 else 0) (4+(Zdb 11 0 r).2) ((4+(Zdb 11 0 r).2+1)+(Zdb 11 0 (r.drop ((Zdb 11 0 r).2+1))).2) (Zcl (ZhV r)) (ZcJ (ZhV r)) (decide (4+(Zdb 11 0 r).2<4+r.length)) _ _ h0 (decide_eq_true (by omega)) (by omega) rfl hC1 (by rw[hl];simp only[Int.ofNat_lt]) (by rw[IntWalk.i64_in _ (by omega)];omega) (fun hz=>?_) (fun hz=>if_neg (of_decide_eq_false hz)) hK rfl (fun hz=>ZeM _ (ZeN hz)) rfl
   have hz:=of_decide_eq_true hz
   rw[if_pos hz]
   have hC2:=ZhW (Zeq++r) (4+(Zdb 11 0 r).2+1) (by omega) (by omega)
   have ed2:(Zeq++r).drop (4+(Zdb 11 0 r).2+1)=r.drop ((Zdb 11 0 r).2+1):=by
    rw[show 4+(Zdb 11 0 r).2+1=4+((Zdb 11 0 r).2+1) by omega,<- List.drop_drop,ed]
   rw[ed2]at hC2
   exact hC2
  ·by_cases hT:∃ r,r ≠ []/\s=[100,116,110,58,47,47]++r
   ·obtain⟨r,hr,rfl⟩:=hT
    have hl:([100,116,110,58,47,47]++r:List UInt8).length=6+r.length:=by simp;omega
    have hrl:0<r.length:=List.length_pos_iff.2 hr
    have ed:([100,116,110,58,47,47]++r:List UInt8).drop 6=r:=rfl
    have eg:∀ i,([100,116,110,58,47,47]++r:List UInt8)[6+i]?=r[i]? := fun i=>by rw[<- List.getElem?_drop,ed]
    rcases ZfP 47 r with hno|⟨a,b,rfl,hno⟩
    ·have hK:=Zdk ⟨false,0,0,r,[]⟩ ⟨by show r.length<=_;omega,by simp⟩
     have h:=ZqV ([100,116,110,58,47,47]++r) (6+r.length) r [] (Zcl ⟨false,0,0,r,[]⟩) (ZcJ ⟨false,0,0,r,[]⟩) _ _ h0 (by omega) (decide_eq_true (by omega)) (by omega) rfl (decide_eq_true (by omega)) (by omega) rfl (by omega) (by omega)
      (fun i h6 hi=>by
       obtain⟨j,rfl⟩:∃ j,i=6+j:=⟨i-6,by omega⟩
       rw[eg]
       have hj:j<r.length:=by omega
       exact⟨r[j],List.getElem?_eq_getElem hj,ZjR fun e=>hno (e ▸ List.getElem_mem hj)⟩)
      (fun h=>by omega) (by rw[List.take_of_length_le (by omega),ed]) (List.drop_of_length_le (by omega)) hK rfl (fun hz=>ZeM _ (ZeN hz)) rfl
     rw[if_neg (by omega)]at h
     rw[ZdF (ZjP hne (fun r' hr' e=>hI ⟨r',hr',e⟩) (fun h d hh e=>hno (by rw[List.append_cancel_left e];simp)))]
     exact h
    ·have hal:(a++47::b).length=a.length+(b.length+1):=by simp
     have hK:=Zdk ⟨false,0,0,a,b⟩ ⟨by show a.length<=_;omega,by show b.length<=_;omega⟩
     have h:=ZqV ([100,116,110,58,47,47]++(a++47::b)) (6+a.length) a b (Zcl ⟨false,0,0,a,b⟩) (ZcJ ⟨false,0,0,a,b⟩) _ _ h0 (by omega) (decide_eq_true (by omega)) (by omega) rfl (decide_eq_true (by omega)) (by omega) rfl (by omega) (by omega)
      (fun i h6 hi=>by
       obtain⟨j,rfl⟩:∃ j,i=6+j:=⟨i-6,by omega⟩
       rw[eg]
       have hj:j<a.length:=by omega
       exact⟨a[j],by rw[List.getElem?_append_left hj,List.getElem?_eq_getElem hj],ZjR fun e=>hno (e ▸ List.getElem_mem hj)⟩)
      (fun h=>⟨47,by rw[eg,List.getElem?_append_right (Nat.le_refl _),Nat.sub_self];rfl,rfl⟩)
      (by
       have e:([100,116,110,58,47,47]++(a++47::b):List UInt8).take (6+a.length)=[100,116,110,58,47,47]++a:=by
        rw[<- List.append_assoc,List.take_append_of_le_length (by simp;omega),List.take_of_length_le (by simp;omega)]
       rw[e];rfl)
      (by
       have e:([100,116,110,58,47,47]++(a++47::b):List UInt8).drop (6+(a.length+1))=(a++47::b).drop (a.length+1):=by rw[<- List.drop_drop,ed]
       rw[show 6+a.length+1=6+(a.length+1) by omega,e,List.drop_append,List.drop_of_length_le (by omega)];simp)
      hK rfl (fun hz=>ZeM _ (ZeN hz)) rfl
     rw[if_pos (by omega)]at h
     rw[<- ZjS hne (Zni hno) rfl]
     exact h
   ·have hpn:=ZjP hne (fun r' hr' e=>hI ⟨r',hr',e⟩) (fun h d hh e=>hT ⟨_,by simp,e⟩)
    rw[ZdF hpn]
    have hK:=Zdk ZdR ⟨by decide,by decide⟩
    refine Zrb s h0 ?_ ?_ hK
    ·rcases Nat.lt_or_ge 4 s.length with h4|h4
     ·refine .inr ⟨decide_eq_true (by omega),by omega,?_⟩
      cases hb:((s.take (Int.toNat 4)).drop 0==[105,112,110,58]) with
      | false=>rfl
      | true=>
       have e:s.take 4=Zeq:=beq_iff_eq.1 hb
       refine absurd ⟨s.drop 4,?_,?_⟩ hI
       ·intro hn;have:=congrArg List.length hn;simp at this;omega
       ·rw[<- e,List.take_append_drop]
     ·exact .inl (decide_eq_false (by omega))
    ·rcases Nat.lt_or_ge 6 s.length with h4|h4
     ·refine .inr ⟨decide_eq_true (by omega),by omega,?_⟩
      cases hb:((s.take (Int.toNat 6)).drop 0==[100,116,110,58,47,47]) with
      | false=>rfl
      | true=>
       have e:s.take 6=[100,116,110,58,47,47]:=beq_iff_eq.1 hb
       refine absurd ⟨s.drop 6,?_,?_⟩ hT
       ·intro hn;have:=congrArg List.length hn;simp at this;omega
       ·rw[<- e,List.take_append_drop]
     ·exact .inl (decide_eq_false (by omega))
def Zcr (x:EidV):It:=
 if isZ x then .mk 4 0 [] [.mk 0 1 [] [],.mk 0 0 [] []]
 else if x.i then .mk 4 0 [] [.mk 0 2 [] [],.mk 4 0 [] [.mk 0 x.n [] [],.mk 0 x.s [] []]]
 else .mk 4 0 [] [.mk 0 1 [] [],.mk 3 0 (Zdr x) []]
theorem Zc9 [Known](n:Nat):AP Tryz.prog 111 [.int .u64 (n:Int)] (.agg [.int .i64 0,.int .u64 (n:Int),.sl .ext [],.sl .ext []]) []:=by
 refine AP.ofA ?_
 refine Zan Tryz.func111 rfl Tryz.ntmps111 rfl rfl ?_
 repeat'(first|(apply Zah Zab;exact Z))
 all_goals(apply Zaw [];(apply Zad Zab;exact Z);(iterate 4 exact Z))
 all_goals rfl
theorem ZdG [Known](x:EidV)(h:Za3 x=true):AP Tryz.prog 47 [.agg (eC x)] (itD (Zcr x)) []:=by
 have hK:=Zdk x (ZfS h)
 unfold Zcr
 cases hz:isZ x with
 | true=>
  rw[ZnM hz]at hK
  rw[if_pos rfl]
  have n1:=Zc9 1
  have n0:=Zc9 0
  replace n1:AP Tryz.prog _ [.int .u64 1] (.agg [.int .i64 0,.int .u64 1,.sl .ext [],.sl .ext []]) []:=n1
  replace n0:AP Tryz.prog _ [.int .u64 0] (.agg [.int .i64 0,.int .u64 0,.sl .ext [],.sl .ext []]) []:=n0
  refine AP.ofA ?_
  refine Zan Tryz.func47 rfl Tryz.ntmps47 rfl rfl ?_
  repeat'(first|(apply Zaa (hK);kernel_rfl;(iterate 4 exact Z))|(apply Zaa (n1);kernel_rfl;(iterate 4 exact Z))|(apply Zaa (n0);kernel_rfl;(iterate 4 exact Z))|(apply Zaj Zab;exact Z)|(apply Zah Zab;exact Z)|(apply Zac;exact Z;exact Go.ZrJ)|(apply ZaX Zab;(iterate 12 exact Z)))
  all_goals(apply Zaw [];(apply Zad Zab;exact Z);(iterate 4 exact Z))
  all_goals rfl
 | false=>
  rw[if_neg (by simp)]
  cases hi:x.i with
  | true=>
   obtain⟨b1,b2,_⟩:=Zb9 h hz hi
   rw[ZnN h hi]at hK
   rw[if_pos rfl]
   have n2:=Zc9 2
   have nn:=Zc9 x.n
   have ns:=Zc9 x.s
   replace n2:AP Tryz.prog _ [.int .u64 2] (.agg [.int .i64 0,.int .u64 2,.sl .ext [],.sl .ext []]) []:=n2
   refine AP.ofA ?_
   refine Zan Tryz.func47 rfl Tryz.ntmps47 rfl rfl ?_
   repeat'(first|(apply Zaa (hK);kernel_rfl;(iterate 4 exact Z))|(apply Zaa (n2);kernel_rfl;(iterate 4 exact Z))|(apply Zaa (nn);kernel_rfl;(iterate 4 exact Z))|(apply Zaa (ns);kernel_rfl;(iterate 4 exact Z))|(apply Zaj Zab;exact Z)|(apply Zah Zab;exact Z)|(apply Zac;exact Z;exact Go.ZrJ)|(apply Zaf;exact Z;exact Go.ZrJ)|(apply ZaX Zab;(iterate 12 exact Z))|(apply Zao 6 ZaL;decide +kernel;kernel_rfl;kernel_rfl;kernel_rfl;exact Z;exact Z)|(apply Zaq;(iterate 4 exact Z))|exact AE.nil _ _ _ _|(apply Zat;exact Z)|(apply Zay;exact Z;exact Z;decide +kernel;exact Z)|(apply Zaz;exact Z)|exact AO.nil _ _ _|(apply Zap;(decide +kernel))|exact AOs.nil|exact ZaH rfl rfl)
   all_goals(apply Zaw [];(apply Zad Zab;exact Z);(iterate 4 exact Z))
   all_goals rfl
  | false=>
   obtain⟨_,_,_,b1,b2,_⟩:=Zca h hz hi
   rw[ZnO h hz hi]at hK
   rw[if_neg (by simp)]
   have n1:=Zc9 1
   replace n1:AP Tryz.prog _ [.int .u64 1] (.agg [.int .i64 0,.int .u64 1,.sl .ext [],.sl .ext []]) []:=n1
   have l1:[(47:UInt8),47].length+x.h.length<=maxLen:=by simp;unfold maxLen;omega
   have l2:([(47:UInt8),47]++x.h).length + [(47:UInt8)].length<=maxLen:=by simp;unfold maxLen;omega
   have l3:([(47:UInt8),47]++x.h++[47]).length+x.d.length<=maxLen:=by simp;unfold maxLen;omega
   refine AP.ofA ?_
   refine Zan Tryz.func47 rfl Tryz.ntmps47 rfl rfl ?_
   repeat'(first|(apply Zaa (hK);kernel_rfl;(iterate 4 exact Z))|(apply Zaa (n1);kernel_rfl;(iterate 4 exact Z))|(apply Zfo;exact Z;exact Z;(first|exact l1|exact l2|exact l3);exact Z)|(apply Zpf Zab;(iterate 8 exact Z))|(apply Zaj Zab;exact Z)|(apply Zah Zab;exact Z)|(apply Zaf;exact Z;exact Go.ZrJ)|(apply ZaX Zab;(iterate 12 exact Z))|(apply Zao 10 ZaL;decide +kernel;kernel_rfl;kernel_rfl;kernel_rfl;exact Z;exact Z)|(apply Zaq;(iterate 4 exact Z))|exact AE.nil _ _ _ _|(apply Zat;exact Z)|(apply Zay;exact Z;exact Z;decide +kernel;exact Z)|(apply Zaz;exact Z)|exact AO.nil _ _ _|(apply Zap;(decide +kernel))|exact AOs.nil|exact ZaH rfl rfl)
   all_goals(apply Zaw [];(apply Zad Zab;exact Z);(iterate 4 exact Z))
   all_goals rfl
theorem Znj {x:EidV}(h:Za3 x=true)(hz:isZ x=false)(hi:x.i=false):ppV (Zdr x)=(x,true):=by
 obtain⟨b1,b2,b3,b4,b5,b6,b7⟩:=Zca h hz hi
 have e1:Zdr x=[47,47]++(x.h++47::x.d):=by simp[Zdr]
 rw[e1]
 unfold ppV
 rw[Zen]
 dsimp only
 rw[Zdi (ZeH b6 (by decide))]
 dsimp only
 have ex:(⟨false,0,0,x.h,x.d⟩:EidV)=x:=by
  obtain⟨i,n,s,hh,d⟩:=x
  simp only at hi b1 b2
  rw[hi,b1,b2]
 rw[ex,h]
 have:(x.h != [])=true:=by
  rw[bne_iff_ne]
  intro e
  rw[e]at b3
  simp at b3
 rw[this]
 rfl
theorem Zg1 {x:EidV}(h:Za3 x=true):wfI (Zcr x):=by
 unfold Zcr
 cases hz:isZ x with
 | true=>rw[if_pos rfl];simp[wfI,wfs]
 | false=>
  rw[if_neg (by simp)]
  cases hi:x.i with
  | true=>
   obtain⟨b1,b2,b3,b4,b5⟩:=Zb9 h hz hi
   rw[if_pos rfl]
   simp[wfI,wfs]
   omega
  | false=>
   obtain⟨b1,b2,b3,b4,b5,b6,b7⟩:=Zca h hz hi
   rw[if_neg (by simp)]
   simp[wfI,wfs,Zdr]
   omega
theorem ZiJ {x:EidV}(h:Za3 x=true)(hr:ZaC (Zcr x)=true):Zbe (Zcr x)=(x,true):=by
 unfold Zbe
 rw[hr]
 unfold Zcr
 cases hz:isZ x with
 | true=>
  rw[if_pos rfl,ZcI.1 hz]
  rfl
 | false=>
  rw[if_neg (by simp)]
  cases hi:x.i with
  | true=>
   obtain⟨b1,b2,b3,b4,b5⟩:=Zb9 h hz hi
   rw[if_pos rfl]
   dsimp only
   rw[if_pos rfl]
   have ex:(⟨true,x.n,x.s,[],[]⟩:EidV)=x:=by
    obtain⟨i,n,s,hh,d⟩:=x
    simp only at hi b3 b4
    rw[hi,b3,b4]
   have e1:ZcK 1 (.mk 0 2 [] [])=false:=rfl
   have e2:ZcK 2 (.mk 0 2 [] [])=true:=rfl
   have e3:∀ n,ZcK n (.mk 0 n [] [])=true:=fun n=>It.beq_iff.2 rfl
   have e4:ZeI (.mk 4 0 [] [.mk 0 x.n [] [],.mk 0 x.s [] []])=some (x.n,x.s):=by
    unfold ZeI
    dsimp only
    rw[if_pos rfl]
    simp only[It.n,e3,Bool.and_self]
   unfold Zer
   rw[e1,e2,e4]
   dsimp only
   rw[ex,h]
  | false=>
   rw[if_neg (by simp)]
   dsimp only
   rw[if_pos rfl]
   have e1:ZcK 1 (.mk 0 1 [] [])=true:=rfl
   have e2:ZcK 0 (.mk 3 0 (Zdr x) [])=false:=rfl
   unfold Zer
   rw[e1,e2]
   exact Znj h hz hi
theorem ZlX {m:Nat}(hm:m<128){c:UInt8}(h:okB m c=true):c.toNat<128:=by
 simp only[okB,Bool.or_eq_true,Bool.and_eq_true,decide_eq_true_eq,beq_iff_eq]at h
 omega
theorem ZiK {x:EidV}(h:Za3 x=true):ZaC (Zcr x)=true:=by
 unfold Zcr
 cases hz:isZ x with
 | true=>rw[if_pos rfl];rfl
 | false=>
  rw[if_neg (by simp)]
  cases hi:x.i with
  | true=>rw[if_pos rfl];simp[ZaC,Zcj,ZbP,Zc2]
  | false=>
   obtain⟨b1,b2,b3,b4,b5,b6,b7⟩:=Zca h hz hi
   rw[if_neg (by simp)]
   have hv:ZaF (Zdr x)=true:=by
    rw[ZbX (Zdr x).length (Zdr x) (Nat.le_refl _) fun c hc=>?_,List.drop_length]
    ·rfl
    ·rw[List.take_length]at hc
     simp only[Zdr,List.mem_append,List.mem_cons,List.not_mem_nil,or_false]at hc
     rcases hc with((hc|hc)|hc)|hc
     ·rcases hc with hc|hc<;>rw[hc]<;>decide
     ·exact ZlX (by decide) (List.all_eq_true.1 b6 c hc)
     ·rw[hc];decide
     ·exact ZlX (by decide) (List.all_eq_true.1 b7 c hc)
   simp[ZaC,Zcj,ZbP,Zc2,hv]
theorem ZlY {k:Int}{n:Nat}{b:List UInt8}{l:List It}(h:ZaC (.mk k n b l)=true):Zc2 k n b l=true/\∀ y ∈ l,∃ d m m',Zcj y d m=some m':=by
 unfold ZaC at h
 cases hw:Zcj (.mk k n b l) 1 256 with
 | none=>rw[hw]at h;cases h
 | some m=>
  obtain⟨_,_,h1,h2⟩:=Zcn hw
  refine⟨h1,?_⟩
  clear hw h h1
  generalize (256:Nat)-1=m0 at h2
  induction l generalizing m0 with
  | nil=>intro y hy;cases hy
  | cons x l ih=>
   intro y hy
   obtain⟨m1,w1,w2⟩:=Zck h2
   rcases List.mem_cons.1 hy with rfl|hy
   ·exact⟨_,_,_,w1⟩
   ·exact ih _ w2 y hy
theorem Zku {x:It}{a c:Nat}(h:ZeI x=some (a,c)):∃ n b,x=.mk 4 n b [.mk 0 a [] [],.mk 0 c [] []]:=by
 unfold ZeI at h
 split at h
 ·rename_i k n b y0 y1
  split at h
  ·rename_i hk
   split at h
   ·rename_i hy
    simp only[Option.some.injEq,Prod.mk.injEq]at h
    rw[Bool.and_eq_true]at hy
    have e0:=It.beq_iff.1 hy.1
    have e1:=It.beq_iff.1 hy.2
    rw[h.1]at e0
    rw[h.2]at e1
    rw[hk,e0,e1]
    exact⟨n,b,rfl⟩
   ·cases h
  ·cases h
 ·cases h
theorem Zda {x:It}(h:(Zbe x).2=true):Za3 (Zbe x).1=true/\Zcr (Zbe x).1=x:=by
 unfold Zbe at h ⊢
 cases hr:ZaC x with
 | false=>rw[hr]at h;cases h
 | true=>
  obtain⟨k,n,b,l⟩:=x
  rw[hr]at h
  match l,hr,h with
  | [],hr,h=>cases h
  | [s],hr,h=>cases h
  | s::r::y::l,hr,h=>cases h
  | [s,r],hr,h=>
   dsimp only at h ⊢
   by_cases hk:k=4
   case neg=>rw[if_neg hk]at h;cases h
   rw[if_pos hk]at h ⊢
   subst hk
   obtain⟨ho,hm⟩:=ZlY hr
   have hn:n=0/\b=[]:=by simpa[Zc2]using ho
   obtain⟨rfl,rfl⟩:=hn
   obtain⟨rk,rn,rb,rl⟩:=r
   obtain⟨d,m,m',hwr⟩:=hm (.mk rk rn rb rl) (by simp)
   obtain⟨_,_,ho2,_⟩:=Zcn hwr
   unfold Zer at h ⊢
   cases h1:ZcK 1 s with
   | true=>
    have es:=It.beq_iff.1 h1
    rw[h1]at h
    cases h0:ZcK 0 (.mk rk rn rb rl) with
    | true=>
     have er:=It.beq_iff.1 h0
     dsimp only
     rw[es,er]
     exact⟨by decide,rfl⟩
    | false=>
     rw[h0]at h
     dsimp only at h ⊢
     cases h3:(It.mk rk rn rb rl).k==3 with
     | false=>rw[h3]at h;cases h
     | true=>
      rw[h3]at h
      have hk3:rk=3:=by simpa[It.k]using h3
      subst hk3
      have hn:rn=0/\rl=[]:=by
       have:Zc2 3 rn rb rl=true:=ho2
       simp[Zc2]at this
       exact⟨this.1,this.2.1⟩
      obtain⟨rfl,rfl⟩:=hn
      dsimp only[It.b]at h ⊢
      unfold ppV at h ⊢
      dsimp only at h ⊢
      simp only[Bool.and_eq_true,bne_iff_ne]at h
      obtain⟨k3,k4,k5,k6⟩:=h
      have e2:=Zeo k3
      generalize (ZdY [47,47] rb).1=q at *
      refine⟨k6,?_⟩
      unfold Zcr
      rw[if_neg (by rw[ZcI];intro e;exact k5 (congrArg EidV.h e)),if_neg (by simp),es,e2]
      have:=Zem k4
      conv=>rhs;rw[this]
      simp[Zdr]
   | false=>
    rw[h1]at h
    cases h2:ZcK 2 s with
    | false=>rw[h2]at h;cases h
    | true=>
     have es:=It.beq_iff.1 h2
     rw[h2]at h
     dsimp only at h ⊢
     cases hq:ZeI (.mk rk rn rb rl) with
     | none=>rw[hq]at h;cases h
     | some ac=>
      obtain⟨a,c⟩:=ac
      rw[hq]at h
      dsimp only at h ⊢
      refine⟨h,?_⟩
      obtain⟨n2,b2,e2⟩:=Zku hq
      cases e2
      have hn:rn=0/\rb=[]:=by simpa[Zc2]using ho2
      obtain⟨rfl,rfl⟩:=hn
      unfold Zcr
      rw[if_neg (by simp[isZ]),if_pos rfl,es]
abbrev ZiL (x:It):D:=.tup [.agg (eC (match(Zbe x).2 with|true=>(Zbe x).1|false=>ZdR)),.bool (Zbe x).2]
theorem Zes {x:It}(h:(Zbe x).2=false):ZiL x=.tup [.agg (eC ZdR),.bool false]:=by unfold ZiL;rw[h]
theorem ZlZ {x:It}{e:EidV}(h:Zbe x=(e,true)):ZiL x=.tup [.agg (eC e),.bool true]:=by unfold ZiL;rw[h]
theorem ZfT {e:EidV}(h:Za3 e=true):∃ s z,Zcr e=.mk 4 0 [] [s,z]/\((isZ e=true/\z=.mk 0 0 [] [])\/(isZ e=false/\e.i=true/\z=.mk 4 0 [] [.mk 0 e.n [] [],.mk 0 e.s [] []]/\e.h=[]/\e.d=[])\/(isZ e=false/\e.i=false/\z=.mk 3 0 (Zdr e) []/\ZcJ e=Zf5++Zdr e)):=by
 unfold Zcr
 cases hz:isZ e with
 | true=>rw[if_pos rfl];exact⟨_,_,rfl,.inl ⟨rfl,rfl⟩⟩
 | false=>
  rw[if_neg (by simp)]
  cases hi:e.i with
  | true=>
   obtain⟨_,_,h1,h2,_⟩:=Zb9 h hz hi
   rw[if_pos rfl];exact⟨_,_,rfl,.inr (.inl ⟨rfl,rfl,rfl,h1,h2⟩)⟩
  | false=>
   rw[if_neg (by simp)]
   refine⟨_,_,rfl,.inr (.inr ⟨rfl,rfl,rfl,?_⟩)⟩
   unfold ZcJ
   rw[hz,if_neg (by simp),hi,if_neg (by simp)]
   rfl
theorem ZpM {k:Int}{n:Nat}{b:List UInt8}{l:List It}(h:k ≠ 4\/l.length ≠ 2):(Zbe (.mk k n b l)).2=false:=by
 cases hp:(Zbe (.mk k n b l)).2 with
 | false=>rfl
 | true=>
  obtain⟨h1,h2⟩:=Zda hp
  obtain⟨s,z,e,_⟩:=ZfT h1
  rw[e]at h2
  cases h2
  rcases h with h|h
  ·exact absurd rfl h
  ·exact absurd rfl h
theorem Zl0 {n:Nat}{b:List UInt8}{s z:It}{c:EidV}
  (hZ:z=.mk 0 0 [] []->c=ZdR) (hI:∀ p q,z=.mk 4 0 [] [.mk 0 p [] [],.mk 0 q [] []]->c=⟨true,p,q,[],[]⟩) (hT:∀ t,z=.mk 3 0 t []->(Zbc (Zf5++t)).2=true->c=(Zbc (Zf5++t)).1)
  (hp:(Zbe (.mk 4 n b [s,z])).2=true):c=(Zbe (.mk 4 n b [s,z])).1:=by
 obtain⟨h1,h2⟩:=Zda hp
 generalize (Zbe (.mk 4 n b [s,z])).1=e at *
 obtain⟨s',z',ee,hh⟩:=ZfT h1
 rw[ee]at h2
 cases h2
 rcases hh with⟨hz,hh⟩ | ⟨hz,hi,hh,e1,e2⟩ | ⟨hz,hi,hh,ht⟩
 ·rw[hZ hh,ZcI.1 hz]
 ·rw[hI _ _ hh]
  obtain⟨i,n,s,h,d⟩:=e
  simp only at hi e1 e2
  rw[hi,e1,e2]
 ·have hq:=ZeK h1
  rw[ht]at hq
  have:=hT _ hh (by rw[hq])
  rw[this,hq]
theorem Zl1 {n n3:Nat}{b t:List UInt8}{s:It}{l:List It}(h:(Zbc (Zf5++t)).2=false):(Zbe (.mk 4 n b [s,.mk 3 n3 t l])).2=false:=by
 cases hp:(Zbe (.mk 4 n b [s,.mk 3 n3 t l])).2 with
 | false=>rfl
 | true=>
  obtain⟨h1,h2⟩:=Zda hp
  generalize (Zbe (.mk 4 n b [s,.mk 3 n3 t l])).1=e at *
  obtain⟨s',z',ee,hh⟩:=ZfT h1
  rw[ee]at h2
  cases h2
  rcases hh with⟨hz,hh⟩ | ⟨hz,hi,hh,e1,e2⟩ | ⟨hz,hi,hh,ht⟩
  ·cases hh
  ·cases hh
  ·cases hh
   have hq:=ZeK h1
   rw[ht]at hq
   rw[hq]at h;cases h
theorem Zrd {x:It}{c:EidV}(hc:(Zbe x).2=true->c=(Zbe x).1)(hk:Za3 c=false):(Zbe x).2=false:=by
 cases hp:(Zbe x).2 with
 | false=>rfl
 | true=>rw[hc hp,(Zda hp).1]at hk;cases hk
theorem Zre {x:It}{c:EidV}(hc:(Zbe x).2=true->c=(Zbe x).1)(hs:It.beq (Zcr c) x=false):(Zbe x).2=false:=by
 cases hp:(Zbe x).2 with
 | false=>rfl
 | true=>rw[hc hp,(Zda hp).2,It.beq_iff.2 rfl]at hs;cases hs
theorem Zrf {x:It}{c:EidV}(hk:Za3 c=true)(hs:It.beq (Zcr c) x=true):Zbe x=(c,true):=by
 rw[<- It.beq_iff.1 hs,ZiJ hk (ZiK hk)]
theorem ZqW [Known](k:Int)(n:Nat)(b:List UInt8)(l:List It)(h:k ≠ 4\/l.length ≠ 2):AP Tryz.prog 90 [itD (.mk k n b l)] (.tup [.agg [.bool false,.int .u64 0,.int .u64 0,.str [],.str []],.bool false]) []:=by
 by_cases hk:k=4
 ·have t1:(k != 4)=false:=by simpa using hk
  have hl:l.length ≠ 2:=by
   rcases h with h|h
   ·exact absurd hk h
   ·exact h
  have t2:(((Zax l).length:Int) != 2)=true:=by rw[Zar];simp;omega
  refine AP.ofA ?_
  refine Zan Tryz.func90 rfl Tryz.ntmps90 rfl rfl ?_
  repeat'(first|(apply Zaj Zab;exact Z)|(apply Zah Zab;exact Z)|(apply Zav Zab;exact Z)|(apply Zae;(iterate 3 exact Z);exact Go.ZrJ)|(apply Zag;exact Z;exact Go.ZrJ;exact Z;exact Z)|(apply Zac;exact Z;exact Go.ZrJ)|(apply Zam Zab;(iterate 4 exact Z)))
  all_goals(apply Zaw [];(apply Zad Zab;exact Z);(iterate 4 exact Z))
  all_goals rfl
 ·have t1:(k != 4)=true:=by simpa using hk
  refine AP.ofA ?_
  refine Zan Tryz.func90 rfl Tryz.ntmps90 rfl rfl ?_
  repeat'(first|(apply Zaj Zab;exact Z)|(apply Zah Zab;exact Z)|(apply Zav Zab;exact Z)|(apply Zal;(iterate 3 exact Z);exact Go.ZrJ)|(apply Zak;exact Z;exact Go.ZrJ;exact Z;exact Z)|(apply Zac;exact Z;exact Go.ZrJ))
  all_goals(apply Zaw [];(apply Zad Zab;exact Z);(iterate 4 exact Z))
  all_goals rfl
theorem Zrg [Known](s z:It)(n:Nat)(b:List UInt8)(n2:Nat)(b2:List UInt8)(kp:Int)(np:Nat)(bp:List UInt8)(lp:List It)(kq:Int)(nq:Nat)(bq:List UInt8)(lq:List It)(ez:z=.mk 4 n2 b2 [.mk kp np bp lp,.mk kq nq bq lq])(κ:Int)(w:It)(z4 R:Bool)
  (hK:AP Tryz.prog 45 [.agg [.bool true,.int .u64 (np:Int),.int .u64 (nq:Int),.str [],.str []]] (.int .i64 κ) []) (t4:decide (κ<0)=z4)
  (hW:z4=false->AP Tryz.prog 47 [.agg [.bool true,.int .u64 (np:Int),.int .u64 (nq:Int),.str [],.str []]] (itD w) [])
  (hS:z4=false->AP Tryz.prog 22 [itD w,itD (.mk 4 n b [s,z])] (.bool R) []) :
  AP Tryz.prog 90 [itD (.mk 4 n b [s,z])] (ZiH z4 (!R) true np nq [] []) []:=by
 have hU:=Zb8 [s,z]
 subst ez
 have hU2:=Zb8 [.mk kp np bp lp,.mk kq nq bq lq]
 have t2:(((Zax [s,.mk 4 n2 b2 [.mk kp np bp lp,.mk kq nq bq lq]]).length:Int) != 2)=false:=rfl
 have t3:(((Zax [.mk kp np bp lp,.mk kq nq bq lq]).length:Int)==2)=true:=rfl
 obtain⟨sk,sn,sb,sl⟩:=s
 obtain⟨wk,wn,wb,wl⟩:=w
 cases z4 with
 | true=>
  clear hW hS
  cases R
  all_goals
   refine AP.ofA ?_
   refine Zan Tryz.func90 rfl Tryz.ntmps90 rfl rfl ?_
   repeat'(first|(apply Zaa (hK);kernel_rfl;(iterate 4 exact Z))|(apply Zaj Zab;exact Z)|(apply Zah Zab;exact Z)|(apply Zav Zab;exact Z)|(apply Zae;(iterate 3 exact Z);exact Go.ZrJ)|(apply Zal;(iterate 3 exact Z);exact Go.ZrJ)|(apply Zak;exact Z;exact Go.ZrJ;exact Z;exact Z)|(apply Zag;exact Z;exact Go.ZrJ;exact Z;exact Z)|(apply Zac;exact Z;exact Go.ZrJ)|(apply Zaf;exact Z;exact Go.ZrJ)|(apply Zam Zab;(iterate 4 exact Z))|(apply Zao 7 ZaL;decide +kernel;kernel_rfl;kernel_rfl;kernel_rfl;exact Z;exact Z)|(apply Zao 10 ZaL;decide +kernel;kernel_rfl;kernel_rfl;kernel_rfl;exact Z;exact Z)|(apply Zaq;(iterate 4 exact Z))|exact AE.nil _ _ _ _|(apply Zat;exact Z)|(apply Zay;exact Z;exact Z;decide +kernel;exact Z)|(apply Zaz;exact Z)|exact AO.nil _ _ _|(apply Zap;(decide +kernel))|exact AOs.nil|exact ZaH rfl rfl|(apply Zau Zab;(iterate 6 exact Z);(first|exact Go.ZrJ|rotate_left);(first|with_reducible assumption|decide +kernel|exact Z);(first|exact Zai rfl|with_reducible assumption|decide +kernel|rotate_left)))
   all_goals(apply Zaw [];(apply Zad Zab;exact Z);(iterate 4 exact Z))
   all_goals rfl
 | false=>
  have hW:=hW rfl
  have hS:=hS rfl
  cases R
  all_goals
   refine AP.ofA ?_
   refine Zan Tryz.func90 rfl Tryz.ntmps90 rfl rfl ?_
   repeat'(first|(apply Zaa (hK);kernel_rfl;(iterate 4 exact Z))|(apply Zaa (hW);kernel_rfl;(iterate 4 exact Z))|(apply Zaa (hS);kernel_rfl;(iterate 4 exact Z))|(apply Zaj Zab;exact Z)|(apply Zah Zab;exact Z)|(apply Zav Zab;exact Z)|(apply Zae;(iterate 3 exact Z);exact Go.ZrJ)|(apply Zak;exact Z;exact Go.ZrJ;exact Z;exact Z)|(apply Zag;exact Z;exact Go.ZrJ;exact Z;exact Z)|(apply Zac;exact Z;exact Go.ZrJ)|(apply Zaf;exact Z;exact Go.ZrJ)|(apply Zam Zab;(iterate 4 exact Z))|(apply Zao 7 ZaL;decide +kernel;kernel_rfl;kernel_rfl;kernel_rfl;exact Z;exact Z)|(apply Zao 10 ZaL;decide +kernel;kernel_rfl;kernel_rfl;kernel_rfl;exact Z;exact Z)|(apply Zaq;(iterate 4 exact Z))|exact AE.nil _ _ _ _|(apply Zat;exact Z)|(apply Zay;exact Z;exact Z;decide +kernel;exact Z)|(apply Zaz;exact Z)|exact AO.nil _ _ _|(apply Zap;(decide +kernel))|exact AOs.nil|exact ZaH rfl rfl|(apply Zau Zab;(iterate 6 exact Z);(first|exact Go.ZrJ|rotate_left);(first|with_reducible assumption|decide +kernel|exact Z);(first|exact Zai rfl|with_reducible assumption|decide +kernel|rotate_left)))
   all_goals(apply Zaw [];(apply Zad Zab;exact Z);(iterate 4 exact Z))
   all_goals rfl
theorem Zrh [Known](s:It)(n:Nat)(b:List UInt8)(kz:Int)(nz:Nat)(bz:List UInt8)(lz:List It)(hz:kz=4/\lz.length ≠ 2\/kz ≠ 4/\kz ≠ 3)(w:It)(R:Bool)
  (hK:AP Tryz.prog 45 [.agg [.bool false,.int .u64 0,.int .u64 0,.str [],.str []]] (.int .i64 0) [])
  (hW:AP Tryz.prog 47 [.agg [.bool false,.int .u64 0,.int .u64 0,.str [],.str []]] (itD w) [])
  (hS:AP Tryz.prog 22 [itD w,itD (.mk 4 n b [s,.mk kz nz bz lz])] (.bool R) []) :
  AP Tryz.prog 90 [itD (.mk 4 n b [s,.mk kz nz bz lz])] (ZiH false (!R) false 0 0 [] []) []:=by
 have hU:=Zb8 [s,.mk kz nz bz lz]
 have t2:(((Zax [s,.mk kz nz bz lz]).length:Int) != 2)=false:=rfl
 obtain⟨sk,sn,sb,sl⟩:=s
 obtain⟨wk,wn,wb,wl⟩:=w
 have t5:(kz==3)=false:=by
  rcases hz with⟨rfl,_⟩ | ⟨_,h⟩
  ·rfl
  ·simpa using h
 rcases hz with⟨rfl,hl⟩ | ⟨hk,_⟩
 ·have t3:(((Zax lz).length:Int)==2)=false:=by rw[Zar];simp;omega
  cases R
  all_goals
   refine AP.ofA ?_
   refine Zan Tryz.func90 rfl Tryz.ntmps90 rfl rfl ?_
   repeat'(first|(apply Zaa (hK);kernel_rfl;(iterate 4 exact Z))|(apply Zaa (hW);kernel_rfl;(iterate 4 exact Z))|(apply Zaa (hS);kernel_rfl;(iterate 4 exact Z))|(apply Zaj Zab;exact Z)|(apply Zah Zab;exact Z)|(apply Zav Zab;exact Z)|(apply Zae;(iterate 3 exact Z);exact Go.ZrJ)|(apply Zak;exact Z;exact Go.ZrJ;exact Z;exact Z)|(apply Zag;exact Z;exact Go.ZrJ;exact Z;exact Z)|(apply Zac;exact Z;exact Go.ZrJ)|(apply Zaf;exact Z;exact Go.ZrJ)|(apply Zam Zab;(iterate 4 exact Z))|(apply Zao 7 ZaL;decide +kernel;kernel_rfl;kernel_rfl;kernel_rfl;exact Z;exact Z)|(apply Zaq;(iterate 4 exact Z))|exact AE.nil _ _ _ _|(apply Zat;exact Z)|(apply Zay;exact Z;exact Z;decide +kernel;exact Z)|(apply Zaz;exact Z)|exact AO.nil _ _ _|(apply Zap;(decide +kernel))|exact AOs.nil|exact ZaH rfl rfl|(apply Zau Zab;(iterate 6 exact Z);(first|exact Go.ZrJ|rotate_left);(first|with_reducible assumption|decide +kernel|exact Z);(first|exact Zai rfl|with_reducible assumption|decide +kernel|rotate_left)))
   all_goals(apply Zaw [];(apply Zad Zab;exact Z);(iterate 4 exact Z))
   all_goals rfl
 ·have t3:(kz==4)=false:=by simpa using hk
  cases R
  all_goals
   refine AP.ofA ?_
   refine Zan Tryz.func90 rfl Tryz.ntmps90 rfl rfl ?_
   repeat'(first|(apply Zaa (hK);kernel_rfl;(iterate 4 exact Z))|(apply Zaa (hW);kernel_rfl;(iterate 4 exact Z))|(apply Zaa (hS);kernel_rfl;(iterate 4 exact Z))|(apply Zaj Zab;exact Z)|(apply Zah Zab;exact Z)|(apply Zav Zab;exact Z)|(apply Zae;(iterate 3 exact Z);exact Go.ZrJ)|(apply Zas;(iterate 3 exact Z);exact Go.ZrJ)|(apply Zag;exact Z;exact Go.ZrJ;exact Z;exact Z)|(apply Zac;exact Z;exact Go.ZrJ)|(apply Zaf;exact Z;exact Go.ZrJ)|(apply Zam Zab;(iterate 4 exact Z))|(apply Zao 7 ZaL;decide +kernel;kernel_rfl;kernel_rfl;kernel_rfl;exact Z;exact Z)|(apply Zaq;(iterate 4 exact Z))|exact AE.nil _ _ _ _|(apply Zat;exact Z)|(apply Zay;exact Z;exact Z;decide +kernel;exact Z)|(apply Zaz;exact Z)|exact AO.nil _ _ _|(apply Zap;(decide +kernel))|exact AOs.nil|exact ZaH rfl rfl|(apply Zau Zab;(iterate 6 exact Z);(first|exact Go.ZrJ|rotate_left);(first|with_reducible assumption|decide +kernel|exact Z);(first|exact Zai rfl|with_reducible assumption|decide +kernel|rotate_left)))
   all_goals(apply Zaw [];(apply Zad Zab;exact Z);(iterate 4 exact Z))
   all_goals rfl
theorem Zri [Known](s:It)(n:Nat)(b:List UInt8)(nz:Nat)(bz:List UInt8)(lz:List It)(xi:Bool)(xn xs:Nat)(xh xd:List UInt8)(κ:Int)(w:It)(R:Bool)(hl:[(100:UInt8),116,110,58].length+bz.length<=maxLen)
  (hP:AP Tryz.prog 149 [.str ([100,116,110,58]++bz)] (.tup [.agg [.bool xi,.int .u64 (xn:Int),.int .u64 (xs:Int),.str xh,.str xd],.bool true]) [])
  (hK:AP Tryz.prog 45 [.agg [.bool xi,.int .u64 (xn:Int),.int .u64 (xs:Int),.str xh,.str xd]] (.int .i64 κ) []) (t4:decide (κ<0)=false)
  (hW:AP Tryz.prog 47 [.agg [.bool xi,.int .u64 (xn:Int),.int .u64 (xs:Int),.str xh,.str xd]] (itD w) [])
  (hS:AP Tryz.prog 22 [itD w,itD (.mk 4 n b [s,.mk 3 nz bz lz])] (.bool R) []) :
  AP Tryz.prog 90 [itD (.mk 4 n b [s,.mk 3 nz bz lz])] (ZiH false (!R) xi xn xs xh xd) []:=by
 have hU:=Zb8 [s,.mk 3 nz bz lz]
 have t2:(((Zax [s,.mk 3 nz bz lz]).length:Int) != 2)=false:=rfl
 obtain⟨sk,sn,sb,sl⟩:=s
 obtain⟨wk,wn,wb,wl⟩:=w
 cases R
 all_goals
  refine AP.ofA ?_
  refine Zan Tryz.func90 rfl Tryz.ntmps90 rfl rfl ?_
  repeat'(first|(apply Zaa (hP);kernel_rfl;(iterate 4 exact Z))|(apply Zaa (hK);kernel_rfl;(iterate 4 exact Z))|(apply Zaa (hW);kernel_rfl;(iterate 4 exact Z))|(apply Zaa (hS);kernel_rfl;(iterate 4 exact Z))|(apply Zfo;exact Z;exact Z;exact hl;exact Z)|(apply Zcs Zab;(iterate 9 exact Z))|(apply Zaj Zab;exact Z)|(apply Zah Zab;exact Z)|(apply Zav Zab;exact Z)|(apply Zae;(iterate 3 exact Z);exact Go.ZrJ)|(apply Zas;(iterate 3 exact Z);exact Go.ZrJ)|(apply Zag;exact Z;exact Go.ZrJ;exact Z;exact Z)|(apply Zac;exact Z;exact Go.ZrJ)|(apply Zaf;exact Z;exact Go.ZrJ)|(apply Zam Zab;(iterate 4 exact Z))|(apply Zao 7 ZaL;decide +kernel;kernel_rfl;kernel_rfl;kernel_rfl;exact Z;exact Z)|(apply Zaq;(iterate 4 exact Z))|exact AE.nil _ _ _ _|(apply Zat;exact Z)|(apply Zay;exact Z;exact Z;decide +kernel;exact Z)|(apply Zaz;exact Z)|exact AO.nil _ _ _|(apply Zap;(decide +kernel))|exact AOs.nil|exact ZaH rfl rfl|(apply Zau Zab;(iterate 6 exact Z);(first|exact Go.ZrJ|rotate_left);(first|with_reducible assumption|decide +kernel|exact Z);(first|exact Zai rfl|with_reducible assumption|decide +kernel|rotate_left))|(apply Zcs Zab;(iterate 9 exact Z)))
  all_goals(apply Zaw [];(apply Zad Zab;exact Z);(iterate 4 exact Z))
  all_goals rfl
theorem Zrj [Known](s:It)(n:Nat)(b:List UInt8)(nz:Nat)(bz:List UInt8)(lz:List It)(hl:[(100:UInt8),116,110,58].length+bz.length<=maxLen)
  (hP:AP Tryz.prog 149 [.str ([100,116,110,58]++bz)] (.tup [.agg [.bool false,.int .u64 0,.int .u64 0,.str [],.str []],.bool false]) []) :
  AP Tryz.prog 90 [itD (.mk 4 n b [s,.mk 3 nz bz lz])] (.tup [.agg [.bool false,.int .u64 0,.int .u64 0,.str [],.str []],.bool false]) []:=by
 have hU:=Zb8 [s,.mk 3 nz bz lz]
 have t2:(((Zax [s,.mk 3 nz bz lz]).length:Int) != 2)=false:=rfl
 obtain⟨sk,sn,sb,sl⟩:=s
 refine AP.ofA ?_
 refine Zan Tryz.func90 rfl Tryz.ntmps90 rfl rfl ?_
 repeat'(first|(apply Zaa (hP);kernel_rfl;(iterate 4 exact Z))|(apply Zfo;exact Z;exact Z;exact hl;exact Z)|(apply Zcs Zab;(iterate 9 exact Z))|(apply Zaj Zab;exact Z)|(apply Zah Zab;exact Z)|(apply Zav Zab;exact Z)|(apply Zae;(iterate 3 exact Z);exact Go.ZrJ)|(apply Zas;(iterate 3 exact Z);exact Go.ZrJ)|(apply Zag;exact Z;exact Go.ZrJ;exact Z;exact Z)|(apply Zac;exact Z;exact Go.ZrJ)|(apply Zaf;exact Z;exact Go.ZrJ)|(apply Zam Zab;(iterate 4 exact Z))|(apply Zau Zab;(iterate 6 exact Z);(first|exact Go.ZrJ|rotate_left);(first|with_reducible assumption|decide +kernel|exact Z);(first|exact Zai rfl|with_reducible assumption|decide +kernel|rotate_left))|(apply Zcs Zab;(iterate 9 exact Z)))
 all_goals(apply Zaw [];(apply Zad Zab;exact Z);(iterate 4 exact Z))
 all_goals rfl
theorem ZfU {x:It}{c:EidV}(hc:(Zbe x).2=true->c=(Zbe x).1){i:Bool}{n q:Nat}{h d:List UInt8}(ec:c=⟨i,n,q,h,d⟩):ZiH (decide (Zcl c<0)) (!(It.beq (Zcr c) x)) i n q h d=ZiL x:=by
 have hk:=ZiE c
 cases hr:Za3 c with
 | false=>
  have e:decide (Zcl c<0)=true:=decide_eq_true (by have:=of_decide_eq_false (hk.trans hr);omega)
  rw[e,Zes (Zrd hc hr)]
  cases !(It.beq (Zcr c) x)<;>rfl
 | true=>
  have e:decide (Zcl c<0)=false:=decide_eq_false (by have:=of_decide_eq_true (hk.trans hr);omega)
  rw[e]
  cases hs:It.beq (Zcr c) x with
  | false=>rw[Zes (Zre hc hs)];rfl
  | true=>rw[ZlZ (Zrf hr hs),ec];rfl
theorem ZfV {c:EidV}(h:decide (Zcl c<0)=false):Za3 c=true:=by
 rw[<- ZiE]
 exact decide_eq_true (by have:=of_decide_eq_false h;omega)
theorem ZdT {c:EidV}(h:Za3 c=true):decide (Zcl c<0)=false:=decide_eq_false (by have:=of_decide_eq_true ((ZiE c).trans h);omega)
theorem ZiM [Known](x:It)(hw:wfI x)(hb:∀ y ∈ x.l,y.b.length<=1099511627000):AP Tryz.prog 90 [itD x] (ZiL x) []:=by
 obtain⟨k,n,b,l⟩:=x
 by_cases hk:k=4
 case neg=>rw[Zes (ZpM (.inl hk))];exact ZqW k n b l (.inl hk)
 by_cases hl:l.length=2
 case neg=>rw[Zes (ZpM (.inr hl))];exact ZqW k n b l (.inr hl)
 subst hk
 obtain⟨s,z,rfl⟩:∃ s z,l=[s,z]:=by
  match l,hl with
  | [s,z],_=>exact⟨s,z,rfl⟩
 have hbz:=hb z (by simp[It.l])
 clear hl hb
 have kZ:=Zdk ZdR ⟨by decide,by decide⟩
 have wZ:=ZdG ZdR (by decide)
 have sZ:=ZbJ (Zcr ZdR) (Zg1 (by decide)) _ hw
 obtain⟨kz,nz,bz,lz⟩:=z
 simp only[It.b]at hbz
 by_cases h3:kz=3
 ·subst h3
  have hP:=ZiI (Zf5++bz) (by simp[Zf5];omega)
  have hml:[(100:UInt8),116,110,58].length+bz.length<=maxLen:=by simp;unfold maxLen;omega
  cases hp:(Zbc (Zf5++bz)).2 with
  | false=>
   rw[ZdF hp]at hP
   rw[Zes (Zl1 hp)]
   exact Zrj s n b nz bz lz hml hP
  | true=>
   obtain⟨hr,_⟩:=ZcA hp
   unfold ZfR at hP
   rw[hp]at hP
   have hc:(Zbe (.mk 4 n b [s,.mk 3 nz bz lz])).2=true->(Zbc (Zf5++bz)).1=(Zbe (.mk 4 n b [s,.mk 3 nz bz lz])).1:=
    Zl0 (fun e=>by cases e) (fun p q e=>by cases e) (fun t e _=>by cases e;rfl)
   generalize (Zbc (Zf5++bz)).1=c at *
   rw[<- ZfU hc (show c=⟨c.i,c.n,c.s,c.h,c.d⟩ from rfl),ZdT hr]
   exact Zri s n b nz bz lz c.i c.n c.s c.h c.d (Zcl c) (Zcr c) _ hml hP (Zdk c (ZfS hr)) (ZdT hr) (ZdG c hr) (ZbJ (Zcr c) (Zg1 hr) _ hw)
 ·by_cases h4:kz=4/\lz.length=2
  ·obtain⟨rfl,hl2⟩:=h4
   obtain⟨⟨kp,np,bp,lp⟩,⟨kq,nq,bq,lq⟩,rfl⟩:∃ p q,lz=[p,q]:=by
    match lz,hl2 with
    | [p,q],_=>exact⟨p,q,rfl⟩
   have hc:(Zbe (.mk 4 n b [s,.mk 4 nz bz [.mk kp np bp lp,.mk kq nq bq lq]])).2=true->(⟨true,np,nq,[],[]⟩:EidV)=(Zbe (.mk 4 n b [s,.mk 4 nz bz [.mk kp np bp lp,.mk kq nq bq lq]])).1:=
    Zl0 (fun e=>by cases e) (fun p q e=>by cases e;rfl) (fun t e _=>by cases e)
   rw[<- ZfU hc rfl]
   exact Zrg s _ n b nz bz kp np bp lp kq nq bq lq rfl (Zcl ⟨true,np,nq,[],[]⟩) (Zcr ⟨true,np,nq,[],[]⟩) _ _ (Zdk ⟨true,np,nq,[],[]⟩ ⟨Nat.zero_le _,Nat.zero_le _⟩) rfl (fun h=>ZdG ⟨true,np,nq,[],[]⟩ (ZfV h)) (fun h=>ZbJ (Zcr ⟨true,np,nq,[],[]⟩) (Zg1 (ZfV h)) _ hw)
  ·have hc:(Zbe (.mk 4 n b [s,.mk kz nz bz lz])).2=true->ZdR=(Zbe (.mk 4 n b [s,.mk kz nz bz lz])).1:=
    Zl0 (fun e=>rfl) (fun p q e=>by cases e;exact absurd ⟨rfl,rfl⟩ h4) (fun t e _=>by cases e;exact absurd rfl h3)
   rw[<- ZfU hc rfl]
   exact Zrh s n b kz nz bz lz (by
    by_cases h5:kz=4
    ·exact .inl ⟨h5,fun e=>h4 ⟨h5,e⟩⟩
    ·exact .inr ⟨h5,h3⟩) (Zcr ZdR) _ kZ wZ sZ
theorem ZjT:∀ {l:List It} {y:It},y ∈ l->(Za9 y).length<=(Zba l).length
 | x::l,y,h=>by
  rw[Zba,List.length_append]
  rcases List.mem_cons.1 h with rfl|h
  ·omega
  ·have:=ZjT h;omega
theorem Zrk (y:It):y.b.length<=(Za9 y).length:=by
 obtain⟨k,n,b,l⟩:=y
 rw[Za9,List.length_append,List.length_append]
 show b.length<=_
 omega
theorem Zqy (k:Int)(n:Nat)(b:List UInt8)(l:List It):(Zba l).length<=(Za9 (.mk k n b l)).length:=by
 rw[Za9,List.length_append,List.length_append]
 omega
end Go.Proofs.YtakblclkflnnpaaGreatDoor
end

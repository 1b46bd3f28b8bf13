/- Package primary: a list's items looked at; the type that a list says. -/
import Derived.Test.YtakblclkflnnpaaDoorG11
import Derived.Test.YtakblclkflnnpaaDoorG14
import Derived.Test.YtakblclkflnnpaaDoorG10
import Derived.Test.YtakblclkflnnpaaDoorG07
import Derived.Laws.RangeAny
import Derived.LoopTactic
import Derived.Test.YtakblclkflnnpaaDoorG09
set_option linter.unusedVariables false
set_option linter.unusedSimpArgs false
section
open Go.RowKit Go.Pl Go.Av
namespace Go.Proofs.YtakblclkflnnpaaDoor
set_option maxHeartbeats 4000000
theorem ZiT [Known](l:List It)(hne:l ≠ [])(hl:l.length<=1000000):AT Tryd.prog 59 [.sl .ext (Zan l)] [] [] (.sl (.own 0) (Zan l)) [] [⟨l.length,4,26⟩]:=by
 have hU:=Zbs l
 have hlen:=Zal l
 rw[<- hlen]
 rw[<- hlen]at hl
 have hE:Zan l ≠ []:=fun h=>hne (by rw[h]at hlen;exact List.length_eq_zero_iff.1 hlen.symm)
 refine Zao Tryd.func59 rfl Tryd.ntmps59 rfl rfl ?_
 repeat'(first|(apply Zgx Zab;(iterate 5 exact Z);intro b hbn;(have hbn2:=hbn hE);subst hbn2;clear hbn)|(apply Zaj Zab;exact Z)|(apply Zah Zab;exact Z)|(apply Zay Zab;exact Z)|(apply Zae;exact Z;(first|with_reducible assumption|(solve|simp only[bn])))|(apply ZfQ Zab;(iterate 12 exact Z))|(apply ZaI Zab;(iterate 6 exact Z);(first|with_reducible assumption|exact Z|rotate_left);exact Z;exact Z;(first|exact Zag rfl|with_reducible assumption|rotate_left);(first|exact Zag rfl|with_reducible assumption|rotate_left);(first|exact Qb|rotate_left);(first|exact Qb|rotate_left);(first|exact Qb|rotate_left);exact Z;exact Z))
 all_goals first|(apply ZdS [] [0];(apply Zad Zab;exact Z);(iterate 7 exact Z))|skip
 all_goals first|rfl|(simp at hl ⊢;(try unfold maxLen);omega)|(simp at hl ⊢;done)
theorem Zj3 [Known][KnownU8](x:It)(hw:wfI x):AP Tryd.prog 27 [itD x] (.bool (!Zaw x)) []:=by
 have hR:=ZbJ x hw
 obtain⟨k,n,b,l⟩:=x
 refine AP.ofA ?_
 refine Zao Tryd.func27 rfl Tryd.ntmps27 rfl rfl ?_
 repeat'(first|(apply Zaa (hR);kernel_rfl;(iterate 4 exact Z))|(apply Zaj Zab;exact Z)|(apply Zah Zab;exact Z))
 all_goals(apply Zaz [];(apply Zad Zab;exact Z);(iterate 4 exact Z))
 all_goals rfl
def fiI:List It->Nat->Int
 | [],_ => -1
 | x::l,i=>match Zaw x with|true=>fiI l (i+1)|false=>(i:Int)
theorem ZkE:∀(l:List It) (i:Nat),decide (fiI l i ≥ 0) = !(l.all Zaw)
 | [],_=>rfl
 | x::l,i=>by
  rw[fiI,List.all_cons]
  cases Zaw x with
  | true=>simpa using ZkE l (i+1)
  | false=>simp
theorem Zlg [Known][KnownU8](l:List It)(hws:wfs l)(hl:l.length<=1000000):AP Tryd.prog 56 [.sl .ext (Zan l),.fn 27 []] (.int .i64 (fiI l 0)) []:=by
 have hlen:=Zal l
 have hU:=Zbs l
 generalize hfin:fiI l 0=fin
 refine AP.ofA ?_
 refine Zao Tryd.func56 rfl Tryd.ntmps56 rfl rfl ?_
 repeat'(first|(apply Zaj Zab;exact Z)|(apply Zah Zab;exact Z)|(apply Zak Zab;(iterate 4 exact Z)))
 refine ZaC (fun f tm bx fr=>∃(i:Nat),f+i=l.length/\fiI (l.drop i) i=fin/\tm=[(0,.sl .ext (Zan l)),(1,.fn 27 []),(4,.int .i64 0),(7,.int .i64 ((Zan l).length:Int)),(8,.int .i64 (i:Int))]/\bx=[]/\fr=[]) (l.length+1) (Lands.mk' (m:=l.length) (Nat.lt_succ_self _) ⟨0,by omega,hfin,rfl,rfl,rfl⟩ ?_ rfl rfl rfl rfl rfl rfl) ?_
 ·exact .cons rfl (.cons rfl (.cons rfl (.cons rfl (.cons rfl .nil))))
 rintro f tm bx fr ⟨i,hf,hq,rfl,rfl,rfl⟩
 rcases Nat.lt_or_ge i l.length with hlt|hge
 ·have hdl:decide ((i:Int)<((Zan l).length:Int))=true:=decide_eq_true (by omega)
  obtain⟨⟨k1,n1,b1,l1⟩,hy⟩:∃ y,l[i]?=some y:=⟨_,List.getElem?_eq_getElem hlt⟩
  have hv:(Zan l)[((i:Nat):Int).toNat]?=some (.agg [.int .i64 k1,.int .u64 (n1:Int),.sl (b1.map E.byte),.sl (Zan l1)]):=by
   rw[Int.toNat_natCast,Zax,List.getElem?_map,hy];rfl
  have hc:=Zj3 _ (ZaM hws _ (List.mem_of_getElem? hy))
  have hdr:l.drop i=It.mk k1 n1 b1 l1::l.drop (i+1):=by
   rw[List.drop_eq_getElem_cons hlt];congr 1
   exact(List.getElem?_eq_some_iff.1 hy).2
  rw[hdr,fiI]at hq
  have ei:IntKind.i64.wrap ((i:Int)+1)=((i+1:Nat):Int):=by rw[IntWalk.i64_in _ (by omega)];omega
  cases hb:Zaw (.mk k1 n1 b1 l1) with
  | true=>
   rw[hb]at hq hc
   replace hc:AP Tryd.prog _ _ (.bool false) []:=hc
   repeat'(first|rw[ei]|(apply Zdo (hc);exact Z;kernel_rfl;(iterate 3 exact Z))|(apply Zaj Zab;exact Z)|(apply Zah Zab;exact Z)|(apply Zay Zab;exact Z)|(apply Zac;exact Z;exact Qt)|(apply Zae;exact Z;exact Qt)|(apply Zat Zab;(iterate 6 exact Z);(first|exact Qt|rotate_left);(first|with_reducible assumption|decide +kernel|exact Z);(first|exact Zag rfl|with_reducible assumption|decide +kernel|rotate_left)))
   refine Lands.mk' (m:=f-1) (by omega) ⟨i+1,by omega,hq,rfl,rfl,rfl⟩ ?_ rfl rfl rfl rfl rfl rfl
   exact .cons rfl (.cons rfl (.cons rfl (.cons rfl (.cons rfl .nil))))
  | false=>
   rw[hb]at hq hc
   replace hc:AP Tryd.prog _ _ (.bool true) []:=hc
   have hq:(i:Int)=fin:=hq
   subst hq
   repeat'(first|(apply Zdo (hc);exact Z;kernel_rfl;(iterate 3 exact Z))|(apply Zaj Zab;exact Z)|(apply Zah Zab;exact Z)|(apply Zay Zab;exact Z)|(apply Zac;exact Z;exact Qt)|refine ZbE ?_|(apply Zat Zab;(iterate 6 exact Z);(first|exact Qt|rotate_left);(first|with_reducible assumption|decide +kernel|exact Z);(first|exact Zag rfl|with_reducible assumption|decide +kernel|rotate_left)))
   all_goals(apply Zaz [];(apply Zad Zab;exact Z);(iterate 4 exact Z))
   all_goals rfl
 ·have hdl:decide ((i:Int)<((Zan l).length:Int))=false:=decide_eq_false (by omega)
  rw[List.drop_eq_nil_of_le hge]at hq
  have hq:(-1:Int)=fin:=hq
  subst hq
  repeat'(first|(apply Zah Zab;exact Z)|(apply Zae;exact Z;exact Qt))
  all_goals(apply Zaz [];(apply Zad Zab;exact Z);(iterate 4 exact Z))
  all_goals rfl
theorem Zhf [Known][KnownU8](l:List It)(hws:wfs l)(hl:l.length<=1000000):AP Tryd.prog 30 [.sl .ext (Zan l),.fn 27 []] (.bool (!(l.all Zaw))) []:=by
 have hI:=Zlg l hws hl
 rw[<- ZkE l 0]
 refine AP.ofA ?_
 refine Zao Tryd.func30 rfl Tryd.ntmps30 rfl rfl ?_
 repeat'(first|(apply Zaa (hI);kernel_rfl;(iterate 4 exact Z))|(apply Zaj Zab;exact Z)|(apply Zah Zab;exact Z))
 all_goals(apply Zaz [];(apply Zad Zab;exact Z);(iterate 4 exact Z))
 all_goals rfl
def ZaU (l:List It)(a:Int):Int:=if a<0 then -1 else match l[a.toNat]? with
 | none => -1
 | some (.mk k n b r)=>match decide ((n:Int)>2) with
  | true => -1
  | false=>match It.beq (.mk k n b r) (.mk 0 n [] []) with
   | true=>(n:Int)
   | false => -1
theorem Zem [Known](l:List It)(hws:wfs l)(a:Int):AP Tryd.prog 29 [.sl .ext (Zan l),.int .i64 a] (.int .i64 (ZaU l a)) []:=by
 have hlen:=Zal l
 have hU:=Zbs l
 unfold ZaU
 rcases Int.lt_or_le a 0 with h0|h0
 ·have t1:decide (a<0)=true:=decide_eq_true h0
  rw[if_pos h0]
  refine AP.ofA ?_
  refine Zao Tryd.func29 rfl Tryd.ntmps29 rfl rfl ?_
  repeat'(first|(apply Zaj Zab;exact Z)|(apply Zah Zab;exact Z)|(apply Zay Zab;exact Z)|(apply Zaq;(iterate 3 exact Z);exact Qt)|(apply Zam;exact Z;exact Qt;exact Z;exact Z)|(apply Zac;exact Z;exact Qt)|(apply Zap 27 ZaY;decide +kernel;kernel_rfl;kernel_rfl;kernel_rfl;exact Z;exact Z)|(apply Zas;(iterate 4 exact Z))|exact AE.nil _ _ _ _|(apply Zau;exact Z)|(apply ZaA;exact Z;exact Z;decide +kernel;exact Z)|(apply ZaB;exact Z)|exact AO.nil _ _ _|(apply Zar;(decide +kernel))|exact AOs.nil|exact ZaN rfl rfl)
  all_goals(apply Zaz [];(apply Zad Zab;exact Z);(iterate 4 exact Z))
  all_goals rfl
 have t1:decide (a<0)=false:=decide_eq_false (by omega)
 rw[if_neg (by omega)]
 rcases Int.lt_or_le a l.length with h1|h1
 case inr=>
  have t2:decide (a ≥ ((Zan l).length:Int))=true:=decide_eq_true (by omega)
  rw[List.getElem?_eq_none (by omega)]
  refine AP.ofA ?_
  refine Zao Tryd.func29 rfl Tryd.ntmps29 rfl rfl ?_
  repeat'(first|(apply Zaj Zab;exact Z)|(apply Zah Zab;exact Z)|(apply Zay Zab;exact Z)|(apply Zaf;(iterate 3 exact Z);exact Qt)|(apply Zaq;(iterate 3 exact Z);exact Qt)|(apply Zam;exact Z;exact Qt;exact Z;exact Z)|(apply Zai;exact Z;exact Qt;exact Z;exact Z)|(apply Zac;exact Z;exact Qt)|(apply Zak Zab;(iterate 4 exact Z))|(apply Zap 27 ZaY;decide +kernel;kernel_rfl;kernel_rfl;kernel_rfl;exact Z;exact Z)|(apply Zas;(iterate 4 exact Z))|exact AE.nil _ _ _ _|(apply Zau;exact Z)|(apply ZaA;exact Z;exact Z;decide +kernel;exact Z)|(apply ZaB;exact Z)|exact AO.nil _ _ _|(apply Zar;(decide +kernel))|exact AOs.nil|exact ZaN rfl rfl)
  all_goals(apply Zaz [];(apply Zad Zab;exact Z);(iterate 4 exact Z))
  all_goals rfl
 have t2:decide (a ≥ ((Zan l).length:Int))=false:=decide_eq_false (by omega)
 obtain⟨⟨k,n,b,l1⟩,hy⟩:∃ y,l[a.toNat]?=some y:=⟨_,List.getElem?_eq_getElem (by omega)⟩
 have hv:(Zan l)[a.toNat]?=some (.agg [.int .i64 k,.int .u64 (n:Int),.sl (b.map E.byte),.sl (Zan l1)]):=by
  rw[Zax,List.getElem?_map,hy];rfl
 have hw:=ZaM hws _ (List.mem_of_getElem? hy)
 have hS:=Zel (.mk k n b l1) hw (.mk 0 n [] []) (by obtain⟨h1,_⟩:=hw;exact⟨h1,by simp,by simp,trivial⟩)
 have hN:=ZbI n
 rw[hy]
 dsimp only
 cases t3:decide ((n:Int)>2) with
 | true=>
  refine AP.ofA ?_
  refine Zao Tryd.func29 rfl Tryd.ntmps29 rfl rfl ?_
  repeat'(first|(apply Zaj Zab;exact Z)|(apply Zah Zab;exact Z)|(apply Zay Zab;exact Z)|(apply Zaf;(iterate 3 exact Z);exact Qt)|(apply Zaq;(iterate 3 exact Z);exact Qt)|(apply Zam;exact Z;exact Qt;exact Z;exact Z)|(apply Zai;exact Z;exact Qt;exact Z;exact Z)|(apply Zac;exact Z;exact Qt)|(apply Zak Zab;(iterate 4 exact Z))|(apply Zap 27 ZaY;decide +kernel;kernel_rfl;kernel_rfl;kernel_rfl;exact Z;exact Z)|(apply Zas;(iterate 4 exact Z))|exact AE.nil _ _ _ _|(apply Zau;exact Z)|(apply ZaA;exact Z;exact Z;decide +kernel;exact Z)|(apply ZaB;exact Z)|exact AO.nil _ _ _|(apply Zar;(decide +kernel))|exact AOs.nil|exact ZaN rfl rfl|(apply Zat Zab;(iterate 6 exact Z);(first|exact Qt|rotate_left);(first|with_reducible assumption|decide +kernel|exact Z);(first|exact Zag rfl|with_reducible assumption|decide +kernel|rotate_left)))
  all_goals(apply Zaz [];(apply Zad Zab;exact Z);(iterate 4 exact Z))
  all_goals rfl
 | false=>
  have en:IntKind.i64.wrap (n:Int)=(n:Int):=IntWalk.i64_in _ (by simp at t3;omega)
  cases t4:It.beq (.mk k n b l1) (.mk 0 n [] []) with
  | true=>
   rw[t4]at hS
   refine AP.ofA ?_
   refine Zao Tryd.func29 rfl Tryd.ntmps29 rfl rfl ?_
   repeat'(first|(apply Zaa (hN);kernel_rfl;(iterate 4 exact Z))|(apply Zaa (hS);kernel_rfl;(iterate 4 exact Z))|rw[en]|(apply Zaj Zab;exact Z)|(apply Zah Zab;exact Z)|(apply Zay Zab;exact Z)|(apply Zaf;(iterate 3 exact Z);exact Qt)|(apply Zai;exact Z;exact Qt;exact Z;exact Z)|(apply Zae;exact Z;exact Qt)|(apply Zak Zab;(iterate 4 exact Z))|(apply Zap 27 ZaY;decide +kernel;kernel_rfl;kernel_rfl;kernel_rfl;exact Z;exact Z)|(apply Zas;(iterate 4 exact Z))|exact AE.nil _ _ _ _|(apply Zau;exact Z)|(apply ZaA;exact Z;exact Z;decide +kernel;exact Z)|(apply ZaB;exact Z)|exact AO.nil _ _ _|(apply Zar;(decide +kernel))|exact AOs.nil|exact ZaN rfl rfl|(apply Zat Zab;(iterate 6 exact Z);(first|exact Qt|rotate_left);(first|with_reducible assumption|decide +kernel|exact Z);(first|exact Zag rfl|with_reducible assumption|decide +kernel|rotate_left)))
   all_goals(apply Zaz [];(apply Zad Zab;exact Z);(iterate 4 exact Z))
   all_goals rfl
  | false=>
   rw[t4]at hS
   refine AP.ofA ?_
   refine Zao Tryd.func29 rfl Tryd.ntmps29 rfl rfl ?_
   repeat'(first|(apply Zaa (hN);kernel_rfl;(iterate 4 exact Z))|(apply Zaa (hS);kernel_rfl;(iterate 4 exact Z))|(apply Zaj Zab;exact Z)|(apply Zah Zab;exact Z)|(apply Zay Zab;exact Z)|(apply Zaf;(iterate 3 exact Z);exact Qt)|(apply Zai;exact Z;exact Qt;exact Z;exact Z)|(apply Zac;exact Z;exact Qt)|(apply Zak Zab;(iterate 4 exact Z))|(apply Zap 27 ZaY;decide +kernel;kernel_rfl;kernel_rfl;kernel_rfl;exact Z;exact Z)|(apply Zas;(iterate 4 exact Z))|exact AE.nil _ _ _ _|(apply Zau;exact Z)|(apply ZaA;exact Z;exact Z;decide +kernel;exact Z)|(apply ZaB;exact Z)|exact AO.nil _ _ _|(apply Zar;(decide +kernel))|exact AOs.nil|exact ZaN rfl rfl|(apply Zat Zab;(iterate 6 exact Z);(first|exact Qt|rotate_left);(first|with_reducible assumption|decide +kernel|exact Z);(first|exact Zag rfl|with_reducible assumption|decide +kernel|rotate_left)))
   all_goals(apply Zaz [];(apply Zad Zab;exact Z);(iterate 4 exact Z))
   all_goals rfl
def okB (m:Nat)(c:UInt8):Bool:=(97<=c.toNat&&c.toNat<=122)||(48<=c.toNat&&c.toNat<=57)||c.toNat==45||c.toNat==m
theorem Zfh {m:Nat}{c:UInt8}:okB m c=true ↔ (97<=(c.toNat:Int)/\(c.toNat:Int)<=122)\/(48<=(c.toNat:Int)/\(c.toNat:Int)<=57)\/(c.toNat:Int)=45\/(c.toNat:Int)=(m:Int):=by
 simp only[okB,Bool.or_eq_true,Bool.and_eq_true,decide_eq_true_eq,beq_iff_eq]
 omega
theorem ZhS (s:ByteArray)(m:Nat)(hm:m<128)(w:World)(B:Bool)(hB:s.data.toList.all (okB m)=B) :
  Calls Tryd.prog 98 #[.string s,.int .i32 (m:Int)] w fun e w'=>e=.returned (.bool B)/\Below w.heap.size w w':=by
 have hT:(∀ j,j<s.size->∀ c,s.data.toList[j]?=some c->okB m c=true)->B=true:=fun h=>by
  rw[<- hB,List.all_eq_true]
  intro x hx
  obtain⟨j,hj⟩:=List.getElem?_of_mem hx
  have hlt:=(List.getElem?_eq_some_iff.1 hj).1
  exact h j (by simpa using hlt) x hj
 have hF:∀(j:Nat) (c:UInt8),s.data.toList[j]?=some c->¬ okB m c=true->B=false:=fun j c hj hc=>by
  rw[<- hB,List.all_eq_false]
  exact⟨c,List.mem_of_getElem? hj,hc⟩
 clear hB
 go_enter Tryd.func98,Tryd.ntmps98
 go_wp2
 go_loopw [] (fun w'=>∃ pos,w'=w.iter s pos/\pos<=s.size/\Hid (∀ j,j<pos->∀ c,s.data.toList[j]?=some c->okB m c=true)) (fun w'=>s.size-w'.iterPos w.heap.size)
 case atStart=>exact⟨0,rfl,Nat.zero_le _,fun j hj=>by omega⟩
 case round=>
  obtain⟨pos,rfl,hps,hall⟩:=hrel
  have hb:∀ p,Below w.heap.size w (w.iter s p):=fun p=>(Below.refl _ _).alloc (Nat.le_refl _) _
  by_cases hp:pos<s.size
  ·have hget:s.data.toList[pos]?=some (s[pos]'hp):=by
    have hlt:pos<s.data.toList.length:=by simpa using hp
    rw[List.getElem?_eq_getElem hlt];rfl
   by_cases ha:(s[pos]'hp).toNat<128
   ·obtain⟨c,hc⟩:∃ c,c=s[pos]'hp:=⟨_,rfl⟩
    have hnx:∀ ty,(Instr.next (.pointer (some ⟨w.heap.size,0,none⟩)) true ty).run Tryd.prog (w.iter s pos)=.ok (.tuple #[.bool true,.int .i64 pos,.int .i32 (c.toNat:Int)]) (w.iter s (pos+1)):=fun ty=>by
     rw[hc];exact run_next_ascii w s pos ty hp ha
    rw[<- hc]at hget ha
    clear hc
    have hbad:=hid (hF pos c hget)
    have hstep:Hid (okB m c=true->∀ j,j<pos+1->∀ c,s.data.toList[j]?=some c->okB m c=true):=fun hc j hj c' hj'=>by
     rcases Nat.lt_or_ge j pos with h|h
     ·exact hall j h c' hj'
     ·have:j=pos:=by omega
      subst this
      rw[hget]at hj'
      injection hj' with hj'
      subst hj'
      exact hc
    clear hT hF hget
    go_wp2
    all_goals first
     | (go_ret
        have hBf:=hbad (fun h=>by rw[Zfh]at h;clear hbad hstep hnx;(try simp only[bne_iff_ne,ne_eq,bne_eq_false_iff_eq]at *);omega)
        subst hBf
        exact⟨rfl,hb _⟩)
     | (refine⟨⟨pos+1,rfl,by omega,hstep ?_⟩,?_⟩
        ·rw[Zfh]
         clear hbad hstep hnx
         try simp only[bne_iff_ne,ne_eq,bne_eq_false_iff_eq]at *
         omega
        ·simp;omega)
   ·obtain⟨hd1,hd2⟩:=decode_high s pos hp (by omega)
    have hle:=decode_le s pos
    have hnx:∀ ty,(Instr.next (.pointer (some ⟨w.heap.size,0,none⟩)) true ty).run Tryd.prog (w.iter s pos)=_:=fun ty=>run_next_any w s pos ty hp
    have hBf:=hF pos _ hget (fun h=>by rw[Zfh]at h;omega)
    clear hT hF hget
    subst hBf
    generalize Utf8.decode s pos=dd at hd1 hd2 hle hnx
    have n1:¬ ((dd.1:Int)<97):=by omega
    have n2:((dd.1:Int)>122):=by omega
    have n3:¬ ((dd.1:Int)<48):=by omega
    have n4:((dd.1:Int)>57):=by omega
    have n5:¬ ((dd.1:Int)=45):=by omega
    have n6:¬ ((dd.1:Int)=(m:Int)):=by omega
    go_wp2
    all_goals first
     | (go_ret;exact⟨rfl,hb _⟩)
     | (exfalso;clear hnx hb hall;(try simp only[bne_iff_ne,ne_eq,bne_eq_false_iff_eq]at *);omega)
  ·have hnx:∀ ty,(Instr.next (.pointer (some ⟨w.heap.size,0,none⟩)) true ty).run Tryd.prog (w.iter s pos)=_:=fun ty=>run_next_end w s pos ty hp
   have hBt:=hT (fun j hj=>hall j (by omega))
   subst hBt
   go_wp2
   go_ret
   exact⟨rfl,hb _⟩
theorem Zhg [Known](s:List UInt8)(m:Nat)(hm:m<128):AP Tryd.prog 98 [.str s,.int .i32 (m:Int)] (.bool (s.all (okB m))) []:=by
 refine⟨fun g w vs hmem hl hv=>?_⟩
 obtain⟨v0,v1,rfl⟩:∃ v0 v1,vs=[v0,v1]:=by
  match vs,hl with
  | [v0,v1],_=>exact⟨v0,v1,rfl⟩
 have h0:=(hv 0 _ _ rfl rfl).str_inv.1
 have h1:=(hv 1 _ _ rfl rfl).int_inv
 subst h0 h1
 exact(ZhS ⟨s.toArray⟩ m hm w _ rfl).mono fun e w' ⟨he,hb⟩=>ZgZ hmem hb he (.bool _)
structure EidV where
 i:Bool
 n:Nat
 s:Nat
 h:List UInt8
 d:List UInt8
 deriving DecidableEq
abbrev eC (x:EidV):List D:=[.bool x.i,.int .u64 (x.n:Int),.int .u64 (x.s:Int),.str x.h,.str x.d]
def ZcM:EidV:=⟨false,0,0,[],[]⟩
def isZ (x:EidV):Bool:=x.i==false&&((x.n:Int)==0&&((x.s:Int)==0&&(x.h==[]&&(x.d==[]&&true))))
def Zbh (x:EidV):Bool:=
 if isZ x then true
 else if x.i then(x.i==true&&((x.n:Int)==(x.n:Int)&&((x.s:Int)==(x.s:Int)&&(x.h==[]&&(x.d==[]&&true)))))&&decide ((x.n:Int) ≥ 1)&&decide ((x.n:Int)<=4294967295)&&decide ((x.s:Int)<=4294967295)
 else(x.i==false&&((x.n:Int)==0&&((x.s:Int)==0&&(x.h==x.h&&(x.d==x.d&&true)))))&&decide ((x.h.length:Int) ≥ 1)&&decide ((x.h.length:Int)<=16)&&decide ((x.d.length:Int)<=24)&&x.h.all (okB 45)&&x.d.all (okB 47)
theorem Zj4 {x:EidV}(h:isZ x=true):Zbh x=true:=by unfold Zbh;rw[if_pos h]
theorem Zhh {x:EidV}(h:isZ x=false)(hi:x.i=true):Zbh x=((x.i==true&&((x.n:Int)==(x.n:Int)&&((x.s:Int)==(x.s:Int)&&(x.h==[]&&(x.d==[]&&true)))))&&decide ((x.n:Int) ≥ 1)&&decide ((x.n:Int)<=4294967295)&&decide ((x.s:Int)<=4294967295)):=by
 unfold Zbh;rw[if_neg (by rw[h];decide),if_pos hi]
theorem Zhi {x:EidV}(h:isZ x=false)(hi:x.i=false):Zbh x=((x.i==false&&((x.n:Int)==0&&((x.s:Int)==0&&(x.h==x.h&&(x.d==x.d&&true)))))&&decide ((x.h.length:Int) ≥ 1)&&decide ((x.h.length:Int)<=16)&&decide ((x.d.length:Int)<=24)&&x.h.all (okB 45)&&x.d.all (okB 47)):=by
 unfold Zbh;rw[if_neg (by rw[h];decide),if_neg (by rw[hi];decide)]
theorem Zcu [Known](x:EidV):AP Tryd.prog 79 [.agg (eC x)] (.bool (Zbh x)) []:=by
 refine AP.ofA ?_
 refine Zao Tryd.func79 rfl Tryd.ntmps79 rfl rfl ?_
 cases hz:isZ x with
 | true=>
  rw[Zj4 hz]
  unfold isZ at hz
  repeat'(first|(apply Zaj Zab;exact Z)|(apply Zah Zab;exact Z)|(apply Zay Zab;exact Z)|(apply Zac;exact Z;(first|with_reducible assumption|(solve|simp only[bn])))|(apply ZdH Zab;(iterate 4 exact Z);kernel_rfl;kernel_rfl;(iterate 3 exact Z)))
  (apply Zaz [];(apply Zad Zab;exact Z);(iterate 4 exact Z))
  all_goals rfl
 | false=>
  cases hi:x.i with
  | true=>
   rw[Zhh hz hi]
   unfold isZ at hz
   repeat'(first|(apply Zaj Zab;exact Z)|(apply Zah Zab;exact Z)|(apply Zay Zab;exact Z)|(apply Zaf;(iterate 3 exact Z);(first|with_reducible assumption|(solve|simp only[bn])))|(apply Zav;(iterate 3 exact Z);(first|with_reducible assumption|(solve|simp only[bn])))|(apply ZcQ;exact Z;exact Z;all_goals intro hb)|(apply Zam;exact Z;(first|with_reducible assumption|(solve|simp only[bn]));exact Z;exact Z)|(apply Zai;exact Z;(first|with_reducible assumption|(solve|simp only[bn]));exact Z;exact Z)|(apply Zac;exact Z;(first|with_reducible assumption|(solve|simp only[bn])))|(apply Zae;exact Z;(first|with_reducible assumption|(solve|simp only[bn])))|(apply ZdH Zab;(iterate 4 exact Z);kernel_rfl;kernel_rfl;(iterate 3 exact Z)))
   all_goals(apply Zaz [];(apply Zad Zab;exact Z);(iterate 4 exact Z))
   all_goals first|rfl|(clear hi hz;simp only[*];done)|(clear hi hz;simp only[*];simp only[Bool.and_true,Bool.true_and,Bool.and_false,Bool.false_and];done)
  | false=>
   rw[Zhi hz hi]
   unfold isZ at hz
   repeat'(first|(apply Zaa (Zhg x.h 45 (by decide));kernel_rfl;(iterate 4 exact Z))|(apply Zaa (Zhg x.d 47 (by decide));kernel_rfl;(iterate 4 exact Z))|(apply Zaj Zab;exact Z)|(apply Zah Zab;exact Z)|(apply Zay Zab;exact Z)|(apply Zaf;(iterate 3 exact Z);(first|with_reducible assumption|(solve|simp only[bn])))|(apply Zav;(iterate 3 exact Z);(first|with_reducible assumption|(solve|simp only[bn])))|(apply ZcQ;exact Z;exact Z;all_goals intro hb)|(apply Zam;exact Z;(first|with_reducible assumption|(solve|simp only[bn]));exact Z;exact Z)|(apply Zai;exact Z;(first|with_reducible assumption|(solve|simp only[bn]));exact Z;exact Z)|(apply Zae;exact Z;(first|with_reducible assumption|(solve|simp only[bn])))|(apply Zda Zab;(iterate 4 exact Z))|(apply ZdH Zab;(iterate 4 exact Z);kernel_rfl;kernel_rfl;(iterate 3 exact Z)))
   all_goals(apply Zaz [];(apply Zad Zab;exact Z);(iterate 4 exact Z))
   all_goals first|rfl|(clear hi hz;simp only[*];done)|(clear hi hz;simp only[*];simp only[Bool.and_true,Bool.true_and,Bool.and_false,Bool.false_and];done)
abbrev Zmx (s:Int):Int:=s.fdiv (2 ^ (min (Int.toNat 1) IntKind.u32.bits))
def Zcv (s p:Int):Int:=match(bits .and .u32 s 1==1) with
 | true=>bits .xor .u32 (Zmx s) p
 | false=>Zmx s
theorem Zj5 [Known](s p:Int):AP Tryd.prog 121 [.int .u32 s,.int .u32 p] (.int .u32 (Zcv s p)) []:=by
 unfold Zcv
 cases t:(bits .and .u32 s 1==1)
 all_goals
  refine AP.ofA ?_
  refine Zao Tryd.func121 rfl Tryd.ntmps121 rfl rfl ?_
  repeat'(first|(apply Zaj Zab;exact Z)|(apply Zah Zab;exact Z)|(apply Zac;exact Z;exact Qt)|(apply Zae;exact Z;exact Qt)|(apply Zbi;exact Z;exact Z;(first|exact Qt|rotate_left);exact Z))
  all_goals(apply Zaz [];(apply Zad Zab;exact Z);(iterate 4 exact Z))
  all_goals rfl
def ZiU (s:Int)(c:UInt8)(p:Int):Int:=
 Zcv (Zcv (Zcv (Zcv (Zcv (Zcv (Zcv (Zcv (bits .xor .u32 s (IntKind.u32.wrap (c.toNat:Int))) p) p) p) p) p) p) p) p
theorem ZiV [Known](s p:Int)(c:UInt8):AP Tryd.prog 103 [.int .u32 s,.int .u8 (c.toNat:Int),.int .u32 p] (.int .u32 (ZiU s c p)) []:=by
 refine AP.ofA ?_
 refine Zao Tryd.func103 rfl Tryd.ntmps103 rfl rfl ?_
 repeat'(first|(apply Zaa (Zj5 _ _);kernel_rfl;(iterate 4 exact Z))|refine Za9 20 ?_|refine Zbk ?_|(apply Zaj Zab;exact Z)|(apply Zah Zab;exact Z)|(apply Zac;exact Z;exact Qt)|(apply Zae;exact Z;exact Qt))
 all_goals(apply Zaz [];(apply Zad Zab;exact Z);(iterate 4 exact Z))
 all_goals rfl
def Zj6 (s p:Int)(b:List UInt8):Int:=b.foldl (fun s c=>ZiU s c p) s
theorem ZkF [Known](s p:Int)(b:List UInt8)(hb:b.length<=1000000000):AP Tryd.prog 87 [.int .u32 s,byE b,.int .u32 p] (.int .u32 (Zj6 s p b)) []:=by
 have hl:(b.map E.byte).length=b.length:=List.length_map ..
 have hU:=Zbg b
 generalize hfin:Zj6 s p b=fin
 refine AP.ofA ?_
 refine Zao Tryd.func87 rfl Tryd.ntmps87 rfl rfl ?_
 repeat'(first|(apply Zaj Zab;exact Z)|(apply Zah Zab;exact Z)|(apply Zak Zab;(iterate 4 exact Z)))
 refine ZaC (fun k tm bx fr=>∃(i:Nat) (q:Int) (o:D),k+i=b.length/\Zj6 q p (b.drop i)=fin/\tm=[(0,.int .u32 q),(1,byE b),(2,.int .u32 p),(6,.int .u32 0),(9,byE b),(10,.int .i64 (b.length:Int)),(11,.int .i64 (i:Int))]/\bx=[]/\fr=[]) (b.length+1) (Lands.mk' (m:=b.length) (Nat.lt_succ_self _) ⟨0,s,.tup [],by omega,hfin,rfl,rfl,rfl⟩ ?_ rfl rfl rfl rfl rfl rfl) ?_
 ·exact .cons rfl (.cons rfl (.cons rfl (.cons rfl (.cons rfl (.cons (by rw[<- hl];rfl) (.cons rfl .nil))))))
 rintro k tm bx fr ⟨i,q,o,hk,hq,rfl,rfl,rfl⟩
 rcases Nat.lt_or_ge i b.length with hlt|hge
 ·have hd:decide ((i:Int)<(b.length:Int))=true:=decide_eq_true (by omega)
  obtain⟨c,hc⟩:∃ c,b[i]?=some c:=⟨_,List.getElem?_eq_getElem hlt⟩
  have hv:(b.map E.byte)[((i:Nat):Int).toNat]?=some (E.byte c):=by
   rw[Int.toNat_natCast,List.getElem?_map,hc];rfl
  have hdr:b.drop i=c::b.drop (i+1):=by
   rw[List.drop_eq_getElem_cons hlt];congr 1
   exact(List.getElem?_eq_some_iff.1 hc).2
  rw[hdr]at hq
  have hq2:Zj6 (ZiU q c p) p (b.drop (i+1))=fin:=hq
  have ei:IntKind.i64.wrap ((i:Int)+1)=((i+1:Nat):Int):=by rw[IntWalk.i64_in _ (by omega)];omega
  repeat'(first|(apply Zaa (ZiV _ _ _);kernel_rfl;(iterate 4 exact Z))|rw[ei]|(apply Zaj Zab;exact Z)|(apply Zah Zab;exact Z)|(apply Zac;exact Z;exact Qt)|(apply Zat Zab;(iterate 6 exact Z);(first|exact Qt|rotate_left);(first|with_reducible assumption|decide +kernel|exact Z);(first|exact Zag rfl|with_reducible assumption|decide +kernel|rotate_left)))
  refine Lands.mk' (m:=k-1) (by omega) ⟨i+1,_,.tup [],by omega,hq2,rfl,rfl,rfl⟩ ?_ rfl rfl rfl rfl rfl rfl
  exact .cons rfl (.cons rfl (.cons rfl (.cons rfl (.cons rfl (.cons rfl (.cons rfl .nil))))))
 ·have hd:decide ((i:Int)<(b.length:Int))=false:=decide_eq_false (by omega)
  rw[List.drop_eq_nil_of_le hge]at hq
  have hq:q=fin:=hq
  subst hq
  repeat'(first|(apply Zah Zab;exact Z)|(apply Zae;exact Z;exact Qt))
  all_goals(apply Zaz [];(apply Zad Zab;exact Z);(iterate 4 exact Z))
  all_goals rfl
def Zdt (b:List UInt8):Int:=bits .xor .u16 (if IntKind.u16.signed then -1 else IntKind.u16.max) (IntKind.u16.wrap (Zj6 65535 33800 b))
def ZdA (b:List UInt8):Int:=bits .xor .u32 (if IntKind.u32.signed then -1 else IntKind.u32.max) (Zj6 4294967295 2197175160 b)
theorem Zj7 [Known](b:List UInt8)(hb:b.length<=1000000000):AP Tryd.prog 60 [byE b] (.int .u16 (Zdt b)) []:=by
 have hR:=ZkF 65535 33800 b hb
 refine AP.ofA ?_
 refine Zao Tryd.func60 rfl Tryd.ntmps60 rfl rfl ?_
 repeat'(first|(apply Zaa (hR);kernel_rfl;(iterate 4 exact Z))|(apply ZkC;exact Z;exact Z)|(apply Zaj Zab;exact Z)|(apply Zah Zab;exact Z))
 all_goals(apply Zaz [];(apply Zad Zab;exact Z);(iterate 4 exact Z))
 all_goals rfl
theorem Zlh [Known](b:List UInt8)(hb:b.length<=1000000000):AP Tryd.prog 61 [byE b] (.int .u32 (ZdA b)) []:=by
 have hR:=ZkF 4294967295 2197175160 b hb
 refine AP.ofA ?_
 refine Zao Tryd.func61 rfl Tryd.ntmps61 rfl rfl ?_
 repeat'(first|(apply Zaa (hR);kernel_rfl;(iterate 4 exact Z))|(apply ZkC;exact Z;exact Z)|(apply Zaj Zab;exact Z)|(apply Zah Zab;exact Z))
 all_goals(apply Zaz [];(apply Zad Zab;exact Z);(iterate 4 exact Z))
 all_goals rfl
theorem ZfZ [Known](n:Nat):AP Tryd.prog 120 [.int .u64 (n:Int)] (.int .i64 (ZaH n)) []:=by
 refine Zao Tryd.func120 rfl Tryd.ntmps120 rfl rfl ?_
 repeat'(first|(apply Zah Zab;exact Z)|(apply Zay Zab;exact Z)|(apply Zcf;exact Z;all_goals intro hb))
 all_goals refine ZlS (.cons _ _ _ _ (.tmp _ _ rfl) .nil) (Za2 _) rfl ?_ rfl
 all_goals simp only[decide_eq_true_eq,decide_eq_false_iff_not]at *
 all_goals(congr 1;unfold ZaH;(repeat' split)<;>omega)
theorem Zmf [Known](m:Int):AP Tryd.prog 125 [.int .i64 m] (.bool (ZjB m)) []:=by
 refine Zao Tryd.func125 rfl Tryd.ntmps125 rfl rfl ?_
 repeat'(first|(apply Zaj Zab;exact Z)|(apply Zah Zab;exact Z)|(apply Zaf;(iterate 3 exact Z);(first|with_reducible assumption|(solve|simp only[bn])))|(apply Zav;(iterate 3 exact Z);(first|with_reducible assumption|(solve|simp only[bn])))|(apply Zaq;(iterate 3 exact Z);(first|with_reducible assumption|(solve|simp only[bn])))|(apply ZcQ;exact Z;exact Z;all_goals intro hb)|(apply Zam;exact Z;(first|with_reducible assumption|(solve|simp only[bn]));exact Z;exact Z)|(apply Zai;exact Z;(first|with_reducible assumption|(solve|simp only[bn]));exact Z;exact Z))
 all_goals refine ZlS (.cons _ _ _ _ (.tmp _ _ rfl) .nil) (Za2 _) rfl ?_ rfl
 all_goals(congr 1;rw[Bool.eq_iff_iff];simp[ZjB]at *;omega)
def hd (h:Hd):D:=.agg [.int .i64 h.1,.int .u64 (h.2.1:Int),.bool h.2.2]
theorem Zj8 [Known](h:Hd):AP Tryd.prog 118 [hd h] (.bool (Za8 h)) []:=by
 refine Zao Tryd.func118 rfl Tryd.ntmps118 rfl rfl ?_
 repeat'(first|(apply ZcZ (Zmf _);kernel_rfl;(iterate 4 exact Z))|(apply Zaj Zab;exact Z)|(apply Zah Zab;exact Z)|(apply Zaf;(iterate 3 exact Z);(first|with_reducible assumption|(solve|simp only[bn])))|(apply Zav;(iterate 3 exact Z);(first|with_reducible assumption|(solve|simp only[bn])))|(apply ZcQ;exact Z;exact Z;all_goals intro hb)|(apply Zam;exact Z;(first|with_reducible assumption|(solve|simp only[bn]));exact Z;exact Z)|(apply Zai;exact Z;(first|with_reducible assumption|(solve|simp only[bn]));exact Z;exact Z)|(apply Zcf;exact Z;all_goals intro hb)|(apply ZdH Zab;(iterate 4 exact Z);kernel_rfl;kernel_rfl;(iterate 3 exact Z)))
 all_goals refine ZlS (.cons _ _ _ _ (.tmp _ _ rfl) .nil) (Za2 _) rfl ?_ rfl
 all_goals(obtain⟨m,n,o⟩:=h;congr 1;rw[Bool.eq_iff_iff];simp_all [Za8,ZjB];try omega)
theorem Zli (n:Nat):(ZaH n=0/\Zbl n=n/\n<24)\/(ZaH n=1/\Zbl n=24)\/(ZaH n=2/\Zbl n=25)\/(ZaH n=4/\Zbl n=26)\/(ZaH n=8/\Zbl n=27):=by
 unfold ZaH Zbl
 by_cases h1:n<24
 ·simp[h1]
 by_cases h2:n<256
 ·simp[h1,h2]
 by_cases h3:n<65536
 ·simp[h1,h2,h3]
 by_cases h4:n<4294967296
 ·simp[h1,h2,h3,h4]
 ·simp[h1,h2,h3,h4]
theorem Zlj [Known](n:Nat):AP Tryd.prog 119 [.int .u64 (n:Int)] (.int .u8 (Zbl n)) []:=by
 refine Zao Tryd.func119 rfl Tryd.ntmps119 rfl rfl ?_
 repeat'(first|(apply ZcZ (ZfZ _);kernel_rfl;(iterate 4 exact Z))|(apply Zaj Zab;exact Z)|(apply Zah Zab;exact Z)|(apply Zay Zab;exact Z)|(apply Zcf;exact Z;all_goals intro hb))
 all_goals refine ZlS (.cons _ _ _ _ (.tmp _ _ rfl) .nil) (Za2 _) rfl ?_ rfl
 all_goals(rcases Zli n with⟨h1,h2,h3⟩ | ⟨h1,h2⟩ | ⟨h1,h2⟩ | ⟨h1,h2⟩ | ⟨h1,h2⟩<;>simp_all)
 all_goals(rw[IntKind.wrap_u8'];omega)
theorem Zhj (m:Int)(i:Nat)(hm:0<=m/\m<=7)(hi:i<32):bits .or .u8 (IntKind.u8.wrap (IntKind.u8.wrap m*2 ^ min (Int.toNat 5) IntKind.u8.bits)) (i:Int)=((ZbH m.toNat i).toNat:Int):=by
 have e2:IntKind.u8.wrap (IntKind.u8.wrap m*2 ^ min (Int.toNat 5) IntKind.u8.bits)=(m.toNat:Int)*32:=by
  rw[show min (Int.toNat 5) IntKind.u8.bits=5 from rfl,IntKind.wrap_u8',IntKind.wrap_u8'];omega
 rw[e2,Zng m.toNat i (by omega) hi]
 unfold ZbH
 rw[UInt8.toNat_ofNat']
 omega
theorem ZiW {h:Hd}(hr:Za8 h=true):0<=h.1/\h.1<=7:=by
 obtain⟨m,n,o⟩:=h
 cases o<;>simp[Za8,ZjB]at hr<;>omega
theorem Zlk (n q:Nat)(hq:q<8):E.int .u8 (IntKind.u8.wrap ((n:Int).fdiv (2 ^ min (IntKind.i64.wrap (8*(q:Int))).toNat IntKind.u64.bits)))=E.byte (UInt8.ofNat (n/256 ^ q)):=by
 have e:IntKind.i64.wrap (8*(q:Int))=((8*q:Nat):Int):=by rw[IntWalk.i64_in _ (by omega)];omega
 rw[e,Int.toNat_natCast,show min (8*q) IntKind.u64.bits=8*q from Nat.min_eq_left (by show 8*q<=64;omega)]
 rw[show((n:Int).fdiv (2 ^ (8*q)))=((n/256 ^ q:Nat):Int) from by
  have e:(2:Int) ^ (8*q)=((256 ^ q:Nat):Int):=by
   rw[show(256:Nat)=2 ^ 8 from rfl,<- Nat.pow_mul]
   simp
  rw[e,Int.fdiv_eq_ediv_of_nonneg _ (Int.natCast_nonneg _),<- Int.natCast_ediv]]
 rw[IntKind.wrap_u8']
 unfold E.byte
 rw[UInt8.toNat_ofNat']
 congr 1
theorem Zhk [Known](h:Hd)(hn:h.2.1<18446744073709551616):AP Tryd.prog 102 [hd h] (.tup [byE (if Za8 h then ZaR h else []),.int .i64 (if Za8 h then 0 else 3)]) []:=by
 refine AP.weak ?_
 have HR:=@ZiW h
 have HN:=hid hn
 clear hn
 refine Zao Tryd.func102 rfl Tryd.ntmps102 rfl rfl ?_
 repeat'(first|(apply ZcZ (Zj8 h);kernel_rfl;(iterate 4 exact Z))|(apply ZcZ (Zlj _);kernel_rfl;(iterate 4 exact Z))|(apply ZcZ (ZfZ _);kernel_rfl;(iterate 4 exact Z))|(apply Zky;exact Z;exact Z;(exact(by decide));exact Z)|(apply Zaj Zab;exact Z)|(apply Zah Zab;exact Z)|(apply Zay Zab;exact Z)|(apply Zcf;exact Z;all_goals intro hb)|(apply ZfQ Zab;(iterate 12 exact Z))|(apply ZaL 7 ZaY;decide +kernel;kernel_rfl;kernel_rfl;exact Z;exact Z)|(apply ZaV;(iterate 3 exact Z))|refine AD.nil _|exact Zbv rfl)
 ·refine Zmt (.cons _ _ _ _ (.tmp _ _ rfl) (.cons _ _ _ _ (.tmp _ _ rfl) .nil)) rfl ?_
  simp_all [byE]
 ·refine Zmt (.cons _ _ _ _ (.tmp _ _ rfl) (.cons _ _ _ _ (.tmp _ _ rfl) .nil)) rfl ?_
  have hr:Za8 h=true:=by simpa using(‹(!Za8 h)=false›)
  rw[if_pos hr,if_pos hr,show ZaR h=[ZbH h.1.toNat 31] by simp[ZaR,hb],show E.int IntKind.u8 (bits .or .u8 (IntKind.u8.wrap (IntKind.u8.wrap h.1*2 ^ min (Int.toNat 5) IntKind.u8.bits)) 31)=E.byte (ZbH h.1.toNat 31) from congrArg _ (Zhj h.1 31 (HR hr) (by omega))]
  rfl
 rename_i hb1
 have hr:Za8 h=true:=by simpa using hb1
 have hw:ZaR h=ZbH h.1.toNat (Zbl h.2.1)::beN h.2.1 (ZaH h.2.1):=by simp[ZaR,hb]
 have hlen:(beN h.2.1 (ZaH h.2.1)).length=ZaH h.2.1:=ZaZ _ _
 have hf8:=ZeP h.2.1
 refine ZaC (fun k tm bx fr=>∃(i c:Nat) (L:List E),k+i=ZaH h.2.1/\c=L.length/\c=i+1/\L=((ZaR h).take (i+1)).map E.byte/\tm=[(33,.int .i64 (i:Int)),(32,.int .i64 (ZaH h.2.1:Int)),(5,.int .i64 (ZaH h.2.1:Int)),(4,.sl (.own 0) L),(3,.int .i64 0),(1,.ptr 0 0)]/\bx=[[.int .i64 h.1,.int .u64 (h.2.1:Int),.bool h.2.2]]/\fr=[⟨c,1,5⟩]) (ZaH h.2.1+1) (Lands.mk' (m:=ZaH h.2.1) (Nat.lt_succ_self _) ⟨0,1,[E.byte (ZbH h.1.toNat (Zbl h.2.1))],rfl,rfl,rfl,by rw[hw];rfl,rfl,rfl,rfl⟩ ?_ rfl rfl rfl rfl rfl rfl) ?_
 ·repeat'(first|exact Av.Sub.nil|refine Av.Sub.cons rfl ?_|refine Av.Sub.cons ?_ ?_)
  have e:=congrArg (fun x:Int=>D.sl (.own 0) [E.int .u8 x]) (Zhj h.1 (Zbl h.2.1) (HR hr) (by have:=Zg5 h.2.1;omega))
  exact e
 rintro k tm bx fr ⟨i,c,L,hk,hc,hi,hL,rfl,rfl,rfl⟩
 have hU:Uni 1 L:=hL ▸ Zbg _
 repeat'(first|(apply Zbi;exact Z;exact Z;rotate_left;exact Z)|(apply Zaj Zab;exact Z)|(apply Zah Zab;exact Z)|(apply Zcf;exact Z;all_goals intro hb)|(apply ZfQ Zab;(iterate 12 exact Z))|(apply ZaI Zab;(iterate 6 exact Z);(first|with_reducible assumption|exact Z|rotate_left);exact Z;exact Z;(first|exact Zag rfl|with_reducible assumption|rotate_left);(first|exact Zag rfl|with_reducible assumption|rotate_left);(first|exact Qb|rotate_left);(first|exact Qb|rotate_left);(first|exact Qb|rotate_left);exact Z;exact Z))
 ·have hlt:i<ZaH h.2.1:=by have:=of_decide_eq_true hb;omega
  have hx:IntKind.i64.wrap (IntKind.i64.wrap (↑(ZaH h.2.1)-1) - ↑i)=((ZaH h.2.1-1-i:Nat):Int):=by
   rw[IntWalk.i64_in ((ZaH h.2.1:Int)-1) (by omega),IntWalk.i64_in _ (by omega)];omega
  refine Lands.mk' (m:=k-1) (by omega) ⟨i+1,L.length+1,L++[E.byte (UInt8.ofNat (h.2.1/256 ^ (ZaH h.2.1-1-i)))],by omega,by simp,by omega,?_,rfl,rfl,rfl⟩ ?_ rfl rfl rfl rfl rfl rfl
  ·rw[hL,hw,List.take_succ_cons,List.take_succ_cons,Zdq _ _ _ hlt]
   simp
  ·refine .cons ?_ (.cons rfl (.cons rfl (.cons ?_ (.cons rfl (.cons rfl .nil)))))
   ·exact congrArg (D.int .i64) (IntWalk.i64_in _ (by omega))
   ·have e:=congrArg (fun x=>D.sl (.own 0) (L++[x])) (Zlk h.2.1 (ZaH h.2.1-1-i) (by omega))
    rw[<- hx]at e
    exact e
 ·have:=of_decide_eq_true hb;show L.length+1<=maxLen;unfold maxLen;omega
 ·have:=of_decide_eq_true hb;show(L.length+1)*1<=140737488355328;omega
 ·have:=of_decide_eq_true hb
  have hx:IntKind.i64.wrap (IntKind.i64.wrap (↑(ZaH h.2.1)-1) - ↑i)=((ZaH h.2.1-1-i:Nat):Int):=by
   rw[IntWalk.i64_in ((ZaH h.2.1:Int)-1) (by omega),IntWalk.i64_in _ (by omega)];omega
  rw[hx,IntWalk.i64_in _ (by omega)];omega
 ·refine Zmt (.cons _ _ _ _ (.tmp _ _ rfl) (.cons _ _ _ _ (.tmp _ _ rfl) .nil)) rfl ?_
  rw[if_pos hr,if_pos hr,hL]
  have:=of_decide_eq_false hb
  rw[List.take_of_length_le (by rw[hw,List.length_cons,hlen];omega)]
end Go.Proofs.YtakblclkflnnpaaDoor
end

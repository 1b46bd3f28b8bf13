/- Package primary: a list's items looked at; the type that a list says. -/
import Derived.Test.YtakblclkflnnpaaGreatDoorM20
import Derived.Test.YtakblclkflnnpaaGreatDoorM23
import Derived.Test.YtakblclkflnnpaaGreatDoorM10
import Derived.Test.YtakblclkflnnpaaGreatDoorM07
import Derived.Laws.RangeAny
import Derived.LoopTactic
import Derived.Test.YtakblclkflnnpaaGreatDoorM09
import Derived.Test.YtakblclkflnnpaaGreatDoorM12
import Derived.Test.YtakblclkflnnpaaGreatDoorM21
set_option linter.unusedVariables false
set_option linter.unusedSimpArgs false
section
open Go.RowKit Go.Pl Go.Av
namespace Go.Proofs.YtakblclkflnnpaaGreatDoor
set_option maxHeartbeats 4000000
theorem ZkL [Known](l:List It)(hne:l ≠ [])(hl:l.length<=1000000):AT Tryz.prog 168 [.sl .ext (ZaC l)] [] [] (.sl (.own 0) (ZaC l)) [] [⟨l.length,4,32⟩]:=by
 have hU:=Zcd l
 have hlen:=Zas l
 rw[<- hlen]
 rw[<- hlen]at hl
 have hE:ZaC l ≠ []:=fun h=>hne (by rw[h]at hlen;exact List.length_eq_zero_iff.1 hlen.symm)
 refine Zan Tryz.func168 rfl Tryz.ntmps168 rfl rfl ?_
 repeat'(first|(apply ZhI Zab;(iterate 5 exact Z);intro b hbn;(have hbn2:=hbn hE);subst hbn2;clear hbn)|(apply Zai Zab;exact Z)|(apply Zah Zab;exact Z)|(apply Zaw Zab;exact Z)|(apply Zaf;exact Z;(first|with_reducible assumption|(solve|simp only[bn])))|(apply Zfb Zab;(iterate 12 exact Z))|(apply ZaI Zab;(iterate 6 exact Z);(first|with_reducible assumption|exact Z|rotate_left);exact Z;exact Z;(first|exact Zak rfl|with_reducible assumption|rotate_left);(first|exact Zak rfl|with_reducible assumption|rotate_left);(first|exact Go.Zqz|rotate_left);(first|exact Go.Zqz|rotate_left);(first|exact Go.Zqz|rotate_left);exact Z;exact Z))
 all_goals first|(apply Zez [] [0];(apply Zad Zab;exact Z);(iterate 7 exact Z))|skip
 all_goals first|rfl|(simp at hl ⊢;(try unfold maxLen);omega)|(simp at hl ⊢;done)
theorem ZlT [Known][KnownU8](x:It)(hw:wfI x):AP Tryz.prog 137 [itD x] (.bool (!ZaM x)) []:=by
 have hR:=Zb5 x hw
 obtain⟨k,n,b,l⟩:=x
 refine AP.ofA ?_
 refine Zan Tryz.func137 rfl Tryz.ntmps137 rfl rfl ?_
 repeat'(first|(apply Zaa (hR);kernel_rfl;(iterate 4 exact Z))|(apply Zai Zab;exact Z)|(apply Zah Zab;exact Z))
 all_goals(apply Zaz [];(apply Zad Zab;exact Z);(iterate 4 exact Z))
 all_goals rfl
def fiI:List It->Nat->Int
 | [],_ => -1
 | x::l,i=>match ZaM x with|true=>fiI l (i+1)|false=>(i:Int)
theorem Zmx:∀(l:List It) (i:Nat),decide (fiI l i ≥ 0) = !(l.all ZaM)
 | [],_=>rfl
 | x::l,i=>by
  rw[fiI,List.all_cons]
  cases ZaM x with
  | true=>simpa using Zmx l (i+1)
  | false=>simp
theorem Znk [Known][KnownU8](l:List It)(hws:wfs l)(hl:l.length<=1000000):AP Tryz.prog 167 [.sl .ext (ZaC l),.fn 137 []] (.int .i64 (fiI l 0)) []:=by
 have hlen:=Zas l
 have hU:=Zcd l
 generalize hfin:fiI l 0=fin
 refine AP.ofA ?_
 refine Zan Tryz.func167 rfl Tryz.ntmps167 rfl rfl ?_
 repeat'(first|(apply Zai Zab;exact Z)|(apply Zah Zab;exact Z)|(apply Zao Zab;(iterate 4 exact Z)))
 refine ZaG (fun f tm bx fr=>∃(i:Nat),f+i=l.length/\fiI (l.drop i) i=fin/\tm=[(0,.sl .ext (ZaC l)),(1,.fn 137 []),(4,.int .i64 0),(7,.int .i64 ((ZaC l).length:Int)),(8,.int .i64 (i:Int))]/\bx=[]/\fr=[]) (l.length+1) (Lands.mk' (m:=l.length) (Nat.lt_succ_self _) ⟨0,by omega,hfin,rfl,rfl,rfl⟩ ?_ rfl rfl rfl rfl rfl rfl) ?_
 ·exact .cons rfl (.cons rfl (.cons rfl (.cons rfl (.cons rfl .nil))))
 rintro f tm bx fr ⟨i,hf,hq,rfl,rfl,rfl⟩
 rcases Nat.lt_or_ge i l.length with hlt|hge
 ·have hdl:decide ((i:Int)<((ZaC l).length:Int))=true:=decide_eq_true (by omega)
  obtain⟨⟨k1,n1,b1,l1⟩,hy⟩:∃ y,l[i]?=some y:=⟨_,List.getElem?_eq_getElem hlt⟩
  have hv:(ZaC l)[((i:Nat):Int).toNat]?=some (.agg [.int .i64 k1,.int .u64 (n1:Int),.sl (b1.map E.byte),.sl (ZaC l1)]):=by
   rw[Int.toNat_natCast,ZaL,List.getElem?_map,hy];rfl
  have hc:=ZlT _ (Za7 hws _ (List.mem_of_getElem? hy))
  have hdr:l.drop i=It.mk k1 n1 b1 l1::l.drop (i+1):=by
   rw[List.drop_eq_getElem_cons hlt];congr 1
   exact(List.getElem?_eq_some_iff.1 hy).2
  rw[hdr,fiI]at hq
  have ei:IntKind.i64.wrap ((i:Int)+1)=((i+1:Nat):Int):=by rw[IntWalk.i64_in _ (by omega)];omega
  cases hb:ZaM (.mk k1 n1 b1 l1) with
  | true=>
   rw[hb]at hq hc
   replace hc:AP Tryz.prog _ _ (.bool false) []:=hc
   repeat'(first|rw[ei]|(apply ZcO (hc);exact Z;kernel_rfl;(iterate 3 exact Z))|(apply Zai Zab;exact Z)|(apply Zah Zab;exact Z)|(apply Zaw Zab;exact Z)|(apply Zac;exact Z;exact Go.Zqy)|(apply Zaf;exact Z;exact Go.Zqy)|(apply Zav Zab;(iterate 6 exact Z);(first|exact Go.Zqy|rotate_left);(first|with_reducible assumption|decide +kernel|exact Z);(first|exact Zak rfl|with_reducible assumption|decide +kernel|rotate_left)))
   refine Lands.mk' (m:=f-1) (by omega) ⟨i+1,by omega,hq,rfl,rfl,rfl⟩ ?_ rfl rfl rfl rfl rfl rfl
   exact .cons rfl (.cons rfl (.cons rfl (.cons rfl (.cons rfl .nil))))
  | false=>
   rw[hb]at hq hc
   replace hc:AP Tryz.prog _ _ (.bool true) []:=hc
   have hq:(i:Int)=fin:=hq
   subst hq
   repeat'(first|(apply ZcO (hc);exact Z;kernel_rfl;(iterate 3 exact Z))|(apply Zai Zab;exact Z)|(apply Zah Zab;exact Z)|(apply Zaw Zab;exact Z)|(apply Zac;exact Z;exact Go.Zqy)|refine Zbk ?_|(apply Zav Zab;(iterate 6 exact Z);(first|exact Go.Zqy|rotate_left);(first|with_reducible assumption|decide +kernel|exact Z);(first|exact Zak rfl|with_reducible assumption|decide +kernel|rotate_left)))
   all_goals(apply Zaz [];(apply Zad Zab;exact Z);(iterate 4 exact Z))
   all_goals rfl
 ·have hdl:decide ((i:Int)<((ZaC l).length:Int))=false:=decide_eq_false (by omega)
  rw[List.drop_eq_nil_of_le hge]at hq
  have hq:(-1:Int)=fin:=hq
  subst hq
  repeat'(first|(apply Zah Zab;exact Z)|(apply Zaf;exact Z;exact Go.Zqy))
  all_goals(apply Zaz [];(apply Zad Zab;exact Z);(iterate 4 exact Z))
  all_goals rfl
theorem ZlU [Known][KnownU8](l:List It)(hws:wfs l)(hl:l.length<=1000000):AP Tryz.prog 140 [.sl .ext (ZaC l),.fn 137 []] (.bool (!(l.all ZaM))) []:=by
 have hI:=Znk l hws hl
 rw[<- Zmx l 0]
 refine AP.ofA ?_
 refine Zan Tryz.func140 rfl Tryz.ntmps140 rfl rfl ?_
 repeat'(first|(apply Zaa (hI);kernel_rfl;(iterate 4 exact Z))|(apply Zai Zab;exact Z)|(apply Zah Zab;exact Z))
 all_goals(apply Zaz [];(apply Zad Zab;exact Z);(iterate 4 exact Z))
 all_goals rfl
def Zcx (l:List It)(a:Int):Int:=if a<0 then -1 else match l[a.toNat]? with
 | none => -1
 | some (.mk k n b r)=>match decide ((n:Int)>2) with
  | true => -1
  | false=>match It.beq (.mk k n b r) (.mk 0 n [] []) with
   | true=>(n:Int)
   | false => -1
theorem Zhd [Known](l:List It)(hws:wfs l)(a:Int):AP Tryz.prog 139 [.sl .ext (ZaC l),.int .i64 a] (.int .i64 (Zcx l a)) []:=by
 have hlen:=Zas l
 have hU:=Zcd l
 unfold Zcx
 rcases Int.lt_or_le a 0 with h0|h0
 ·have t1:decide (a<0)=true:=decide_eq_true h0
  rw[if_pos h0]
  refine AP.ofA ?_
  refine Zan Tryz.func139 rfl Tryz.ntmps139 rfl rfl ?_
  repeat'(first|(apply Zai Zab;exact Z)|(apply Zah Zab;exact Z)|(apply Zaw Zab;exact Z)|(apply Zal;(iterate 3 exact Z);exact Go.Zqy)|(apply Zaj;exact Z;exact Go.Zqy;exact Z;exact Z)|(apply Zac;exact Z;exact Go.Zqy)|(apply Zam 27 ZaK;decide +kernel;kernel_rfl;kernel_rfl;kernel_rfl;exact Z;exact Z)|(apply Zaq;(iterate 4 exact Z))|exact AE.nil _ _ _ _|(apply Zat;exact Z)|(apply Zax;exact Z;exact Z;decide +kernel;exact Z)|(apply Zay;exact Z)|exact AO.nil _ _ _|(apply Zap;(decide +kernel))|exact AOs.nil|exact ZaE rfl rfl)
  all_goals(apply Zaz [];(apply Zad Zab;exact Z);(iterate 4 exact Z))
  all_goals rfl
 have t1:decide (a<0)=false:=decide_eq_false (by omega)
 rw[if_neg (by omega)]
 rcases Int.lt_or_le a l.length with h1|h1
 case inr=>
  have t2:decide (a ≥ ((ZaC l).length:Int))=true:=decide_eq_true (by omega)
  rw[List.getElem?_eq_none (by omega)]
  refine AP.ofA ?_
  refine Zan Tryz.func139 rfl Tryz.ntmps139 rfl rfl ?_
  repeat'(first|(apply Zai Zab;exact Z)|(apply Zah Zab;exact Z)|(apply Zaw Zab;exact Z)|(apply Zae;(iterate 3 exact Z);exact Go.Zqy)|(apply Zal;(iterate 3 exact Z);exact Go.Zqy)|(apply Zaj;exact Z;exact Go.Zqy;exact Z;exact Z)|(apply Zag;exact Z;exact Go.Zqy;exact Z;exact Z)|(apply Zac;exact Z;exact Go.Zqy)|(apply Zao Zab;(iterate 4 exact Z))|(apply Zam 27 ZaK;decide +kernel;kernel_rfl;kernel_rfl;kernel_rfl;exact Z;exact Z)|(apply Zaq;(iterate 4 exact Z))|exact AE.nil _ _ _ _|(apply Zat;exact Z)|(apply Zax;exact Z;exact Z;decide +kernel;exact Z)|(apply Zay;exact Z)|exact AO.nil _ _ _|(apply Zap;(decide +kernel))|exact AOs.nil|exact ZaE rfl rfl)
  all_goals(apply Zaz [];(apply Zad Zab;exact Z);(iterate 4 exact Z))
  all_goals rfl
 have t2:decide (a ≥ ((ZaC l).length:Int))=false:=decide_eq_false (by omega)
 obtain⟨⟨k,n,b,l1⟩,hy⟩:∃ y,l[a.toNat]?=some y:=⟨_,List.getElem?_eq_getElem (by omega)⟩
 have hv:(ZaC l)[a.toNat]?=some (.agg [.int .i64 k,.int .u64 (n:Int),.sl (b.map E.byte),.sl (ZaC l1)]):=by
  rw[ZaL,List.getElem?_map,hy];rfl
 have hw:=Za7 hws _ (List.mem_of_getElem? hy)
 have hS:=Zen (.mk k n b l1) hw (.mk 0 n [] []) (by obtain⟨h1,_⟩:=hw;exact⟨h1,by simp,by simp,trivial⟩)
 have hN:=Zch n
 rw[hy]
 dsimp only
 cases t3:decide ((n:Int)>2) with
 | true=>
  refine AP.ofA ?_
  refine Zan Tryz.func139 rfl Tryz.ntmps139 rfl rfl ?_
  repeat'(first|(apply Zai Zab;exact Z)|(apply Zah Zab;exact Z)|(apply Zaw Zab;exact Z)|(apply Zae;(iterate 3 exact Z);exact Go.Zqy)|(apply Zal;(iterate 3 exact Z);exact Go.Zqy)|(apply Zaj;exact Z;exact Go.Zqy;exact Z;exact Z)|(apply Zag;exact Z;exact Go.Zqy;exact Z;exact Z)|(apply Zac;exact Z;exact Go.Zqy)|(apply Zao Zab;(iterate 4 exact Z))|(apply Zam 27 ZaK;decide +kernel;kernel_rfl;kernel_rfl;kernel_rfl;exact Z;exact Z)|(apply Zaq;(iterate 4 exact Z))|exact AE.nil _ _ _ _|(apply Zat;exact Z)|(apply Zax;exact Z;exact Z;decide +kernel;exact Z)|(apply Zay;exact Z)|exact AO.nil _ _ _|(apply Zap;(decide +kernel))|exact AOs.nil|exact ZaE rfl rfl|(apply Zav Zab;(iterate 6 exact Z);(first|exact Go.Zqy|rotate_left);(first|with_reducible assumption|decide +kernel|exact Z);(first|exact Zak rfl|with_reducible assumption|decide +kernel|rotate_left)))
  all_goals(apply Zaz [];(apply Zad Zab;exact Z);(iterate 4 exact Z))
  all_goals rfl
 | false=>
  have en:IntKind.i64.wrap (n:Int)=(n:Int):=IntWalk.i64_in _ (by simp at t3;omega)
  cases t4:It.beq (.mk k n b l1) (.mk 0 n [] []) with
  | true=>
   rw[t4]at hS
   refine AP.ofA ?_
   refine Zan Tryz.func139 rfl Tryz.ntmps139 rfl rfl ?_
   repeat'(first|(apply Zaa (hN);kernel_rfl;(iterate 4 exact Z))|(apply Zaa (hS);kernel_rfl;(iterate 4 exact Z))|rw[en]|(apply Zai Zab;exact Z)|(apply Zah Zab;exact Z)|(apply Zaw Zab;exact Z)|(apply Zae;(iterate 3 exact Z);exact Go.Zqy)|(apply Zag;exact Z;exact Go.Zqy;exact Z;exact Z)|(apply Zaf;exact Z;exact Go.Zqy)|(apply Zao Zab;(iterate 4 exact Z))|(apply Zam 27 ZaK;decide +kernel;kernel_rfl;kernel_rfl;kernel_rfl;exact Z;exact Z)|(apply Zaq;(iterate 4 exact Z))|exact AE.nil _ _ _ _|(apply Zat;exact Z)|(apply Zax;exact Z;exact Z;decide +kernel;exact Z)|(apply Zay;exact Z)|exact AO.nil _ _ _|(apply Zap;(decide +kernel))|exact AOs.nil|exact ZaE rfl rfl|(apply Zav Zab;(iterate 6 exact Z);(first|exact Go.Zqy|rotate_left);(first|with_reducible assumption|decide +kernel|exact Z);(first|exact Zak rfl|with_reducible assumption|decide +kernel|rotate_left)))
   all_goals(apply Zaz [];(apply Zad Zab;exact Z);(iterate 4 exact Z))
   all_goals rfl
  | false=>
   rw[t4]at hS
   refine AP.ofA ?_
   refine Zan Tryz.func139 rfl Tryz.ntmps139 rfl rfl ?_
   repeat'(first|(apply Zaa (hN);kernel_rfl;(iterate 4 exact Z))|(apply Zaa (hS);kernel_rfl;(iterate 4 exact Z))|(apply Zai Zab;exact Z)|(apply Zah Zab;exact Z)|(apply Zaw Zab;exact Z)|(apply Zae;(iterate 3 exact Z);exact Go.Zqy)|(apply Zag;exact Z;exact Go.Zqy;exact Z;exact Z)|(apply Zac;exact Z;exact Go.Zqy)|(apply Zao Zab;(iterate 4 exact Z))|(apply Zam 27 ZaK;decide +kernel;kernel_rfl;kernel_rfl;kernel_rfl;exact Z;exact Z)|(apply Zaq;(iterate 4 exact Z))|exact AE.nil _ _ _ _|(apply Zat;exact Z)|(apply Zax;exact Z;exact Z;decide +kernel;exact Z)|(apply Zay;exact Z)|exact AO.nil _ _ _|(apply Zap;(decide +kernel))|exact AOs.nil|exact ZaE rfl rfl|(apply Zav Zab;(iterate 6 exact Z);(first|exact Go.Zqy|rotate_left);(first|with_reducible assumption|decide +kernel|exact Z);(first|exact Zak rfl|with_reducible assumption|decide +kernel|rotate_left)))
   all_goals(apply Zaz [];(apply Zad Zab;exact Z);(iterate 4 exact Z))
   all_goals rfl
def okB (m:Nat)(c:UInt8):Bool:=(97<=c.toNat&&c.toNat<=122)||(48<=c.toNat&&c.toNat<=57)||c.toNat==45||c.toNat==m
theorem ZcZ {m:Nat}{c:UInt8}:okB m c=true ↔ (97<=(c.toNat:Int)/\(c.toNat:Int)<=122)\/(48<=(c.toNat:Int)/\(c.toNat:Int)<=57)\/(c.toNat:Int)=45\/(c.toNat:Int)=(m:Int):=by
 simp only[okB,Bool.or_eq_true,Bool.and_eq_true,decide_eq_true_eq,beq_iff_eq]
 omega
theorem Zjt (s:ByteArray)(m:Nat)(hm:m<128)(w:World)(B:Bool)(hB:s.data.toList.all (okB m)=B) :
  Calls Tryz.prog 150 #[.string s,.int .i32 (m:Int)] w fun e w'=>e=.returned (.bool B)/\Below w.heap.size w w':=by
 have hT:(∀ j,j<s.size->∀ c,s.data.toList[j]?=some c->okB m c=true)->B=true:=fun h=>by
  rw[<- hB,List.all_eq_true]
  intro x hx
  obtain⟨j,hj⟩:=List.getElem?_of_mem hx
  have hlt:=(List.getElem?_eq_some_iff.1 hj).1
  exact h j (by simpa using hlt) x hj
 have hF:∀(j:Nat) (c:UInt8),s.data.toList[j]?=some c->¬ okB m c=true->B=false:=fun j c hj hc=>by
  rw[<- hB,List.all_eq_false]
  exact⟨c,List.mem_of_getElem? hj,hc⟩
 clear hB
 go_enter Tryz.func150,Tryz.ntmps150
 go_wp2
 go_loopw [] (fun w'=>∃ pos,w'=w.iter s pos/\pos<=s.size/\Hid (∀ j,j<pos->∀ c,s.data.toList[j]?=some c->okB m c=true)) (fun w'=>s.size-w'.iterPos w.heap.size)
 case atStart=>exact⟨0,rfl,Nat.zero_le _,fun j hj=>by omega⟩
 case round=>
  obtain⟨pos,rfl,hps,hall⟩:=hrel
  have hb:∀ p,Below w.heap.size w (w.iter s p):=fun p=>(Below.refl _ _).alloc (Nat.le_refl _) _
  by_cases hp:pos<s.size
  ·have hget:s.data.toList[pos]?=some (s[pos]'hp):=by
    have hlt:pos<s.data.toList.length:=by simpa using hp
    rw[List.getElem?_eq_getElem hlt];rfl
   by_cases ha:(s[pos]'hp).toNat<128
   ·obtain⟨c,hc⟩:∃ c,c=s[pos]'hp:=⟨_,rfl⟩
    have hnx:∀ ty,(Instr.next (.pointer (some ⟨w.heap.size,0,none⟩)) true ty).run Tryz.prog (w.iter s pos)=.ok (.tuple #[.bool true,.int .i64 pos,.int .i32 (c.toNat:Int)]) (w.iter s (pos+1)):=fun ty=>by
     rw[hc];exact run_next_ascii w s pos ty hp ha
    rw[<- hc]at hget ha
    clear hc
    have hbad:=hid (hF pos c hget)
    have hstep:Hid (okB m c=true->∀ j,j<pos+1->∀ c,s.data.toList[j]?=some c->okB m c=true):=fun hc j hj c' hj'=>by
     rcases Nat.lt_or_ge j pos with h|h
     ·exact hall j h c' hj'
     ·have:j=pos:=by omega
      subst this
      rw[hget]at hj'
      injection hj' with hj'
      subst hj'
      exact hc
    clear hT hF hget
    go_wp2
    all_goals first
     | (go_ret
        have hBf:=hbad (fun h=>by rw[ZcZ]at h;clear hbad hstep hnx;(try simp only[bne_iff_ne,ne_eq,bne_eq_false_iff_eq]at *);omega)
        subst hBf
        exact⟨rfl,hb _⟩)
     | (refine⟨⟨pos+1,rfl,by omega,hstep ?_⟩,?_⟩
        ·rw[ZcZ]
         clear hbad hstep hnx
         try simp only[bne_iff_ne,ne_eq,bne_eq_false_iff_eq]at *
         omega
        ·simp;omega)
   ·obtain⟨hd1,hd2⟩:=decode_high s pos hp (by omega)
    have hle:=decode_le s pos
    have hnx:∀ ty,(Instr.next (.pointer (some ⟨w.heap.size,0,none⟩)) true ty).run Tryz.prog (w.iter s pos)=_:=fun ty=>run_next_any w s pos ty hp
    have hBf:=hF pos _ hget (fun h=>by rw[ZcZ]at h;omega)
    clear hT hF hget
    subst hBf
    generalize Utf8.decode s pos=dd at hd1 hd2 hle hnx
    have n1:¬ ((dd.1:Int)<97):=by omega
    have n2:((dd.1:Int)>122):=by omega
    have n3:¬ ((dd.1:Int)<48):=by omega
    have n4:((dd.1:Int)>57):=by omega
    have n5:¬ ((dd.1:Int)=45):=by omega
    have n6:¬ ((dd.1:Int)=(m:Int)):=by omega
    go_wp2
    all_goals first
     | (go_ret;exact⟨rfl,hb _⟩)
     | (exfalso;clear hnx hb hall;(try simp only[bne_iff_ne,ne_eq,bne_eq_false_iff_eq]at *);omega)
  ·have hnx:∀ ty,(Instr.next (.pointer (some ⟨w.heap.size,0,none⟩)) true ty).run Tryz.prog (w.iter s pos)=_:=fun ty=>run_next_end w s pos ty hp
   have hBt:=hT (fun j hj=>hall j (by omega))
   subst hBt
   go_wp2
   go_ret
   exact⟨rfl,hb _⟩
theorem ZiS [Known](s:List UInt8)(m:Nat)(hm:m<128):AP Tryz.prog 150 [.str s,.int .i32 (m:Int)] (.bool (s.all (okB m))) []:=by
 refine⟨fun g w vs hmem hl hv=>?_⟩
 obtain⟨v0,v1,rfl⟩:∃ v0 v1,vs=[v0,v1]:=by
  match vs,hl with
  | [v0,v1],_=>exact⟨v0,v1,rfl⟩
 have h0:=(hv 0 _ _ rfl rfl).str_inv.1
 have h1:=(hv 1 _ _ rfl rfl).int_inv
 subst h0 h1
 exact(Zjt ⟨s.toArray⟩ m hm w _ rfl).mono fun e w' ⟨he,hb⟩=>Zim hmem hb he (.bool _)
structure EidV where
 i:Bool
 n:Nat
 s:Nat
 h:List UInt8
 d:List UInt8
 deriving DecidableEq
abbrev eC (x:EidV):List D:=[.bool x.i,.int .u64 (x.n:Int),.int .u64 (x.s:Int),.str x.h,.str x.d]
def Zdv:EidV:=⟨false,0,0,[],[]⟩
def isZ (x:EidV):Bool:=x.i==false&&((x.n:Int)==0&&((x.s:Int)==0&&(x.h==[]&&(x.d==[]&&true))))
def ZaP (x:EidV):Bool:=
 if isZ x then true
 else if x.i then(x.i==true&&((x.n:Int)==(x.n:Int)&&((x.s:Int)==(x.s:Int)&&(x.h==[]&&(x.d==[]&&true)))))&&decide ((x.n:Int) ≥ 1)&&decide ((x.n:Int)<=4294967295)&&decide ((x.s:Int)<=4294967295)
 else(x.i==false&&((x.n:Int)==0&&((x.s:Int)==0&&(x.h==x.h&&(x.d==x.d&&true)))))&&decide ((x.h.length:Int) ≥ 1)&&decide ((x.h.length:Int)<=16)&&decide ((x.d.length:Int)<=24)&&x.h.all (okB 45)&&x.d.all (okB 47)
theorem Zgk {x:EidV}(h:isZ x=true):ZaP x=true:=by unfold ZaP;rw[if_pos h]
theorem Zgl {x:EidV}(h:isZ x=false)(hi:x.i=true):ZaP x=((x.i==true&&((x.n:Int)==(x.n:Int)&&((x.s:Int)==(x.s:Int)&&(x.h==[]&&(x.d==[]&&true)))))&&decide ((x.n:Int) ≥ 1)&&decide ((x.n:Int)<=4294967295)&&decide ((x.s:Int)<=4294967295)):=by
 unfold ZaP;rw[if_neg (by rw[h];decide),if_pos hi]
theorem Zgm {x:EidV}(h:isZ x=false)(hi:x.i=false):ZaP x=((x.i==false&&((x.n:Int)==0&&((x.s:Int)==0&&(x.h==x.h&&(x.d==x.d&&true)))))&&decide ((x.h.length:Int) ≥ 1)&&decide ((x.h.length:Int)<=16)&&decide ((x.d.length:Int)<=24)&&x.h.all (okB 45)&&x.d.all (okB 47)):=by
 unfold ZaP;rw[if_neg (by rw[h];decide),if_neg (by rw[hi];decide)]
theorem Zfo [Known](x:EidV):AP Tryz.prog 91 [.agg (eC x)] (.bool (ZaP x)) []:=by
 refine AP.ofA ?_
 refine Zan Tryz.func91 rfl Tryz.ntmps91 rfl rfl ?_
 cases hz:isZ x with
 | true=>
  rw[Zgk hz]
  unfold isZ at hz
  repeat'(first|(apply Zai Zab;exact Z)|(apply Zah Zab;exact Z)|(apply Zaw Zab;exact Z)|(apply Zac;exact Z;(first|with_reducible assumption|(solve|simp only[bn])))|(apply Ze6 Zab;(iterate 4 exact Z);kernel_rfl;kernel_rfl;(iterate 3 exact Z)))
  (apply Zaz [];(apply Zad Zab;exact Z);(iterate 4 exact Z))
  all_goals rfl
 | false=>
  cases hi:x.i with
  | true=>
   rw[Zgl hz hi]
   unfold isZ at hz
   repeat'(first|(apply Zai Zab;exact Z)|(apply Zah Zab;exact Z)|(apply Zaw Zab;exact Z)|(apply Zae;(iterate 3 exact Z);(first|with_reducible assumption|(solve|simp only[bn])))|(apply Zau;(iterate 3 exact Z);(first|with_reducible assumption|(solve|simp only[bn])))|(apply Zbh;exact Z;exact Z;all_goals intro hb)|(apply Zaj;exact Z;(first|with_reducible assumption|(solve|simp only[bn]));exact Z;exact Z)|(apply Zag;exact Z;(first|with_reducible assumption|(solve|simp only[bn]));exact Z;exact Z)|(apply Zac;exact Z;(first|with_reducible assumption|(solve|simp only[bn])))|(apply Zaf;exact Z;(first|with_reducible assumption|(solve|simp only[bn])))|(apply Ze6 Zab;(iterate 4 exact Z);kernel_rfl;kernel_rfl;(iterate 3 exact Z)))
   all_goals(apply Zaz [];(apply Zad Zab;exact Z);(iterate 4 exact Z))
   all_goals first|rfl|(clear hi hz;simp only[*];done)|(clear hi hz;simp only[*];simp only[Bool.and_true,Bool.true_and,Bool.and_false,Bool.false_and];done)
  | false=>
   rw[Zgm hz hi]
   unfold isZ at hz
   repeat'(first|(apply Zaa (ZiS x.h 45 (by decide));kernel_rfl;(iterate 4 exact Z))|(apply Zaa (ZiS x.d 47 (by decide));kernel_rfl;(iterate 4 exact Z))|(apply Zai Zab;exact Z)|(apply Zah Zab;exact Z)|(apply Zaw Zab;exact Z)|(apply Zae;(iterate 3 exact Z);(first|with_reducible assumption|(solve|simp only[bn])))|(apply Zau;(iterate 3 exact Z);(first|with_reducible assumption|(solve|simp only[bn])))|(apply Zbh;exact Z;exact Z;all_goals intro hb)|(apply Zaj;exact Z;(first|with_reducible assumption|(solve|simp only[bn]));exact Z;exact Z)|(apply Zag;exact Z;(first|with_reducible assumption|(solve|simp only[bn]));exact Z;exact Z)|(apply Zaf;exact Z;(first|with_reducible assumption|(solve|simp only[bn])))|(apply ZaV Zab;(iterate 4 exact Z))|(apply Ze6 Zab;(iterate 4 exact Z);kernel_rfl;kernel_rfl;(iterate 3 exact Z)))
   all_goals(apply Zaz [];(apply Zad Zab;exact Z);(iterate 4 exact Z))
   all_goals first|rfl|(clear hi hz;simp only[*];done)|(clear hi hz;simp only[*];simp only[Bool.and_true,Bool.true_and,Bool.and_false,Bool.false_and];done)
abbrev ZpK (s:Int):Int:=s.fdiv (2 ^ (min (Int.toNat 1) IntKind.u32.bits))
def Zdw (s p:Int):Int:=match(bits .and .u32 s 1==1) with
 | true=>bits .xor .u32 (ZpK s) p
 | false=>ZpK s
theorem ZlV [Known](s p:Int):AP Tryz.prog 213 [.int .u32 s,.int .u32 p] (.int .u32 (Zdw s p)) []:=by
 unfold Zdw
 cases t:(bits .and .u32 s 1==1)
 all_goals
  refine AP.ofA ?_
  refine Zan Tryz.func213 rfl Tryz.ntmps213 rfl rfl ?_
  repeat'(first|(apply Zai Zab;exact Z)|(apply Zah Zab;exact Z)|(apply Zac;exact Z;exact Go.Zqy)|(apply Zaf;exact Z;exact Go.Zqy)|(apply Zbz;exact Z;exact Z;(first|exact Go.Zqy|rotate_left);exact Z))
  all_goals(apply Zaz [];(apply Zad Zab;exact Z);(iterate 4 exact Z))
  all_goals rfl
def Znl (s:Int)(c:UInt8)(p:Int):Int:=
 Zdw (Zdw (Zdw (Zdw (Zdw (Zdw (Zdw (Zdw (bits .xor .u32 s (IntKind.u32.wrap (c.toNat:Int))) p) p) p) p) p) p) p) p
theorem ZkM [Known](s p:Int)(c:UInt8):AP Tryz.prog 205 [.int .u32 s,.int .u8 (c.toNat:Int),.int .u32 p] (.int .u32 (Znl s c p)) []:=by
 refine AP.ofA ?_
 refine Zan Tryz.func205 rfl Tryz.ntmps205 rfl rfl ?_
 repeat'(first|(apply Zaa (ZlV _ _);kernel_rfl;(iterate 4 exact Z))|refine Zbj 20 ?_|refine ZbA ?_|(apply Zai Zab;exact Z)|(apply Zah Zab;exact Z)|(apply Zac;exact Z;exact Go.Zqy)|(apply Zaf;exact Z;exact Go.Zqy))
 all_goals(apply Zaz [];(apply Zad Zab;exact Z);(iterate 4 exact Z))
 all_goals rfl
def Zn4 (s p:Int)(b:List UInt8):Int:=b.foldl (fun s c=>Znl s c p) s
theorem Zmy [Known](s p:Int)(b:List UInt8)(hb:b.length<=1000000000):AP Tryz.prog 190 [.int .u32 s,byE b,.int .u32 p] (.int .u32 (Zn4 s p b)) []:=by
 have hl:(b.map E.byte).length=b.length:=List.length_map ..
 have hU:=Zbi b
 generalize hfin:Zn4 s p b=fin
 refine AP.ofA ?_
 refine Zan Tryz.func190 rfl Tryz.ntmps190 rfl rfl ?_
 repeat'(first|(apply Zai Zab;exact Z)|(apply Zah Zab;exact Z)|(apply Zao Zab;(iterate 4 exact Z)))
 refine ZaG (fun k tm bx fr=>∃(i:Nat) (q:Int) (o:D),k+i=b.length/\Zn4 q p (b.drop i)=fin/\tm=[(0,.int .u32 q),(1,byE b),(2,.int .u32 p),(6,.int .u32 0),(9,byE b),(10,.int .i64 (b.length:Int)),(11,.int .i64 (i:Int))]/\bx=[]/\fr=[]) (b.length+1) (Lands.mk' (m:=b.length) (Nat.lt_succ_self _) ⟨0,s,.tup [],by omega,hfin,rfl,rfl,rfl⟩ ?_ rfl rfl rfl rfl rfl rfl) ?_
 ·exact .cons rfl (.cons rfl (.cons rfl (.cons rfl (.cons rfl (.cons (by rw[<- hl];rfl) (.cons rfl .nil))))))
 rintro k tm bx fr ⟨i,q,o,hk,hq,rfl,rfl,rfl⟩
 rcases Nat.lt_or_ge i b.length with hlt|hge
 ·have hd:decide ((i:Int)<(b.length:Int))=true:=decide_eq_true (by omega)
  obtain⟨c,hc⟩:∃ c,b[i]?=some c:=⟨_,List.getElem?_eq_getElem hlt⟩
  have hv:(b.map E.byte)[((i:Nat):Int).toNat]?=some (E.byte c):=by
   rw[Int.toNat_natCast,List.getElem?_map,hc];rfl
  have hdr:b.drop i=c::b.drop (i+1):=by
   rw[List.drop_eq_getElem_cons hlt];congr 1
   exact(List.getElem?_eq_some_iff.1 hc).2
  rw[hdr]at hq
  have hq2:Zn4 (Znl q c p) p (b.drop (i+1))=fin:=hq
  have ei:IntKind.i64.wrap ((i:Int)+1)=((i+1:Nat):Int):=by rw[IntWalk.i64_in _ (by omega)];omega
  repeat'(first|(apply Zaa (ZkM _ _ _);kernel_rfl;(iterate 4 exact Z))|rw[ei]|(apply Zai Zab;exact Z)|(apply Zah Zab;exact Z)|(apply Zac;exact Z;exact Go.Zqy)|(apply Zav Zab;(iterate 6 exact Z);(first|exact Go.Zqy|rotate_left);(first|with_reducible assumption|decide +kernel|exact Z);(first|exact Zak rfl|with_reducible assumption|decide +kernel|rotate_left)))
  refine Lands.mk' (m:=k-1) (by omega) ⟨i+1,_,.tup [],by omega,hq2,rfl,rfl,rfl⟩ ?_ rfl rfl rfl rfl rfl rfl
  exact .cons rfl (.cons rfl (.cons rfl (.cons rfl (.cons rfl (.cons rfl (.cons rfl .nil))))))
 ·have hd:decide ((i:Int)<(b.length:Int))=false:=decide_eq_false (by omega)
  rw[List.drop_eq_nil_of_le hge]at hq
  have hq:q=fin:=hq
  subst hq
  repeat'(first|(apply Zah Zab;exact Z)|(apply Zaf;exact Z;exact Go.Zqy))
  all_goals(apply Zaz [];(apply Zad Zab;exact Z);(iterate 4 exact Z))
  all_goals rfl
def Zhe (b:List UInt8):Int:=bits .xor .u16 (if IntKind.u16.signed then -1 else IntKind.u16.max) (IntKind.u16.wrap (Zn4 65535 33800 b))
def Zgn (b:List UInt8):Int:=bits .xor .u32 (if IntKind.u32.signed then -1 else IntKind.u32.max) (Zn4 4294967295 2197175160 b)
theorem ZlW [Known](b:List UInt8)(hb:b.length<=1000000000):AP Tryz.prog 169 [byE b] (.int .u16 (Zhe b)) []:=by
 have hR:=Zmy 65535 33800 b hb
 refine AP.ofA ?_
 refine Zan Tryz.func169 rfl Tryz.ntmps169 rfl rfl ?_
 repeat'(first|(apply Zaa (hR);kernel_rfl;(iterate 4 exact Z))|(apply Zmv;exact Z;exact Z)|(apply Zai Zab;exact Z)|(apply Zah Zab;exact Z))
 all_goals(apply Zaz [];(apply Zad Zab;exact Z);(iterate 4 exact Z))
 all_goals rfl
theorem Znm [Known](b:List UInt8)(hb:b.length<=1000000000):AP Tryz.prog 170 [byE b] (.int .u32 (Zgn b)) []:=by
 have hR:=Zmy 4294967295 2197175160 b hb
 refine AP.ofA ?_
 refine Zan Tryz.func170 rfl Tryz.ntmps170 rfl rfl ?_
 repeat'(first|(apply Zaa (hR);kernel_rfl;(iterate 4 exact Z))|(apply Zmv;exact Z;exact Z)|(apply Zai Zab;exact Z)|(apply Zah Zab;exact Z))
 all_goals(apply Zaz [];(apply Zad Zab;exact Z);(iterate 4 exact Z))
 all_goals rfl
def ZbF (s:Nat)(l:List It):It:=.mk 4 0 [] (l++[.mk 2 0 (List.replicate (2*s) 0) []])
abbrev shU (k:IntKind)(z:Int)(q:Int):Int:=IntKind.u8.wrap (z.fdiv (2 ^ (min q.toNat k.bits)))
def ZpL (s:Nat)(b:List UInt8):List E:=
 if s=1 then [.int .u8 (shU .u16 (Zhe b) 8),.int .u8 (IntKind.u8.wrap (Zhe b))]
 else [.int .u8 (shU .u32 (Zgn b) 24),.int .u8 (shU .u32 (Zgn b) 16),.int .u8 (shU .u32 (Zgn b) 8),.int .u8 (IntKind.u8.wrap (Zgn b))]
def by8 (z:Int):UInt8:=UInt8.ofNat (IntKind.u8.wrap z).toNat
theorem Zpn (z:Int):E.byte (by8 z)=.int .u8 (IntKind.u8.wrap z):=by
 have h:0<=IntKind.u8.wrap z/\IntKind.u8.wrap z<256:=by
  rw[IntKind.wrap_u8];omega
 show E.int .u8 ((by8 z).toNat:Int)=_
 have e:((by8 z).toNat:Int)=IntKind.u8.wrap z:=by
  unfold by8
  rw[UInt8.toNat_ofNat']
  omega
 rw[e]
def ZhR (s:Nat)(b:List UInt8):List UInt8:=
 if s=1 then [by8 ((Zhe b).fdiv (2 ^ (min (8:Int).toNat IntKind.u16.bits))),by8 (Zhe b)]
 else [by8 ((Zgn b).fdiv (2 ^ (min (24:Int).toNat IntKind.u32.bits))),by8 ((Zgn b).fdiv (2 ^ (min (16:Int).toNat IntKind.u32.bits))),by8 ((Zgn b).fdiv (2 ^ (min (8:Int).toNat IntKind.u32.bits))),by8 (Zgn b)]
theorem ZoB (s:Nat)(b:List UInt8):(ZhR s b).map E.byte=ZpL s b:=by
 unfold ZhR ZpL
 split<;>simp only[List.map_cons,List.map_nil,Zpn]
theorem ZiT (s:Nat)(b:List UInt8)(hs:s=1\/s=2):(ZhR s b).length=2*s:=by
 unfold ZhR
 rcases hs with rfl|rfl<;>rfl
theorem Zgo:∀ {l r:List It},wfs l->wfs r->wfs (l++r)
 | [],r,_,h=>h
 | x::l,r,h1,h2=>⟨h1.1,Zgo h1.2 h2⟩
theorem Znn {s:Nat}{l:List It}(hs:s=1\/s=2)(hws:wfs l)(hl:l.length<=1000000):wfI (ZbF s l):=by
 refine⟨by decide,by simp,by simp;omega,Zgo hws ⟨⟨by decide,?_,by simp,trivial⟩,trivial⟩⟩
 rcases hs with rfl|rfl<;>decide
theorem Zf1 [Known](s:Nat)(hs:s=1\/s=2):AP Tryz.prog 142 [.int .i64 (s:Int)] (.int .i64 ((2*s:Nat):Int)) []:=by
 rcases hs with rfl|rfl
 all_goals
  refine AP.ofA ?_
  refine Zan Tryz.func142 rfl Tryz.ntmps142 rfl rfl ?_
  repeat'(first|(apply Zah Zab;exact Z))
  all_goals(apply Zaz [];(apply Zad Zab;exact Z);(iterate 4 exact Z))
  all_goals rfl
theorem ZiU [Known][KnownU8](l:List It)(s:Nat)(hs:s=1\/s=2)(hne:l ≠ [])(hws:wfs l)(hl:l.length<=1000000)(hlim:(Za6 (ZbF s l)).length<=1000000000) :
  AP Tryz.prog 141 [.sl .ext (ZaC l),.int .i64 (s:Int)] (match ZaM (ZbF s l) with|true=>.tup [byE (ZhR s (Za6 (ZbF s l))),.int .i64 0]|false=>.tup [.sl .ext [],.int .i64 3]) []:=by
 have hwz:=Znn hs hws hl
 have hC:=ZkL l hne hl
 have hW:=Zg4 (ZbF s l) hwz (by omega) (Zb5 _ hwz)
 have hU:=Zcd l
 have hlen:=Zas l
 have hmx:(ZaC l).length<=1000000:=by omega
 have hZ:=Zf1 s hs
 have hB:=ZeQ (List.replicate (2*s) 0) (by rcases hs with rfl|rfl<;>decide)
 have hL:=Zdc (l++[.mk 2 0 (List.replicate (2*s) 0) []]) (by simp;omega) hwz.2.2.2
 have hSh:=ZlW (Za6 (ZbF s l)) hlim
 have hLo:=Znm (Za6 (ZbF s l)) hlim
 rw[Zcj]at hL
 have eZ:itD (.mk 4 0 [] (l++[.mk 2 0 (List.replicate (2*s) 0) []]))=itD (ZbF s l):=rfl
 rw[eZ]at hL
 unfold byE
 rw[ZoB]
 rw[<- hlen]at hC
 cases hr:ZaM (ZbF s l) with
 | false=>
  rw[hr]at hW
  replace hW:AP Tryz.prog 112 [itD (ZbF s l)] (.tup [.sl .ext [],.int .i64 3]) []:=hW
  have eL:itD (ZbF s l)=.agg [.int .i64 4,.int .u64 0,.sl .ext [],.sl .ext (ZaC (l++[.mk 2 0 (List.replicate (2*s) 0) []]))]:=rfl
  rw[eL]at hL hW
  generalize ZaC (l++[.mk 2 0 (List.replicate (2*s) 0) []])=ZL at *
  clear hSh hLo hlim hwz eZ eL
  rcases hs with rfl|rfl
  all_goals
   refine AP.ofA ?_
   refine Zan Tryz.func141 rfl Tryz.ntmps141 rfl rfl ?_
   repeat'(first|(apply ZaS [] [] (hC);kernel_rfl;(iterate 10 exact Z))|(apply Zaa (hZ);kernel_rfl;(iterate 4 exact Z))|(apply ZeP Zab (l:=2);(iterate 12 exact Z))|(apply ZeP Zab (l:=4);(iterate 12 exact Z))|(apply Zaa (hB);kernel_rfl;(iterate 4 exact Z))|(apply Zaa (hL);kernel_rfl;(iterate 4 exact Z))|(apply Zaa (hW);kernel_rfl;(iterate 4 exact Z))|(apply Zai Zab;exact Z)|(apply Zah Zab;exact Z)|(apply Zaw Zab;exact Z)|(apply Zac;exact Z;exact Go.Zqy)|(apply ZaR Zab;(iterate 12 exact Z))|(apply ZaI Zab;(iterate 6 exact Z);(first|with_reducible assumption|decide +kernel|exact Z|rotate_left);exact Z;exact Z;(first|exact Zak rfl|with_reducible assumption|decide +kernel|rotate_left);(first|exact Zak rfl|with_reducible assumption|decide +kernel|rotate_left);(first|exact Go.Zqy|rotate_left);(first|exact Go.Zqy|rotate_left);(first|exact Go.Zqy|rotate_left);exact Z;exact Z))
   all_goals first|((apply Zaz [];(apply Zad Zab;exact Z);(iterate 4 exact Z)))|skip
   all_goals first|rfl|(first|rfl|(simp only[List.length_append,List.length_cons,List.length_nil,List.length_map,Zas];done)|(simp only[List.length_append,List.length_cons,List.length_nil,List.length_map,Zas]at *;(try unfold maxLen);(try simp only[Nat.add_mul]);omega))|(simp;done)|(simp;omega)|(simp;unfold maxLen;omega)
 | true=>
  rw[hr]at hW
  replace hW:AP Tryz.prog 112 [itD (ZbF s l)] (.tup [byE (Za6 (ZbF s l)),.int .i64 0]) []:=hW
  have eL:itD (ZbF s l)=.agg [.int .i64 4,.int .u64 0,.sl .ext [],.sl .ext (ZaC (l++[.mk 2 0 (List.replicate (2*s) 0) []]))]:=rfl
  rw[eL]at hL hW
  generalize ZaC (l++[.mk 2 0 (List.replicate (2*s) 0) []])=ZL at *
  generalize Za6 (ZbF s l)=PZ at *
  clear hlim hwz eZ eL hr
  rcases hs with rfl|rfl
  all_goals
   refine AP.ofA ?_
   refine Zan Tryz.func141 rfl Tryz.ntmps141 rfl rfl ?_
   repeat'(first|(apply ZaS [] [] (hC);kernel_rfl;(iterate 10 exact Z))|(apply Zaa (hZ);kernel_rfl;(iterate 4 exact Z))|(apply ZeP Zab (l:=2);(iterate 12 exact Z))|(apply ZeP Zab (l:=4);(iterate 12 exact Z))|(apply Zaa (hB);kernel_rfl;(iterate 4 exact Z))|(apply Zaa (hL);kernel_rfl;(iterate 4 exact Z))|(apply Zaa (hW);kernel_rfl;(iterate 4 exact Z))|(apply Zaa (hSh);kernel_rfl;(iterate 4 exact Z))|(apply Zaa (hLo);kernel_rfl;(iterate 4 exact Z))|(apply Zai Zab;exact Z)|(apply Zah Zab;exact Z)|(apply Zac;exact Z;exact Go.Zqy)|(apply Zaf;exact Z;exact Go.Zqy)|(apply ZaR Zab;(iterate 12 exact Z))|(apply ZaI Zab;(iterate 6 exact Z);(first|with_reducible assumption|decide +kernel|exact Z|rotate_left);exact Z;exact Z;(first|exact Zak rfl|with_reducible assumption|decide +kernel|rotate_left);(first|exact Zak rfl|with_reducible assumption|decide +kernel|rotate_left);(first|exact Go.Zqy|rotate_left);(first|exact Go.Zqy|rotate_left);(first|exact Go.Zqy|rotate_left);exact Z;exact Z)|(apply Zbz;exact Z;exact Z;(first|exact Go.Zqy|rotate_left);exact Z))
   all_goals first|((apply Zaz [];(apply Zad Zab;exact Z);(iterate 4 exact Z)))|skip
   all_goals first|rfl|(first|rfl|(simp only[List.length_append,List.length_cons,List.length_nil,List.length_map,Zas];done)|(simp only[List.length_append,List.length_cons,List.length_nil,List.length_map,Zas]at *;(try unfold maxLen);(try simp only[Nat.add_mul]);omega))|(simp;done)|(simp;omega)|(simp;unfold maxLen;omega)
end Go.Proofs.YtakblclkflnnpaaGreatDoor
end

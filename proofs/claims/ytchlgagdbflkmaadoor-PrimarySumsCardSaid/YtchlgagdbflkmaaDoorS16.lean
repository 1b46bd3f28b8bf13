/- Package primary: a list's items looked at; the type that a list says. -/
import Derived.Test.YtchlgagdbflkmaaDoorS12
import Derived.Test.YtchlgagdbflkmaaDoorS15
import Derived.Test.YtchlgagdbflkmaaDoorS11
import Derived.Test.YtchlgagdbflkmaaDoorS08
import Derived.Laws.RangeAny
import Derived.LoopTactic
import Derived.Test.YtchlgagdbflkmaaDoorS10
set_option linter.unusedVariables false
set_option linter.unusedSimpArgs false
section
open Go.RowKit Go.Pl Go.Av
namespace Go.Proofs.YtchlgagdbflkmaaDoor
set_option maxHeartbeats 4000000
theorem K6 [Known](l:List It)(hne:l ≠ [])(hl:l.length<=1000000):AT Tryd.prog 30 [.sl .ext (Zh l)] [] [] (.sl (.own 0) (Zh l)) [] [⟨l.length,4,27⟩]:=by
 have hU:=Yb l
 have hlen:=Zl l
 rw[<- hlen]
 rw[<- hlen]at hl
 have hE:Zh l ≠ []:=fun h=>hne (by rw[h]at hlen;exact List.length_eq_zero_iff.1 hlen.symm)
 refine Zm Tryd.func30 rfl Tryd.ntmps30 rfl rfl ?_
 repeat'(first|(apply U0 Za;(iterate 5 exact Z);intro b hbn;(have hbn2:=hbn hE);subst hbn2;clear hbn)|refine Zj Za Z ?_|refine Zg Za Z ?_|refine Zv Za Z ?_|(apply Ze;exact Z;(first|with_reducible assumption|(solve|simp only[bn])))|refine Q3 Za Z Z Z Z Z Z Z Z Z Z Z Z ?_|(apply ZS Za;(iterate 6 exact Z);(first|with_reducible assumption|exact Z|rotate_left);exact Z;exact Z;(first|exact Zf rfl|with_reducible assumption|rotate_left);(first|exact Zf rfl|with_reducible assumption|rotate_left);(first|exact Qb|rotate_left);(first|exact Qb|rotate_left);(first|exact Qb|rotate_left);exact Z;exact Z))
 all_goals first|(apply Vf [] [0];(apply Zc Za;exact Z);(iterate 7 exact Z))|skip
 all_goals first|rfl|(simp at hl ⊢;(try unfold maxLen);omega)|(simp at hl ⊢;done)
theorem O5 [Known][KnownU8](x:It)(hw:wfI x):AP Tryd.prog 11 [itD x] (.bool (!ZB x)) []:=by
 have hR:=YF x hw
 obtain⟨k,n,b,l⟩:=x
 refine AP.ofA (Zm Tryd.func11 Z Tryd.ntmps11 Z Z ?_)
 repeat'(first|refine Zb hR Qk Z Z Z Z ?_|refine Zj Za Z ?_|refine Zg Za Z ?_)
 all_goals exact Qe
def fiI:List It->Nat->Int
 | [],_ => -1
 | x::l,i=>match ZB x with|true=>fiI l (i+1)|false=>(i:Int)
theorem O6:∀(l:List It) (i:Nat),decide (fiI l i ≥ 0) = !(l.all ZB)
 | [],_=>rfl
 | x::l,i=>by
  rw[fiI,List.all_cons]
  cases ZB x with
  | true=>simpa using O6 l (i+1)
  | false=>simp
theorem Gb [Known][KnownU8](l:List It)(hws:wfs l)(hl:l.length<=1000000):AP Tryd.prog 27 [.sl .ext (Zh l),.fn 11 []] (.int .i64 (fiI l 0)) []:=by
 have hlen:=Zl l
 have hU:=Yb l
 generalize hfin:fiI l 0=fin
 refine AP.ofA (Zm Tryd.func27 Z Tryd.ntmps27 Z Z ?_)
 repeat'(first|refine Zj Za Z ?_|refine Zg Za Z ?_|refine Zn Za Z Z Z Z ?_)
 refine ZT (fun f tm bx fr=>∃(i:Nat),f+i=l.length/\fiI (l.drop i) i=fin/\tm=[(0,.sl .ext (Zh l)),(1,.fn 11 []),(4,.int .i64 0),(7,.int .i64 ((Zh l).length:Int)),(8,.int .i64 (i:Int))]/\bx=[]/\fr=[]) (l.length+1) (Lands.mk' (m:=l.length) (Nat.lt_succ_self _) ⟨0,by omega,hfin,rfl,rfl,rfl⟩ ?_ rfl rfl rfl rfl rfl rfl) ?_
 ·exact .cons rfl (.cons rfl (.cons rfl (.cons rfl (.cons rfl .nil))))
 rintro f tm bx fr ⟨i,hf,hq,rfl,rfl,rfl⟩
 rcases Nat.lt_or_ge i l.length with hlt|hge
 ·have hdl:decide ((i:Int)<((Zh l).length:Int))=true:=decide_eq_true (by omega)
  obtain⟨⟨k1,n1,b1,l1⟩,hy⟩:∃ y,l[i]?=some y:=⟨_,List.getElem?_eq_getElem hlt⟩
  have hv:(Zh l)[((i:Nat):Int).toNat]?=some (.agg [.int .i64 k1,.int .u64 (n1:Int),.sl (b1.map E.byte),.sl (Zh l1)]):=by
   rw[Int.toNat_natCast,ZD,List.getElem?_map,hy];rfl
  have hc:=O5 _ (ZX hws _ (List.mem_of_getElem? hy))
  have hdr:l.drop i=It.mk k1 n1 b1 l1::l.drop (i+1):=by
   rw[List.drop_eq_getElem_cons hlt];congr 1
   exact(List.getElem?_eq_some_iff.1 hy).2
  rw[hdr,fiI]at hq
  have ei:IntKind.i64.wrap ((i:Int)+1)=((i+1:Nat):Int):=by rw[IntWalk.i64_in _ (by omega)];omega
  cases hb:ZB (.mk k1 n1 b1 l1) with
  | true=>
   rw[hb]at hq hc
   replace hc:AP Tryd.prog _ _ (.bool false) []:=hc
   repeat'(first|rw[ei]|refine VI hc Z Qk Z Z Z ?_|refine Zj Za Z ?_|refine Zg Za Z ?_|refine Zv Za Z ?_|refine Zd Z Qt ?_|refine Ze Z Qt ?_|(apply Zs Za;(iterate 6 exact Z);(first|exact Qt|rotate_left);(first|with_reducible assumption|decide +kernel|exact Z);(first|exact Zf rfl|with_reducible assumption|decide +kernel|rotate_left)))
   refine Lands.mk' (m:=f-1) (by omega) ⟨i+1,by omega,hq,rfl,rfl,rfl⟩ ?_ rfl rfl rfl rfl rfl rfl
   exact .cons rfl (.cons rfl (.cons rfl (.cons rfl (.cons rfl .nil))))
  | false=>
   rw[hb]at hq hc
   replace hc:AP Tryd.prog _ _ (.bool true) []:=hc
   have hq:(i:Int)=fin:=hq
   subst hq
   repeat'(first|refine VI hc Z Qk Z Z Z ?_|refine Zj Za Z ?_|refine Zg Za Z ?_|refine Zv Za Z ?_|refine Zd Z Qt ?_|refine V2 ?_|(apply Zs Za;(iterate 6 exact Z);(first|exact Qt|rotate_left);(first|with_reducible assumption|decide +kernel|exact Z);(first|exact Zf rfl|with_reducible assumption|decide +kernel|rotate_left)))
   all_goals exact Qe
 ·have hdl:decide ((i:Int)<((Zh l).length:Int))=false:=decide_eq_false (by omega)
  rw[List.drop_eq_nil_of_le hge]at hq
  have hq:(-1:Int)=fin:=hq
  subst hq
  repeat'(first|refine Zg Za Z ?_|refine Ze Z Qt ?_)
  all_goals exact Qe
theorem Qn [Known][KnownU8](l:List It)(hws:wfs l)(hl:l.length<=1000000):AP Tryd.prog 14 [.sl .ext (Zh l),.fn 11 []] (.bool (!(l.all ZB))) []:=by
 have hI:=Gb l hws hl
 rw[<- O6 l 0]
 refine AP.ofA (Zm Tryd.func14 Z Tryd.ntmps14 Z Z ?_)
 repeat'(first|refine Zb hI Qk Z Z Z Z ?_|refine Zj Za Z ?_|refine Zg Za Z ?_)
 all_goals exact Qe
def Yp (l:List It)(a:Int):Int:=if a<0 then -1 else match l[a.toNat]? with
 | none => -1
 | some (.mk k n b r)=>match decide ((n:Int)>2) with
  | true => -1
  | false=>match It.beq (.mk k n b r) (.mk 0 n [] []) with
   | true=>(n:Int)
   | false => -1
theorem VK [Known](l:List It)(hws:wfs l)(a:Int):AP Tryd.prog 13 [.sl .ext (Zh l),.int .i64 a] (.int .i64 (Yp l a)) []:=by
 have hlen:=Zl l
 have hU:=Yb l
 unfold Yp
 rcases Int.lt_or_le a 0 with h0|h0
 ·have t1:decide (a<0)=true:=decide_eq_true h0
  rw[if_pos h0]
  refine AP.ofA (Zm Tryd.func13 Z Tryd.ntmps13 Z Z ?_)
  repeat'(first|refine Zj Za Z ?_|refine Zg Za Z ?_|refine Zv Za Z ?_|refine Zw Z Z Z Qt ?_|refine Zp Z Qt Z Z ?_|refine Zd Z Qt ?_|(apply Zo 27 ZG;decide +kernel;kernel_rfl;kernel_rfl;kernel_rfl;exact Z;exact Z)|(apply Zr;(iterate 4 exact Z))|exact AE.nil _ _ _ _|(apply Zt;exact Z)|(apply Zx;exact Z;exact Z;decide +kernel;exact Z)|(apply Zz;exact Z)|exact AO.nil _ _ _|(apply Zq;(decide +kernel))|exact AOs.nil|exact ZM rfl rfl)
  all_goals exact Qe
 have t1:decide (a<0)=false:=decide_eq_false (by omega)
 rw[if_neg (by omega)]
 rcases Int.lt_or_le a l.length with h1|h1
 case inr=>
  have t2:decide (a ≥ ((Zh l).length:Int))=true:=decide_eq_true (by omega)
  rw[List.getElem?_eq_none (by omega)]
  refine AP.ofA (Zm Tryd.func13 Z Tryd.ntmps13 Z Z ?_)
  repeat'(first|refine Zj Za Z ?_|refine Zg Za Z ?_|refine Zv Za Z ?_|refine Zi Z Z Z Qt ?_|refine Zw Z Z Z Qt ?_|refine Zp Z Qt Z Z ?_|refine Zk Z Qt Z Z ?_|refine Zd Z Qt ?_|refine Zn Za Z Z Z Z ?_|(apply Zo 27 ZG;decide +kernel;kernel_rfl;kernel_rfl;kernel_rfl;exact Z;exact Z)|(apply Zr;(iterate 4 exact Z))|exact AE.nil _ _ _ _|(apply Zt;exact Z)|(apply Zx;exact Z;exact Z;decide +kernel;exact Z)|(apply Zz;exact Z)|exact AO.nil _ _ _|(apply Zq;(decide +kernel))|exact AOs.nil|exact ZM rfl rfl)
  all_goals exact Qe
 have t2:decide (a ≥ ((Zh l).length:Int))=false:=decide_eq_false (by omega)
 obtain⟨⟨k,n,b,l1⟩,hy⟩:∃ y,l[a.toNat]?=some y:=⟨_,List.getElem?_eq_getElem (by omega)⟩
 have hv:(Zh l)[a.toNat]?=some (.agg [.int .i64 k,.int .u64 (n:Int),.sl (b.map E.byte),.sl (Zh l1)]):=by
  rw[ZD,List.getElem?_map,hy];rfl
 have hw:=ZX hws _ (List.mem_of_getElem? hy)
 have hS:=Ue (.mk k n b l1) hw (.mk 0 n [] []) (by obtain⟨h1,_⟩:=hw;exact⟨h1,by simp,by simp,trivial⟩)
 have hN:=Yy n
 rw[hy]
 dsimp only
 cases t3:decide ((n:Int)>2) with
 | true=>
  refine AP.ofA (Zm Tryd.func13 Z Tryd.ntmps13 Z Z ?_)
  repeat'(first|refine Zj Za Z ?_|refine Zg Za Z ?_|refine Zv Za Z ?_|refine Zi Z Z Z Qt ?_|refine Zw Z Z Z Qt ?_|refine Zp Z Qt Z Z ?_|refine Zk Z Qt Z Z ?_|refine Zd Z Qt ?_|refine Zn Za Z Z Z Z ?_|(apply Zo 27 ZG;decide +kernel;kernel_rfl;kernel_rfl;kernel_rfl;exact Z;exact Z)|(apply Zr;(iterate 4 exact Z))|exact AE.nil _ _ _ _|(apply Zt;exact Z)|(apply Zx;exact Z;exact Z;decide +kernel;exact Z)|(apply Zz;exact Z)|exact AO.nil _ _ _|(apply Zq;(decide +kernel))|exact AOs.nil|exact ZM rfl rfl|(apply Zs Za;(iterate 6 exact Z);(first|exact Qt|rotate_left);(first|with_reducible assumption|decide +kernel|exact Z);(first|exact Zf rfl|with_reducible assumption|decide +kernel|rotate_left)))
  all_goals exact Qe
 | false=>
  have en:IntKind.i64.wrap (n:Int)=(n:Int):=IntWalk.i64_in _ (by simp at t3;omega)
  cases t4:It.beq (.mk k n b l1) (.mk 0 n [] []) with
  | true=>
   rw[t4]at hS
   refine AP.ofA (Zm Tryd.func13 Z Tryd.ntmps13 Z Z ?_)
   repeat'(first|refine Zb hN Qk Z Z Z Z ?_|refine Zb hS Qk Z Z Z Z ?_|rw[en]|refine Zj Za Z ?_|refine Zg Za Z ?_|refine Zv Za Z ?_|refine Zi Z Z Z Qt ?_|refine Zk Z Qt Z Z ?_|refine Ze Z Qt ?_|refine Zn Za Z Z Z Z ?_|(apply Zo 27 ZG;decide +kernel;kernel_rfl;kernel_rfl;kernel_rfl;exact Z;exact Z)|(apply Zr;(iterate 4 exact Z))|exact AE.nil _ _ _ _|(apply Zt;exact Z)|(apply Zx;exact Z;exact Z;decide +kernel;exact Z)|(apply Zz;exact Z)|exact AO.nil _ _ _|(apply Zq;(decide +kernel))|exact AOs.nil|exact ZM rfl rfl|(apply Zs Za;(iterate 6 exact Z);(first|exact Qt|rotate_left);(first|with_reducible assumption|decide +kernel|exact Z);(first|exact Zf rfl|with_reducible assumption|decide +kernel|rotate_left)))
   all_goals exact Qe
  | false=>
   rw[t4]at hS
   refine AP.ofA (Zm Tryd.func13 Z Tryd.ntmps13 Z Z ?_)
   repeat'(first|refine Zb hN Qk Z Z Z Z ?_|refine Zb hS Qk Z Z Z Z ?_|refine Zj Za Z ?_|refine Zg Za Z ?_|refine Zv Za Z ?_|refine Zi Z Z Z Qt ?_|refine Zk Z Qt Z Z ?_|refine Zd Z Qt ?_|refine Zn Za Z Z Z Z ?_|(apply Zo 27 ZG;decide +kernel;kernel_rfl;kernel_rfl;kernel_rfl;exact Z;exact Z)|(apply Zr;(iterate 4 exact Z))|exact AE.nil _ _ _ _|(apply Zt;exact Z)|(apply Zx;exact Z;exact Z;decide +kernel;exact Z)|(apply Zz;exact Z)|exact AO.nil _ _ _|(apply Zq;(decide +kernel))|exact AOs.nil|exact ZM rfl rfl|(apply Zs Za;(iterate 6 exact Z);(first|exact Qt|rotate_left);(first|with_reducible assumption|decide +kernel|exact Z);(first|exact Zf rfl|with_reducible assumption|decide +kernel|rotate_left)))
   all_goals exact Qe
def okB (m:Nat)(c:UInt8):Bool:=(97<=c.toNat&&c.toNat<=122)||(48<=c.toNat&&c.toNat<=57)||c.toNat==45||c.toNat==m
theorem Qo {m:Nat}{c:UInt8}:okB m c=true ↔ (97<=(c.toNat:Int)/\(c.toNat:Int)<=122)\/(48<=(c.toNat:Int)/\(c.toNat:Int)<=57)\/(c.toNat:Int)=45\/(c.toNat:Int)=(m:Int):=by
 simp only[okB,Bool.or_eq_true,Bool.and_eq_true,decide_eq_true_eq,beq_iff_eq]
 omega
theorem X0 (s:ByteArray)(m:Nat)(hm:m<128)(w:World)(B:Bool)(hB:s.data.toList.all (okB m)=B) :
  Calls Tryd.prog 44 #[.string s,.int .i32 (m:Int)] w fun e w'=>e=.returned (.bool B)/\Below w.heap.size w w':=by
 have hT:(∀ j,j<s.size->∀ c,s.data.toList[j]?=some c->okB m c=true)->B=true:=fun h=>by
  rw[<- hB,List.all_eq_true]
  intro x hx
  obtain⟨j,hj⟩:=List.getElem?_of_mem hx
  have hlt:=(List.getElem?_eq_some_iff.1 hj).1
  exact h j (by simpa using hlt) x hj
 have hF:∀(j:Nat) (c:UInt8),s.data.toList[j]?=some c->¬ okB m c=true->B=false:=fun j c hj hc=>by
  rw[<- hB,List.all_eq_false]
  exact⟨c,List.mem_of_getElem? hj,hc⟩
 clear hB
 go_enter Tryd.func44,Tryd.ntmps44
 go_wp2
 go_loopw [] (fun w'=>∃ pos,w'=w.iter s pos/\pos<=s.size/\Hid (∀ j,j<pos->∀ c,s.data.toList[j]?=some c->okB m c=true)) (fun w'=>s.size-w'.iterPos w.heap.size)
 case atStart=>exact⟨0,rfl,Nat.zero_le _,fun j hj=>by omega⟩
 case round=>
  obtain⟨pos,rfl,hps,hall⟩:=hrel
  have hb:∀ p,Below w.heap.size w (w.iter s p):=fun p=>(Below.refl _ _).alloc (Nat.le_refl _) _
  by_cases hp:pos<s.size
  ·have hget:s.data.toList[pos]?=some (s[pos]'hp):=by
    have hlt:pos<s.data.toList.length:=by simpa using hp
    rw[List.getElem?_eq_getElem hlt];rfl
   by_cases ha:(s[pos]'hp).toNat<128
   ·obtain⟨c,hc⟩:∃ c,c=s[pos]'hp:=⟨_,rfl⟩
    have hnx:∀ ty,(Instr.next (.pointer (some ⟨w.heap.size,0,none⟩)) true ty).run Tryd.prog (w.iter s pos)=.ok (.tuple #[.bool true,.int .i64 pos,.int .i32 (c.toNat:Int)]) (w.iter s (pos+1)):=fun ty=>by
     rw[hc];exact run_next_ascii w s pos ty hp ha
    rw[<- hc]at hget ha
    clear hc
    have hbad:=hid (hF pos c hget)
    have hstep:Hid (okB m c=true->∀ j,j<pos+1->∀ c,s.data.toList[j]?=some c->okB m c=true):=fun hc j hj c' hj'=>by
     rcases Nat.lt_or_ge j pos with h|h
     ·exact hall j h c' hj'
     ·have:j=pos:=by omega
      subst this
      rw[hget]at hj'
      injection hj' with hj'
      subst hj'
      exact hc
    clear hT hF hget
    go_wp2
    all_goals first
     | (go_ret
        have hBf:=hbad (fun h=>by rw[Qo]at h;clear hbad hstep hnx;(try simp only[bne_iff_ne,ne_eq,bne_eq_false_iff_eq]at *);omega)
        subst hBf
        exact⟨rfl,hb _⟩)
     | (refine⟨⟨pos+1,rfl,by omega,hstep ?_⟩,?_⟩
        ·rw[Qo]
         clear hbad hstep hnx
         try simp only[bne_iff_ne,ne_eq,bne_eq_false_iff_eq]at *
         omega
        ·simp;omega)
   ·obtain⟨hd1,hd2⟩:=decode_high s pos hp (by omega)
    have hle:=decode_le s pos
    have hnx:∀ ty,(Instr.next (.pointer (some ⟨w.heap.size,0,none⟩)) true ty).run Tryd.prog (w.iter s pos)=_:=fun ty=>run_next_any w s pos ty hp
    have hBf:=hF pos _ hget (fun h=>by rw[Qo]at h;omega)
    clear hT hF hget
    subst hBf
    generalize Utf8.decode s pos=dd at hd1 hd2 hle hnx
    have n1:¬ ((dd.1:Int)<97):=by omega
    have n2:((dd.1:Int)>122):=by omega
    have n3:¬ ((dd.1:Int)<48):=by omega
    have n4:((dd.1:Int)>57):=by omega
    have n5:¬ ((dd.1:Int)=45):=by omega
    have n6:¬ ((dd.1:Int)=(m:Int)):=by omega
    go_wp2
    all_goals first
     | (go_ret;exact⟨rfl,hb _⟩)
     | (exfalso;clear hnx hb hall;(try simp only[bne_iff_ne,ne_eq,bne_eq_false_iff_eq]at *);omega)
  ·have hnx:∀ ty,(Instr.next (.pointer (some ⟨w.heap.size,0,none⟩)) true ty).run Tryd.prog (w.iter s pos)=_:=fun ty=>run_next_end w s pos ty hp
   have hBt:=hT (fun j hj=>hall j (by omega))
   subst hBt
   go_wp2
   go_ret
   exact⟨rfl,hb _⟩
theorem Xc [Known](s:List UInt8)(m:Nat)(hm:m<128):AP Tryd.prog 44 [.str s,.int .i32 (m:Int)] (.bool (s.all (okB m))) []:=by
 refine⟨fun g w vs hmem hl hv=>?_⟩
 obtain⟨v0,v1,rfl⟩:∃ v0 v1,vs=[v0,v1]:=by
  match vs,hl with
  | [v0,v1],_=>exact⟨v0,v1,rfl⟩
 have h0:=(hv 0 _ _ rfl rfl).str_inv.1
 have h1:=(hv 1 _ _ rfl rfl).int_inv
 subst h0 h1
 exact(X0 ⟨s.toArray⟩ m hm w _ rfl).mono fun e w' ⟨he,hb⟩=>JX hmem hb he (.bool _)
structure EidV where
 i:Bool
 n:Nat
 s:Nat
 h:List UInt8
 d:List UInt8
 deriving DecidableEq
abbrev eC (x:EidV):List D:=[.bool x.i,.int .u64 (x.n:Int),.int .u64 (x.s:Int),.str x.h,.str x.d]
def YJ:EidV:=⟨false,0,0,[],[]⟩
def isZ (x:EidV):Bool:=x.i==false&&((x.n:Int)==0&&((x.s:Int)==0&&(x.h==[]&&(x.d==[]&&true))))
def Ye (x:EidV):Bool:=
 if isZ x then true
 else if x.i then(x.i==true&&((x.n:Int)==(x.n:Int)&&((x.s:Int)==(x.s:Int)&&(x.h==[]&&(x.d==[]&&true)))))&&decide ((x.n:Int) ≥ 1)&&decide ((x.n:Int)<=4294967295)&&decide ((x.s:Int)<=4294967295)
 else(x.i==false&&((x.n:Int)==0&&((x.s:Int)==0&&(x.h==x.h&&(x.d==x.d&&true)))))&&decide ((x.h.length:Int) ≥ 1)&&decide ((x.h.length:Int)<=16)&&decide ((x.d.length:Int)<=24)&&x.h.all (okB 45)&&x.d.all (okB 47)
theorem O7 {x:EidV}(h:isZ x=true):Ye x=true:=by unfold Ye;rw[if_pos h]
theorem Xd {x:EidV}(h:isZ x=false)(hi:x.i=true):Ye x=((x.i==true&&((x.n:Int)==(x.n:Int)&&((x.s:Int)==(x.s:Int)&&(x.h==[]&&(x.d==[]&&true)))))&&decide ((x.n:Int) ≥ 1)&&decide ((x.n:Int)<=4294967295)&&decide ((x.s:Int)<=4294967295)):=by
 unfold Ye;rw[if_neg (by rw[h];decide),if_pos hi]
theorem Xe {x:EidV}(h:isZ x=false)(hi:x.i=false):Ye x=((x.i==false&&((x.n:Int)==0&&((x.s:Int)==0&&(x.h==x.h&&(x.d==x.d&&true)))))&&decide ((x.h.length:Int) ≥ 1)&&decide ((x.h.length:Int)<=16)&&decide ((x.d.length:Int)<=24)&&x.h.all (okB 45)&&x.d.all (okB 47)):=by
 unfold Ye;rw[if_neg (by rw[h];decide),if_neg (by rw[hi];decide)]
theorem Wu [Known](x:EidV):AP Tryd.prog 35 [.agg (eC x)] (.bool (Ye x)) []:=by
 refine AP.ofA (Zm Tryd.func35 Z Tryd.ntmps35 Z Z ?_)
 cases hz:isZ x with
 | true=>
  rw[O7 hz]
  unfold isZ at hz
  repeat'(first|refine Zj Za Z ?_|refine Zg Za Z ?_|refine Zv Za Z ?_|(apply Zd;exact Z;(first|with_reducible assumption|(solve|simp only[bn])))|refine Vl Za Z Z Z Z Qk Qk Z Z Z ?_)
  (apply Zu [];(apply Zc Za;exact Z);(iterate 4 exact Z))
  all_goals rfl
 | false=>
  cases hi:x.i with
  | true=>
   rw[Xd hz hi]
   unfold isZ at hz
   repeat'(first|refine Zj Za Z ?_|refine Zg Za Z ?_|refine Zv Za Z ?_|(apply Zi;(iterate 3 exact Z);(first|with_reducible assumption|(solve|simp only[bn])))|(apply ZE;(iterate 3 exact Z);(first|with_reducible assumption|(solve|simp only[bn])))|(apply WP;exact Z;exact Z;all_goals intro hb)|(apply Zp;exact Z;(first|with_reducible assumption|(solve|simp only[bn]));exact Z;exact Z)|(apply Zk;exact Z;(first|with_reducible assumption|(solve|simp only[bn]));exact Z;exact Z)|(apply Zd;exact Z;(first|with_reducible assumption|(solve|simp only[bn])))|(apply Ze;exact Z;(first|with_reducible assumption|(solve|simp only[bn])))|refine Vl Za Z Z Z Z Qk Qk Z Z Z ?_)
   all_goals(apply Zu [];(apply Zc Za;exact Z);(iterate 4 exact Z))
   all_goals first|rfl|(clear hi hz;simp only[*];done)|(clear hi hz;simp only[*];simp only[Bool.and_true,Bool.true_and,Bool.and_false,Bool.false_and];done)
  | false=>
   rw[Xe hz hi]
   unfold isZ at hz
   repeat'(first|refine Zb (Xc x.h 45 (by decide)) Qk Z Z Z Z ?_|refine Zb (Xc x.d 47 (by decide)) Qk Z Z Z Z ?_|refine Zj Za Z ?_|refine Zg Za Z ?_|refine Zv Za Z ?_|(apply Zi;(iterate 3 exact Z);(first|with_reducible assumption|(solve|simp only[bn])))|(apply ZE;(iterate 3 exact Z);(first|with_reducible assumption|(solve|simp only[bn])))|(apply WP;exact Z;exact Z;all_goals intro hb)|(apply Zp;exact Z;(first|with_reducible assumption|(solve|simp only[bn]));exact Z;exact Z)|(apply Zk;exact Z;(first|with_reducible assumption|(solve|simp only[bn]));exact Z;exact Z)|(apply Ze;exact Z;(first|with_reducible assumption|(solve|simp only[bn])))|refine WY Za Z Z Z Z ?_|refine Vl Za Z Z Z Z Qk Qk Z Z Z ?_)
   all_goals(apply Zu [];(apply Zc Za;exact Z);(iterate 4 exact Z))
   all_goals first|rfl|(clear hi hz;simp only[*];done)|(clear hi hz;simp only[*];simp only[Bool.and_true,Bool.true_and,Bool.and_false,Bool.false_and];done)
abbrev Hw (s:Int):Int:=s.fdiv (2 ^ (min (Int.toNat 1) IntKind.u32.bits))
def WL (s p:Int):Int:=match(bits .and .u32 s 1==1) with
 | true=>bits .xor .u32 (Hw s) p
 | false=>Hw s
theorem O8 [Known](s p:Int):AP Tryd.prog 56 [.int .u32 s,.int .u32 p] (.int .u32 (WL s p)) []:=by
 unfold WL
 cases t:(bits .and .u32 s 1==1)
 all_goals
  refine AP.ofA (Zm Tryd.func56 Z Tryd.ntmps56 Z Z ?_)
  repeat'(first|refine Zj Za Z ?_|refine Zg Za Z ?_|refine Zd Z Qt ?_|refine Ze Z Qt ?_|(apply Yg;exact Z;exact Z;(first|exact Qt|rotate_left);exact Z))
  all_goals exact Qe
def O9 (s:Int)(c:UInt8)(p:Int):Int:=
 WL (WL (WL (WL (WL (WL (WL (WL (bits .xor .u32 s (IntKind.u32.wrap (c.toNat:Int))) p) p) p) p) p) p) p) p
theorem K7 [Known](s p:Int)(c:UInt8):AP Tryd.prog 49 [.int .u32 s,.int .u8 (c.toNat:Int),.int .u32 p] (.int .u32 (O9 s c p)) []:=by
 refine AP.ofA (Zm Tryd.func49 Z Tryd.ntmps49 Z Z ?_)
 repeat'(first|refine Zb (O8 _ _) Qk Z Z Z Z ?_|refine V9 20 ?_|refine U1 ?_|refine Zj Za Z ?_|refine Zg Za Z ?_|refine Zd Z Qt ?_|refine Ze Z Qt ?_)
 all_goals exact Qe
def K8 (s p:Int)(b:List UInt8):Int:=b.foldl (fun s c=>O9 s c p) s
theorem Ia [Known](s p:Int)(b:List UInt8)(hb:b.length<=1000000000):AP Tryd.prog 43 [.int .u32 s,byE b,.int .u32 p] (.int .u32 (K8 s p b)) []:=by
 have hl:(b.map E.byte).length=b.length:=List.length_map ..
 have hU:=Yo b
 generalize hfin:K8 s p b=fin
 refine AP.ofA (Zm Tryd.func43 Z Tryd.ntmps43 Z Z ?_)
 repeat'(first|refine Zj Za Z ?_|refine Zg Za Z ?_|refine Zn Za Z Z Z Z ?_)
 refine ZT (fun k tm bx fr=>∃(i:Nat) (q:Int) (o:D),k+i=b.length/\K8 q p (b.drop i)=fin/\tm=[(0,.int .u32 q),(1,byE b),(2,.int .u32 p),(6,.int .u32 0),(9,byE b),(10,.int .i64 (b.length:Int)),(11,.int .i64 (i:Int))]/\bx=[]/\fr=[]) (b.length+1) (Lands.mk' (m:=b.length) (Nat.lt_succ_self _) ⟨0,s,.tup [],by omega,hfin,rfl,rfl,rfl⟩ ?_ rfl rfl rfl rfl rfl rfl) ?_
 ·exact .cons rfl (.cons rfl (.cons rfl (.cons rfl (.cons rfl (.cons (by rw[<- hl];rfl) (.cons rfl .nil))))))
 rintro k tm bx fr ⟨i,q,o,hk,hq,rfl,rfl,rfl⟩
 rcases Nat.lt_or_ge i b.length with hlt|hge
 ·have hd:decide ((i:Int)<(b.length:Int))=true:=decide_eq_true (by omega)
  obtain⟨c,hc⟩:∃ c,b[i]?=some c:=⟨_,List.getElem?_eq_getElem hlt⟩
  have hv:(b.map E.byte)[((i:Nat):Int).toNat]?=some (E.byte c):=by
   rw[Int.toNat_natCast,List.getElem?_map,hc];rfl
  have hdr:b.drop i=c::b.drop (i+1):=by
   rw[List.drop_eq_getElem_cons hlt];congr 1
   exact(List.getElem?_eq_some_iff.1 hc).2
  rw[hdr]at hq
  have hq2:K8 (O9 q c p) p (b.drop (i+1))=fin:=hq
  have ei:IntKind.i64.wrap ((i:Int)+1)=((i+1:Nat):Int):=by rw[IntWalk.i64_in _ (by omega)];omega
  repeat'(first|refine Zb (K7 _ _ _) Qk Z Z Z Z ?_|rw[ei]|refine Zj Za Z ?_|refine Zg Za Z ?_|refine Zd Z Qt ?_|(apply Zs Za;(iterate 6 exact Z);(first|exact Qt|rotate_left);(first|with_reducible assumption|decide +kernel|exact Z);(first|exact Zf rfl|with_reducible assumption|decide +kernel|rotate_left)))
  refine Lands.mk' (m:=k-1) (by omega) ⟨i+1,_,.tup [],by omega,hq2,rfl,rfl,rfl⟩ ?_ rfl rfl rfl rfl rfl rfl
  exact .cons rfl (.cons rfl (.cons rfl (.cons rfl (.cons rfl (.cons rfl (.cons rfl .nil))))))
 ·have hd:decide ((i:Int)<(b.length:Int))=false:=decide_eq_false (by omega)
  rw[List.drop_eq_nil_of_le hge]at hq
  have hq:q=fin:=hq
  subst hq
  repeat'(first|refine Zg Za Z ?_|refine Ze Z Qt ?_)
  all_goals exact Qe
def Qp (b:List UInt8):Int:=bits .xor .u16 (if IntKind.u16.signed then -1 else IntKind.u16.max) (IntKind.u16.wrap (K8 65535 33800 b))
def Ug (b:List UInt8):Int:=bits .xor .u32 (if IntKind.u32.signed then -1 else IntKind.u32.max) (K8 4294967295 2197175160 b)
theorem Ib [Known](b:List UInt8)(hb:b.length<=1000000000):AP Tryd.prog 31 [byE b] (.int .u16 (Qp b)) []:=by
 have hR:=Ia 65535 33800 b hb
 refine AP.ofA (Zm Tryd.func31 Z Tryd.ntmps31 Z Z ?_)
 repeat'(first|refine Zb hR Qk Z Z Z Z ?_|refine OT Z Z ?_|refine Zj Za Z ?_|refine Zg Za Z ?_)
 all_goals exact Qe
theorem Gc [Known](b:List UInt8)(hb:b.length<=1000000000):AP Tryd.prog 32 [byE b] (.int .u32 (Ug b)) []:=by
 have hR:=Ia 4294967295 2197175160 b hb
 refine AP.ofA (Zm Tryd.func32 Z Tryd.ntmps32 Z Z ?_)
 repeat'(first|refine Zb hR Qk Z Z Z Z ?_|refine OT Z Z ?_|refine Zj Za Z ?_|refine Zg Za Z ?_)
 all_goals exact Qe
theorem Q8 [Known](n:Nat):AP Tryd.prog 55 [.int .u64 (n:Int)] (.int .i64 (ZN n)) []:=by
 refine Zm Tryd.func55 rfl Tryd.ntmps55 rfl rfl ?_
 repeat'(first|refine Zg Za Z ?_|refine Zv Za Z ?_|(apply WN;exact Z;all_goals intro hb))
 all_goals refine IS (.cons _ _ _ _ (.tmp _ _ rfl) .nil) (Z2 _) rfl ?_ rfl
 all_goals simp only[decide_eq_true_eq,decide_eq_false_iff_not]at *
 all_goals(congr 1;unfold ZN;(repeat' split)<;>omega)
theorem G4 [Known](m:Int):AP Tryd.prog 59 [.int .i64 m] (.bool (QQ m)) []:=by
 refine Zm Tryd.func59 rfl Tryd.ntmps59 rfl rfl ?_
 repeat'(first|refine Zj Za Z ?_|refine Zg Za Z ?_|(apply Zi;(iterate 3 exact Z);(first|with_reducible assumption|(solve|simp only[bn])))|(apply ZE;(iterate 3 exact Z);(first|with_reducible assumption|(solve|simp only[bn])))|(apply Zw;(iterate 3 exact Z);(first|with_reducible assumption|(solve|simp only[bn])))|(apply WP;exact Z;exact Z;all_goals intro hb)|(apply Zp;exact Z;(first|with_reducible assumption|(solve|simp only[bn]));exact Z;exact Z)|(apply Zk;exact Z;(first|with_reducible assumption|(solve|simp only[bn]));exact Z;exact Z))
 all_goals refine IS (.cons _ _ _ _ (.tmp _ _ rfl) .nil) (Z2 _) rfl ?_ rfl
 all_goals(congr 1;rw[Bool.eq_iff_iff];simp[QQ]at *;omega)
def hd (h:Hd):D:=.agg [.int .i64 h.1,.int .u64 (h.2.1:Int),.bool h.2.2]
set_option maxRecDepth 2000 in
theorem Ic [Known](h:Hd):AP Tryd.prog 53 [hd h] (.bool (Z5 h)) []:=by
 refine Zm Tryd.func53 rfl Tryd.ntmps53 rfl rfl ?_
 repeat'(first|refine WO (G4 _) Qk Z Z Z Z ?_|refine Zj Za Z ?_|refine Zg Za Z ?_|(apply Zi;(iterate 3 exact Z);(first|with_reducible assumption|(solve|simp only[bn])))|(apply ZE;(iterate 3 exact Z);(first|with_reducible assumption|(solve|simp only[bn])))|(apply WP;exact Z;exact Z;all_goals intro hb)|(apply Zp;exact Z;(first|with_reducible assumption|(solve|simp only[bn]));exact Z;exact Z)|(apply Zk;exact Z;(first|with_reducible assumption|(solve|simp only[bn]));exact Z;exact Z)|(apply WN;exact Z;all_goals intro hb)|refine Vl Za Z Z Z Z Qk Qk Z Z Z ?_)
 all_goals refine IS (.cons _ _ _ _ (.tmp _ _ rfl) .nil) (Z2 _) rfl ?_ rfl
 all_goals(obtain⟨m,n,o⟩:=h;congr 1;rw[Bool.eq_iff_iff];simp_all [Z5,QQ];try omega)
theorem Gd (n:Nat):(ZN n=0/\Ys n=n/\n<24)\/(ZN n=1/\Ys n=24)\/(ZN n=2/\Ys n=25)\/(ZN n=4/\Ys n=26)\/(ZN n=8/\Ys n=27):=by
 unfold ZN Ys
 by_cases h1:n<24
 ·simp[h1]
 by_cases h2:n<256
 ·simp[h1,h2]
 by_cases h3:n<65536
 ·simp[h1,h2,h3]
 by_cases h4:n<4294967296
 ·simp[h1,h2,h3,h4]
 ·simp[h1,h2,h3,h4]
theorem Ge [Known](n:Nat):AP Tryd.prog 54 [.int .u64 (n:Int)] (.int .u8 (Ys n)) []:=by
 refine Zm Tryd.func54 rfl Tryd.ntmps54 rfl rfl ?_
 repeat'(first|refine WO (Q8 _) Qk Z Z Z Z ?_|refine Zj Za Z ?_|refine Zg Za Z ?_|refine Zv Za Z ?_|(apply WN;exact Z;all_goals intro hb))
 all_goals refine IS (.cons _ _ _ _ (.tmp _ _ rfl) .nil) (Z2 _) rfl ?_ rfl
 all_goals(rcases Gd n with⟨h1,h2,h3⟩ | ⟨h1,h2⟩ | ⟨h1,h2⟩ | ⟨h1,h2⟩ | ⟨h1,h2⟩<;>simp_all)
 all_goals(rw[IntKind.wrap_u8'];omega)
theorem Xf (m:Int)(i:Nat)(hm:0<=m/\m<=7)(hi:i<32):bits .or .u8 (IntKind.u8.wrap (IntKind.u8.wrap m*2 ^ min (Int.toNat 5) IntKind.u8.bits)) (i:Int)=((Wk m.toNat i).toNat:Int):=by
 have e2:IntKind.u8.wrap (IntKind.u8.wrap m*2 ^ min (Int.toNat 5) IntKind.u8.bits)=(m.toNat:Int)*32:=by
  rw[show min (Int.toNat 5) IntKind.u8.bits=5 from rfl,IntKind.wrap_u8',IntKind.wrap_u8'];omega
 rw[e2,HQ m.toNat i (by omega) hi]
 unfold Wk
 rw[UInt8.toNat_ofNat']
 omega
theorem Gf {h:Hd}(hr:Z5 h=true):0<=h.1/\h.1<=7:=by
 obtain⟨m,n,o⟩:=h
 cases o<;>simp[Z5,QQ]at hr<;>omega
theorem Gg (n q:Nat)(hq:q<8):E.int .u8 (IntKind.u8.wrap ((n:Int).fdiv (2 ^ min (IntKind.i64.wrap (8*(q:Int))).toNat IntKind.u64.bits)))=E.byte (UInt8.ofNat (n/256 ^ q)):=by
 have e:IntKind.i64.wrap (8*(q:Int))=((8*q:Nat):Int):=by rw[IntWalk.i64_in _ (by omega)];omega
 rw[e,Int.toNat_natCast,show min (8*q) IntKind.u64.bits=8*q from Nat.min_eq_left (by show 8*q<=64;omega)]
 rw[show((n:Int).fdiv (2 ^ (8*q)))=((n/256 ^ q:Nat):Int) from by
  have e:(2:Int) ^ (8*q)=((256 ^ q:Nat):Int):=by
   rw[show(256:Nat)=2 ^ 8 from rfl,<- Nat.pow_mul]
   simp
  rw[e,Int.fdiv_eq_ediv_of_nonneg _ (Int.natCast_nonneg _),<- Int.natCast_ediv]]
 rw[IntKind.wrap_u8']
 unfold E.byte
 rw[UInt8.toNat_ofNat']
 congr 1
theorem Xg [Known](h:Hd)(hn:h.2.1<18446744073709551616):AP Tryd.prog 48 [hd h] (.tup [byE (if Z5 h then Z6 h else []),.int .i64 (if Z5 h then 0 else 3)]) []:=by
 refine AP.weak ?_
 have HR:=@Gf h
 have HN:=hid hn
 clear hn
 refine Zm Tryd.func48 rfl Tryd.ntmps48 rfl rfl ?_
 repeat'(first|refine WO (Ic h) Qk Z Z Z Z ?_|refine WO (Ge _) Qk Z Z Z Z ?_|refine WO (Q8 _) Qk Z Z Z Z ?_|refine Ou Z Z (by decide) Z ?_|refine Zj Za Z ?_|refine Zg Za Z ?_|refine Zv Za Z ?_|(apply WN;exact Z;all_goals intro hb)|refine Q3 Za Z Z Z Z Z Z Z Z Z Z Z Z ?_|(apply ZQ 7 ZG;decide +kernel;kernel_rfl;kernel_rfl;exact Z;exact Z)|(apply ZW;(iterate 3 exact Z))|refine AD.nil _|exact Yn rfl)
 ·refine GR (.cons _ _ _ _ (.tmp _ _ rfl) (.cons _ _ _ _ (.tmp _ _ rfl) .nil)) rfl ?_
  simp_all [byE]
 ·refine GR (.cons _ _ _ _ (.tmp _ _ rfl) (.cons _ _ _ _ (.tmp _ _ rfl) .nil)) rfl ?_
  have hr:Z5 h=true:=by simpa using(‹(!Z5 h)=false›)
  rw[if_pos hr,if_pos hr,show Z6 h=[Wk h.1.toNat 31] by simp[Z6,hb],show E.int IntKind.u8 (bits .or .u8 (IntKind.u8.wrap (IntKind.u8.wrap h.1*2 ^ min (Int.toNat 5) IntKind.u8.bits)) 31)=E.byte (Wk h.1.toNat 31) from congrArg _ (Xf h.1 31 (HR hr) (by omega))]
  rfl
 rename_i hb1
 have hr:Z5 h=true:=by simpa using hb1
 have hw:Z6 h=Wk h.1.toNat (Ys h.2.1)::beN h.2.1 (ZN h.2.1):=by simp[Z6,hb]
 have hlen:(beN h.2.1 (ZN h.2.1)).length=ZN h.2.1:=Yw _ _
 have hf8:=Qj h.2.1
 refine ZT (fun k tm bx fr=>∃(i c:Nat) (L:List E),k+i=ZN h.2.1/\c=L.length/\c=i+1/\L=((Z6 h).take (i+1)).map E.byte/\tm=[(33,.int .i64 (i:Int)),(32,.int .i64 (ZN h.2.1:Int)),(5,.int .i64 (ZN h.2.1:Int)),(4,.sl (.own 0) L),(3,.int .i64 0),(1,.ptr 0 0)]/\bx=[[.int .i64 h.1,.int .u64 (h.2.1:Int),.bool h.2.2]]/\fr=[⟨c,1,5⟩]) (ZN h.2.1+1) (Lands.mk' (m:=ZN h.2.1) (Nat.lt_succ_self _) ⟨0,1,[E.byte (Wk h.1.toNat (Ys h.2.1))],rfl,rfl,rfl,by rw[hw];rfl,rfl,rfl,rfl⟩ ?_ rfl rfl rfl rfl rfl rfl) ?_
 ·repeat'(first|exact Av.Sub.nil|refine Av.Sub.cons rfl ?_|refine Av.Sub.cons ?_ ?_)
  have e:=congrArg (fun x:Int=>D.sl (.own 0) [E.int .u8 x]) (Xf h.1 (Ys h.2.1) (HR hr) (by have:=J3 h.2.1;omega))
  exact e
 rintro k tm bx fr ⟨i,c,L,hk,hc,hi,hL,rfl,rfl,rfl⟩
 have hU:Uni 1 L:=hL ▸ Yo _
 repeat'(first|(apply Yg;exact Z;exact Z;rotate_left;exact Z)|refine Zj Za Z ?_|refine Zg Za Z ?_|(apply WN;exact Z;all_goals intro hb)|refine Q3 Za Z Z Z Z Z Z Z Z Z Z Z Z ?_|(apply ZS Za;(iterate 6 exact Z);(first|with_reducible assumption|exact Z|rotate_left);exact Z;exact Z;(first|exact Zf rfl|with_reducible assumption|rotate_left);(first|exact Zf rfl|with_reducible assumption|rotate_left);(first|exact Qb|rotate_left);(first|exact Qb|rotate_left);(first|exact Qb|rotate_left);exact Z;exact Z))
 ·have hlt:i<ZN h.2.1:=by have:=of_decide_eq_true hb;omega
  have hx:IntKind.i64.wrap (IntKind.i64.wrap (↑(ZN h.2.1)-1) - ↑i)=((ZN h.2.1-1-i:Nat):Int):=by
   rw[IntWalk.i64_in ((ZN h.2.1:Int)-1) (by omega),IntWalk.i64_in _ (by omega)];omega
  refine Lands.mk' (m:=k-1) (by omega) ⟨i+1,L.length+1,L++[E.byte (UInt8.ofNat (h.2.1/256 ^ (ZN h.2.1-1-i)))],by omega,by simp,by omega,?_,rfl,rfl,rfl⟩ ?_ rfl rfl rfl rfl rfl rfl
  ·rw[hL,hw,List.take_succ_cons,List.take_succ_cons,VP _ _ _ hlt]
   simp
  ·refine .cons ?_ (.cons rfl (.cons rfl (.cons ?_ (.cons rfl (.cons rfl .nil)))))
   ·exact congrArg (D.int .i64) (IntWalk.i64_in _ (by omega))
   ·have e:=congrArg (fun x=>D.sl (.own 0) (L++[x])) (Gg h.2.1 (ZN h.2.1-1-i) (by omega))
    rw[<- hx]at e
    exact e
 ·have:=of_decide_eq_true hb;show L.length+1<=maxLen;unfold maxLen;omega
 ·have:=of_decide_eq_true hb;show(L.length+1)*1<=140737488355328;omega
 ·have:=of_decide_eq_true hb
  have hx:IntKind.i64.wrap (IntKind.i64.wrap (↑(ZN h.2.1)-1) - ↑i)=((ZN h.2.1-1-i:Nat):Int):=by
   rw[IntWalk.i64_in ((ZN h.2.1:Int)-1) (by omega),IntWalk.i64_in _ (by omega)];omega
  rw[hx,IntWalk.i64_in _ (by omega)];omega
 ·refine GR (.cons _ _ _ _ (.tmp _ _ rfl) (.cons _ _ _ _ (.tmp _ _ rfl) .nil)) rfl ?_
  rw[if_pos hr,if_pos hr,hL]
  have:=of_decide_eq_false hb
  rw[List.take_of_length_le (by rw[hw,List.length_cons,hlen];omega)]
end Go.Proofs.YtchlgagdbflkmaaDoor
end

/- Package primary: a list's items looked at; the type that a list says. -/
import Derived.Test.YtmljabhmajehnaaGreatDoorT12
import Derived.Test.YtmljabhmajehnaaGreatDoorT15
import Derived.Test.YtmljabhmajehnaaGreatDoorT10
import Derived.Test.YtmljabhmajehnaaGreatDoorT07
import Derived.Laws.RangeAny
import Derived.LoopTactic
import Derived.Test.YtmljabhmajehnaaGreatDoorT09
import Derived.Test.YtmljabhmajehnaaGreatDoorT19
set_option linter.unusedVariables false
set_option linter.unusedSimpArgs false
section
open Go.RowKit Go.Pl Go.Av
namespace Go.Proofs.YtmljabhmajehnaaGreatDoor
set_option maxHeartbeats 4000000
theorem Hr [Known](l:List It)(hne:l ≠ [])(hl:l.length<=1000000):AT Tryz.prog 166 [.sl .ext (Zt l)] [] [] (.sl (.own 0) (Zt l)) [] [⟨l.length,4,115⟩]:=by
 have hU:=YW l
 have hlen:=Zw l
 rw[<- hlen]
 rw[<- hlen]at hl
 have hE:Zt l ≠ []:=fun h=>hne (by rw[h]at hlen;exact List.length_eq_zero_iff.1 hlen.symm)
 refine Zk Tryz.func166 rfl Tryz.ntmps166 rfl rfl ?_
 repeat'(first|(apply KP Za;(iterate 5 exact Z);intro b hbn;(have hbn2:=hbn hE);subst hbn2;clear hbn)|(apply Zh Za;exact Z)|(apply Ze Za;exact Z)|(apply Zq Za;exact Z)|(apply Zf;exact Z;(first|with_reducible assumption|(solve|simp only[bn])))|refine X3 Za Z Z Z Z Z Z Z Z Z Z Z Z ?_|(apply Z1 Za;(iterate 6 exact Z);(first|with_reducible assumption|exact Z|rotate_left);exact Z;exact Z;(first|exact Zj rfl|with_reducible assumption|rotate_left);(first|exact Zj rfl|with_reducible assumption|rotate_left);(first|exact Qb|rotate_left);(first|exact Qb|rotate_left);(first|exact Qb|rotate_left);exact Z;exact Z))
 all_goals first|(apply KQ [] [0];(apply Zc Za;exact Z);(iterate 7 exact Z))|skip
 all_goals first|rfl|(simp at hl ⊢;(try unfold maxLen);omega)|(simp at hl ⊢;done)
theorem TK [Known][KnownU8](x:It)(hw:wfI x):AP Tryz.prog 161 [itD x] (.bool (!ZG x)) []:=by
 have hR:=YT x hw
 obtain⟨k,n,b,l⟩:=x
 refine AP.ofA (Zk Tryz.func161 Z Tryz.ntmps161 Z Z ?_)
 repeat'(first|(apply Zb (hR);kernel_rfl;(iterate 4 exact Z))|(apply Zh Za;exact Z)|(apply Ze Za;exact Z))
 all_goals exact Qe
def fiI:List It->Nat->Int
 | [],_ => -1
 | x::l,i=>match ZG x with|true=>fiI l (i+1)|false=>(i:Int)
theorem TL:∀(l:List It) (i:Nat),decide (fiI l i ≥ 0) = !(l.all ZG)
 | [],_=>rfl
 | x::l,i=>by
  rw[fiI,List.all_cons]
  cases ZG x with
  | true=>simpa using TL l (i+1)
  | false=>simp
theorem Mi [Known][KnownU8](l:List It)(hws:wfs l)(hl:l.length<=1000000):AP Tryz.prog 185 [.sl .ext (Zt l),.fn 161 []] (.int .i64 (fiI l 0)) []:=by
 have hlen:=Zw l
 have hU:=YW l
 generalize hfin:fiI l 0=fin
 refine AP.ofA (Zk Tryz.func185 Z Tryz.ntmps185 Z Z ?_)
 repeat'(first|(apply Zh Za;exact Z)|(apply Ze Za;exact Z)|refine Zm Za Z Z Z Z ?_)
 refine ZW (fun f tm bx fr=>∃(i:Nat),f+i=l.length/\fiI (l.drop i) i=fin/\tm=[(0,.sl .ext (Zt l)),(1,.fn 161 []),(4,.int .i64 0),(7,.int .i64 ((Zt l).length:Int)),(8,.int .i64 (i:Int))]/\bx=[]/\fr=[]) (l.length+1) (Lands.mk' (m:=l.length) (Nat.lt_succ_self _) ⟨0,by omega,hfin,rfl,rfl,rfl⟩ ?_ rfl rfl rfl rfl rfl rfl) ?_
 ·exact .cons rfl (.cons rfl (.cons rfl (.cons rfl (.cons rfl .nil))))
 rintro f tm bx fr ⟨i,hf,hq,rfl,rfl,rfl⟩
 rcases Nat.lt_or_ge i l.length with hlt|hge
 ·have hdl:decide ((i:Int)<((Zt l).length:Int))=true:=decide_eq_true (by omega)
  obtain⟨⟨k1,n1,b1,l1⟩,hy⟩:∃ y,l[i]?=some y:=⟨_,List.getElem?_eq_getElem hlt⟩
  have hv:(Zt l)[((i:Nat):Int).toNat]?=some (.agg [.int .i64 k1,.int .u64 (n1:Int),.sl (b1.map E.byte),.sl (Zt l1)]):=by
   rw[Int.toNat_natCast,Yd,List.getElem?_map,hy];rfl
  have hc:=TK _ (Yr hws _ (List.mem_of_getElem? hy))
  have hdr:l.drop i=It.mk k1 n1 b1 l1::l.drop (i+1):=by
   rw[List.drop_eq_getElem_cons hlt];congr 1
   exact(List.getElem?_eq_some_iff.1 hy).2
  rw[hdr,fiI]at hq
  have ei:IntKind.i64.wrap ((i:Int)+1)=((i+1:Nat):Int):=by rw[IntWalk.i64_in _ (by omega)];omega
  cases hb:ZG (.mk k1 n1 b1 l1) with
  | true=>
   rw[hb]at hq hc
   replace hc:AP Tryz.prog _ _ (.bool false) []:=hc
   repeat'(first|rw[ei]|(apply Vl (hc);exact Z;kernel_rfl;(iterate 3 exact Z))|(apply Zh Za;exact Z)|(apply Ze Za;exact Z)|(apply Zq Za;exact Z)|refine Zd Z Qt ?_|refine Zf Z Qt ?_|(apply Zu Za;(iterate 6 exact Z);(first|exact Qt|rotate_left);(first|with_reducible assumption|decide +kernel|exact Z);(first|exact Zj rfl|with_reducible assumption|decide +kernel|rotate_left)))
   refine Lands.mk' (m:=f-1) (by omega) ⟨i+1,by omega,hq,rfl,rfl,rfl⟩ ?_ rfl rfl rfl rfl rfl rfl
   exact .cons rfl (.cons rfl (.cons rfl (.cons rfl (.cons rfl .nil))))
  | false=>
   rw[hb]at hq hc
   replace hc:AP Tryz.prog _ _ (.bool true) []:=hc
   have hq:(i:Int)=fin:=hq
   subst hq
   repeat'(first|(apply Vl (hc);exact Z;kernel_rfl;(iterate 3 exact Z))|(apply Zh Za;exact Z)|(apply Ze Za;exact Z)|(apply Zq Za;exact Z)|refine Zd Z Qt ?_|refine Vo ?_|(apply Zu Za;(iterate 6 exact Z);(first|exact Qt|rotate_left);(first|with_reducible assumption|decide +kernel|exact Z);(first|exact Zj rfl|with_reducible assumption|decide +kernel|rotate_left)))
   all_goals exact Qe
 ·have hdl:decide ((i:Int)<((Zt l).length:Int))=false:=decide_eq_false (by omega)
  rw[List.drop_eq_nil_of_le hge]at hq
  have hq:(-1:Int)=fin:=hq
  subst hq
  repeat'(first|(apply Ze Za;exact Z)|refine Zf Z Qt ?_)
  all_goals exact Qe
theorem TM [Known][KnownU8](l:List It)(hws:wfs l)(hl:l.length<=1000000):AP Tryz.prog 162 [.sl .ext (Zt l),.fn 161 []] (.bool (!(l.all ZG))) []:=by
 have hI:=Mi l hws hl
 rw[<- TL l 0]
 refine AP.ofA (Zk Tryz.func162 Z Tryz.ntmps162 Z Z ?_)
 repeat'(first|(apply Zb (hI);kernel_rfl;(iterate 4 exact Z))|(apply Zh Za;exact Z)|(apply Ze Za;exact Z))
 all_goals exact Qe
def Z7 (l:List It)(a:Int):Int:=if a<0 then -1 else match l[a.toNat]? with
 | none => -1
 | some (.mk k n b r)=>match decide ((n:Int)>2) with
  | true => -1
  | false=>match It.beq (.mk k n b r) (.mk 0 n [] []) with
   | true=>(n:Int)
   | false => -1
theorem Kn [Known](l:List It)(hws:wfs l)(a:Int):AP Tryz.prog 144 [.sl .ext (Zt l),.int .i64 a] (.int .i64 (Z7 l a)) []:=by
 have hlen:=Zw l
 have hU:=YW l
 unfold Z7
 rcases Int.lt_or_le a 0 with h0|h0
 ·have t1:decide (a<0)=true:=decide_eq_true h0
  rw[if_pos h0]
  refine AP.ofA (Zk Tryz.func144 Z Tryz.ntmps144 Z Z ?_)
  repeat'(first|(apply Zh Za;exact Z)|(apply Ze Za;exact Z)|(apply Zq Za;exact Z)|refine Zp Z Z Z Qt ?_|refine Zl Z Qt Z Z ?_|refine Zd Z Qt ?_|(apply Zn 27 ZF;decide +kernel;kernel_rfl;kernel_rfl;kernel_rfl;exact Z;exact Z)|(apply Zs;(iterate 4 exact Z))|exact AE.nil _ _ _ _|(apply Zx;exact Z)|(apply ZA;exact Z;exact Z;decide +kernel;exact Z)|(apply ZB;exact Z)|exact AO.nil _ _ _|(apply Zr;(decide +kernel))|exact AOs.nil|exact ZM rfl rfl)
  all_goals exact Qe
 have t1:decide (a<0)=false:=decide_eq_false (by omega)
 rw[if_neg (by omega)]
 rcases Int.lt_or_le a l.length with h1|h1
 case inr=>
  have t2:decide (a ≥ ((Zt l).length:Int))=true:=decide_eq_true (by omega)
  rw[List.getElem?_eq_none (by omega)]
  refine AP.ofA (Zk Tryz.func144 Z Tryz.ntmps144 Z Z ?_)
  repeat'(first|(apply Zh Za;exact Z)|(apply Ze Za;exact Z)|(apply Zq Za;exact Z)|refine Zg Z Z Z Qt ?_|refine Zp Z Z Z Qt ?_|refine Zl Z Qt Z Z ?_|refine Zi Z Qt Z Z ?_|refine Zd Z Qt ?_|refine Zm Za Z Z Z Z ?_|(apply Zn 27 ZF;decide +kernel;kernel_rfl;kernel_rfl;kernel_rfl;exact Z;exact Z)|(apply Zs;(iterate 4 exact Z))|exact AE.nil _ _ _ _|(apply Zx;exact Z)|(apply ZA;exact Z;exact Z;decide +kernel;exact Z)|(apply ZB;exact Z)|exact AO.nil _ _ _|(apply Zr;(decide +kernel))|exact AOs.nil|exact ZM rfl rfl)
  all_goals exact Qe
 have t2:decide (a ≥ ((Zt l).length:Int))=false:=decide_eq_false (by omega)
 obtain⟨⟨k,n,b,l1⟩,hy⟩:∃ y,l[a.toNat]?=some y:=⟨_,List.getElem?_eq_getElem (by omega)⟩
 have hv:(Zt l)[a.toNat]?=some (.agg [.int .i64 k,.int .u64 (n:Int),.sl (b.map E.byte),.sl (Zt l1)]):=by
  rw[Yd,List.getElem?_map,hy];rfl
 have hw:=Yr hws _ (List.mem_of_getElem? hy)
 have hS:=VK (.mk k n b l1) hw (.mk 0 n [] []) (by obtain⟨h1,_⟩:=hw;exact⟨h1,by simp,by simp,trivial⟩)
 have hN:=YI n
 rw[hy]
 dsimp only
 cases t3:decide ((n:Int)>2) with
 | true=>
  refine AP.ofA (Zk Tryz.func144 Z Tryz.ntmps144 Z Z ?_)
  repeat'(first|(apply Zh Za;exact Z)|(apply Ze Za;exact Z)|(apply Zq Za;exact Z)|refine Zg Z Z Z Qt ?_|refine Zp Z Z Z Qt ?_|refine Zl Z Qt Z Z ?_|refine Zi Z Qt Z Z ?_|refine Zd Z Qt ?_|refine Zm Za Z Z Z Z ?_|(apply Zn 27 ZF;decide +kernel;kernel_rfl;kernel_rfl;kernel_rfl;exact Z;exact Z)|(apply Zs;(iterate 4 exact Z))|exact AE.nil _ _ _ _|(apply Zx;exact Z)|(apply ZA;exact Z;exact Z;decide +kernel;exact Z)|(apply ZB;exact Z)|exact AO.nil _ _ _|(apply Zr;(decide +kernel))|exact AOs.nil|exact ZM rfl rfl|(apply Zu Za;(iterate 6 exact Z);(first|exact Qt|rotate_left);(first|with_reducible assumption|decide +kernel|exact Z);(first|exact Zj rfl|with_reducible assumption|decide +kernel|rotate_left)))
  all_goals exact Qe
 | false=>
  have en:IntKind.i64.wrap (n:Int)=(n:Int):=IntWalk.i64_in _ (by simp at t3;omega)
  cases t4:It.beq (.mk k n b l1) (.mk 0 n [] []) with
  | true=>
   rw[t4]at hS
   refine AP.ofA (Zk Tryz.func144 Z Tryz.ntmps144 Z Z ?_)
   repeat'(first|(apply Zb (hN);kernel_rfl;(iterate 4 exact Z))|(apply Zb (hS);kernel_rfl;(iterate 4 exact Z))|rw[en]|(apply Zh Za;exact Z)|(apply Ze Za;exact Z)|(apply Zq Za;exact Z)|refine Zg Z Z Z Qt ?_|refine Zi Z Qt Z Z ?_|refine Zf Z Qt ?_|refine Zm Za Z Z Z Z ?_|(apply Zn 27 ZF;decide +kernel;kernel_rfl;kernel_rfl;kernel_rfl;exact Z;exact Z)|(apply Zs;(iterate 4 exact Z))|exact AE.nil _ _ _ _|(apply Zx;exact Z)|(apply ZA;exact Z;exact Z;decide +kernel;exact Z)|(apply ZB;exact Z)|exact AO.nil _ _ _|(apply Zr;(decide +kernel))|exact AOs.nil|exact ZM rfl rfl|(apply Zu Za;(iterate 6 exact Z);(first|exact Qt|rotate_left);(first|with_reducible assumption|decide +kernel|exact Z);(first|exact Zj rfl|with_reducible assumption|decide +kernel|rotate_left)))
   all_goals exact Qe
  | false=>
   rw[t4]at hS
   refine AP.ofA (Zk Tryz.func144 Z Tryz.ntmps144 Z Z ?_)
   repeat'(first|(apply Zb (hN);kernel_rfl;(iterate 4 exact Z))|(apply Zb (hS);kernel_rfl;(iterate 4 exact Z))|(apply Zh Za;exact Z)|(apply Ze Za;exact Z)|(apply Zq Za;exact Z)|refine Zg Z Z Z Qt ?_|refine Zi Z Qt Z Z ?_|refine Zd Z Qt ?_|refine Zm Za Z Z Z Z ?_|(apply Zn 27 ZF;decide +kernel;kernel_rfl;kernel_rfl;kernel_rfl;exact Z;exact Z)|(apply Zs;(iterate 4 exact Z))|exact AE.nil _ _ _ _|(apply Zx;exact Z)|(apply ZA;exact Z;exact Z;decide +kernel;exact Z)|(apply ZB;exact Z)|exact AO.nil _ _ _|(apply Zr;(decide +kernel))|exact AOs.nil|exact ZM rfl rfl|(apply Zu Za;(iterate 6 exact Z);(first|exact Qt|rotate_left);(first|with_reducible assumption|decide +kernel|exact Z);(first|exact Zj rfl|with_reducible assumption|decide +kernel|rotate_left)))
   all_goals exact Qe
def okB (m:Nat)(c:UInt8):Bool:=(97<=c.toNat&&c.toNat<=122)||(48<=c.toNat&&c.toNat<=57)||c.toNat==45||c.toNat==m
theorem Xd {m:Nat}{c:UInt8}:okB m c=true ↔ (97<=(c.toNat:Int)/\(c.toNat:Int)<=122)\/(48<=(c.toNat:Int)/\(c.toNat:Int)<=57)\/(c.toNat:Int)=45\/(c.toNat:Int)=(m:Int):=by
 simp only[okB,Bool.or_eq_true,Bool.and_eq_true,decide_eq_true_eq,beq_iff_eq]
 omega
theorem IS (s:ByteArray)(m:Nat)(hm:m<128)(w:World)(B:Bool)(hB:s.data.toList.all (okB m)=B) :
  Calls Tryz.prog 98 #[.string s,.int .i32 (m:Int)] w fun e w'=>e=.returned (.bool B)/\Below w.heap.size w w':=by
 have hT:(∀ j,j<s.size->∀ c,s.data.toList[j]?=some c->okB m c=true)->B=true:=fun h=>by
  rw[<- hB,List.all_eq_true]
  intro x hx
  obtain⟨j,hj⟩:=List.getElem?_of_mem hx
  have hlt:=(List.getElem?_eq_some_iff.1 hj).1
  exact h j (by simpa using hlt) x hj
 have hF:∀(j:Nat) (c:UInt8),s.data.toList[j]?=some c->¬ okB m c=true->B=false:=fun j c hj hc=>by
  rw[<- hB,List.all_eq_false]
  exact⟨c,List.mem_of_getElem? hj,hc⟩
 clear hB
 go_enter Tryz.func98,Tryz.ntmps98
 go_wp2
 go_loopw [] (fun w'=>∃ pos,w'=w.iter s pos/\pos<=s.size/\Hid (∀ j,j<pos->∀ c,s.data.toList[j]?=some c->okB m c=true)) (fun w'=>s.size-w'.iterPos w.heap.size)
 case atStart=>exact⟨0,rfl,Nat.zero_le _,fun j hj=>by omega⟩
 case round=>
  obtain⟨pos,rfl,hps,hall⟩:=hrel
  have hb:∀ p,Below w.heap.size w (w.iter s p):=fun p=>(Below.refl _ _).alloc (Nat.le_refl _) _
  by_cases hp:pos<s.size
  ·have hget:s.data.toList[pos]?=some (s[pos]'hp):=by
    have hlt:pos<s.data.toList.length:=by simpa using hp
    rw[List.getElem?_eq_getElem hlt];rfl
   by_cases ha:(s[pos]'hp).toNat<128
   ·obtain⟨c,hc⟩:∃ c,c=s[pos]'hp:=⟨_,rfl⟩
    have hnx:∀ ty,(Instr.next (.pointer (some ⟨w.heap.size,0,none⟩)) true ty).run Tryz.prog (w.iter s pos)=.ok (.tuple #[.bool true,.int .i64 pos,.int .i32 (c.toNat:Int)]) (w.iter s (pos+1)):=fun ty=>by
     rw[hc];exact run_next_ascii w s pos ty hp ha
    rw[<- hc]at hget ha
    clear hc
    have hbad:=hid (hF pos c hget)
    have hstep:Hid (okB m c=true->∀ j,j<pos+1->∀ c,s.data.toList[j]?=some c->okB m c=true):=fun hc j hj c' hj'=>by
     rcases Nat.lt_or_ge j pos with h|h
     ·exact hall j h c' hj'
     ·have:j=pos:=by omega
      subst this
      rw[hget]at hj'
      injection hj' with hj'
      subst hj'
      exact hc
    clear hT hF hget
    go_wp2
    all_goals first
     | (go_ret
        have hBf:=hbad (fun h=>by rw[Xd]at h;clear hbad hstep hnx;(try simp only[bne_iff_ne,ne_eq,bne_eq_false_iff_eq]at *);omega)
        subst hBf
        exact⟨rfl,hb _⟩)
     | (refine⟨⟨pos+1,rfl,by omega,hstep ?_⟩,?_⟩
        ·rw[Xd]
         clear hbad hstep hnx
         try simp only[bne_iff_ne,ne_eq,bne_eq_false_iff_eq]at *
         omega
        ·simp;omega)
   ·obtain⟨hd1,hd2⟩:=decode_high s pos hp (by omega)
    have hle:=decode_le s pos
    have hnx:∀ ty,(Instr.next (.pointer (some ⟨w.heap.size,0,none⟩)) true ty).run Tryz.prog (w.iter s pos)=_:=fun ty=>run_next_any w s pos ty hp
    have hBf:=hF pos _ hget (fun h=>by rw[Xd]at h;omega)
    clear hT hF hget
    subst hBf
    generalize Utf8.decode s pos=dd at hd1 hd2 hle hnx
    have n1:¬ ((dd.1:Int)<97):=by omega
    have n2:((dd.1:Int)>122):=by omega
    have n3:¬ ((dd.1:Int)<48):=by omega
    have n4:((dd.1:Int)>57):=by omega
    have n5:¬ ((dd.1:Int)=45):=by omega
    have n6:¬ ((dd.1:Int)=(m:Int)):=by omega
    go_wp2
    all_goals first
     | (go_ret;exact⟨rfl,hb _⟩)
     | (exfalso;clear hnx hb hall;(try simp only[bne_iff_ne,ne_eq,bne_eq_false_iff_eq]at *);omega)
  ·have hnx:∀ ty,(Instr.next (.pointer (some ⟨w.heap.size,0,none⟩)) true ty).run Tryz.prog (w.iter s pos)=_:=fun ty=>run_next_end w s pos ty hp
   have hBt:=hT (fun j hj=>hall j (by omega))
   subst hBt
   go_wp2
   go_ret
   exact⟨rfl,hb _⟩
theorem OX [Known](s:List UInt8)(m:Nat)(hm:m<128):AP Tryz.prog 98 [.str s,.int .i32 (m:Int)] (.bool (s.all (okB m))) []:=by
 refine⟨fun g w vs hmem hl hv=>?_⟩
 obtain⟨v0,v1,rfl⟩:∃ v0 v1,vs=[v0,v1]:=by
  match vs,hl with
  | [v0,v1],_=>exact⟨v0,v1,rfl⟩
 have h0:=(hv 0 _ _ rfl rfl).str_inv.1
 have h1:=(hv 1 _ _ rfl rfl).int_inv
 subst h0 h1
 exact(IS ⟨s.toArray⟩ m hm w _ rfl).mono fun e w' ⟨he,hb⟩=>Ox hmem hb he (.bool _)
structure EidV where
 i:Bool
 n:Nat
 s:Nat
 h:List UInt8
 d:List UInt8
 deriving DecidableEq
abbrev eC (x:EidV):List D:=[.bool x.i,.int .u64 (x.n:Int),.int .u64 (x.s:Int),.str x.h,.str x.d]
def YU:EidV:=⟨false,0,0,[],[]⟩
def isZ (x:EidV):Bool:=x.i==false&&((x.n:Int)==0&&((x.s:Int)==0&&(x.h==[]&&(x.d==[]&&true))))
def ZJ (x:EidV):Bool:=
 if isZ x then true
 else if x.i then(x.i==true&&((x.n:Int)==(x.n:Int)&&((x.s:Int)==(x.s:Int)&&(x.h==[]&&(x.d==[]&&true)))))&&decide ((x.n:Int) ≥ 1)&&decide ((x.n:Int)<=4294967295)&&decide ((x.s:Int)<=4294967295)
 else(x.i==false&&((x.n:Int)==0&&((x.s:Int)==0&&(x.h==x.h&&(x.d==x.d&&true)))))&&decide ((x.h.length:Int) ≥ 1)&&decide ((x.h.length:Int)<=16)&&decide ((x.d.length:Int)<=24)&&x.h.all (okB 45)&&x.d.all (okB 47)
theorem TN {x:EidV}(h:isZ x=true):ZJ x=true:=by unfold ZJ;rw[if_pos h]
theorem Xe {x:EidV}(h:isZ x=false)(hi:x.i=true):ZJ x=((x.i==true&&((x.n:Int)==(x.n:Int)&&((x.s:Int)==(x.s:Int)&&(x.h==[]&&(x.d==[]&&true)))))&&decide ((x.n:Int) ≥ 1)&&decide ((x.n:Int)<=4294967295)&&decide ((x.s:Int)<=4294967295)):=by
 unfold ZJ;rw[if_neg (by rw[h];decide),if_pos hi]
theorem OY {x:EidV}(h:isZ x=false)(hi:x.i=false):ZJ x=((x.i==false&&((x.n:Int)==0&&((x.s:Int)==0&&(x.h==x.h&&(x.d==x.d&&true)))))&&decide ((x.h.length:Int) ≥ 1)&&decide ((x.h.length:Int)<=16)&&decide ((x.d.length:Int)<=24)&&x.h.all (okB 45)&&x.d.all (okB 47)):=by
 unfold ZJ;rw[if_neg (by rw[h];decide),if_neg (by rw[hi];decide)]
theorem WY [Known](x:EidV):AP Tryz.prog 51 [.agg (eC x)] (.bool (ZJ x)) []:=by
 refine AP.ofA (Zk Tryz.func51 Z Tryz.ntmps51 Z Z ?_)
 cases hz:isZ x with
 | true=>
  rw[TN hz]
  unfold isZ at hz
  repeat'(first|(apply Zh Za;exact Z)|(apply Ze Za;exact Z)|(apply Zq Za;exact Z)|(apply Zd;exact Z;(first|with_reducible assumption|(solve|simp only[bn])))|refine Wo Za Z Z Z Z Qk Qk Z Z Z ?_)
  (apply Zo [];(apply Zc Za;exact Z);(iterate 4 exact Z))
  all_goals rfl
 | false=>
  cases hi:x.i with
  | true=>
   rw[Xe hz hi]
   unfold isZ at hz
   repeat'(first|(apply Zh Za;exact Z)|(apply Ze Za;exact Z)|(apply Zq Za;exact Z)|(apply Zg;(iterate 3 exact Z);(first|with_reducible assumption|(solve|simp only[bn])))|(apply Zv;(iterate 3 exact Z);(first|with_reducible assumption|(solve|simp only[bn])))|(apply YP;exact Z;exact Z;all_goals intro hb)|(apply Zl;exact Z;(first|with_reducible assumption|(solve|simp only[bn]));exact Z;exact Z)|(apply Zi;exact Z;(first|with_reducible assumption|(solve|simp only[bn]));exact Z;exact Z)|(apply Zd;exact Z;(first|with_reducible assumption|(solve|simp only[bn])))|(apply Zf;exact Z;(first|with_reducible assumption|(solve|simp only[bn])))|refine Wo Za Z Z Z Z Qk Qk Z Z Z ?_)
   all_goals(apply Zo [];(apply Zc Za;exact Z);(iterate 4 exact Z))
   all_goals first|rfl|(clear hi hz;simp only[*];done)|(clear hi hz;simp only[*];simp only[Bool.and_true,Bool.true_and,Bool.and_false,Bool.false_and];done)
  | false=>
   rw[OY hz hi]
   unfold isZ at hz
   repeat'(first|(apply Zb (OX x.h 45 (by decide));kernel_rfl;(iterate 4 exact Z))|(apply Zb (OX x.d 47 (by decide));kernel_rfl;(iterate 4 exact Z))|(apply Zh Za;exact Z)|(apply Ze Za;exact Z)|(apply Zq Za;exact Z)|(apply Zg;(iterate 3 exact Z);(first|with_reducible assumption|(solve|simp only[bn])))|(apply Zv;(iterate 3 exact Z);(first|with_reducible assumption|(solve|simp only[bn])))|(apply YP;exact Z;exact Z;all_goals intro hb)|(apply Zl;exact Z;(first|with_reducible assumption|(solve|simp only[bn]));exact Z;exact Z)|(apply Zi;exact Z;(first|with_reducible assumption|(solve|simp only[bn]));exact Z;exact Z)|(apply Zf;exact Z;(first|with_reducible assumption|(solve|simp only[bn])))|refine Uc Za Z Z Z Z ?_|refine Wo Za Z Z Z Z Qk Qk Z Z Z ?_)
   all_goals(apply Zo [];(apply Zc Za;exact Z);(iterate 4 exact Z))
   all_goals first|rfl|(clear hi hz;simp only[*];done)|(clear hi hz;simp only[*];simp only[Bool.and_true,Bool.true_and,Bool.and_false,Bool.false_and];done)
abbrev LY (s:Int):Int:=s.fdiv (2 ^ (min (Int.toNat 1) IntKind.u32.bits))
def VS (s p:Int):Int:=match(bits .and .u32 s 1==1) with
 | true=>bits .xor .u32 (LY s) p
 | false=>LY s
theorem TO [Known](s p:Int):AP Tryz.prog 200 [.int .u32 s,.int .u32 p] (.int .u32 (VS s p)) []:=by
 unfold VS
 cases t:(bits .and .u32 s 1==1)
 all_goals
  refine AP.ofA (Zk Tryz.func200 Z Tryz.ntmps200 Z Z ?_)
  repeat'(first|(apply Zh Za;exact Z)|(apply Ze Za;exact Z)|refine Zd Z Qt ?_|refine Zf Z Qt ?_|(apply Yn;exact Z;exact Z;(first|exact Qt|rotate_left);exact Z))
  all_goals exact Qe
def TP (s:Int)(c:UInt8)(p:Int):Int:=
 VS (VS (VS (VS (VS (VS (VS (VS (bits .xor .u32 s (IntKind.u32.wrap (c.toNat:Int))) p) p) p) p) p) p) p) p
theorem Hs [Known](s p:Int)(c:UInt8):AP Tryz.prog 196 [.int .u32 s,.int .u8 (c.toNat:Int),.int .u32 p] (.int .u32 (TP s c p)) []:=by
 refine AP.ofA (Zk Tryz.func196 Z Tryz.ntmps196 Z Z ?_)
 repeat'(first|(apply Zb (TO _ _);kernel_rfl;(iterate 4 exact Z))|refine W7 20 ?_|refine VJ ?_|(apply Zh Za;exact Z)|(apply Ze Za;exact Z)|refine Zd Z Qt ?_|refine Zf Z Qt ?_)
 all_goals exact Qe
def Ht (s p:Int)(b:List UInt8):Int:=b.foldl (fun s c=>TP s c p) s
theorem TQ [Known](s p:Int)(b:List UInt8)(hb:b.length<=1000000000):AP Tryz.prog 188 [.int .u32 s,byE b,.int .u32 p] (.int .u32 (Ht s p b)) []:=by
 have hl:(b.map E.byte).length=b.length:=List.length_map ..
 have hU:=YR b
 generalize hfin:Ht s p b=fin
 refine AP.ofA (Zk Tryz.func188 Z Tryz.ntmps188 Z Z ?_)
 repeat'(first|(apply Zh Za;exact Z)|(apply Ze Za;exact Z)|refine Zm Za Z Z Z Z ?_)
 refine ZW (fun k tm bx fr=>∃(i:Nat) (q:Int) (o:D),k+i=b.length/\Ht q p (b.drop i)=fin/\tm=[(0,.int .u32 q),(1,byE b),(2,.int .u32 p),(6,.int .u32 0),(9,byE b),(10,.int .i64 (b.length:Int)),(11,.int .i64 (i:Int))]/\bx=[]/\fr=[]) (b.length+1) (Lands.mk' (m:=b.length) (Nat.lt_succ_self _) ⟨0,s,.tup [],by omega,hfin,rfl,rfl,rfl⟩ ?_ rfl rfl rfl rfl rfl rfl) ?_
 ·exact .cons rfl (.cons rfl (.cons rfl (.cons rfl (.cons rfl (.cons (by rw[<- hl];rfl) (.cons rfl .nil))))))
 rintro k tm bx fr ⟨i,q,o,hk,hq,rfl,rfl,rfl⟩
 rcases Nat.lt_or_ge i b.length with hlt|hge
 ·have hd:decide ((i:Int)<(b.length:Int))=true:=decide_eq_true (by omega)
  obtain⟨c,hc⟩:∃ c,b[i]?=some c:=⟨_,List.getElem?_eq_getElem hlt⟩
  have hv:(b.map E.byte)[((i:Nat):Int).toNat]?=some (E.byte c):=by
   rw[Int.toNat_natCast,List.getElem?_map,hc];rfl
  have hdr:b.drop i=c::b.drop (i+1):=by
   rw[List.drop_eq_getElem_cons hlt];congr 1
   exact(List.getElem?_eq_some_iff.1 hc).2
  rw[hdr]at hq
  have hq2:Ht (TP q c p) p (b.drop (i+1))=fin:=hq
  have ei:IntKind.i64.wrap ((i:Int)+1)=((i+1:Nat):Int):=by rw[IntWalk.i64_in _ (by omega)];omega
  repeat'(first|(apply Zb (Hs _ _ _);kernel_rfl;(iterate 4 exact Z))|rw[ei]|(apply Zh Za;exact Z)|(apply Ze Za;exact Z)|refine Zd Z Qt ?_|(apply Zu Za;(iterate 6 exact Z);(first|exact Qt|rotate_left);(first|with_reducible assumption|decide +kernel|exact Z);(first|exact Zj rfl|with_reducible assumption|decide +kernel|rotate_left)))
  refine Lands.mk' (m:=k-1) (by omega) ⟨i+1,_,.tup [],by omega,hq2,rfl,rfl,rfl⟩ ?_ rfl rfl rfl rfl rfl rfl
  exact .cons rfl (.cons rfl (.cons rfl (.cons rfl (.cons rfl (.cons rfl (.cons rfl .nil))))))
 ·have hd:decide ((i:Int)<(b.length:Int))=false:=decide_eq_false (by omega)
  rw[List.drop_eq_nil_of_le hge]at hq
  have hq:q=fin:=hq
  subst hq
  repeat'(first|(apply Ze Za;exact Z)|refine Zf Z Qt ?_)
  all_goals exact Qe
def Xf (b:List UInt8):Int:=bits .xor .u16 (if IntKind.u16.signed then -1 else IntKind.u16.max) (IntKind.u16.wrap (Ht 65535 33800 b))
def QW (b:List UInt8):Int:=bits .xor .u32 (if IntKind.u32.signed then -1 else IntKind.u32.max) (Ht 4294967295 2197175160 b)
theorem TR [Known](b:List UInt8)(hb:b.length<=1000000000):AP Tryz.prog 167 [byE b] (.int .u16 (Xf b)) []:=by
 have hR:=TQ 65535 33800 b hb
 refine AP.ofA (Zk Tryz.func167 Z Tryz.ntmps167 Z Z ?_)
 repeat'(first|(apply Zb (hR);kernel_rfl;(iterate 4 exact Z))|refine Ts Z Z ?_|(apply Zh Za;exact Z)|(apply Ze Za;exact Z))
 all_goals exact Qe
theorem Mj [Known](b:List UInt8)(hb:b.length<=1000000000):AP Tryz.prog 168 [byE b] (.int .u32 (QW b)) []:=by
 have hR:=TQ 4294967295 2197175160 b hb
 refine AP.ofA (Zk Tryz.func168 Z Tryz.ntmps168 Z Z ?_)
 repeat'(first|(apply Zb (hR);kernel_rfl;(iterate 4 exact Z))|refine Ts Z Z ?_|(apply Zh Za;exact Z)|(apply Ze Za;exact Z))
 all_goals exact Qe
def Z0 (s:Nat)(l:List It):It:=.mk 4 0 [] (l++[.mk 2 0 (List.replicate (2*s) 0) []])
abbrev shU (k:IntKind)(z:Int)(q:Int):Int:=IntKind.u8.wrap (z.fdiv (2 ^ (min q.toNat k.bits)))
def LZ (s:Nat)(b:List UInt8):List E:=
 if s=1 then [.int .u8 (shU .u16 (Xf b) 8),.int .u8 (IntKind.u8.wrap (Xf b))]
 else [.int .u8 (shU .u32 (QW b) 24),.int .u8 (shU .u32 (QW b) 16),.int .u8 (shU .u32 (QW b) 8),.int .u8 (IntKind.u8.wrap (QW b))]
def by8 (z:Int):UInt8:=UInt8.ofNat (IntKind.u8.wrap z).toNat
theorem L1 (z:Int):E.byte (by8 z)=.int .u8 (IntKind.u8.wrap z):=by
 have h:0<=IntKind.u8.wrap z/\IntKind.u8.wrap z<256:=by
  rw[IntKind.wrap_u8];omega
 show E.int .u8 ((by8 z).toNat:Int)=_
 have e:((by8 z).toNat:Int)=IntKind.u8.wrap z:=by
  unfold by8
  rw[UInt8.toNat_ofNat']
  omega
 rw[e]
def VG (s:Nat)(b:List UInt8):List UInt8:=
 if s=1 then [by8 ((Xf b).fdiv (2 ^ (min (8:Int).toNat IntKind.u16.bits))),by8 (Xf b)]
 else [by8 ((QW b).fdiv (2 ^ (min (24:Int).toNat IntKind.u32.bits))),by8 ((QW b).fdiv (2 ^ (min (16:Int).toNat IntKind.u32.bits))),by8 ((QW b).fdiv (2 ^ (min (8:Int).toNat IntKind.u32.bits))),by8 (QW b)]
theorem Lk (s:Nat)(b:List UInt8):(VG s b).map E.byte=LZ s b:=by
 unfold VG LZ
 split<;>simp only[List.map_cons,List.map_nil,L1]
theorem QX (s:Nat)(b:List UInt8)(hs:s=1\/s=2):(VG s b).length=2*s:=by
 unfold VG
 rcases hs with rfl|rfl<;>rfl
theorem JN:∀ {l r:List It},wfs l->wfs r->wfs (l++r)
 | [],r,_,h=>h
 | x::l,r,h1,h2=>⟨h1.1,JN h1.2 h2⟩
theorem Mk {s:Nat}{l:List It}(hs:s=1\/s=2)(hws:wfs l)(hl:l.length<=1000000):wfI (Z0 s l):=by
 refine⟨by decide,by simp,by simp;omega,JN hws ⟨⟨by decide,?_,by simp,trivial⟩,trivial⟩⟩
 rcases hs with rfl|rfl<;>decide
theorem Xg [Known](s:Nat)(hs:s=1\/s=2):AP Tryz.prog 145 [.int .i64 (s:Int)] (.int .i64 ((2*s:Nat):Int)) []:=by
 rcases hs with rfl|rfl
 all_goals
  refine AP.ofA (Zk Tryz.func145 Z Tryz.ntmps145 Z Z ?_)
  repeat'(first|(apply Ze Za;exact Z))
  all_goals exact Qe
theorem OZ [Known][KnownU8](l:List It)(s:Nat)(hs:s=1\/s=2)(hne:l ≠ [])(hws:wfs l)(hl:l.length<=1000000)(hlim:(ZH (Z0 s l)).length<=1000000000) :
  AP Tryz.prog 146 [.sl .ext (Zt l),.int .i64 (s:Int)] (match ZG (Z0 s l) with|true=>.tup [byE (VG s (ZH (Z0 s l))),.int .i64 0]|false=>.tup [.sl .ext [],.int .i64 3]) []:=by
 have hwz:=Mk hs hws hl
 have hC:=Hr l hne hl
 have hW:=Jl (Z0 s l) hwz (by omega) (YT _ hwz)
 have hU:=YW l
 have hlen:=Zw l
 have hmx:(Zt l).length<=1000000:=by omega
 have hZ:=Xg s hs
 have hB:=QR (List.replicate (2*s) 0) (by rcases hs with rfl|rfl<;>decide)
 have hL:=WC (l++[.mk 2 0 (List.replicate (2*s) 0) []]) (by simp;omega) hwz.2.2.2
 have hSh:=TR (ZH (Z0 s l)) hlim
 have hLo:=Mj (ZH (Z0 s l)) hlim
 rw[Vt]at hL
 have eZ:itD (.mk 4 0 [] (l++[.mk 2 0 (List.replicate (2*s) 0) []]))=itD (Z0 s l):=rfl
 rw[eZ]at hL
 unfold byE
 rw[Lk]
 rw[<- hlen]at hC
 cases hr:ZG (Z0 s l) with
 | false=>
  rw[hr]at hW
  replace hW:AP Tryz.prog 63 [itD (Z0 s l)] (.tup [.sl .ext [],.int .i64 3]) []:=hW
  have eL:itD (Z0 s l)=.agg [.int .i64 4,.int .u64 0,.sl .ext [],.sl .ext (Zt (l++[.mk 2 0 (List.replicate (2*s) 0) []]))]:=rfl
  rw[eL]at hL hW
  generalize Zt (l++[.mk 2 0 (List.replicate (2*s) 0) []])=ZL at *
  clear hSh hLo hlim hwz eZ eL
  rcases hs with rfl|rfl
  all_goals
   refine AP.ofA (Zk Tryz.func146 Z Tryz.ntmps146 Z Z ?_)
   repeat'(first|(apply Yz [] [] (hC);kernel_rfl;(iterate 10 exact Z))|(apply Zb (hZ);kernel_rfl;(iterate 4 exact Z))|(apply QI Za (l:=2);(iterate 12 exact Z))|(apply QI Za (l:=4);(iterate 12 exact Z))|(apply Zb (hB);kernel_rfl;(iterate 4 exact Z))|(apply Zb (hL);kernel_rfl;(iterate 4 exact Z))|(apply Zb (hW);kernel_rfl;(iterate 4 exact Z))|(apply Zh Za;exact Z)|(apply Ze Za;exact Z)|(apply Zq Za;exact Z)|refine Zd Z Qt ?_|refine ZT Za Z Z Z Z Z Z Z Z Z Z Z Z ?_|(apply Z1 Za;(iterate 6 exact Z);(first|with_reducible assumption|decide +kernel|exact Z|rotate_left);exact Z;exact Z;(first|exact Zj rfl|with_reducible assumption|decide +kernel|rotate_left);(first|exact Zj rfl|with_reducible assumption|decide +kernel|rotate_left);(first|exact Qt|rotate_left);(first|exact Qt|rotate_left);(first|exact Qt|rotate_left);exact Z;exact Z))
   all_goals first|((apply Zo [];(apply Zc Za;exact Z);(iterate 4 exact Z)))|skip
   all_goals first|rfl|(first|rfl|(simp only[List.length_append,List.length_cons,List.length_nil,List.length_map,Zw];done)|(simp only[List.length_append,List.length_cons,List.length_nil,List.length_map,Zw]at *;(try unfold maxLen);(try simp only[Nat.add_mul]);omega))|(simp;done)|(simp;omega)|(simp;unfold maxLen;omega)
 | true=>
  rw[hr]at hW
  replace hW:AP Tryz.prog 63 [itD (Z0 s l)] (.tup [byE (ZH (Z0 s l)),.int .i64 0]) []:=hW
  have eL:itD (Z0 s l)=.agg [.int .i64 4,.int .u64 0,.sl .ext [],.sl .ext (Zt (l++[.mk 2 0 (List.replicate (2*s) 0) []]))]:=rfl
  rw[eL]at hL hW
  generalize Zt (l++[.mk 2 0 (List.replicate (2*s) 0) []])=ZL at *
  generalize ZH (Z0 s l)=PZ at *
  clear hlim hwz eZ eL hr
  rcases hs with rfl|rfl
  all_goals
   refine AP.ofA (Zk Tryz.func146 Z Tryz.ntmps146 Z Z ?_)
   repeat'(first|(apply Yz [] [] (hC);kernel_rfl;(iterate 10 exact Z))|(apply Zb (hZ);kernel_rfl;(iterate 4 exact Z))|(apply QI Za (l:=2);(iterate 12 exact Z))|(apply QI Za (l:=4);(iterate 12 exact Z))|(apply Zb (hB);kernel_rfl;(iterate 4 exact Z))|(apply Zb (hL);kernel_rfl;(iterate 4 exact Z))|(apply Zb (hW);kernel_rfl;(iterate 4 exact Z))|(apply Zb (hSh);kernel_rfl;(iterate 4 exact Z))|(apply Zb (hLo);kernel_rfl;(iterate 4 exact Z))|(apply Zh Za;exact Z)|(apply Ze Za;exact Z)|refine Zd Z Qt ?_|refine Zf Z Qt ?_|refine ZT Za Z Z Z Z Z Z Z Z Z Z Z Z ?_|(apply Z1 Za;(iterate 6 exact Z);(first|with_reducible assumption|decide +kernel|exact Z|rotate_left);exact Z;exact Z;(first|exact Zj rfl|with_reducible assumption|decide +kernel|rotate_left);(first|exact Zj rfl|with_reducible assumption|decide +kernel|rotate_left);(first|exact Qt|rotate_left);(first|exact Qt|rotate_left);(first|exact Qt|rotate_left);exact Z;exact Z)|(apply Yn;exact Z;exact Z;(first|exact Qt|rotate_left);exact Z))
   all_goals first|((apply Zo [];(apply Zc Za;exact Z);(iterate 4 exact Z)))|skip
   all_goals first|rfl|(first|rfl|(simp only[List.length_append,List.length_cons,List.length_nil,List.length_map,Zw];done)|(simp only[List.length_append,List.length_cons,List.length_nil,List.length_map,Zw]at *;(try unfold maxLen);(try simp only[Nat.add_mul]);omega))|(simp;done)|(simp;omega)|(simp;unfold maxLen;omega)
end Go.Proofs.YtmljabhmajehnaaGreatDoor
end

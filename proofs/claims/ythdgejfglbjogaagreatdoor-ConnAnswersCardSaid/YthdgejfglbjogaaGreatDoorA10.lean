/- What every text of this seat uses: bytes as trees, and the seat's table. -/
import Derived.Test.YthdgejfglbjogaaGreatDoorA09
import Derived.Test.YthdgejfglbjogaaGreatDoorA07
import Derived.Laws.RangeAny
import Derived.LoopTactic
import Derived.Test.YthdgejfglbjogaaGreatDoorA01
import Derived.Test.YthdgejfglbjogaaGreatDoorProg
import Derived.Recover
set_option linter.unusedVariables false
set_option linter.unusedSimpArgs false
section
open Go.RowKit Go.Pl Go.Av
namespace Go.Proofs.YthdgejfglbjogaaGreatDoor
set_option maxHeartbeats 4000000
theorem YT:Tryz.prog.follows .mixedOrders=true:=by kernel_rfl
abbrev byE (l:List UInt8):D:=.sl .ext (l.map E.byte)
theorem Ym (l:List UInt8):Uni 1 (l.map E.byte):=Uni.map (f:=E.byte) (fun _=>rfl) l
abbrev E.bys (l:List UInt8):E:=.sl (l.map E.byte)
abbrev QB (l:List (List UInt8)):D:=.sl .ext (l.map E.bys)
theorem J8 (l:List (List UInt8)):Uni 1 (l.map E.bys):=Uni.map (f:=E.bys) (fun _=>rfl) l
theorem WF [Known](b:List UInt8)(hb:b.length<=140737488351232):AP Tryz.prog 31 [byE b] (byE b) []:=by
 have hU:=Ym b
 cases b with
 | nil=>
  refine AP.ofA (Zl Tryz.func31 Z Tryz.ntmps31 Z Z ?_)
  repeat'(first|(apply Y2 Za;(iterate 5 exact Z);intro b hbn)|(apply Zj Za;exact Z)|(apply Zf Za;exact Z)|(apply Zr Za;exact Z)|(apply Ud;exact Z;all_goals intro hb)|refine WN Za Z Z Z Z Z Z Z Z Z Z Z Z ?_|refine ZN Za Z Z Z Z Z Z ?_)
  all_goals exact Qe
 | cons c b=>
  refine AP.ofA (Zl Tryz.func31 Z Tryz.ntmps31 Z Z ?_)
  repeat'(first|(apply Y2 Za;(iterate 5 exact Z);intro b hbn;(have hbn2:=hbn (List.cons_ne_nil _ _));subst hbn2;clear hbn)|(apply Zj Za;exact Z)|(apply Zf Za;exact Z)|(apply Zr Za;exact Z)|(apply Zc;exact Z;(first|with_reducible assumption|(solve|simp only[bn])))|refine WN Za Z Z Z Z Z Z Z Z Z Z Z Z ?_|(apply ZB Za;(iterate 6 exact Z);(first|with_reducible assumption|exact Z|rotate_left);exact Z;exact Z;(first|exact Zi rfl|with_reducible assumption|rotate_left);(first|exact Zi rfl|with_reducible assumption|rotate_left);(first|exact Qb|rotate_left);(first|exact Qb|rotate_left);(first|exact Qb|rotate_left);exact Z;exact Z))
  all_goals first|(apply Zw [];(apply Zb Za;exact Z);(iterate 4 exact Z))|skip
  all_goals first|rfl|(simp at hb ⊢;(try unfold maxLen);omega)
theorem UN [Known](a b:List UInt8):AP Tryz.prog 38 [byE a,byE b] (.bool (a==b)) []:=by
 refine AP.ofA (Zl Tryz.func38 Z Tryz.ntmps38 Z Z ?_)
 repeat'(first|(apply Zj Za;exact Z)|(apply Zf Za;exact Z)|refine ZF Za Z Z Z Z Z Z Z Z Z ?_)
 all_goals exact Qe
def okB (m:Nat)(c:UInt8):Bool:=(97<=c.toNat&&c.toNat<=122)||(48<=c.toNat&&c.toNat<=57)||c.toNat==45||c.toNat==m
theorem W9 {m:Nat}{c:UInt8}:okB m c=true ↔ (97<=(c.toNat:Int)/\(c.toNat:Int)<=122)\/(48<=(c.toNat:Int)/\(c.toNat:Int)<=57)\/(c.toNat:Int)=45\/(c.toNat:Int)=(m:Int):=by
 simp only[okB,Bool.or_eq_true,Bool.and_eq_true,decide_eq_true_eq,beq_iff_eq]
 omega
theorem UO (s:ByteArray)(m:Nat)(hm:m<128)(w:World)(B:Bool)(hB:s.data.toList.all (okB m)=B) :
  Calls Tryz.prog 74 #[.string s,.int .i32 (m:Int)] w fun e w'=>e=.returned (.bool B)/\Below w.heap.size w w':=by
 have hT:(∀ j,j<s.size->∀ c,s.data.toList[j]?=some c->okB m c=true)->B=true:=fun h=>by
  rw[<- hB,List.all_eq_true]
  intro x hx
  obtain⟨j,hj⟩:=List.getElem?_of_mem hx
  have hlt:=(List.getElem?_eq_some_iff.1 hj).1
  exact h j (by simpa using hlt) x hj
 have hF:∀(j:Nat) (c:UInt8),s.data.toList[j]?=some c->¬ okB m c=true->B=false:=fun j c hj hc=>by
  rw[<- hB,List.all_eq_false]
  exact⟨c,List.mem_of_getElem? hj,hc⟩
 clear hB
 go_enter Tryz.func74,Tryz.ntmps74
 go_wp2
 go_loopw [] (fun w'=>∃ pos,w'=w.iter s pos/\pos<=s.size/\Hid (∀ j,j<pos->∀ c,s.data.toList[j]?=some c->okB m c=true)) (fun w'=>s.size-w'.iterPos w.heap.size)
 case atStart=>exact⟨0,rfl,Nat.zero_le _,fun j hj=>by omega⟩
 case round=>
  obtain⟨pos,rfl,hps,hall⟩:=hrel
  have hb:∀ p,Below w.heap.size w (w.iter s p):=fun p=>(Below.refl _ _).alloc (Nat.le_refl _) _
  by_cases hp:pos<s.size
  ·have hget:s.data.toList[pos]?=some (s[pos]'hp):=by
    have hlt:pos<s.data.toList.length:=by simpa using hp
    rw[List.getElem?_eq_getElem hlt];rfl
   by_cases ha:(s[pos]'hp).toNat<128
   ·obtain⟨c,hc⟩:∃ c,c=s[pos]'hp:=⟨_,rfl⟩
    have hnx:∀ ty,(Instr.next (.pointer (some ⟨w.heap.size,0,none⟩)) true ty).run Tryz.prog (w.iter s pos)=.ok (.tuple #[.bool true,.int .i64 pos,.int .i32 (c.toNat:Int)]) (w.iter s (pos+1)):=fun ty=>by
     rw[hc];exact run_next_ascii w s pos ty hp ha
    rw[<- hc]at hget ha
    clear hc
    have hbad:=hid (hF pos c hget)
    have hstep:Hid (okB m c=true->∀ j,j<pos+1->∀ c,s.data.toList[j]?=some c->okB m c=true):=fun hc j hj c' hj'=>by
     rcases Nat.lt_or_ge j pos with h|h
     ·exact hall j h c' hj'
     ·have:j=pos:=by omega
      subst this
      rw[hget]at hj'
      injection hj' with hj'
      subst hj'
      exact hc
    clear hT hF hget
    go_wp2
    all_goals first
     | (go_ret
        have hBf:=hbad (fun h=>by rw[W9]at h;clear hbad hstep hnx;(try simp only[bne_iff_ne,ne_eq,bne_eq_false_iff_eq]at *);omega)
        subst hBf
        exact⟨rfl,hb _⟩)
     | (refine⟨⟨pos+1,rfl,by omega,hstep ?_⟩,?_⟩
        ·rw[W9]
         clear hbad hstep hnx
         try simp only[bne_iff_ne,ne_eq,bne_eq_false_iff_eq]at *
         omega
        ·simp;omega)
   ·obtain⟨hd1,hd2⟩:=decode_high s pos hp (by omega)
    have hle:=decode_le s pos
    have hnx:∀ ty,(Instr.next (.pointer (some ⟨w.heap.size,0,none⟩)) true ty).run Tryz.prog (w.iter s pos)=_:=fun ty=>run_next_any w s pos ty hp
    have hBf:=hF pos _ hget (fun h=>by rw[W9]at h;omega)
    clear hT hF hget
    subst hBf
    generalize Utf8.decode s pos=dd at hd1 hd2 hle hnx
    have n1:¬ ((dd.1:Int)<97):=by omega
    have n2:((dd.1:Int)>122):=by omega
    have n3:¬ ((dd.1:Int)<48):=by omega
    have n4:((dd.1:Int)>57):=by omega
    have n5:¬ ((dd.1:Int)=45):=by omega
    have n6:¬ ((dd.1:Int)=(m:Int)):=by omega
    go_wp2
    all_goals first
     | (go_ret;exact⟨rfl,hb _⟩)
     | (exfalso;clear hnx hb hall;(try simp only[bne_iff_ne,ne_eq,bne_eq_false_iff_eq]at *);omega)
  ·have hnx:∀ ty,(Instr.next (.pointer (some ⟨w.heap.size,0,none⟩)) true ty).run Tryz.prog (w.iter s pos)=_:=fun ty=>run_next_end w s pos ty hp
   have hBt:=hT (fun j hj=>hall j (by omega))
   subst hBt
   go_wp2
   go_ret
   exact⟨rfl,hb _⟩
theorem Uu [Known](s:List UInt8)(m:Nat)(hm:m<128):AP Tryz.prog 74 [.str s,.int .i32 (m:Int)] (.bool (s.all (okB m))) []:=by
 refine⟨fun g w vs hmem hl hv=>?_⟩
 obtain⟨v0,v1,rfl⟩:∃ v0 v1,vs=[v0,v1]:=by
  match vs,hl with
  | [v0,v1],_=>exact⟨v0,v1,rfl⟩
 have h0:=(hv 0 _ _ rfl rfl).str_inv.1
 have h1:=(hv 1 _ _ rfl rfl).int_inv
 subst h0 h1
 exact(UO ⟨s.toArray⟩ m hm w _ rfl).mono fun e w' ⟨he,hb⟩=>Q8 hmem hb he (.bool _)
structure EidV where
 i:Bool
 n:Nat
 s:Nat
 h:List UInt8
 d:List UInt8
 deriving DecidableEq
abbrev eC (x:EidV):List D:=[.bool x.i,.int .u64 (x.n:Int),.int .u64 (x.s:Int),.str x.h,.str x.d]
def Vi:EidV:=⟨false,0,0,[],[]⟩
def isZ (x:EidV):Bool:=x.i==false&&((x.n:Int)==0&&((x.s:Int)==0&&(x.h==[]&&(x.d==[]&&true))))
def YO (x:EidV):Bool:=
 if isZ x then true
 else if x.i then(x.i==true&&((x.n:Int)==(x.n:Int)&&((x.s:Int)==(x.s:Int)&&(x.h==[]&&(x.d==[]&&true)))))&&decide ((x.n:Int) ≥ 1)&&decide ((x.n:Int)<=4294967295)&&decide ((x.s:Int)<=4294967295)
 else(x.i==false&&((x.n:Int)==0&&((x.s:Int)==0&&(x.h==x.h&&(x.d==x.d&&true)))))&&decide ((x.h.length:Int) ≥ 1)&&decide ((x.h.length:Int)<=16)&&decide ((x.d.length:Int)<=24)&&x.h.all (okB 45)&&x.d.all (okB 47)
theorem Jm {x:EidV}(h:isZ x=true):YO x=true:=by unfold YO;rw[if_pos h]
theorem Jn {x:EidV}(h:isZ x=false)(hi:x.i=true):YO x=((x.i==true&&((x.n:Int)==(x.n:Int)&&((x.s:Int)==(x.s:Int)&&(x.h==[]&&(x.d==[]&&true)))))&&decide ((x.n:Int) ≥ 1)&&decide ((x.n:Int)<=4294967295)&&decide ((x.s:Int)<=4294967295)):=by
 unfold YO;rw[if_neg (by rw[h];decide),if_pos hi]
theorem Jo {x:EidV}(h:isZ x=false)(hi:x.i=false):YO x=((x.i==false&&((x.n:Int)==0&&((x.s:Int)==0&&(x.h==x.h&&(x.d==x.d&&true)))))&&decide ((x.h.length:Int) ≥ 1)&&decide ((x.h.length:Int)<=16)&&decide ((x.d.length:Int)<=24)&&x.h.all (okB 45)&&x.d.all (okB 47)):=by
 unfold YO;rw[if_neg (by rw[h];decide),if_neg (by rw[hi];decide)]
theorem QC [Known](x:EidV):AP Tryz.prog 66 [.agg (eC x)] (.bool (YO x)) []:=by
 refine AP.ofA (Zl Tryz.func66 Z Tryz.ntmps66 Z Z ?_)
 cases hz:isZ x with
 | true=>
  rw[Jm hz]
  unfold isZ at hz
  repeat'(first|(apply Zj Za;exact Z)|(apply Zf Za;exact Z)|(apply Zr Za;exact Z)|(apply Zg;exact Z;(first|with_reducible assumption|(solve|simp only[bn])))|refine W5 Za Z Z Z Z Qk Qk Z Z Z ?_)
  (apply Zw [];(apply Zb Za;exact Z);(iterate 4 exact Z))
  all_goals rfl
 | false=>
  cases hi:x.i with
  | true=>
   rw[Jn hz hi]
   unfold isZ at hz
   repeat'(first|(apply Zj Za;exact Z)|(apply Zf Za;exact Z)|(apply Zr Za;exact Z)|(apply Ze;(iterate 3 exact Z);(first|with_reducible assumption|(solve|simp only[bn])))|(apply Zq;(iterate 3 exact Z);(first|with_reducible assumption|(solve|simp only[bn])))|(apply Yp;exact Z;exact Z;all_goals intro hb)|(apply Zk;exact Z;(first|with_reducible assumption|(solve|simp only[bn]));exact Z;exact Z)|(apply Zm;exact Z;(first|with_reducible assumption|(solve|simp only[bn]));exact Z;exact Z)|(apply Zg;exact Z;(first|with_reducible assumption|(solve|simp only[bn])))|(apply Zc;exact Z;(first|with_reducible assumption|(solve|simp only[bn])))|refine W5 Za Z Z Z Z Qk Qk Z Z Z ?_)
   all_goals(apply Zw [];(apply Zb Za;exact Z);(iterate 4 exact Z))
   all_goals first|rfl|(clear hi hz;simp only[*];done)|(clear hi hz;simp only[*];simp only[Bool.and_true,Bool.true_and,Bool.and_false,Bool.false_and];done)
  | false=>
   rw[Jo hz hi]
   unfold isZ at hz
   repeat'(first|(apply Zd (Uu x.h 45 (by decide));kernel_rfl;(iterate 4 exact Z))|(apply Zd (Uu x.d 47 (by decide));kernel_rfl;(iterate 4 exact Z))|(apply Zj Za;exact Z)|(apply Zf Za;exact Z)|(apply Zr Za;exact Z)|(apply Ze;(iterate 3 exact Z);(first|with_reducible assumption|(solve|simp only[bn])))|(apply Zq;(iterate 3 exact Z);(first|with_reducible assumption|(solve|simp only[bn])))|(apply Yp;exact Z;exact Z;all_goals intro hb)|(apply Zk;exact Z;(first|with_reducible assumption|(solve|simp only[bn]));exact Z;exact Z)|(apply Zm;exact Z;(first|with_reducible assumption|(solve|simp only[bn]));exact Z;exact Z)|(apply Zc;exact Z;(first|with_reducible assumption|(solve|simp only[bn])))|refine JL Za Z Z Z Z ?_|refine W5 Za Z Z Z Z Qk Qk Z Z Z ?_)
   all_goals(apply Zw [];(apply Zb Za;exact Z);(iterate 4 exact Z))
   all_goals first|rfl|(clear hi hz;simp only[*];done)|(clear hi hz;simp only[*];simp only[Bool.and_true,Bool.true_and,Bool.and_false,Bool.false_and];done)
end Go.Proofs.YthdgejfglbjogaaGreatDoor
end
section
open Go.RowKit Go.Pl
namespace Go.Pl
variable {P:Program} {t:TypeId}
end Go.Pl
end
section
open Go.RowKit Go.Pl
namespace Go.Proofs.YthdgejfglbjogaaGreatDoor
end Go.Proofs.YthdgejfglbjogaaGreatDoor
end
section
open Go.RowKit Go.Pl Go.Av
namespace Go.Proofs.YthdgejfglbjogaaGreatDoor
set_option maxHeartbeats 4000000
abbrev eqE (a b:EidV):Bool:=a.i==b.i&&((a.n:Int)==(b.n:Int)&&((a.s:Int)==(b.s:Int)&&(a.h==b.h&&(a.d==b.d&&true))))
abbrev XE:=Bool × Nat × Nat × List UInt8 × List UInt8
def XE.v (x:XE):EidV:=⟨x.1,x.2.1,x.2.2.1,x.2.2.2.1,x.2.2.2.2⟩
end Go.Proofs.YthdgejfglbjogaaGreatDoor
end
section
open Go.RowKit Go.Pl
namespace Go.Av
section
variable {P:Program} {Q:X->St->Prop} {n:Nat} {ee:Nat × Nat} {tm tm':List (Nat × D)} {bx bx':List (List D)} {fr fr':List Fr} {b0:Bs} {g:G} {w:World} {a:Act} {T:Tab}
variable {ops:Array Oper} {rest:List Oper} {t ty:Nat} {pos:String} {after:Array Edge}
end
end Go.Av
end
section
open Go.RowKit Go.Pl Go.Av
namespace Go.Proofs.YthdgejfglbjogaaGreatDoor
set_option maxHeartbeats 4000000
structure RqV where
 id:Nat
 kd:Int
 ep:EidV
 ds:EidV
 pol:Int
 num:Int
 tik:Int
 pay:List UInt8
 life:Nat
 tok:Nat
 on:Bool
abbrev rqC (x:RqV):List D:=[.int .u64 (x.id:Int),.int .i64 x.kd,.bool x.ep.i,.int .u64 (x.ep.n:Int),.int .u64 (x.ep.s:Int),.str x.ep.h,.str x.ep.d,.bool x.ds.i,.int .u64 (x.ds.n:Int),.int .u64 (x.ds.s:Int),.str x.ds.h,.str x.ds.d,.int .i64 x.pol,.int .i64 x.num,.int .i64 x.tik,byE x.pay,.int .u64 (x.life:Int),.int .u64 (x.tok:Int),.bool x.on]
def VY (x:EidV):Bool:=YO x && !(isZ x)
theorem VJ [Known](x:EidV):AP Tryz.prog 68 [.agg (eC x)] (.bool (VY x)) []:=by
 have hR:=QC x
 unfold VY
 cases hr:YO x with
 | false=>
  rw[hr]at hR
  refine AP.ofA (Zl Tryz.func68 Z Tryz.ntmps68 Z Z ?_)
  repeat'(first|(apply Zd (hR);kernel_rfl;(iterate 4 exact Z))|(apply Zj Za;exact Z)|(apply Zf Za;exact Z)|refine Zq Z Z Z Qt ?_|refine Zm Z Qt Z Z ?_)
  all_goals exact Qe
 | true=>
  rw[hr]at hR
  refine AP.ofA (Zl Tryz.func68 Z Tryz.ntmps68 Z Z ?_)
  repeat'(first|(apply Zd (hR);kernel_rfl;(iterate 4 exact Z))|(apply Zj Za;exact Z)|(apply Zf Za;exact Z)|refine Ze Z Z Z Qt ?_|refine Zk Z Qt Z Z ?_|refine W5 Za Z Z Z Z Qk Qk Z Z Z ?_)
  all_goals exact Qe
def VZ (a b:RqV):Bool:=((a.id:Int)==(b.id:Int))&&((a.kd==b.kd)&&(eqE a.ep b.ep&&(eqE a.ds b.ds&&((a.pol==b.pol)&&((a.num==b.num)&&((a.tik==b.tik)&&((a.pay==b.pay)&&(((a.life:Int)==(b.life:Int))&&(((a.tok:Int)==(b.tok:Int))&&(a.on==b.on))))))))))
theorem QD [Known](a b:RqV):AP Tryz.prog 60 [.agg (rqC a),.agg (rqC b)] (.bool (VZ a b)) []:=by
 have hB:=UN a.pay b.pay
 unfold VZ eqE
 refine AP.ofA (Zl Tryz.func60 Z Tryz.ntmps60 Z Z ?_)
 repeat'(first|(apply Zd (hB);kernel_rfl;(iterate 4 exact Z))|(apply Zj Za;exact Z)|(apply Zf Za;exact Z)|(apply Ze;(iterate 3 exact Z);(first|with_reducible assumption|(solve|simp only[bn])))|(apply Zq;(iterate 3 exact Z);(first|with_reducible assumption|(solve|simp only[bn])))|(apply Yp;exact Z;exact Z;all_goals intro hb)|(apply Zk;exact Z;(first|with_reducible assumption|(solve|simp only[bn]));exact Z;exact Z)|(apply Zm;exact Z;(first|with_reducible assumption|(solve|simp only[bn]));exact Z;exact Z)|refine W5 Za Z Z Z Z Qk Qk Z Z Z ?_)
 all_goals(apply Zw [];(apply Zb Za;exact Z);(iterate 4 exact Z))
 all_goals first|rfl|(simp only[*,Bool.true_and,Bool.false_and];done)
theorem J9 (k:Int):k=1\/k=2\/k=3\/k=4\/k=5\/k=6\/k=7\/k=8\/k=9\/k=10\/k=11\/k=12\/((k==1)=false/\(k==2)=false/\(k==3)=false/\(k==4)=false/\(k==5)=false/\(k==6)=false/\(k==7)=false/\(k==8)=false/\(k==9)=false/\(k==10)=false/\(k==11)=false/\(k==12)=false):=by
 simp only[beq_eq_false_iff_ne];omega
abbrev rqZ (x:RqV):RqV:=⟨x.id,x.kd,Vi,Vi,0,0,0,[],0,0,false⟩
def VK (x:RqV):RqV:=
 if x.kd==1||x.kd==3 then { rqZ x with ep:=x.ep,pol:=x.pol }
 else if x.kd==2||x.kd==6 then { rqZ x with ep:=x.ep }
 else if x.kd==4 then { rqZ x with ep:=x.ep,ds:=x.ds,pay:=x.pay,life:=x.life,on:=x.on }
 else if x.kd==5||(x.kd==8||x.kd==9) then { rqZ x with num:=x.num }
 else if x.kd==7 then { rqZ x with ep:=x.ep,tik:=x.tik }
 else if x.kd==10 then { rqZ x with on:=x.on }
 else if x.kd==12 then { rqZ x with tok:=x.tok }
 else rqZ x
def WV (x:RqV):Bool:=
 if x.kd==1||x.kd==3 then VY x.ep&&(decide (x.pol ≥ 0)&&decide (x.pol<=2))
 else if x.kd==2||x.kd==6 then VY x.ep
 else if x.kd==4 then VY x.ep&&(VY x.ds&&(decide ((x.pay.length:Int)<=200)&&(decide ((x.life:Int) ≥ 1)&&decide ((x.life:Int)<=1099511627776))))
 else if x.kd==5||(x.kd==8||x.kd==9) then decide (x.num ≥ 1)&&decide (x.num<=1099511627776)
 else if x.kd==7 then VY x.ep&&(decide (x.tik ≥ 1)&&decide (x.tik<=1000))
 else if x.kd==12 then decide ((x.tok:Int) ≥ 1)&&decide ((x.tok:Int)<=2147483648)
 else x.kd==10||x.kd==11
theorem Jp [Known](x:RqV):AP Tryz.prog 61 [.agg (rqC x)] (.agg (rqC (VK x))) []:=by
 obtain⟨id,kd,⟨ei,en,es,eh,ed⟩,⟨di,dn,dq,dh,dd⟩,pol,num,tik,pay,life,tok,on⟩:=x
 show AP Tryz.prog _ [.agg [.int .u64 (id:Int),.int .i64 kd,.bool ei,.int .u64 (en:Int),.int .u64 (es:Int),.str eh,.str ed,.bool di,.int .u64 (dn:Int),.int .u64 (dq:Int),.str dh,.str dd,.int .i64 pol,.int .i64 num,.int .i64 tik,.sl .ext (pay.map E.byte),.int .u64 (life:Int),.int .u64 (tok:Int),.bool on]] _ []
 rcases J9 kd with rfl|rfl|rfl|rfl|rfl|rfl|rfl|rfl|rfl|rfl|rfl|rfl|⟨n1,n2,n3,n4,n5,n6,n7,n8,n9,n10,n11,n12⟩
 all_goals
  refine AP.ofA (Zl Tryz.func61 Z Tryz.ntmps61 Z Z ?_)
  repeat'(first|(apply Zj Za;exact Z)|(apply Zf Za;exact Z)|(apply Zr Za;exact Z)|refine Zg Z Qt ?_|refine Zc Z Qt ?_|(apply ZV 6 YT;decide +kernel;kernel_rfl;kernel_rfl;kernel_rfl;exact Z;exact Z)|(apply ZV 18 YT;decide +kernel;kernel_rfl;kernel_rfl;kernel_rfl;exact Z;exact Z)|(apply Z6;(iterate 4 exact Z))|exact AE.nil _ _ _ _|(apply Yn;exact Z)|(apply Je;exact Z)|(apply YM;exact Z;exact Z;decide +kernel;exact Z)|(apply YN;exact Z)|(apply J6;exact Z)|exact AO.nil _ _ _|(apply Z5;(decide +kernel))|(apply WU;(iterate 3 exact Z))|exact AOs.nil|exact Ws rfl rfl|exact Xr rfl)
  all_goals(apply Zw [];(apply Zb Za;exact Z);(iterate 4 exact Z))
  all_goals first|rfl|(unfold VK;dsimp only;simp only[*];rfl)
theorem UP [Known](x:RqV):AP Tryz.prog 59 [.agg (rqC x)] (.bool (WV x)) []:=by
 have hN:=VJ x.ep
 have hM:=VJ x.ds
 have hbl:(x.pay.map E.byte).length=x.pay.length:=List.length_map ..
 unfold WV
 obtain⟨id,kd,⟨ei,en,es,eh,ed⟩,⟨di,dn,dq,dh,dd⟩,pol,num,tik,pay,life,tok,on⟩:=x
 dsimp only at hN hM ⊢
 show AP Tryz.prog _ [.agg [.int .u64 (id:Int),.int .i64 kd,.bool ei,.int .u64 (en:Int),.int .u64 (es:Int),.str eh,.str ed,.bool di,.int .u64 (dn:Int),.int .u64 (dq:Int),.str dh,.str dd,.int .i64 pol,.int .i64 num,.int .i64 tik,.sl .ext (pay.map E.byte),.int .u64 (life:Int),.int .u64 (tok:Int),.bool on]] _ []
 generalize VY ⟨ei,en,es,eh,ed⟩=bN at *
 generalize VY ⟨di,dn,dq,dh,dd⟩=bM at *
 rcases J9 kd with rfl|rfl|rfl|rfl|rfl|rfl|rfl|rfl|rfl|rfl|rfl|rfl|⟨n1,n2,n3,n4,n5,n6,n7,n8,n9,n10,n11,n12⟩
 all_goals
  try simp only[n1,n2,n3,n4,n5,n6,n7,n8,n9,n10,n11,n12]
  simp only[Int.reduceBEq,Bool.true_or,Bool.or_true,Bool.or_self,Bool.or_false,Bool.false_or,if_true,if_false,Bool.false_eq_true,hbl]
  refine AP.ofA (Zl Tryz.func59 Z Tryz.ntmps59 Z Z ?_)
  repeat'(first|(apply Zd (hN);kernel_rfl;(iterate 4 exact Z))|(apply Zd (hM);kernel_rfl;(iterate 4 exact Z))|(apply Zj Za;exact Z)|(apply Zf Za;exact Z)|(apply Zr Za;exact Z)|refine Ze Z Z Z Qt ?_|refine Zq Z Z Z Qt ?_|refine ZG Z Z Z Qt ?_|(apply Yp;exact Z;exact Z;all_goals intro hb)|refine Zk Z Qt Z Z ?_|refine Zm Z Qt Z Z ?_|refine Zg Z Qt ?_|refine Zc Z Qt ?_|refine Zo Za Z Z Z Z ?_)
  all_goals(apply Zw [];(apply Zb Za;exact Z);(iterate 4 exact Z))
  all_goals first|rfl|(simp only[*];done)|(simp only[*];rfl)|(clear hN hM;simp_all;done)|(clear hN hM;simp_all;omega)
def WW (x:RqV):Bool:=decide ((x.id:Int) ≥ 1)&&(decide ((x.id:Int)<=1099511627776)&&(WV x&&VZ x (VK x)))
theorem Va [Known](x:RqV):AP Tryz.prog 53 [.agg (rqC x)] (.bool (WW x)) []:=by
 have hP:=UP x
 have hO:=Jp x
 have hS:=QD x (VK x)
 unfold WW
 generalize WV x=bP at *
 generalize VZ x (VK x)=bS at *
 generalize VK x=y at *
 obtain⟨id,kd,⟨ei,en,es,eh,ed⟩,⟨di,dn,dq,dh,dd⟩,pol,num,tik,pay,life,tok,on⟩:=x
 obtain⟨yid,ykd,⟨yei,yen,yes,yeh,yed⟩,⟨ydi,ydn,ydq,ydh,ydd⟩,ypol,ynum,ytik,ypay,ylife,ytok,yon⟩:=y
 replace hP:AP Tryz.prog _ [.agg [.int .u64 (id:Int),.int .i64 kd,.bool ei,.int .u64 (en:Int),.int .u64 (es:Int),.str eh,.str ed,.bool di,.int .u64 (dn:Int),.int .u64 (dq:Int),.str dh,.str dd,.int .i64 pol,.int .i64 num,.int .i64 tik,.sl .ext (pay.map E.byte),.int .u64 (life:Int),.int .u64 (tok:Int),.bool on]] _ []:=hP
 replace hO:AP Tryz.prog _ [.agg [.int .u64 (id:Int),.int .i64 kd,.bool ei,.int .u64 (en:Int),.int .u64 (es:Int),.str eh,.str ed,.bool di,.int .u64 (dn:Int),.int .u64 (dq:Int),.str dh,.str dd,.int .i64 pol,.int .i64 num,.int .i64 tik,.sl .ext (pay.map E.byte),.int .u64 (life:Int),.int .u64 (tok:Int),.bool on]] (.agg [.int .u64 (yid:Int),.int .i64 ykd,.bool yei,.int .u64 (yen:Int),.int .u64 (yes:Int),.str yeh,.str yed,.bool ydi,.int .u64 (ydn:Int),.int .u64 (ydq:Int),.str ydh,.str ydd,.int .i64 ypol,.int .i64 ynum,.int .i64 ytik,.sl .ext (ypay.map E.byte),.int .u64 (ylife:Int),.int .u64 (ytok:Int),.bool yon]) []:=hO
 replace hS:AP Tryz.prog _ [.agg [.int .u64 (id:Int),.int .i64 kd,.bool ei,.int .u64 (en:Int),.int .u64 (es:Int),.str eh,.str ed,.bool di,.int .u64 (dn:Int),.int .u64 (dq:Int),.str dh,.str dd,.int .i64 pol,.int .i64 num,.int .i64 tik,.sl .ext (pay.map E.byte),.int .u64 (life:Int),.int .u64 (tok:Int),.bool on],.agg [.int .u64 (yid:Int),.int .i64 ykd,.bool yei,.int .u64 (yen:Int),.int .u64 (yes:Int),.str yeh,.str yed,.bool ydi,.int .u64 (ydn:Int),.int .u64 (ydq:Int),.str ydh,.str ydd,.int .i64 ypol,.int .i64 ynum,.int .i64 ytik,.sl .ext (ypay.map E.byte),.int .u64 (ylife:Int),.int .u64 (ytok:Int),.bool yon]] _ []:=hS
 show AP Tryz.prog _ [.agg [.int .u64 (id:Int),.int .i64 kd,.bool ei,.int .u64 (en:Int),.int .u64 (es:Int),.str eh,.str ed,.bool di,.int .u64 (dn:Int),.int .u64 (dq:Int),.str dh,.str dd,.int .i64 pol,.int .i64 num,.int .i64 tik,.sl .ext (pay.map E.byte),.int .u64 (life:Int),.int .u64 (tok:Int),.bool on]] (.bool (decide ((id:Int) ≥ 1)&&(decide ((id:Int)<=1099511627776)&&(bP&&bS)))) []
 cases t1:decide ((id:Int) ≥ 1) with
 | false=>
  refine AP.ofA (Zl Tryz.func53 Z Tryz.ntmps53 Z Z ?_)
  repeat'(first|(apply Zj Za;exact Z)|(apply Zf Za;exact Z)|refine Zq Z Z Z Qt ?_|refine Zm Z Qt Z Z ?_|(apply ZV 16 YT;decide +kernel;kernel_rfl;kernel_rfl;kernel_rfl;exact Z;exact Z)|(apply Z6;(iterate 4 exact Z))|exact AE.nil _ _ _ _|(apply Yn;exact Z)|(apply YM;exact Z;exact Z;decide +kernel;exact Z)|(apply YN;exact Z)|exact AO.nil _ _ _|(apply Z5;(decide +kernel))|exact AOs.nil|exact Ws rfl rfl)
  all_goals exact Qe
 | true=>
  cases t2:decide ((id:Int)<=1099511627776) with
  | false=>
   refine AP.ofA (Zl Tryz.func53 Z Tryz.ntmps53 Z Z ?_)
   repeat'(first|(apply Zj Za;exact Z)|(apply Zf Za;exact Z)|refine Ze Z Z Z Qt ?_|refine Zq Z Z Z Qt ?_|refine Zk Z Qt Z Z ?_|refine Zm Z Qt Z Z ?_|(apply ZV 16 YT;decide +kernel;kernel_rfl;kernel_rfl;kernel_rfl;exact Z;exact Z)|(apply Z6;(iterate 4 exact Z))|exact AE.nil _ _ _ _|(apply Yn;exact Z)|(apply YM;exact Z;exact Z;decide +kernel;exact Z)|(apply YN;exact Z)|exact AO.nil _ _ _|(apply Z5;(decide +kernel))|exact AOs.nil|exact Ws rfl rfl)
   all_goals exact Qe
  | true=>
   cases bP with
   | false=>
    refine AP.ofA (Zl Tryz.func53 Z Tryz.ntmps53 Z Z ?_)
    repeat'(first|(apply Zd (hP);kernel_rfl;(iterate 4 exact Z))|(apply Zj Za;exact Z)|(apply Zf Za;exact Z)|refine Ze Z Z Z Qt ?_|refine Zq Z Z Z Qt ?_|refine Zk Z Qt Z Z ?_|refine Zm Z Qt Z Z ?_|(apply ZV 16 YT;decide +kernel;kernel_rfl;kernel_rfl;kernel_rfl;exact Z;exact Z)|(apply Z6;(iterate 4 exact Z))|exact AE.nil _ _ _ _|(apply Yn;exact Z)|(apply YM;exact Z;exact Z;decide +kernel;exact Z)|(apply YN;exact Z)|exact AO.nil _ _ _|(apply Z5;(decide +kernel))|exact AOs.nil|exact Ws rfl rfl)
    all_goals exact Qe
   | true=>
    refine AP.ofA (Zl Tryz.func53 Z Tryz.ntmps53 Z Z ?_)
    repeat'(first|(apply Zd (hP);kernel_rfl;(iterate 4 exact Z))|(apply Zd (hO);kernel_rfl;(iterate 4 exact Z))|(apply Zd (hS);kernel_rfl;(iterate 4 exact Z))|(apply Zj Za;exact Z)|(apply Zf Za;exact Z)|refine Ze Z Z Z Qt ?_|refine Zk Z Qt Z Z ?_|(apply ZV 16 YT;decide +kernel;kernel_rfl;kernel_rfl;kernel_rfl;exact Z;exact Z)|(apply Z6;(iterate 4 exact Z))|exact AE.nil _ _ _ _|(apply Yn;exact Z)|(apply YM;exact Z;exact Z;decide +kernel;exact Z)|(apply YN;exact Z)|exact AO.nil _ _ _|(apply Z5;(decide +kernel))|exact AOs.nil|exact Ws rfl rfl)
    all_goals exact Qe
abbrev rqO:List D:=[.int .u64 5,.int .i64 11,.bool false,.int .u64 0,.int .u64 0,.str [],.str [],.bool false,.int .u64 0,.int .u64 0,.str [],.str [],.int .i64 0,.int .i64 0,.int .i64 0,.sl .ext [],.int .u64 0,.int .u64 0,.bool false]
abbrev X7:List D:=[.int .u64 0,.int .i64 0,.bool false,.int .u64 0,.int .u64 0,.str [],.str [],.bool false,.int .u64 0,.int .u64 0,.str [],.str [],.int .i64 0,.int .i64 0,.int .i64 0,.sl .ext [],.int .u64 0,.int .u64 0,.bool false]
theorem X8 [Known]:AP Tryz.prog 53 [.agg rqO] (.bool true) []:=by
 have h:=Va ⟨5,11,Vi,Vi,0,0,0,[],0,0,false⟩
 rw[show WW ⟨5,11,Vi,Vi,0,0,0,[],0,0,false⟩=true by decide +kernel]at h
 exact h
theorem X9 [Known]:AP Tryz.prog 46 [.agg rqO] (.tup [.sl .ext [.int .u8 5,.int .u8 11],.int .i64 0]) []:=by
 have hR:=X8
 refine AP.ofA (Zl Tryz.func46 Z Tryz.ntmps46 Z Z ?_)
 repeat'(first|(apply Zd (hR);kernel_rfl;(iterate 4 exact Z))|(apply Zs Tryz.func19 Tryz.ntmps19;exact Z;exact Z;kernel_rfl;(iterate 6 exact Z))|(apply Zs Tryz.func20 Tryz.ntmps20;exact Z;exact Z;kernel_rfl;(iterate 6 exact Z))|(apply Zs Tryz.func21 Tryz.ntmps21;exact Z;exact Z;kernel_rfl;(iterate 6 exact Z))|(apply Zs Tryz.func23 Tryz.ntmps23;exact Z;exact Z;kernel_rfl;(iterate 6 exact Z))|(apply Zs Tryz.func31 Tryz.ntmps31;exact Z;exact Z;kernel_rfl;(iterate 6 exact Z))|(apply Z4;(apply Zb Za;exact Z);exact Z)|refine Yq 80 ?_|refine YL ?_|refine Q9 Z Z Z ?_|(apply Y2 Za;(iterate 5 exact Z);intro b hbn;(have hbn2:=hbn (List.cons_ne_nil _ _));subst hbn2;clear hbn)|refine Wb Za Z Z Z Z Z Z Z Z Z Z Z (Zi rfl) (Zi rfl) (List.cons_ne_nil _ _) Qd Qd Z Z ?_|refine ZO Za Z Z Z Z Z Z (Zi rfl) (List.cons_ne_nil _ _) Z Qd Qd Z Z Z ?_|(apply Zj Za;exact Z)|(apply Zf Za;exact Z)|(apply Zr Za;exact Z)|(apply Ze;(iterate 3 exact Z);(first|with_reducible assumption|decide +kernel|(solve|simp only[bn])))|(apply Zm;exact Z;(first|with_reducible assumption|decide +kernel|(solve|simp only[bn]));exact Z;exact Z)|(apply Zc;exact Z;(first|with_reducible assumption|decide +kernel|(solve|simp only[bn])))|refine Zy Za Z Z Z Z Z Z Z Z Z Z Z Z ?_|(apply ZV 6 YT;decide +kernel;kernel_rfl;kernel_rfl;kernel_rfl;exact Z;exact Z)|(apply Z6;(iterate 4 exact Z))|exact AE.nil _ _ _ _|(apply Yn;exact Z)|(apply VW;exact Z)|(apply YM;exact Z;exact Z;decide +kernel;exact Z)|(apply YN;exact Z)|(apply UM;exact Z)|exact AO.nil _ _ _|(apply Z5;(decide +kernel))|(apply WU;(iterate 3 exact Z))|exact AOs.nil|exact Ws rfl rfl|exact Jf rfl rfl)
 all_goals exact Qe
theorem XP [Known]:AP Tryz.prog 35 [byE [5,11]] (.tup [.agg rqO,.int .i64 0]) []:=by
 have hW:=X9
 have hE:=UN [5,11] [5,11]
 rw[show(([5,11]:List UInt8)==[5,11])=true by decide]at hE
 replace hE:AP Tryz.prog _ [.sl .ext [.int .u8 5,.int .u8 11],.sl .ext [.int .u8 5,.int .u8 11]] _ []:=hE
 show AP Tryz.prog _ [.sl .ext [.int .u8 5,.int .u8 11]] _ []
 refine AP.ofA (Zl Tryz.func35 Z Tryz.ntmps35 Z Z ?_)
 repeat'(first|(apply Zd (hW);kernel_rfl;(iterate 4 exact Z))|(apply Zd (hE);kernel_rfl;(iterate 4 exact Z))|(apply Zs Tryz.func40 Tryz.ntmps40;exact Z;exact Z;kernel_rfl;(iterate 6 exact Z))|(apply Zs Tryz.func41 Tryz.ntmps41;exact Z;exact Z;kernel_rfl;(iterate 6 exact Z))|(apply Zs Tryz.func42 Tryz.ntmps42;exact Z;exact Z;kernel_rfl;(iterate 6 exact Z))|(apply Zs Tryz.func51 Tryz.ntmps51;exact Z;exact Z;kernel_rfl;(iterate 6 exact Z))|(apply Zs Tryz.func49 Tryz.ntmps49;exact Z;exact Z;kernel_rfl;(iterate 6 exact Z))|(apply Zs Tryz.func50 Tryz.ntmps50;exact Z;exact Z;kernel_rfl;(iterate 6 exact Z))|(apply Zs Tryz.func47 Tryz.ntmps47;exact Z;exact Z;kernel_rfl;(iterate 6 exact Z))|(apply Zs Tryz.func31 Tryz.ntmps31;exact Z;exact Z;kernel_rfl;(iterate 6 exact Z))|(apply Z4;(apply Zb Za;exact Z);exact Z)|refine Yq 80 ?_|refine YL ?_|(apply Y2 Za;(iterate 5 exact Z);intro b hbn;(have hbn2:=hbn (List.cons_ne_nil _ _));subst hbn2;clear hbn)|(apply YW Za;(iterate 5 exact Z);(first|exact .dft _|exact .lit _ _ _ _ rfl (by decide +kernel));(first|exact .dft _|exact .lit _ _ _ _ rfl (by decide +kernel));decide +kernel;decide +kernel;exact Zi rfl;exact Z)|refine Wb Za Z Z Z Z Z Z Z Z Z Z Z (Zi rfl) (Zi rfl) (List.cons_ne_nil _ _) Qd Qd Z Z ?_|(apply Zj Za;exact Z)|(apply Zf Za;exact Z)|(apply Zr Za;exact Z)|(apply Ze;(iterate 3 exact Z);(first|with_reducible assumption|decide +kernel|(solve|simp only[bn])))|(apply Zq;(iterate 3 exact Z);(first|with_reducible assumption|decide +kernel|(solve|simp only[bn])))|(apply Zk;exact Z;(first|with_reducible assumption|decide +kernel|(solve|simp only[bn]));exact Z;exact Z)|(apply Zm;exact Z;(first|with_reducible assumption|decide +kernel|(solve|simp only[bn]));exact Z;exact Z)|(apply Zg;exact Z;(first|with_reducible assumption|decide +kernel|(solve|simp only[bn])))|(apply Zc;exact Z;(first|with_reducible assumption|decide +kernel|(solve|simp only[bn])))|refine Zo Za Z Z Z Z ?_|refine Zy Za Z Z Z Z Z Z Z Z Z Z Z Z ?_|(apply Zu Za;(iterate 6 exact Z);(first|exact Qt|rotate_left);(first|with_reducible assumption|decide +kernel|exact Z);(first|exact Zi rfl|with_reducible assumption|decide +kernel|rotate_left))|(apply Y9;exact Z;exact Z;(first|exact Qt|rotate_left);exact Z))
 all_goals exact Qe
abbrev rq9:List D:=[.int .u64 9,.int .i64 0,.bool false,.int .u64 0,.int .u64 0,.str [],.str [],.bool false,.int .u64 0,.int .u64 0,.str [],.str [],.int .i64 0,.int .i64 0,.int .i64 0,.sl .ext [],.int .u64 0,.int .u64 0,.bool false]
theorem Ka [Known]:AP Tryz.prog 53 [.agg rq9] (.bool false) []:=by
 have h:=Va ⟨9,0,Vi,Vi,0,0,0,[],0,0,false⟩
 rw[show WW ⟨9,0,Vi,Vi,0,0,0,[],0,0,false⟩=false by decide +kernel]at h
 exact h
theorem Kb [Known]:AP Tryz.prog 46 [.agg rq9] (.tup [.sl .ext [],.int .i64 3]) []:=by
 have hR:=Ka
 refine AP.ofA (Zl Tryz.func46 Z Tryz.ntmps46 Z Z ?_)
 repeat'(first|(apply Zd (hR);kernel_rfl;(iterate 4 exact Z))|(apply Zj Za;exact Z)|(apply Zf Za;exact Z)|(apply Zr Za;exact Z)|(apply Zg;exact Z;(first|with_reducible assumption|decide +kernel|(solve|simp only[bn]))))
 all_goals exact Qe
theorem XQ [Known]:AP Tryz.prog 35 [byE [9]] (.tup [.agg X7,.int .i64 3]) []:=by
 have hW:=Kb
 show AP Tryz.prog _ [.sl .ext [.int .u8 9]] _ []
 refine AP.ofA (Zl Tryz.func35 Z Tryz.ntmps35 Z Z ?_)
 repeat'(first|(apply Zd (hW);kernel_rfl;(iterate 4 exact Z))|(apply Zs Tryz.func40 Tryz.ntmps40;exact Z;exact Z;kernel_rfl;(iterate 6 exact Z))|(apply Zs Tryz.func41 Tryz.ntmps41;exact Z;exact Z;kernel_rfl;(iterate 6 exact Z))|(apply Zs Tryz.func42 Tryz.ntmps42;exact Z;exact Z;kernel_rfl;(iterate 6 exact Z))|(apply Zs Tryz.func51 Tryz.ntmps51;exact Z;exact Z;kernel_rfl;(iterate 6 exact Z))|(apply Zs Tryz.func49 Tryz.ntmps49;exact Z;exact Z;kernel_rfl;(iterate 6 exact Z))|(apply Zs Tryz.func50 Tryz.ntmps50;exact Z;exact Z;kernel_rfl;(iterate 6 exact Z))|(apply Zs Tryz.func47 Tryz.ntmps47;exact Z;exact Z;kernel_rfl;(iterate 6 exact Z))|(apply Zs Tryz.func31 Tryz.ntmps31;exact Z;exact Z;kernel_rfl;(iterate 6 exact Z))|(apply Z4;(apply Zb Za;exact Z);exact Z)|refine Yq 80 ?_|refine YL ?_|(apply Y2 Za;(iterate 5 exact Z);intro b hbn;(have hbn2:=hbn (List.cons_ne_nil _ _));subst hbn2;clear hbn)|(apply YW Za;(iterate 5 exact Z);(first|exact .dft _|exact .lit _ _ _ _ rfl (by decide +kernel));(first|exact .dft _|exact .lit _ _ _ _ rfl (by decide +kernel));decide +kernel;decide +kernel;exact Zi rfl;exact Z)|refine Wb Za Z Z Z Z Z Z Z Z Z Z Z (Zi rfl) (Zi rfl) (List.cons_ne_nil _ _) Qd Qd Z Z ?_|(apply Zj Za;exact Z)|(apply Zf Za;exact Z)|(apply Zr Za;exact Z)|(apply Ze;(iterate 3 exact Z);(first|with_reducible assumption|decide +kernel|(solve|simp only[bn])))|(apply Zq;(iterate 3 exact Z);(first|with_reducible assumption|decide +kernel|(solve|simp only[bn])))|(apply ZG;(iterate 3 exact Z);(first|with_reducible assumption|decide +kernel|(solve|simp only[bn])))|(apply Zk;exact Z;(first|with_reducible assumption|decide +kernel|(solve|simp only[bn]));exact Z;exact Z)|(apply Zm;exact Z;(first|with_reducible assumption|decide +kernel|(solve|simp only[bn]));exact Z;exact Z)|(apply Zg;exact Z;(first|with_reducible assumption|decide +kernel|(solve|simp only[bn])))|(apply Zc;exact Z;(first|with_reducible assumption|decide +kernel|(solve|simp only[bn])))|refine Zo Za Z Z Z Z ?_|refine Zy Za Z Z Z Z Z Z Z Z Z Z Z Z ?_|(apply Zu Za;(iterate 6 exact Z);(first|exact Qt|rotate_left);(first|with_reducible assumption|decide +kernel|exact Z);(first|exact Zi rfl|with_reducible assumption|decide +kernel|rotate_left))|(apply Y9;exact Z;exact Z;(first|exact Qt|rotate_left);exact Z))
 all_goals exact Qe
end Go.Proofs.YthdgejfglbjogaaGreatDoor
end

/- The document's answers for replies: which may be, and their bytes; bytes as a frame. -/
import Derived.Test.YtchlgagdbflkmaaGreatDoorL14
import Derived.Test.YtchlgagdbflkmaaGreatDoorL23
import Derived.Test.YtchlgagdbflkmaaGreatDoorL22
import Derived.Test.YtchlgagdbflkmaaGreatDoorL12
import Derived.Test.YtchlgagdbflkmaaGreatDoorL13
set_option linter.unusedVariables false
set_option linter.unusedSimpArgs false
section
open Go.RowKit Go.Pl Go.Av
namespace Go.Proofs.YtchlgagdbflkmaaGreatDoor
set_option maxHeartbeats 4000000
def dyR (id:Nat)(err num cnt:Int)(tok:Nat)(n:Nat):Bool:=match(decide (err<0)||decide (err>99))||decide ((id:Int)>1099511627776) with
 | true=>false
 | false=>match decide (err>0) with
  | true=>((num==0&&cnt==0)&&((tok:Int)==0))&&((n:Int)==0)
  | false=>((((decide (num ≥ 0)&&decide (num<=1099511627776))&&decide (cnt ≥ 0))&&decide (cnt<=1099511627776))&&decide ((tok:Int)<=2147483648))&&decide ((n:Int)<=600)
theorem GB (x:RyV):dyR x.id x.err x.num x.cnt x.tok (x.data.map E.byte).length=Y5 x:=by
 obtain⟨id,err,num,cnt,tok,data⟩:=x
 have hd:(data==[])=decide (data.length=0):=by cases data<;>simp
 unfold dyR Y5 KQ QO Xi
 dsimp only
 rw[List.length_map]
 by_cases h1:err<0
 ·simp[h1]
 by_cases h2:err>99
 ·simp[h2]
 by_cases h3:(id:Int)>1099511627776
 ·simp[h3]
 have hb:(decide (num<0)||decide (num>1099511627776)) = !(decide (num ≥ 0)&&decide (num<=1099511627776)):=by
  by_cases a:num<0<;>by_cases b:num>1099511627776<;>simp[a,b]<;>omega
 have hc:(decide (cnt<0)||decide (cnt>1099511627776)) = !(decide (cnt ≥ 0)&&decide (cnt<=1099511627776)):=by
  by_cases a:cnt<0<;>by_cases b:cnt>1099511627776<;>simp[a,b]<;>omega
 by_cases h4:err>0
 ·have h5:(err != 0)=true:=by simp;omega
  rw[h5]
  by_cases zz:num=0/\cnt=0/\tok=0/\data=[]
  ·obtain⟨rfl,rfl,rfl,rfl⟩:=zz
   simp[h1,h2,h3,h4]
  ·have hl:(((num==0&&cnt==0)&&((tok:Int)==0))&&((data.length:Int)==0))=false:=by
    rw[Bool.eq_false_iff]
    intro h
    simp only[Bool.and_eq_true,beq_iff_eq]at h
    exact zz ⟨h.1.1.1,h.1.1.2,by omega,List.eq_nil_of_length_eq_zero (by omega)⟩
   have hs:((id:Int)==(id:Int)&&(err==err&&(num==0&&(cnt==0&&((tok:Int)==((0:Nat):Int)&&data==[])))))=false:=by
    rw[Bool.eq_false_iff]
    intro h
    simp only[Bool.and_eq_true,beq_iff_eq]at h
    exact zz ⟨h.2.2.1,h.2.2.2.1,by omega,h.2.2.2.2.2⟩
   rw[hs,hl]
   simp only[h1,h2,h3,h4,decide_true,decide_false,Bool.or_false,Bool.or_self,Bool.false_or]
   split<;>rfl
 ·have h5:(err != 0)=false:=by simp;omega
  rw[h5]
  simp only[h1,h2,h3,h4,decide_true,decide_false,Bool.or_false,Bool.or_self,Bool.false_or]
  by_cases z3:(tok:Int)>2147483648
  ·have:¬ (tok:Int)<=2147483648:=by omega
   simp[z3,this]
  ·have q3:(tok:Int)<=2147483648:=by omega
   by_cases z4:(data.length:Int)>600
   ·have:¬ (data.length:Int)<=600:=by omega
    simp[z4,this]
   ·have q4:(data.length:Int)<=600:=by omega
    rw[hb,hc]
    cases(decide (num ≥ 0)&&decide (num<=1099511627776))<;>cases hcn:(decide (cnt ≥ 0)&&decide (cnt<=1099511627776))<;>simp only[Bool.and_eq_false_iff,Bool.and_eq_true,decide_eq_true_eq,decide_eq_false_iff_not]at hcn<;>simp[z3,z4,q3,q4]<;>omega
theorem K3 [Known](id:Nat)(err num cnt:Int)(tok:Nat)(data:List UInt8):AP Tryz.prog 57 [.agg [.int .u64 (id:Int),.int .i64 err,.int .i64 num,.int .i64 cnt,.int .u64 (tok:Int),byE data]] (.bool (dyR id err num cnt tok (data.map E.byte).length)) []:=by
 unfold dyR
 refine AP.ofA (Zp Tryz.func57 Z Tryz.ntmps57 Z Z ?_)
 repeat'(first|(apply Zl Zb;exact Z)|(apply Zj Zb;exact Z)|(apply Zt Zb;exact Z)|(apply Zi;(iterate 3 exact Z);(first|with_reducible assumption|(solve|simp only[bn])))|(apply Zs;(iterate 3 exact Z);(first|with_reducible assumption|(solve|simp only[bn])))|(apply Zq;(iterate 3 exact Z);(first|with_reducible assumption|(solve|simp only[bn])))|(apply ZZ;exact Z;exact Z;all_goals intro hb)|(apply Zo;exact Z;(first|with_reducible assumption|(solve|simp only[bn]));exact Z;exact Z)|(apply Zn;exact Z;(first|with_reducible assumption|(solve|simp only[bn]));exact Z;exact Z)|(apply Zf;exact Z;(first|with_reducible assumption|(solve|simp only[bn])))|(apply Yq;exact Z;all_goals intro hb)|refine Zz Zb Z Z Z Z ?_)
 all_goals(apply Zw [];(apply Zd Zb;exact Z);(iterate 4 exact Z))
 all_goals first|rfl|(simp only[*];done)|(simp only[*];rfl)
theorem Xu [Known](x:RyV):AP Tryz.prog 57 [.agg (ryC x)] (.bool (Y5 x)) []:=by
 rw[<- GB]
 exact K3 _ _ _ _ _ _
theorem K4 [Known](id e n c tok:Nat)(data:List UInt8)(L0 L1 L2 L3 L4 L5 R:List E)(w1:IntKind.u64.wrap (e:Int)=(e:Int))(w2:IntKind.u64.wrap (n:Int)=(n:Int))(w3:IntKind.u64.wrap (c:Int)=(c:Int))
  (h0:AT Tryz.prog 86 [.int .u64 (id:Int)] [] [] (.sl (.own 0) L0) [] [⟨L0.length,1,5⟩])
  (h1:AP Tryz.prog 86 [.int .u64 (e:Int)] (.sl .ext L1) []) (h2:AP Tryz.prog 86 [.int .u64 (n:Int)] (.sl .ext L2) [])
  (h3:AP Tryz.prog 86 [.int .u64 (c:Int)] (.sl .ext L3) []) (h4:AP Tryz.prog 86 [.int .u64 (tok:Int)] (.sl .ext L4) [])
  (h5:AP Tryz.prog 87 [byE data] (.sl .ext L5) [])
  (u0:Uni 1 L0) (u1:Uni 1 L1) (u2:Uni 1 L2) (u3:Uni 1 L3) (u4:Uni 1 L4) (u5:Uni 1 L5)
  (l0:L0.length<=10) (l1:L1.length<=10) (l2:L2.length<=10) (l3:L3.length<=10) (l4:L4.length<=10) (l5:L5.length<=1000)
  (n1:L1 ≠ []) (n2:L2 ≠ []) (n3:L3 ≠ []) (n4:L4 ≠ []) (n5:L5 ≠ []) (hR:((((L0++L1)++L2)++L3)++L4)++L5=R) :
  AP Tryz.prog 59 [.agg [.int .u64 (id:Int),.int .i64 (e:Int),.int .i64 (n:Int),.int .i64 (c:Int),.int .u64 (tok:Int),byE data]] (.sl .ext R) []:=by
 subst hR
 have U1:=u0.append u1
 have U2:=U1.append u2
 have U3:=U2.append u3
 have U4:=U3.append u4
 have hU4:Uni 1 ([.int .u64 (e:Int),.int .u64 (n:Int),.int .u64 (c:Int),.int .u64 (tok:Int)]:List E):=Zk rfl
 refine AP.ofA (Zp Tryz.func59 Z Tryz.ntmps59 Z Z ?_)
 repeat'(first|rw[w1]|rw[w2]|rw[w3]|(apply Zm [] [] (h0);kernel_rfl;(iterate 10 exact Z))|(apply Zc (h1);kernel_rfl;(iterate 4 exact Z))|(apply Zc (h2);kernel_rfl;(iterate 4 exact Z))|(apply Zc (h3);kernel_rfl;(iterate 4 exact Z))|(apply Zc (h4);kernel_rfl;(iterate 4 exact Z))|(apply Zc (h5);kernel_rfl;(iterate 4 exact Z))|refine Yi 6 ?_|refine YE ?_|(apply Zl Zb;exact Z)|(apply Zj Zb;exact Z)|(apply Zf;exact Z;(first|with_reducible assumption|decide +kernel|(solve|simp only[bn])))|(apply Zg;exact Z;(first|with_reducible assumption|decide +kernel|(solve|simp only[bn])))|refine Z8 Zb Z Z Z Z Z Z Z Z Z Z Z Z ?_|(apply ZJ Zb;(iterate 6 exact Z);(first|with_reducible assumption|decide +kernel|exact Z|rotate_left);exact Z;exact Z;(first|exact Zk rfl|with_reducible assumption|decide +kernel|rotate_left);(first|exact Zk rfl|with_reducible assumption|decide +kernel|rotate_left);(first|exact Qt|rotate_left);(first|exact Qt|rotate_left);(first|exact Qt|rotate_left);exact Z;exact Z)|(apply ZF Zb;(iterate 6 exact Z);(first|exact Qt|rotate_left);(first|with_reducible assumption|decide +kernel|exact Z);(first|exact Zk rfl|with_reducible assumption|decide +kernel|rotate_left)))
 all_goals first|(apply Zw [];(apply Zd Zb;exact Z);(iterate 4 exact Z))|exact(List.length_append ..).symm|exact u0|exact u1|exact n1|exact U4|exact u5|exact n5|(unfold maxLen;simp only[List.length_append];omega)|(unfold maxLen;omega)|(show(_+_)*1<=_;simp only[List.length_append];omega)|(show(_+_)*1<=_;omega)|skip
 all_goals rfl
theorem OM [Known]{x:RyV}(h:Y5 x=true):AP Tryz.prog 59 [.agg (ryC x)] (byE (Vw x)) []:=by
 obtain⟨f1,⟨f2,f2b⟩,⟨f3,f3b⟩,⟨f4,f4b⟩,f5,f6⟩:=Xk h
 clear h
 obtain⟨id,err,num,cnt,tok,data⟩:=x
 dsimp only at *
 obtain⟨e,rfl⟩:=Int.eq_ofNat_of_zero_le f2
 obtain⟨n,rfl⟩:=Int.eq_ofNat_of_zero_le f3
 obtain⟨c,rfl⟩:=Int.eq_ofNat_of_zero_le f4
 have hv:∀ m,((vn m).map E.byte).length<=10/\(vn m).map E.byte ≠ []:=fun m=>by
  have:=WC m
  refine⟨by rw[List.length_map];omega,fun h=>?_⟩
  rw[List.map_eq_nil_iff.1 h]at this
  simp at this
 have h0:=Jx id (by omega)
 rw[show(vn id).length=((vn id).map E.byte).length from(List.length_map ..).symm]at h0
 have l5:=(WC data.length).1
 have n5:=(WC data.length).2
 refine K4 id e n c tok data _ _ _ _ _ _ _ (IntWalk.u64_in _ (by omega)) (IntWalk.u64_in _ (by omega)) (IntWalk.u64_in _ (by omega)) h0 (WH e (by omega)) (WH n (by omega)) (WH c (by omega)) (WH tok (by omega)) (QD data (by omega)) (YD _) (YD _) (YD _) (YD _) (YD _) (YD _) (hv _).1 (hv _).1 (hv _).1 (hv _).1 (hv _).1 (by rw[List.length_map,List.length_append];omega) (hv _).2 (hv _).2 (hv _).2 (hv _).2 (fun h=>?_) ?_
 ·rw[List.append_eq_nil_iff.1 (List.map_eq_nil_iff.1 h) |>.1]at n5
  simp at n5
 ·unfold Vw
  simp
end Go.Proofs.YtchlgagdbflkmaaGreatDoor
end
section
open Go.RowKit Go.Pl
namespace Go.Av
mutual
def Nu (l:List E):D->D
 | .bsl _ _ _ _=>.sl .ext l
 | .sl _ l'=>.sl .ext l'
 | .agg ds=>.agg (GC l ds)
 | .bool b=>.bool b
 | .int k n=>.int k n
 | .str s=>.str s
 | .nilp=>.nilp
 | .eptr cs o=>.eptr cs o
 | .gptr k o=>.gptr k o
 | .nilf=>.nilf
 | .nili=>.nili
 | _=>.junk
def GC (l:List E):List D->List D
 | []=>[]
 | d::ds=>Nu l d::GC l ds
end
mutual
def LOk (b n:Nat):D->Prop
 | .bsl b' o n' _=>b'=b/\o=0/\n'=n
 | .agg ds=>Nv b n ds
 | _=>True
def Nv (b n:Nat):List D->Prop
 | []=>True
 | d::ds=>LOk b n d/\Nv b n ds
end
def G.lent (g:G):G:=⟨fun k o=>g.C k o\/k ∈ g.ρ,[],[]⟩
section
variable {P:Program} {Q:X->St->Prop} {n:Nat} {ee:Nat × Nat} {tm:List (Nat × D)} {bx bx':List (List D)} {fr fr':List Fr} {b0:Bs} {g g':G} {w w':World} {a:Act} {T:Tab}
variable {ops:Array Oper} {rest:List Oper} {t ty:Nat} {pos:String} {after:Array Edge}
mutual
def plD:D->D
 | .bool b=>.bool b
 | .int k n=>.int k n
 | .str s=>.str s
 | .nilp=>.nilp
 | .sl _ l=>match l with
  | []=>.sl .ext []
  | _::_=>.junk
 | .agg ds=>.agg (Tx ds)
 | .tup ds=>.tup (Tx ds)
 | .nilf=>.nilf
 | .nili=>.nili
 | _=>.junk
def Tx:List D->List D
 | []=>[]
 | d::ds=>plD d::Tx ds
end
end
section
variable {P:Program} {Q:X->St->Prop} {n:Nat} {ee:Nat × Nat} {tm:List (Nat × D)} {bx:List (List D)} {fr:List Fr} {ops:Array Oper} {rest:List Oper} {ty:Nat} {pos:String} {after:Array Edge} {f:FuncId} {ars:Array Operand} {ats:Array TypeId}
end
end Go.Av
end
section
open Go.RowKit Go.Pl
namespace Go.Av
inductive Zy where
 | pu (d:D)
 | al (cs:List D)
def z0 (p:Nat × Zy):Nat × D:=(p.1,match p.2 with | .pu d=>d | .al _=>.junk)
def Ty:Nat->List (Nat × Zy)->List (Nat × D)->List (Nat × D)
 | _,[],tm=>tm
 | m,(_,.pu _)::zs,tm=>Ty m zs tm
 | m,(t,.al _)::zs,tm=>Ty (m+1) zs ((t,.ptr m 0)::tm)
def zcs:List (Nat × Zy)->List (List D)
 | []=>[]
 | (_,.pu _)::zs=>zcs zs
 | (_,.al cs)::zs=>cs::zcs zs
section
variable {P:Program} {T:Tab} {Q:X->St->Prop} {n:Nat} {ee:Nat × Nat} {tm tm':List (Nat × D)} {bx:List (List D)} {fr:List Fr} {b0:Bs} {g g':G} {w w':World} {a:Act}
inductive AZ [Known][Dfr](P:Program) (T:Tab) (l:List Oper) (n:Nat) (bx:List (List D)) (fr:List Fr):List Oper->List (Nat × D)->List (Nat × Zy)->List (Nat × D)->Prop
 | nil (tm:List (Nat × D)):AZ P T l n bx fr [] tm [] tm
 | pu (o:Oper) (rest:List Oper) (t:Nat) (d:D) (tm:List (Nat × D)) (zs:List (Nat × Zy)) (tm':List (Nat × D)) (hd:o.dst=some t) (ht:Nat.blt t n=true) (h:AL P l.toArray [o] ⟨n,Wp l o tm,bx,fr,(bx.length,fr.length)⟩ (qY o bx fr (.pu d))) (k:AZ P T l n bx fr rest ((t,d)::tm) zs tm'):AZ P T l n bx fr (o::rest) tm ((t,.pu d)::zs) tm'
 | al (t:Nat) (e:TypeId) (ty:Nat) (pos:String) (after:Array Edge) (rest:List Oper) (ti:Ti) (tm:List (Nat × D)) (zs:List (Nat × Zy)) (tm':List (Nat × D)) (ht:Nat.blt t n=true) (hti:tl T e=some ti) (k:AZ P T l n bx fr rest ((t,.junk)::tm) zs tm'):AZ P T l n bx fr (⟨some t,.alloc e,ty,pos,after,none⟩::rest) tm ((t,.al (ti.zero.map ZK.d))::zs) tm'
structure AZk [Known][Dfr](P:Program) (l acts:List Oper) (n:Nat) (zs:List (Nat × Zy)) (tm:List (Nat × D)) (bx:List (List D)) (fr:List Fr) (ee:Nat × Nat) (Q:X->St->Prop):Prop where
 run:AL P l.toArray acts ⟨n,Ty bx.length zs tm,bx++zcs zs,fr,ee⟩ Q
end
end Go.Av
end
section
open Go.RowKit Go.Pl
namespace Go.Av
mutual
def stD (b:Nat)(l:List E):D->D
 | .bsl b' o n c=>match Nat.blt b' b with
  | true=>.bsl b' o n c
  | false=>match Nat.beq b' b with
   | true=>.sl .ext l
   | false=>.junk
 | .ptr b' o=>match Nat.blt b' b with
  | true=>.ptr b' o
  | false=>.junk
 | .sl t l'=>.sl t l'
 | .agg ds=>.agg (GD b l ds)
 | .tup ds=>.tup (GD b l ds)
 | .fn f ds=>.fn f (GD b l ds)
 | .iface t d=>.iface t (stD b l d)
 | .bool b=>.bool b
 | .int k n=>.int k n
 | .str s=>.str s
 | .nilp=>.nilp
 | .eptr cs o=>.eptr cs o
 | .gptr k o=>.gptr k o
 | .nilf=>.nilf
 | .nili=>.nili
 | .yl l=>.yl l
 | .mix l' ds=>.mix l' (GD b l ds)
 | .junk=>.junk
 | .row z l=>.row z l
def GD (b:Nat)(l:List E):List D->List D
 | []=>[]
 | d::ds=>stD b l d::GD b l ds
end
mutual
def SOk (b n:Nat):D->Prop
 | .bsl b' o n' _=>Nat.blt b' b=true\/Nat.blt b b'=true\/(b'=b/\o=0/\n'=n)
 | .agg ds=>GE b n ds
 | .tup ds=>GE b n ds
 | .fn _ ds=>GE b n ds
 | .iface _ d=>SOk b n d
 | .mix _ ds=>GE b n ds
 | _=>True
def GE (b n:Nat):List D->Prop
 | []=>True
 | d::ds=>SOk b n d/\GE b n ds
end
section
variable {P:Program} {Q:X->St->Prop} {n:Nat} {ee:Nat × Nat} {tm:List (Nat × D)} {bx bx':List (List D)} {fr fr':List Fr} {b0:Bs} {g g':G} {w w':World} {a:Act} {T:Tab}
variable {ops:Array Oper} {rest:List Oper} {t ty:Nat} {pos:String} {after:Array Edge}
end
end Go.Av
end
section
open Go.RowKit Go.Pl
namespace Go.Av
section
variable {P:Program} {T:Tab} {Q:X->St->Prop} {n:Nat} {ee:Nat × Nat} {tm tm':List (Nat × D)} {bx bx':List (List D)} {fr fr':List Fr} {b0:Bs} {g:G} {w:World} {a:Act} {ys:List Y}
structure AOj [Known][Dfr](P:Program) (l:List Oper) (n:Nat) (rest:List Oper) (ys:List Y) (tm:List (Nat × D)) (bx:List (List D)) (fr:List Fr) (ja:Nat):Prop where
 out:AOt P l n rest ys tm bx fr
 at_:ys[ja]?=some (.pu .junk)
end
end Go.Av
end
section
open Go.RowKit Go.Pl
namespace Go.Av
section
variable {P:Program} {Q:X->St->Prop} {n:Nat} {ee:Nat × Nat} {tm:List (Nat × D)} {bx bx':List (List D)} {fr fr':List Fr} {b0:Bs} {g:G} {w:World} {a:Act} {T:Tab}
variable {ops:Array Oper} {rest:List Oper} {t ty:Nat} {pos:String} {after:Array Edge}
end
end Go.Av
end
section
open Go.RowKit Go.Pl Go.Av
namespace Go.Proofs.YtchlgagdbflkmaaGreatDoor
set_option maxHeartbeats 4000000
theorem be3 (x y:UInt8):IntKind.i64.wrap (IntKind.i64.wrap (256*IntKind.i64.wrap (x.toNat:Int))+IntKind.i64.wrap (y.toNat:Int))=((256*x.toNat+y.toNat:Nat):Int):=by
 have hx:=x.toNat_lt
 have hy:=y.toNat_lt
 rw[IntWalk.i64_in (x.toNat:Int) (by omega),IntWalk.i64_in (y.toNat:Int) (by omega),IntWalk.i64_in (256*(x.toNat:Int)) (by omega),IntWalk.i64_in _ (by omega)];omega
theorem Tz [Known](b:List UInt8)(hl:b.length<=1099511627776):AP Tryz.prog 50 [byE b] (.tup [XA (ZS b).1,.int .i64 (((ZS b).2.1.length:Nat):Int),.int .i64 (((ZS b).2.2:Nat):Int)]) []:=by
 refine AP.weak (Zp Tryz.func50 Z Tryz.ntmps50 Z Z ?_)
 have hU:=YD b
 have hbl:(b.map E.byte).length=b.length:=List.length_map ..
 repeat'(first|(apply Zj Zb;exact Z))
 refine Yr (fun k tm bx fr=>∃(out:List (List UInt8)) (i:Nat) (tk:Tok),k+i=b.length/\ZS b=(out++(ZS (b.drop i)).1,(ZS (b.drop i)).2)/\out.length<=i/\tm=[(0,byE b),(5,.sl tk (out.map E.bys)),(6,.int .i64 (i:Int))]/\bx=[]/\((tk=.nil/\out=[]/\fr=[])\/(∃ c,tk=.own 1/\out ≠ []/\c=(out.map E.bys).length/\fr=[⟨1,1,26⟩,⟨c,1,26⟩]))) (b.length+1) (Lands.mk' (m:=b.length) (Nat.lt_succ_self _) ⟨[],0,.nil,rfl,by simp,by simp,rfl,rfl,.inl ⟨rfl,rfl,rfl⟩⟩ ?_ rfl rfl rfl rfl rfl rfl) ?_
 ·exact .cons rfl (.cons rfl (.cons rfl .nil))
 rintro k tm bx fr ⟨out,i,tk,hk,hT,hle,rfl,rfl,hc⟩
 have hO:=KL out
 obtain⟨cur,hcur0⟩:∃ cur,cur=b.drop i:=⟨_,rfl⟩
 have hcl:cur.length=b.length-i:=by rw[hcur0,List.length_drop]
 rw[<- hcur0]at hT
 have e1:IntKind.i64.wrap (((b.map E.byte).length:Int)-(i:Int))=((cur.length:Nat):Int):=by
  rw[hbl,IntWalk.i64_in _ (by omega)];omega
 by_cases h2:cur.length<2
 ·have g2:decide (((cur.length:Nat):Int) ≥ 2)=false:=decide_eq_false (by omega)
  repeat'(first|rw[e1]|(apply Zl Zb;exact Z)|(apply Zj Zb;exact Z)|(apply Zt Zb;exact Z)|refine UA ?_|(apply Zg;exact Z;(first|with_reducible assumption|(solve|simp only[bn])))|refine Zz Zb Z Z Z Z ?_)
  all_goals(apply KG;(apply Zd Zb;exact Z);exact Z)
  all_goals(rw[hT,Vi h2];simp)
 have g2:decide (((cur.length:Nat):Int) ≥ 2)=true:=decide_eq_true (by omega)
 obtain⟨x,y,r,hcur⟩:∃ x y r,cur=x::y::r:=by
  match cur,h2 with
  | x::y::r,_=>exact⟨x,y,r,rfl⟩
  | [_],h=>simp at h
  | [],h=>simp at h
 have hbi:b.drop i=x::y::r:=by rw[<- hcur0,hcur]
 have hx0:(b.map E.byte)[((i:Nat):Int).toNat]?=some (E.byte x):=by
  rw[Int.toNat_natCast,List.getElem?_map,show b[i]?=(b.drop i)[0]? by rw[List.getElem?_drop];rfl,hbi];rfl
 have hy0:(b.map E.byte)[((i+1:Nat):Int).toNat]?=some (E.byte y):=by
  rw[Int.toNat_natCast,List.getElem?_map,show b[i+1]?=(b.drop i)[1]? by rw[List.getElem?_drop],hbi];rfl
 have ei:IntKind.i64.wrap ((i:Int)+1)=((i+1:Nat):Int):=by rw[IntWalk.i64_in _ (by omega)];omega
 have hn:Yd cur=256*x.toNat+y.toNat:=by rw[hcur];rfl
 have e0:=be3 x y
 rw[<- hn]at e0
 by_cases h0:Yd cur=0
 ·have g0:(((Yd cur:Nat):Int)==0)=true:=by rw[h0];rfl
  repeat'(first|rw[e1]|rw[ei]|rw[e0]|(apply Zl Zb;exact Z)|(apply Zj Zb;exact Z)|(apply Zt Zb;exact Z)|refine UA ?_|(apply Zf;exact Z;(first|with_reducible assumption|(solve|simp only[bn])))|refine Zz Zb Z Z Z Z ?_|(apply Z5 12 Ze;decide +kernel;kernel_rfl;kernel_rfl;exact Z;exact Z)|(apply Yp;(iterate 3 exact Z))|refine AD.nil _|exact Yv rfl|(apply ZF Zb;(iterate 6 exact Z);(first|exact Qb|rotate_left);(first|with_reducible assumption|exact Z);(first|exact Zk rfl|with_reducible assumption|rotate_left)))
  all_goals(apply KG;(apply Zd Zb;exact Z);exact Z)
  all_goals(rw[hT,UV h2 h0];simp)
 have g0:(((Yd cur:Nat):Int)==0)=false:=by simp;omega
 by_cases h1:Yd cur>1000
 ·have g1:decide (((Yd cur:Nat):Int)>1000)=true:=decide_eq_true (by omega)
  repeat'(first|rw[e1]|rw[ei]|rw[e0]|(apply Zl Zb;exact Z)|(apply Zj Zb;exact Z)|(apply Zt Zb;exact Z)|refine UA ?_|(apply Zf;exact Z;(first|with_reducible assumption|(solve|simp only[bn])))|(apply Zg;exact Z;(first|with_reducible assumption|(solve|simp only[bn])))|refine Zz Zb Z Z Z Z ?_|(apply Z5 12 Ze;decide +kernel;kernel_rfl;kernel_rfl;exact Z;exact Z)|(apply Yp;(iterate 3 exact Z))|refine AD.nil _|exact Yv rfl|(apply ZF Zb;(iterate 6 exact Z);(first|exact Qb|rotate_left);(first|with_reducible assumption|exact Z);(first|exact Zk rfl|with_reducible assumption|rotate_left)))
  all_goals(apply KG;(apply Zd Zb;exact Z);exact Z)
  all_goals(rw[hT,UW h2 h1];simp)
 have g1:decide (((Yd cur:Nat):Int)>1000)=false:=decide_eq_false (by omega)
 have e2:IntKind.i64.wrap (((cur.length:Nat):Int)-2)=((cur.length-2:Nat):Int):=by
  rw[IntWalk.i64_in _ (by omega)];omega
 by_cases h3:cur.length<Yd cur+2
 ·have g3:decide (((cur.length-2:Nat):Int)<((Yd cur:Nat):Int))=true:=decide_eq_true (by omega)
  repeat'(first|rw[e1]|rw[e2]|rw[ei]|rw[e0]|(apply Zl Zb;exact Z)|(apply Zj Zb;exact Z)|(apply Zt Zb;exact Z)|refine UA ?_|(apply Zf;exact Z;(first|with_reducible assumption|(solve|simp only[bn])))|(apply Zg;exact Z;(first|with_reducible assumption|(solve|simp only[bn])))|refine Zz Zb Z Z Z Z ?_|(apply Z5 12 Ze;decide +kernel;kernel_rfl;kernel_rfl;exact Z;exact Z)|(apply Yp;(iterate 3 exact Z))|refine AD.nil _|exact Yv rfl|(apply ZF Zb;(iterate 6 exact Z);(first|exact Qb|rotate_left);(first|with_reducible assumption|exact Z);(first|exact Zk rfl|with_reducible assumption|rotate_left)))
  all_goals(apply KG;(apply Zd Zb;exact Z);exact Z)
  all_goals(rw[hT,UX h2 h0 h1 h3];simp)
 have g3:decide (((cur.length-2:Nat):Int)<((Yd cur:Nat):Int))=false:=decide_eq_false (by omega)
 have ea:IntKind.i64.wrap ((i:Int)+2)=((i+2:Nat):Int):=by rw[IntWalk.i64_in _ (by omega)];omega
 have eb:IntKind.i64.wrap (((i+2:Nat):Int)+((Yd cur:Nat):Int))=((i+2+Yd cur:Nat):Int):=by rw[IntWalk.i64_in _ (by omega)];omega
 have hT1:=VW h2 h0 h1 h3
 have hs1:((b.map E.byte).take (((i+2+Yd cur:Nat):Int).toNat)).drop (((i+2:Nat):Int).toNat)=((cur.take (2+Yd cur)).drop 2).map E.byte:=by
  rw[Int.toNat_natCast,Int.toNat_natCast,List.map_drop,List.map_take,hcur0,List.map_drop,List.take_drop,List.drop_drop]
  congr 1
  congr 1
  omega
 have hd1:cur.drop (2+Yd cur)=b.drop (i+2+Yd cur):=by rw[hcur0,List.drop_drop,Nat.add_assoc]
 rcases hc with⟨rfl,rfl,rfl⟩ | ⟨c,rfl,hne,hcl2,rfl⟩
 ·repeat'(first|rw[e1]|rw[e2]|rw[ei]|rw[e0]|rw[ea]|rw[eb]|(apply W9 Zb;(iterate 5 exact Z);exact .lit _ _ _ _ rfl (Int.natCast_nonneg _);exact .lit _ _ _ _ rfl (Int.natCast_nonneg _);omega;(rw[List.length_map];omega);exact hU;exact hs1)|(apply Zl Zb;exact Z)|(apply Zj Zb;exact Z)|(apply Zt Zb;exact Z)|refine UA ?_|(apply Zf;exact Z;(first|with_reducible assumption|(solve|simp only[bn])))|(apply Zg;exact Z;(first|with_reducible assumption|(solve|simp only[bn])))|refine ZU ?_|refine Zz Zb Z Z Z Z ?_|refine V1 Zb Z Z Z Z Z Z Z Z Z Z Z Z ?_|(apply Z5 12 Ze;decide +kernel;kernel_rfl;kernel_rfl;exact Z;exact Z)|(apply Yp;(iterate 3 exact Z))|refine AD.nil _|exact Yv rfl|(apply Z3 Zb;(iterate 6 exact Z);(first|exact Zk rfl|with_reducible assumption|rotate_left);(first|exact Qb|rotate_left);(first|exact Qb|rotate_left);(first|exact Qb|rotate_left);(iterate 3 exact Z))|(apply ZF Zb;(iterate 6 exact Z);(first|exact Qb|rotate_left);(first|with_reducible assumption|exact Z);(first|exact Zk rfl|with_reducible assumption|rotate_left)))
  ·refine Lands.mk' (m:=b.length-(i+2+Yd cur)) (by omega) ⟨[(cur.take (2+Yd cur)).drop 2],i+2+Yd cur,.own 1,by omega,by rw[hT,hT1,hd1];rfl,by simp;omega,rfl,rfl,.inr ⟨1,rfl,by simp,rfl,rfl⟩⟩ ?_ rfl rfl rfl rfl rfl rfl
   exact .cons rfl (.cons rfl (.cons rfl .nil))
  all_goals first|(show 1<=maxLen;decide)|(show 1*24<=_;decide)
 ·have hne':out.map E.bys ≠ []:=by simpa using hne
  repeat'(first|rw[e1]|rw[e2]|rw[ei]|rw[e0]|rw[ea]|rw[eb]|(apply W9 Zb;(iterate 5 exact Z);exact .lit _ _ _ _ rfl (Int.natCast_nonneg _);exact .lit _ _ _ _ rfl (Int.natCast_nonneg _);omega;(rw[List.length_map];omega);exact hU;exact hs1)|(apply Zl Zb;exact Z)|(apply Zj Zb;exact Z)|(apply Zt Zb;exact Z)|refine UA ?_|(apply Zf;exact Z;(first|with_reducible assumption|(solve|simp only[bn])))|(apply Zg;exact Z;(first|with_reducible assumption|(solve|simp only[bn])))|refine ZU ?_|refine Zz Zb Z Z Z Z ?_|refine V1 Zb Z Z Z Z Z Z Z Z Z Z Z Z ?_|(apply Z5 12 Ze;decide +kernel;kernel_rfl;kernel_rfl;exact Z;exact Z)|(apply Yp;(iterate 3 exact Z))|refine AD.nil _|exact Yv rfl|(apply ZJ Zb;(iterate 6 exact Z);(first|with_reducible assumption|exact Z|rotate_left);exact Z;exact Z;(first|exact Zk rfl|with_reducible assumption|rotate_left);(first|exact Zk rfl|with_reducible assumption|rotate_left);(first|exact Qb|rotate_left);(first|exact Qb|rotate_left);(first|exact Qb|rotate_left);exact Z;exact Z)|(apply ZF Zb;(iterate 6 exact Z);(first|exact Qb|rotate_left);(first|with_reducible assumption|exact Z);(first|exact Zk rfl|with_reducible assumption|rotate_left)))
  ·refine Lands.mk' (m:=b.length-(i+2+Yd cur)) (by omega) ⟨out++[(cur.take (2+Yd cur)).drop 2],i+2+Yd cur,.own 1,by omega,by rw[hT,hT1,hd1];simp,by simp;omega,rfl,rfl,.inr ⟨_,rfl,by simp,rfl,rfl⟩⟩ ?_ rfl ?_ rfl rfl rfl rfl
   ·exact .cons rfl (.cons (by rw[List.map_append];rfl) (.cons rfl .nil))
   ·rw[List.map_append,List.length_append];rfl
  ·show(out.map E.bys).length+1<=maxLen
   rw[List.length_map];unfold maxLen;omega
  ·show((out.map E.bys).length+1)*24<=_
   rw[List.length_map];omega
theorem K5 [Known](b:List UInt8)(h1:1<=b.length)(hl:b.length<=1000):AP Tryz.prog 58 [byE b] (byE (UY b)) []:=by
 refine AP.weak (Zp Tryz.func58 Z Tryz.ntmps58 Z Z ?_)
 have hbl:(b.map E.byte).length=b.length:=List.length_map ..
 have hU:=YD b
 have hne:b.map E.byte ≠ []:=by cases b<;>simp at h1 ⊢
 repeat'(first|(apply Zl Zb;exact Z)|(apply Zj Zb;exact Z)|refine UA ?_|refine Zz Zb Z Z Z Z ?_|refine V1 Zb Z Z Z Z Z Z Z Z Z Z Z Z ?_|(apply ZJ Zb;(iterate 6 exact Z);(first|with_reducible assumption|exact Z|rotate_left);exact Z;exact Z;(first|exact Zk rfl|with_reducible assumption|rotate_left);(first|exact Zk rfl|with_reducible assumption|rotate_left);(first|exact Qb|rotate_left);(first|exact Qb|rotate_left);(first|exact Qb|rotate_left);exact Z;exact Z)|(apply WB;exact Z;exact Z;(first|exact Qb|rotate_left);exact Z)|(apply YK;exact Z;exact Z;(first|exact Qb|rotate_left);exact Z))
 ·(apply KG;(apply Zd Zb;exact Z);exact Z)
  have w1:IntKind.i64.wrap (((b.length:Nat):Int).tdiv 256)=((b.length/256:Nat):Int):=by
   rw[Int.tdiv_eq_ediv_of_nonneg (Int.natCast_nonneg _),IntWalk.i64_in _ (by omega)];omega
  have w2:((b.length:Nat):Int).tmod 256=((b.length % 256:Nat):Int):=by
   rw[Int.tmod_eq_emod_of_nonneg (Int.natCast_nonneg _)];omega
  have e1:E.int .u8 (IntKind.u8.wrap (IntKind.i64.wrap ((((b.map E.byte).length:Nat):Int).tdiv 256)))=E.byte (UInt8.ofNat (b.length/256)):=by
   rw[List.length_map,w1,IntKind.wrap_u8']
   unfold E.byte
   rw[UInt8.toNat_ofNat']
   congr 1
  have e2:E.int .u8 (IntKind.u8.wrap ((((b.map E.byte).length:Nat):Int).tmod 256))=E.byte (UInt8.ofNat (b.length % 256)):=by
   rw[List.length_map,w2,IntKind.wrap_u8']
   unfold E.byte
   rw[UInt8.toNat_ofNat']
   congr 1
  have e3:=congr (congrArg (fun(x y:E)=>D.sl .ext (x::y::b.map E.byte)) e1) e2
  exact e3
 ·simp[maxLen];omega
 ·simp;omega
abbrev dvA (p:List E):D:=.sl (.own 0) p
abbrev dvW (L:List E):D:=.sl (.own 1) L
abbrev dvO (o:List E):D:=.sl (.own 2) o
abbrev dvS (p:List E)(tk:Int)(w:D)(s:Int)(o:List E)(e:Int):List (List D):=[[dvA p,.int .i64 tk,w,.int .i64 s,dvO o,.int .i64 e]]
abbrev dvF (n c oc:Nat):List Fr:=[⟨n,1,5⟩,⟨c,19,46⟩,⟨oc,1,5⟩]
theorem dc [Known](e:Nat)(he:e ≠ 0)(p L o:List E)(n c oc:Nat)(tk s:Int):AT Tryz.prog 22 [.ptr 0 0,.int .i64 (e:Int)] (dvS p tk (dvW L) s o 0) (dvF n c oc) (.tup []) (dvS p tk cvN s o (e:Int)) (dvF n c oc):=by
 have d1:((e:Int)==0)=false:=by simp;omega
 refine Zp Tryz.func22 rfl Tryz.ntmps22 rfl rfl ?_
 repeat'(first|(apply Zj Zb;exact Z)|(apply Zg;exact Z;(first|with_reducible assumption|decide +kernel|(solve|simp only[bn]))))
 all_goals(apply Vh [0] [0,1,2];(apply Zd Zb;exact Z);(iterate 7 exact Z))
 all_goals rfl
theorem dfX [Known](b:List UInt8)(e:Nat)(he:e ≠ 0)(p L o:List E)(n c oc:Nat)(tk s:Int):AT Tryz.prog 10 [.ptr 0 0,byE b] (dvS p tk (dvW L) s o (e:Int)) (dvF n c oc) (.int .i64 (e:Int)) (dvS p tk (dvW L) s o (e:Int)) (dvF n c oc):=by
 have d1:((e:Int) != 0)=true:=by simp;omega
 refine Zp Tryz.func10 rfl Tryz.ntmps10 rfl rfl ?_
 repeat'(first|(apply Zj Zb;exact Z)|(apply Zt Zb;exact Z)|(apply Zf;exact Z;(first|with_reducible assumption|decide +kernel|(solve|simp only[bn]))))
 all_goals(apply Yc [0] [0,1,2];(apply Zd Zb;exact Z);(iterate 7 exact Z))
 all_goals rfl
def ON (n s:Int)(e:Nat):Int × Int:=if n<1\/n>1099511627776 then(1,s) else if s>0\/e ≠ 0 then(7,s) else(0,n)
theorem dcX [Known](e m:Nat)(he:e ≠ 0)(p L o:List E)(n c oc:Nat)(tk s:Int):AT Tryz.prog 22 [.ptr 0 0,.int .i64 (m:Int)] (dvS p tk (dvW L) s o (e:Int)) (dvF n c oc) (.tup []) (dvS p tk (dvW L) s o (e:Int)) (dvF n c oc):=by
 have d1:((e:Int) != 0)=true:=by simp;omega
 refine Zp Tryz.func22 rfl Tryz.ntmps22 rfl rfl ?_
 repeat'(first|(apply Zj Zb;exact Z)|(apply Zt Zb;exact Z)|(apply Zf;exact Z;(first|with_reducible assumption|decide +kernel|(solve|simp only[bn]))))
 all_goals first|(apply Yc [0] [0,1,2];(apply Zd Zb;exact Z);(iterate 7 exact Z))|(apply Vh [0] [0,1,2];(apply Zd Zb;exact Z);(iterate 7 exact Z))
 all_goals rfl
theorem dc0 [Known](p L o:List E)(n c oc:Nat)(tk s:Int):AT Tryz.prog 22 [.ptr 0 0,.int .i64 0] (dvS p tk (dvW L) s o 0) (dvF n c oc) (.tup []) (dvS p tk cvN s o 16) (dvF n c oc):=by
 refine Zp Tryz.func22 rfl Tryz.ntmps22 rfl rfl ?_
 repeat'(first|(apply Zj Zb;exact Z)|(apply Zf;exact Z;(first|with_reducible assumption|decide +kernel|(solve|simp only[bn])))|(apply Zg;exact Z;(first|with_reducible assumption|decide +kernel|(solve|simp only[bn]))))
 all_goals(apply Vh [0] [0,1,2];(apply Zd Zb;exact Z);(iterate 7 exact Z))
 all_goals rfl
theorem MB [Known](n s:Int)(e:Nat)(p L o:List E)(pn c oc:Nat)(tk:Int):AT Tryz.prog 16 [.ptr 0 0,.int .i64 n] (dvS p tk (dvW L) s o (e:Int)) (dvF pn c oc) (.int .i64 (ON n s e).1) (dvS p tk (dvW L) (ON n s e).2 o (e:Int)) (dvF pn c oc):=by
 unfold ON
 by_cases h1:n<1
 ·have d1:decide (n<1)=true:=decide_eq_true h1
  rw[if_pos (.inl h1)]
  refine Zp Tryz.func16 rfl Tryz.ntmps16 rfl rfl ?_
  repeat'(first|(apply Zl Zb;exact Z)|(apply Zj Zb;exact Z)|(apply Zt Zb;exact Z)|(apply Zq;(iterate 3 exact Z);(first|with_reducible assumption|decide +kernel|(solve|simp only[bn])))|(apply Zo;exact Z;(first|with_reducible assumption|decide +kernel|(solve|simp only[bn]));exact Z;exact Z)|(apply Zf;exact Z;(first|with_reducible assumption|decide +kernel|(solve|simp only[bn]))))
  all_goals(apply Yc [0] [0,1,2];(apply Zd Zb;exact Z);(iterate 7 exact Z))
  all_goals rfl
 have d1:decide (n<1)=false:=decide_eq_false h1
 by_cases h2:n>1099511627776
 ·have d2:decide (n>1099511627776)=true:=decide_eq_true h2
  rw[if_pos (.inr h2)]
  refine Zp Tryz.func16 rfl Tryz.ntmps16 rfl rfl ?_
  repeat'(first|(apply Zl Zb;exact Z)|(apply Zj Zb;exact Z)|(apply Zt Zb;exact Z)|(apply Zi;(iterate 3 exact Z);(first|with_reducible assumption|decide +kernel|(solve|simp only[bn])))|(apply Zn;exact Z;(first|with_reducible assumption|decide +kernel|(solve|simp only[bn]));exact Z;exact Z)|(apply Zf;exact Z;(first|with_reducible assumption|decide +kernel|(solve|simp only[bn]))))
  all_goals(apply Yc [0] [0,1,2];(apply Zd Zb;exact Z);(iterate 7 exact Z))
  all_goals rfl
 have d2:decide (n>1099511627776)=false:=decide_eq_false h2
 rw[if_neg (by omega)]
 by_cases h3:s>0
 ·have d3:decide (s>0)=true:=decide_eq_true h3
  rw[if_pos (.inl h3)]
  refine Zp Tryz.func16 rfl Tryz.ntmps16 rfl rfl ?_
  repeat'(first|(apply Zl Zb;exact Z)|(apply Zj Zb;exact Z)|(apply Zt Zb;exact Z)|(apply Zi;(iterate 3 exact Z);(first|with_reducible assumption|decide +kernel|(solve|simp only[bn])))|(apply Zq;(iterate 3 exact Z);(first|with_reducible assumption|decide +kernel|(solve|simp only[bn])))|(apply Zo;exact Z;(first|with_reducible assumption|decide +kernel|(solve|simp only[bn]));exact Z;exact Z)|(apply Zn;exact Z;(first|with_reducible assumption|decide +kernel|(solve|simp only[bn]));exact Z;exact Z)|(apply Zf;exact Z;(first|with_reducible assumption|decide +kernel|(solve|simp only[bn])))|(apply Zg;exact Z;(first|with_reducible assumption|decide +kernel|(solve|simp only[bn]))))
  all_goals(apply Yc [0] [0,1,2];(apply Zd Zb;exact Z);(iterate 7 exact Z))
  all_goals rfl
 have d3:decide (s>0)=false:=decide_eq_false h3
 by_cases h4:e=0
 ·subst h4
  have d4:(((0:Nat):Int) != 0)=false:=rfl
  rw[if_neg (by omega)]
  refine Zp Tryz.func16 rfl Tryz.ntmps16 rfl rfl ?_
  repeat'(first|(apply Zl Zb;exact Z)|(apply Zj Zb;exact Z)|(apply Zt Zb;exact Z)|(apply Zi;(iterate 3 exact Z);(first|with_reducible assumption|decide +kernel|(solve|simp only[bn])))|(apply Zn;exact Z;(first|with_reducible assumption|decide +kernel|(solve|simp only[bn]));exact Z;exact Z)|(apply Zg;exact Z;(first|with_reducible assumption|decide +kernel|(solve|simp only[bn]))))
  all_goals(apply Yc [0] [0,1,2];(apply Zd Zb;exact Z);(iterate 7 exact Z))
  all_goals rfl
 ·have d4:((e:Int) != 0)=true:=by simp;omega
  rw[if_pos (.inr h4)]
  refine Zp Tryz.func16 rfl Tryz.ntmps16 rfl rfl ?_
  repeat'(first|(apply Zl Zb;exact Z)|(apply Zj Zb;exact Z)|(apply Zt Zb;exact Z)|(apply Zi;(iterate 3 exact Z);(first|with_reducible assumption|decide +kernel|(solve|simp only[bn])))|(apply Zn;exact Z;(first|with_reducible assumption|decide +kernel|(solve|simp only[bn]));exact Z;exact Z)|(apply Zf;exact Z;(first|with_reducible assumption|decide +kernel|(solve|simp only[bn])))|(apply Zg;exact Z;(first|with_reducible assumption|decide +kernel|(solve|simp only[bn]))))
  all_goals(apply Yc [0] [0,1,2];(apply Zd Zb;exact Z);(iterate 7 exact Z))
  all_goals rfl
theorem Nw [Known](x:RyV)(h:Y5 x=false)(p L o:List E)(n c oc:Nat)(tk s e:Int):AT Tryz.prog 18 [.ptr 0 0,.agg (ryC x)] (dvS p tk (dvW L) s o e) (dvF n c oc) (.int .i64 3) (dvS p tk (dvW L) s o e) (dvF n c oc):=by
 have hR:=Xu x
 rw[h]at hR
 clear h
 refine Zp Tryz.func18 rfl Tryz.ntmps18 rfl rfl ?_
 repeat'(first|(apply Zc (hR);kernel_rfl;(iterate 4 exact Z))|(apply Zl Zb;exact Z)|(apply Zj Zb;exact Z)|(apply Zt Zb;exact Z)|(apply Zf;exact Z;(first|with_reducible assumption|decide +kernel|(solve|simp only[bn]))))
 all_goals(apply Yc [0] [0,1,2];(apply Zd Zb;exact Z);(iterate 7 exact Z))
 all_goals rfl
theorem Nx [Known](x:RyV)(h:Y5 x=true)(G p L o:List E)(hG:(UY (Vw x)).map E.byte=G)(hU0:Uni 1 o)(hol:o.length<=100000)(n c oc:Nat)(hoc:oc=o.length)(tk s e:Int):AT Tryz.prog 18 [.ptr 0 0,.agg (ryC x)] (dvS p tk (dvW L) s o e) (dvF n c oc) (.int .i64 0) (dvS p tk (dvW L) s (o++G) e) (dvF n c (o.length+G.length)):=by
 have hR:=Xu x
 have hW:=OM h
 have hB:=Jq h
 have hF:=K5 (Vw x) (by omega) (by omega)
 rw[h]at hR
 clear h
 have hU:Uni 1 G:=hG ▸ YD _
 have hl:G.length=(Vw x).length+2:=by rw[<- hG];simp[UY]
 have hn:G ≠ []:=by intro e;rw[e]at hl;cases hl
 have g1:o.length+G.length<=maxLen:=by unfold maxLen;omega
 have g2:(o.length+G.length)*1<=140737488355328:=by omega
 replace hF:AP Tryz.prog 58 [byE (Vw x)] (.sl .ext G) []:=hG ▸ hF
 clear hG hl hol
 generalize Vw x=B at *
 refine Zp Tryz.func18 rfl Tryz.ntmps18 rfl rfl ?_
 repeat'(first|(apply Zc (hR);kernel_rfl;(iterate 4 exact Z))|(apply Zc (hW);kernel_rfl;(iterate 4 exact Z))|(apply Zc (hF);kernel_rfl;(iterate 4 exact Z))|refine ZJ Zb Z Z Z Z Z Z hoc Z Z hU0 hU hn g1 g2 Z Z ?_|(apply Zl Zb;exact Z)|(apply Zj Zb;exact Z)|(apply Zt Zb;exact Z)|(apply Zg;exact Z;(first|with_reducible assumption|decide +kernel|(solve|simp only[bn])))|(apply Za 9 Ze;decide +kernel;kernel_rfl;kernel_rfl;kernel_rfl;exact Z;exact Z)|(apply Zv;(iterate 4 exact Z))|exact AE.nil _ _ _ _|(apply ZB;exact Z)|(apply Z1;exact Z)|(apply ZD;exact Z;exact Z;decide +kernel;exact Z)|(apply ZE;exact Z)|(apply Ye;exact Z)|exact AO.nil _ _ _|(apply Zu;(decide +kernel))|(apply ZP;(iterate 3 exact Z))|exact AOs.nil|exact ZR rfl rfl|exact YC rfl rfl)
 all_goals(apply Yc [0] [0,1,2];(apply Zd Zb;exact Z);(iterate 7 exact Z))
 all_goals rfl
end Go.Proofs.YtchlgagdbflkmaaGreatDoor
end

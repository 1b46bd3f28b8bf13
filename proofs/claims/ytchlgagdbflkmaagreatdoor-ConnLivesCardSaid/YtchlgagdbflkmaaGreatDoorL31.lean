/- The document's fields: a reader's texts. -/
import Derived.Test.YtchlgagdbflkmaaGreatDoorL23
import Derived.Test.YtchlgagdbflkmaaGreatDoorL30
import Derived.Test.YtchlgagdbflkmaaGreatDoorL24
import Derived.Test.YtchlgagdbflkmaaGreatDoorL16
set_option linter.unusedVariables false
set_option linter.unusedSimpArgs false
section
open Go.RowKit Go.Pl Go.Av
namespace Go.Proofs.YtchlgagdbflkmaaGreatDoor
set_option maxHeartbeats 4000000
theorem VN [Known](B:List UInt8)(s:Nat × List UInt8)(hs:Suf B s)(hB:B.length<=1000000):AQ Tryz.prog 78 [.ptr 0 0] (rfS B s) (byE (Vj s).1) (rfS B (Vj s).2):=by
 have hN:=WS B s hs hB
 have hL:=Yt hs
 unfold Vj
 generalize ZA s=p at *
 obtain⟨n,e,q⟩:=p
 obtain⟨e0,b⟩:=s
 obtain⟨hq1,hq2⟩:=hL
 dsimp only at hN hq1 hq2 ⊢
 have hBl:(B.map E.byte).length=B.length:=List.length_map ..
 have hU:=YD B
 obtain⟨a,ha⟩:∃ a,B.length-q.length=a:=⟨_,rfl⟩
 have hqa:q=B.drop a:=by rw[<- ha];exact hq2
 have hal:a+q.length=B.length:=by omega
 unfold rfS at hN ⊢
 dsimp only at hN ⊢
 rw[ha]at hN
 cases t1:(e:Int)==0 with
 | false=>
  have t2:((e:Int) != 0)=true:=by rw[bne,t1];rfl
  dsimp only
  rw[ha]
  refine AQ.weak (Zp Tryz.func78 Z Tryz.ntmps78 Z Z ?_)
  repeat'(first|(apply Zh [0] (hN);kernel_rfl;(iterate 7 exact Z))|(apply Zl Zb;exact Z)|(apply Zj Zb;exact Z)|(apply Zt Zb;exact Z)|(apply Zf;exact Z;(first|with_reducible assumption|decide +kernel|(solve|simp only[bn]))))
  all_goals(apply Zw [0];(apply Zd Zb;exact Z);(iterate 4 exact Z))
  all_goals rfl
 | true=>
  have t2:((e:Int) != 0)=false:=by rw[bne,t1];rfl
  have e1:IntKind.i64.wrap (((B.map E.byte).length:Int)-(a:Int))=(q.length:Int):=by rw[IntWalk.i64_in _ (by omega)];omega
  have e2:IntKind.u64.wrap (q.length:Int)=(q.length:Int):=IntWalk.u64_in _ (by omega)
  cases t3:decide ((n:Int)>(q.length:Int)) with
  | true=>
   have ef:V4 8 (e,q)=(8,q):=by unfold V4;rw[t1]
   dsimp only
   rw[ef]
   dsimp only
   rw[ha]
   refine AQ.weak (Zp Tryz.func78 Z Tryz.ntmps78 Z Z ?_)
   repeat'(first|rw[e1]|rw[e2]|(apply Zh [0] (hN);kernel_rfl;(iterate 7 exact Z))|(apply Zl Zb;exact Z)|(apply Zj Zb;exact Z)|(apply Zt Zb;exact Z)|(apply Zf;exact Z;(first|with_reducible assumption|decide +kernel|(solve|simp only[bn])))|(apply Zg;exact Z;(first|with_reducible assumption|decide +kernel|(solve|simp only[bn])))|refine Zz Zb Z Z Z Z ?_|(apply Za 12 Ze;decide +kernel;kernel_rfl;kernel_rfl;kernel_rfl;exact Z;exact Z)|(apply Zv;(iterate 4 exact Z))|exact AE.nil _ _ _ _|(apply ZB;exact Z)|(apply ZD;exact Z;exact Z;decide +kernel;exact Z)|(apply ZE;exact Z)|exact AO.nil _ _ _|(apply Zu;(decide +kernel))|exact AOs.nil|exact ZR rfl rfl)
   all_goals(apply Zw [0];(apply Zd Zb;exact Z);(iterate 4 exact Z))
   all_goals rfl
  | false=>
   have hnq:n<=q.length:=by have:=of_decide_eq_false t3;omega
   have e3:IntKind.i64.wrap (n:Int)=(n:Int):=IntWalk.i64_in _ (by omega)
   have e4:IntKind.i64.wrap ((a:Int)+(n:Int))=((a+n:Nat):Int):=by rw[IntWalk.i64_in _ (by omega)];omega
   have hsp:(B.take (((a+n:Nat):Int)).toNat).drop ((a:Nat):Int).toNat=q.take n:=by
    rw[Int.toNat_natCast,Int.toNat_natCast,hqa,List.drop_take];congr 1;omega
   have hij:((a:Nat):Int)<=((a+n:Nat):Int):=by omega
   have hj:(((a+n:Nat):Int)).toNat<=B.length:=by omega
   have hlen:B.length-(q.drop n).length=a+n:=by rw[List.length_drop];omega
   dsimp only
   rw[hlen]
   refine AQ.weak (Zp Tryz.func78 Z Tryz.ntmps78 Z Z ?_)
   repeat'(first|rw[e1]|rw[e2]|rw[e3]|rw[e4]|(apply Zh [0] (hN);kernel_rfl;(iterate 7 exact Z))|(apply Hj Zb;(iterate 9 exact Z);exact Qb;(first|with_reducible assumption|decide|(simp only[List.length_cons,List.length_drop,List.length_take,List.length_append,Int.toNat_natCast]at *;omega));(first|with_reducible assumption|decide|(simp only[List.length_cons,List.length_drop,List.length_take,List.length_append,Int.toNat_natCast]at *;omega));(first|with_reducible assumption|exact Z))|(apply Zl Zb;exact Z)|(apply Zj Zb;exact Z)|(apply Zt Zb;exact Z)|(apply Zg;exact Z;(first|with_reducible assumption|decide +kernel|(solve|simp only[bn])))|refine Zz Zb Z Z Z Z ?_|(apply Za 12 Ze;decide +kernel;kernel_rfl;kernel_rfl;kernel_rfl;exact Z;exact Z)|(apply Za 15 Ze;decide +kernel;kernel_rfl;kernel_rfl;kernel_rfl;exact Z;exact Z)|(apply Zv;(iterate 4 exact Z))|exact AE.nil _ _ _ _|(apply ZB;exact Z)|(apply ZD;exact Z;exact Z;decide +kernel;exact Z)|(apply ZE;exact Z)|exact AO.nil _ _ _|(apply Zu;(decide +kernel))|exact AOs.nil|exact ZR rfl rfl)
   all_goals(apply Zw [0];(apply Zd Zb;exact Z);(iterate 4 exact Z))
   all_goals rfl
theorem Oe:∀(f a:Nat) (r:List UInt8),(Wv f a r).2<=r.length/\(Wv f a r).2<=f
 | 0,a,r=>by simp[Wv]
 | f+1,a,[]=>by simp[Wv]
 | f+1,a,c::r=>by
  rw[Wv]
  split
  ·have:=Oe f (10*a+(c.toNat-48)) r
   simp;omega
  ·simp
theorem X9 [Known](s:List UInt8)(at0:Nat)(hs:s.length<=1099511627776)(h0:at0<=s.length):AP Tryz.prog 117 [.str s,.int .i64 (at0:Int)] (.tup [.int .u64 ((Wv 11 0 (s.drop at0)).1:Int),.int .i64 ((at0+(Wv 11 0 (s.drop at0)).2:Nat):Int)]) []:=by
 refine AP.ofA (Zp Tryz.func117 Z Tryz.ntmps117 Z Z ?_)
 repeat'(first|(apply Zj Zb;exact Z))
 refine Yr (fun k tm bx fr=>∃(i n a:Nat),k+i=11/\n<10 ^ i/\a<=s.length/\(Wv k n (s.drop a)).1=(Wv 11 0 (s.drop at0)).1/\a+(Wv k n (s.drop a)).2=at0+(Wv 11 0 (s.drop at0)).2/\tm=[(0,.str s),(1,.int .i64 (a:Int)),(4,.int .u64 0),(5,.int .i64 0),(6,.int .u64 (n:Int)),(7,.int .i64 (i:Int))]/\bx=[]/\fr=[]) 12 (Lands.mk' (m:=11) (by omega) ⟨0,0,at0,rfl,by decide,h0,rfl,rfl,rfl,rfl,rfl⟩ ?_ rfl rfl rfl rfl rfl rfl) ?_
 ·exact .cons rfl (.cons rfl (.cons rfl (.cons rfl (.cons rfl (.cons rfl .nil)))))
 rintro k tm bx fr ⟨i,n,a,hk,hn,ha,hv,hc,rfl,rfl,rfl⟩
 have hnb:n<100000000000:=Nat.lt_of_lt_of_le hn (Nat.pow_le_pow_right (by decide) (by omega:i<=11))
 cases k with
 | zero=>
  have t1:decide ((i:Int)<11)=false:=decide_eq_false (by omega)
  repeat'(first|(apply Zl Zb;exact Z)|(apply Zj Zb;exact Z)|(apply Zt Zb;exact Z)|refine Zs Z Z Z Qt ?_|refine Zn Z Qt Z Z ?_|refine Zg Z Qt ?_)
  all_goals(apply Zw [];(apply Zd Zb;exact Z);(iterate 4 exact Z))
  ·rw[<- hv,<- hc];rfl
  all_goals rfl
 | succ k=>
  have t1:decide ((i:Int)<11)=true:=decide_eq_true (by omega)
  rcases Nat.lt_or_ge a s.length with hlt|hge
  ·have t2:decide ((a:Int)<(s.length:Int))=true:=decide_eq_true (by omega)
   obtain⟨c,hsc⟩:∃ c,s[a]?=some c:=⟨_,List.getElem?_eq_getElem hlt⟩
   have hidx:s[((a:Nat):Int).toNat]?=some c:=by simpa using hsc
   have hdr:s.drop a=c::s.drop (a+1):=by
    rw[List.drop_eq_getElem_cons hlt];congr 1
    exact(List.getElem?_eq_some_iff.1 hsc).2
   rw[hdr,Wv]at hv hc
   by_cases h48:48<=c.toNat
   ·have t3:decide ((c.toNat:Int) ≥ 48)=true:=decide_eq_true (by omega)
    by_cases h57:c.toNat<=57
    ·have t4:decide ((c.toNat:Int)<=57)=true:=decide_eq_true (by omega)
     rw[if_pos (J0.2 ⟨h48,h57⟩)]at hv hc
     have e1:IntKind.u64.wrap (10*(n:Int))=((10*n:Nat):Int):=by rw[IntWalk.u64_in _ (by omega)];omega
     have e2:IntKind.u64.wrap (c.toNat:Int)=(c.toNat:Int):=IntWalk.u64_in _ (by omega)
     have e3:IntKind.u64.wrap (((10*n:Nat):Int)+(c.toNat:Int))=((10*n+c.toNat:Nat):Int):=by rw[IntWalk.u64_in _ (by omega)];omega
     have e4:IntKind.u64.wrap (((10*n+c.toNat:Nat):Int)-48)=((10*n+(c.toNat-48):Nat):Int):=by rw[IntWalk.u64_in _ (by omega)];omega
     have e5:IntKind.i64.wrap ((a:Int)+1)=((a+1:Nat):Int):=by rw[IntWalk.i64_in _ (by omega)];omega
     have e6:IntKind.i64.wrap ((i:Int)+1)=((i+1:Nat):Int):=by rw[IntWalk.i64_in _ (by omega)];omega
     repeat'(first|rw[e1]|rw[e2]|rw[e3]|rw[e4]|rw[e5]|rw[e6]|refine Yo Zb Z Z Z Z Z (Int.natCast_nonneg _) hidx ?_|(apply Zl Zb;exact Z)|(apply Zj Zb;exact Z)|(apply Zt Zb;exact Z)|refine Zi Z Z Z Qt ?_|refine Zo Z Qt Z Z ?_|refine Zf Z Qt ?_|refine ZG Zb Z Z Z Z ?_)
     refine Lands.mk' (m:=k) (by omega) ⟨i+1,10*n+(c.toNat-48),a+1,by omega,by rw[Nat.pow_succ];omega,by omega,hv,by omega,rfl,rfl,rfl⟩ ?_ rfl rfl rfl rfl rfl rfl
     exact .cons rfl (.cons rfl (.cons rfl (.cons rfl (.cons rfl (.cons rfl .nil)))))
    ·have t4:decide ((c.toNat:Int)<=57)=false:=decide_eq_false (by omega)
     rw[if_neg (fun h=>h57 (J0.1 h).2)]at hv hc
     repeat'(first|refine Yo Zb Z Z Z Z Z (Int.natCast_nonneg _) hidx ?_|(apply Zl Zb;exact Z)|(apply Zj Zb;exact Z)|(apply Zt Zb;exact Z)|refine Zi Z Z Z Qt ?_|refine Zo Z Qt Z Z ?_|refine Zg Z Qt ?_|refine ZG Zb Z Z Z Z ?_)
     all_goals(apply Zw [];(apply Zd Zb;exact Z);(iterate 4 exact Z))
     ·rw[<- hv,<- hc];rfl
     all_goals rfl
   ·have t3:decide ((c.toNat:Int) ≥ 48)=false:=decide_eq_false (by omega)
    rw[if_neg (fun h=>h48 (J0.1 h).1)]at hv hc
    repeat'(first|refine Yo Zb Z Z Z Z Z (Int.natCast_nonneg _) hidx ?_|(apply Zl Zb;exact Z)|(apply Zj Zb;exact Z)|(apply Zt Zb;exact Z)|refine Zi Z Z Z Qt ?_|refine Zs Z Z Z Qt ?_|refine Zo Z Qt Z Z ?_|refine Zn Z Qt Z Z ?_|refine Zg Z Qt ?_|refine ZG Zb Z Z Z Z ?_)
    all_goals(apply Zw [];(apply Zd Zb;exact Z);(iterate 4 exact Z))
    ·rw[<- hv,<- hc];rfl
    all_goals rfl
  ·have t2:decide ((a:Int)<(s.length:Int))=false:=decide_eq_false (by omega)
   rw[List.drop_of_length_le hge,Wv]at hv hc
   repeat'(first|(apply Zl Zb;exact Z)|(apply Zj Zb;exact Z)|(apply Zt Zb;exact Z)|refine Zi Z Z Z Qt ?_|refine Zs Z Z Z Qt ?_|refine Zo Z Qt Z Z ?_|refine Zn Z Qt Z Z ?_|refine Zg Z Qt ?_|refine ZG Zb Z Z Z Z ?_)
   all_goals(apply Zw [];(apply Zd Zb;exact Z);(iterate 4 exact Z))
   ·rw[<- hv,<- hc];rfl
   all_goals rfl
end Go.Proofs.YtchlgagdbflkmaaGreatDoor
end
section
open Go.RowKit Go.Pl
namespace Go.Av
inductive Wy where
 | pu (d:D)
 | al (cs:List D)
 | st (t:Nat) (cs:List D)
def HK:Nat->List (Nat × Wy)->List (Nat × D)->List (Nat × D)
 | _,[],tm=>tm
 | m,(_,.pu _)::zs,tm=>HK m zs tm
 | m,(t,.al _)::zs,tm=>HK (m+1) zs ((t,.ptr m 0)::tm)
 | m,(_,.st _ _)::zs,tm=>HK m zs tm
def stO (p:Nat->Bool):Nat->List (Nat × Wy)->Nat->Option (List D)
 | _,[],_=>none
 | i,(_,.st t cs)::zs,x=>match Nat.beq t x&&p i with
  | true=>some cs
  | false=>stO p (i+1) zs x
 | i,(_,.pu _)::zs,x=>stO p (i+1) zs x
 | i,(_,.al _)::zs,x=>stO p (i+1) zs x
def wcs (all:List (Nat × Wy)):List (Nat × Wy)->List (List D)
 | []=>[]
 | (_,.pu _)::zs=>wcs all zs
 | (t,.al cs)::zs=>((stO (fun _=>true) 0 all t).getD cs)::wcs all zs
 | (_,.st _ _)::zs=>wcs all zs
def NB (o:Oper):Bool:=match o.op with
 | .alloc _=>true
 | _=>false
section
variable {P:Program} {T:Tab} {Q:X->St->Prop} {n:Nat} {ee:Nat × Nat} {tm tm':List (Nat × D)} {bx:List (List D)} {fr:List Fr} {b0:Bs} {g g':G} {w w':World} {a:Act}
inductive AV [Known][Dfr](P:Program) (T:Tab) (l:List Oper) (n:Nat) (bx:List (List D)) (fr:List Fr):Nat->List Oper->List (Nat × D)->List (Nat × Wy)->List (Nat × D)->Prop
 | nil (i:Nat) (tm:List (Nat × D)):AV P T l n bx fr i [] tm [] tm
 | pu (i:Nat) (o:Oper) (rest:List Oper) (t:Nat) (d:D) (tm:List (Nat × D)) (zs:List (Nat × Wy)) (tm':List (Nat × D)) (hd:o.dst=some t) (hna:NB o=false) (ht:Nat.blt t n=true) (h:AL P l.toArray [o] ⟨n,Wp l o tm,bx,fr,(bx.length,fr.length)⟩ (qY o bx fr (.pu d))) (k:AV P T l n bx fr (i+1) rest ((t,d)::tm) zs tm'):AV P T l n bx fr i (o::rest) tm ((t,.pu d)::zs) tm'
 | al (i t:Nat) (e:TypeId) (ty:Nat) (pos:String) (after:Array Edge) (rest:List Oper) (ti:Ti) (tm:List (Nat × D)) (zs:List (Nat × Wy)) (tm':List (Nat × D)) (ht:Nat.blt t n=true) (hti:tl T e=some ti) (k:AV P T l n bx fr (i+1) rest ((t,.junk)::tm) zs tm'):AV P T l n bx fr i (⟨some t,.alloc e,ty,pos,after,none⟩::rest) tm ((t,.al (ti.zero.map ZK.d))::zs) tm'
 | st (i ts:Nat) (e:TypeId) (y:Operand) (ty:Nat) (pos:String) (after:Array Edge) (rest:List Oper) (ti:Ti) (d:D) (tm:List (Nat × D)) (zs:List (Nat × Wy)) (tm':List (Nat × D)) (hy:nf (ev tm y)=some d) (ho:D.ones d.cellsOf=true) (hti:tl T e=some ti) (hs:Nat.beq d.cellsOf.length ti.size=true) (k:AV P T l n bx fr (i+1) rest ((n+i,.junk)::tm) zs tm'):AV P T l n bx fr i (⟨none,.store e (.tmp ts) y,ty,pos,after,none⟩::rest) tm ((n+i,.st ts d.cellsOf)::zs) tm'
structure Turn (w w':World) (k:Nat):Prop where
 os:w'.os=w.os
 tape:w'.tape=w.tape
 output:w'.output=w.output
 size:w'.heap.size=w.heap.size
 far:∀ b,b ≠ k->w'.heap[b]?=w.heap[b]?
end
end Go.Av
end
section
open Go.RowKit Go.Pl
namespace Go.Av
section
variable {P:Program} {T:Tab} {Q:X->St->Prop} {n:Nat} {ee:Nat × Nat} {tm tm':List (Nat × D)} {bx:List (List D)} {fr:List Fr} {b0:Bs} {g g':G} {w w':World} {a:Act}
structure AWk [Known][Dfr](P:Program) (l acts:List Oper) (n:Nat) (zs:List (Nat × Wy)) (tm:List (Nat × D)) (bx:List (List D)) (fr:List Fr) (ee:Nat × Nat) (Q:X->St->Prop):Prop where
 run:AL P l.toArray acts ⟨n,HK bx.length zs tm,bx++wcs zs zs,fr,ee⟩ Q
end
end Go.Av
end
section
open Go.RowKit Go.Pl Go.Av
namespace Go.Proofs.YtchlgagdbflkmaaGreatDoor
set_option maxHeartbeats 4000000
abbrev GR (z4 z5 i:Bool)(n s:Nat)(h d:List UInt8):D:=match z4,z5 with
 | false,false=>.tup [.agg [.bool i,.int .u64 (n:Int),.int .u64 (s:Int),.str h,.str d],.bool true]
 | _,_=>.tup [.agg [.bool false,.int .u64 0,.int .u64 0,.str [],.str []],.bool false]
theorem MQ [Known](s:List UInt8)(h0:(s==[100,116,110,58,110,111,110,101])=true):AP Tryz.prog 94 [.str s] (.tup [.agg [.bool false,.int .u64 0,.int .u64 0,.str [],.str []],.bool true]) []:=by
 refine AP.ofA (Zp Tryz.func94 Z Tryz.ntmps94 Z Z ?_)
 repeat'(first|(apply Zj Zb;exact Z)|(apply Zt Zb;exact Z)|refine Zf Z Qt ?_)
 all_goals exact Qe
theorem MR [Known](s:List UInt8)(h0:(s==[100,116,110,58,110,111,110,101])=false)
  (h1:decide ((s.length:Int)>4)=false\/decide ((s.length:Int)>4)=true/\4<=s.length/\((s.take (Int.toNat 4)).drop 0==[105,112,110,58])=false) (h2:decide ((s.length:Int)>6)=false\/decide ((s.length:Int)>6)=true/\6<=s.length/\((s.take (Int.toNat 6)).drop 0==[100,116,110,58,47,47])=false)
  (hK:AP Tryz.prog 112 [.agg [.bool false,.int .u64 0,.int .u64 0,.str [],.str []]] (.int .i64 0) []) :
  AP Tryz.prog 94 [.str s] (.tup [.agg [.bool false,.int .u64 0,.int .u64 0,.str [],.str []],.bool false]) []:=by
 rcases h1 with t1|⟨t1,b1,t2⟩<;>rcases h2 with t3|⟨t3,b3,t4⟩
 all_goals
  refine AP.ofA (Zp Tryz.func94 Z Tryz.ntmps94 Z Z ?_)
  repeat'(first|(apply Zc (hK);kernel_rfl;(iterate 4 exact Z))|(apply YI Zb;(iterate 4 exact Z);exact .dft _;exact .lit _ _ _ _ rfl (by decide);exact Nat.zero_le _;(first|exact b1|exact b3);exact Z)|(apply Zl Zb;exact Z)|(apply Zj Zb;exact Z)|(apply Zt Zb;exact Z)|refine Zi Z Z Z Qt ?_|refine Zs Z Z Z Qt ?_|refine Zq Z Z Z Qt ?_|refine Zo Z Qt Z Z ?_|refine Zn Z Qt Z Z ?_|refine Zf Z Qt ?_|refine Zg Z Qt ?_|refine ZG Zb Z Z Z Z ?_)
  all_goals exact Qe
theorem MS [Known](s:List UInt8)(a b p q:Nat)(κ:Int)(t:List UInt8)(z3 z4 z5:Bool)(h0:(s==[100,116,110,58,110,111,110,101])=false)
  (t1:decide ((s.length:Int)>4)=true) (b1:4<=s.length) (t2:((s.take (Int.toNat 4)).drop 0==[105,112,110,58])=true)
  (hC1:AP Tryz.prog 117 [.str s,.int .i64 4] (.tup [.int .u64 (a:Int),.int .i64 (p:Int)]) [])
  (t3:decide ((p:Int)<(s.length:Int))=z3) (e3:IntKind.i64.wrap ((p:Int)+1)=((p+1:Nat):Int))
  (hC2:z3=true->AP Tryz.prog 117 [.str s,.int .i64 ((p+1:Nat):Int)] (.tup [.int .u64 (b:Int),.int .i64 (q:Int)]) []) (hb0:z3=false->b=0)
  (hK:AP Tryz.prog 112 [.agg [.bool true,.int .u64 (a:Int),.int .u64 (b:Int),.str [],.str []]] (.int .i64 κ) []) (t4:decide (κ<1)=z4)
  (hT:z4=false->AP Tryz.prog 118 [.agg [.bool true,.int .u64 (a:Int),.int .u64 (b:Int),.str [],.str []]] (.str t) []) (t5:(t != s)=z5) :
  AP Tryz.prog 94 [.str s] (GR z4 z5 true a b [] []) []:=by
 cases z3 with
 | false=>
  obtain rfl:=hb0 rfl
  clear hC2
  cases z4 with
  | true=>
   clear hT
   cases z5
   all_goals
    refine AP.ofA (Zp Tryz.func94 Z Tryz.ntmps94 Z Z ?_)
    repeat'(first|(apply Zc (hC1);kernel_rfl;(iterate 4 exact Z))|(apply Zc (hK);kernel_rfl;(iterate 4 exact Z))|refine YI Zb Z Z Z Z (.dft _) (.lit _ _ _ _ rfl (by decide)) (Nat.zero_le _) b1 Z ?_|(apply Zl Zb;exact Z)|(apply Zj Zb;exact Z)|(apply Zt Zb;exact Z)|refine Zi Z Z Z Qt ?_|refine Zq Z Z Z Qt ?_|refine Zo Z Qt Z Z ?_|refine Zf Z Qt ?_|refine Zg Z Qt ?_|refine ZG Zb Z Z Z Z ?_)
    all_goals exact Qe
  | false=>
   have hT:=hT rfl
   cases z5
   all_goals
    refine AP.ofA (Zp Tryz.func94 Z Tryz.ntmps94 Z Z ?_)
    repeat'(first|(apply Zc (hC1);kernel_rfl;(iterate 4 exact Z))|(apply Zc (hK);kernel_rfl;(iterate 4 exact Z))|(apply Zc (hT);kernel_rfl;(iterate 4 exact Z))|refine YI Zb Z Z Z Z (.dft _) (.lit _ _ _ _ rfl (by decide)) (Nat.zero_le _) b1 Z ?_|(apply Zl Zb;exact Z)|(apply Zj Zb;exact Z)|(apply Zt Zb;exact Z)|refine Zi Z Z Z Qt ?_|refine Zo Z Qt Z Z ?_|refine Zn Z Qt Z Z ?_|refine Zf Z Qt ?_|refine Zg Z Qt ?_|refine ZG Zb Z Z Z Z ?_)
    all_goals exact Qe
 | true=>
  have hC2:=hC2 rfl
  clear hb0
  cases z4 with
  | true=>
   clear hT
   cases z5
   all_goals
    refine AP.ofA (Zp Tryz.func94 Z Tryz.ntmps94 Z Z ?_)
    repeat'(first|rw[e3]|(apply Zc (hC1);kernel_rfl;(iterate 4 exact Z))|(apply Zc (hC2);kernel_rfl;(iterate 4 exact Z))|(apply Zc (hK);kernel_rfl;(iterate 4 exact Z))|refine YI Zb Z Z Z Z (.dft _) (.lit _ _ _ _ rfl (by decide)) (Nat.zero_le _) b1 Z ?_|(apply Zl Zb;exact Z)|(apply Zj Zb;exact Z)|(apply Zt Zb;exact Z)|refine Zi Z Z Z Qt ?_|refine Zq Z Z Z Qt ?_|refine Zo Z Qt Z Z ?_|refine Zf Z Qt ?_|refine Zg Z Qt ?_|refine ZG Zb Z Z Z Z ?_)
    all_goals exact Qe
  | false=>
   have hT:=hT rfl
   cases z5
   all_goals
    refine AP.ofA (Zp Tryz.func94 Z Tryz.ntmps94 Z Z ?_)
    repeat'(first|rw[e3]|(apply Zc (hC1);kernel_rfl;(iterate 4 exact Z))|(apply Zc (hC2);kernel_rfl;(iterate 4 exact Z))|(apply Zc (hK);kernel_rfl;(iterate 4 exact Z))|(apply Zc (hT);kernel_rfl;(iterate 4 exact Z))|refine YI Zb Z Z Z Z (.dft _) (.lit _ _ _ _ rfl (by decide)) (Nat.zero_le _) b1 Z ?_|(apply Zl Zb;exact Z)|(apply Zj Zb;exact Z)|(apply Zt Zb;exact Z)|refine Zi Z Z Z Qt ?_|refine Zo Z Qt Z Z ?_|refine Zn Z Qt Z Z ?_|refine Zf Z Qt ?_|refine Zg Z Qt ?_|refine ZG Zb Z Z Z Z ?_)
    all_goals exact Qe
theorem NC [Known](s:List UInt8)(m:Nat)(h d:List UInt8)(κ:Int)(t:List UInt8)(z4 z5:Bool)(h0:(s==[100,116,110,58,110,111,110,101])=false)(hsl:s.length<=4398046511104)
  (t1:decide ((s.length:Int)>4)=true) (b1:4<=s.length) (t2:((s.take (Int.toNat 4)).drop 0==[105,112,110,58])=false)
  (t3:decide ((s.length:Int)>6)=true) (b3:6<=s.length) (t6:((s.take (Int.toNat 6)).drop 0==[100,116,110,58,47,47])=true)
  (m6:6<=m) (ml:m<=s.length) (hm1:∀ i,6<=i->i<m->∃ c,s[i]?=some c/\c.toNat ≠ 47) (hm2:m<s.length->∃ c,s[m]?=some c/\c.toNat=47)
  (hh:(s.take m).drop 6=h) (hd:s.drop (m+1)=d)
  (hK:AP Tryz.prog 112 [.agg [.bool false,.int .u64 0,.int .u64 0,.str h,.str d]] (.int .i64 κ) []) (t4:decide (κ<1)=z4)
  (hT:z4=false->AP Tryz.prog 118 [.agg [.bool false,.int .u64 0,.int .u64 0,.str h,.str d]] (.str t) []) (t5:(t != s)=z5) :
  AP Tryz.prog 94 [.str s] (if m<s.length then GR z4 z5 false 0 0 h d else .tup [.agg [.bool false,.int .u64 0,.int .u64 0,.str [],.str []],.bool false]) []:=by
 refine AP.ofA (Zp Tryz.func94 Z Tryz.ntmps94 Z Z ?_)
 repeat'(first|(apply YI Zb;(iterate 4 exact Z);exact .dft _;exact .lit _ _ _ _ rfl (by decide);exact Nat.zero_le _;(first|exact b1|exact b3);exact Z)|(apply Zl Zb;exact Z)|(apply Zj Zb;exact Z)|(apply Zt Zb;exact Z)|refine Zi Z Z Z Qt ?_|refine Zo Z Qt Z Z ?_|refine Zf Z Qt ?_|refine Zg Z Qt ?_|refine ZG Zb Z Z Z Z ?_)
 refine Yr (fun k tm bx fr=>∃(a:Nat),k+a=m/\6<=a/\tm=[(0,.str s),(2,.ptr 0 0),(3,.bool false),(4,.ptr 1 0),(8,.int .i64 (a:Int))]/\bx=[[.bool false,.int .u64 0,.int .u64 0,.str [],.str []],[.bool false,.int .u64 0,.int .u64 0,.str [],.str []]]/\fr=[]) (m+1) (Lands.mk' (m:=m-6) (by omega) ⟨6,by omega,Nat.le_refl _,rfl,rfl,rfl⟩ ?_ rfl rfl rfl rfl rfl rfl) ?_
 ·exact .cons rfl (.cons rfl (.cons rfl (.cons rfl (.cons rfl .nil))))
 rintro k tm bx fr ⟨a,hk,ha,rfl,rfl,rfl⟩
 rcases Nat.lt_or_ge a m with hlt|hge
 ·have t7:decide ((a:Int)<(s.length:Int))=true:=decide_eq_true (by omega)
  obtain⟨c,hc,hne⟩:=hm1 a ha hlt
  have hidx:s[((a:Nat):Int).toNat]?=some c:=by simpa using hc
  have t8:((c.toNat:Int) != 47)=true:=by simp;omega
  have e5:IntKind.i64.wrap ((a:Int)+1)=((a+1:Nat):Int):=by rw[IntWalk.i64_in _ (by omega)];omega
  repeat'(first|rw[e5]|refine Yo Zb Z Z Z Z Z (Int.natCast_nonneg _) hidx ?_|(apply Zl Zb;exact Z)|(apply Zj Zb;exact Z)|(apply Zt Zb;exact Z)|refine Zi Z Z Z Qt ?_|refine Zo Z Qt Z Z ?_|refine Zf Z Qt ?_|refine ZU ?_|refine ZG Zb Z Z Z Z ?_)
  refine Lands.mk' (m:=k-1) (by omega) ⟨a+1,by omega,by omega,rfl,rfl,rfl⟩ ?_ rfl rfl rfl rfl rfl rfl
  exact .cons rfl (.cons rfl (.cons rfl (.cons rfl (.cons rfl .nil))))
 ·obtain rfl:a=m:=by omega
  rcases Nat.lt_or_ge a s.length with hl|hl
  ·have t7:decide ((a:Int)<(s.length:Int))=true:=decide_eq_true (by omega)
   obtain⟨c,hc,hne⟩:=hm2 hl
   have hidx:s[((a:Nat):Int).toNat]?=some c:=by simpa using hc
   have t8:((c.toNat:Int) != 47)=false:=by simp;omega
   have t9:((a:Int)==(s.length:Int))=false:=by simp;omega
   have e5:IntKind.i64.wrap ((a:Int)+1)=((a+1:Nat):Int):=by rw[IntWalk.i64_in _ (by omega)];omega
   have q1:Int.toNat 6<=((a:Nat):Int).toNat:=by omega
   have q2:((a:Nat):Int).toNat<=s.length:=by omega
   have q3:((a+1:Nat):Int).toNat<=s.length:=by omega
   have s1:(s.take ((a:Nat):Int).toNat).drop (Int.toNat 6)=h:=by rw[<- hh];rfl
   have s2:(s.take s.length).drop ((a+1:Nat):Int).toNat=d:=by rw[List.take_length,<- hd];rfl
   rw[if_pos hl]
   clear hm1 hm2
   cases z4 with
   | true=>
    clear hT
    cases z5
    all_goals
     repeat'(first|rw[e5]|(apply Zc (hK);kernel_rfl;(iterate 4 exact Z))|refine Yo Zb Z Z Z Z Z (Int.natCast_nonneg _) hidx ?_|refine YI Zb Z Z Z Z (.lit _ _ _ _ rfl (by decide)) (.lit _ _ _ _ rfl (Int.natCast_nonneg _)) q1 q2 s1 ?_|refine YI Zb Z Z Z Z (.lit _ _ _ _ rfl (Int.natCast_nonneg _)) (.dft _) q3 (Nat.le_refl _) s2 ?_|(apply Zl Zb;exact Z)|(apply Zj Zb;exact Z)|(apply Zt Zb;exact Z)|refine Zi Z Z Z Qt ?_|refine Zq Z Z Z Qt ?_|refine Zo Z Qt Z Z ?_|refine Zf Z Qt ?_|refine Zg Z Qt ?_|refine ZG Zb Z Z Z Z ?_|(apply Za 7 Ze;decide +kernel;kernel_rfl;kernel_rfl;kernel_rfl;exact Z;exact Z)|(apply Zv;(iterate 4 exact Z))|exact AE.nil _ _ _ _|(apply ZB;exact Z)|(apply ZD;exact Z;exact Z;decide +kernel;exact Z)|(apply ZE;exact Z)|exact AO.nil _ _ _|(apply Zu;(decide +kernel))|exact AOs.nil|exact ZR rfl rfl)
     all_goals exact Qe
   | false=>
    have hT:=hT rfl
    cases z5
    all_goals
     repeat'(first|rw[e5]|(apply Zc (hK);kernel_rfl;(iterate 4 exact Z))|(apply Zc (hT);kernel_rfl;(iterate 4 exact Z))|refine Yo Zb Z Z Z Z Z (Int.natCast_nonneg _) hidx ?_|refine YI Zb Z Z Z Z (.lit _ _ _ _ rfl (by decide)) (.lit _ _ _ _ rfl (Int.natCast_nonneg _)) q1 q2 s1 ?_|refine YI Zb Z Z Z Z (.lit _ _ _ _ rfl (Int.natCast_nonneg _)) (.dft _) q3 (Nat.le_refl _) s2 ?_|(apply Zl Zb;exact Z)|(apply Zj Zb;exact Z)|(apply Zt Zb;exact Z)|refine Zi Z Z Z Qt ?_|refine Zo Z Qt Z Z ?_|refine Zn Z Qt Z Z ?_|refine Zf Z Qt ?_|refine Zg Z Qt ?_|refine ZG Zb Z Z Z Z ?_|(apply Za 7 Ze;decide +kernel;kernel_rfl;kernel_rfl;kernel_rfl;exact Z;exact Z)|(apply Zv;(iterate 4 exact Z))|exact AE.nil _ _ _ _|(apply ZB;exact Z)|(apply ZD;exact Z;exact Z;decide +kernel;exact Z)|(apply ZE;exact Z)|exact AO.nil _ _ _|(apply Zu;(decide +kernel))|exact AOs.nil|exact ZR rfl rfl)
     all_goals exact Qe
  ·have t7:decide ((a:Int)<(s.length:Int))=false:=decide_eq_false (by omega)
   have t9:((a:Int)==(s.length:Int))=true:=by simp;omega
   rw[if_neg (by omega)]
   repeat'(first|(apply Zl Zb;exact Z)|(apply Zj Zb;exact Z)|(apply Zt Zb;exact Z)|refine Zs Z Z Z Qt ?_|refine Zn Z Qt Z Z ?_|refine Zf Z Qt ?_|refine Zg Z Qt ?_|refine ZG Zb Z Z Z Z ?_)
   all_goals exact Qe
theorem Of {c:UInt8}(h:c ≠ 47):c.toNat ≠ 47:=fun e=>h (UInt8.toNat_inj.1 (by rw[e];rfl))
theorem Og {s:List UInt8}{c:EidV}(h0:s ≠ V3)(hc:(ZW s).2=true->c=(ZW s).1){i:Bool}{n q:Nat}{h d:List UInt8}(ec:c=⟨i,n,q,h,d⟩):GR (decide (W5 c<1)) (ZC c != s) i n q h d=Q0 s:=by
 cases hk:decide (W5 c<1) with
 | true=>rw[UF (TE h0 hc hk)];cases(ZC c != s)<;>rfl
 | false=>
  cases ht:(ZC c != s) with
  | true=>rw[UF (TF hc ht)];rfl
  | false=>rw[Q1 (TG hk ht),ec]
theorem Q3 {c:EidV}(h:decide (W5 c<1)=false):ZY c=true:=by
 rw[Qc,Bool.or_eq_false_iff]at h
 simpa using h.1
theorem WT [Known](s:List UInt8)(hs:s.length<=1099511627776):AP Tryz.prog 94 [.str s] (Q0 s) []:=by
 cases h0:(s==V3) with
 | true=>
  have e:ZW s=(Zx,true):=by unfold ZW;rw[if_pos h0]
  rw[Q1 e]
  exact MQ s h0
 | false=>
  have hne:s ≠ V3:=by simpa using h0
  by_cases hI:∃ r,r ≠ []/\s=WQ++r
  ·obtain⟨r,hr,rfl⟩:=hI
   have hl:(WQ++r).length=4+r.length:=by simp[WQ];omega
   have hrl:0<r.length:=List.length_pos_iff.2 hr
   have hn:=Oe 11 0 r
   have hC1:=X9 (WQ++r) 4 (by omega) (by omega)
   have ed:(WQ++r).drop 4=r:=rfl
   rw[ed]at hC1
   have hK:=Qf (JN r) ⟨by simp[JN],by simp[JN]⟩
   rw[<- Og hne GP (show JN r=⟨true,_,_,[],[]⟩ from rfl)]
   refine MS (WQ++r) (Wv 11 0 r).1 (if 4+(Wv 11 0 r).2<4+r.length then(Wv 11 0 (r.drop ((Wv 11 0 r).2+1))).1 else 0) (4+(Wv 11 0 r).2) ((4+(Wv 11 0 r).2+1)+(Wv 11 0 (r.drop ((Wv 11 0 r).2+1))).2) (W5 (JN r)) (ZC (JN r)) (decide (4+(Wv 11 0 r).2<4+r.length)) _ _ h0 (decide_eq_true (by omega)) (by omega) rfl hC1 (by rw[hl];simp only[Int.ofNat_lt]) (by rw[IntWalk.i64_in _ (by omega)];omega) (fun hz=>?_) (fun hz=>if_neg (of_decide_eq_false hz)) hK rfl (fun hz=>V9 _ (Q3 hz)) rfl
   have hz:=of_decide_eq_true hz
   rw[if_pos hz]
   have hC2:=X9 (WQ++r) (4+(Wv 11 0 r).2+1) (by omega) (by omega)
   have ed2:(WQ++r).drop (4+(Wv 11 0 r).2+1)=r.drop ((Wv 11 0 r).2+1):=by
    rw[show 4+(Wv 11 0 r).2+1=4+((Wv 11 0 r).2+1) by omega,<- List.drop_drop,ed]
   rw[ed2]at hC2
   exact hC2
  ·by_cases hT:∃ r,r ≠ []/\s=[100,116,110,58,47,47]++r
   ·obtain⟨r,hr,rfl⟩:=hT
    have hl:([100,116,110,58,47,47]++r:List UInt8).length=6+r.length:=by simp;omega
    have hrl:0<r.length:=List.length_pos_iff.2 hr
    have ed:([100,116,110,58,47,47]++r:List UInt8).drop 6=r:=rfl
    have eg:∀ i,([100,116,110,58,47,47]++r:List UInt8)[6+i]?=r[i]? := fun i=>by rw[<- List.getElem?_drop,ed]
    rcases Jt 47 r with hno|⟨a,b,rfl,hno⟩
    ·have hK:=Qf ⟨false,0,0,r,[]⟩ ⟨by show r.length<=_;omega,by simp⟩
     have h:=NC ([100,116,110,58,47,47]++r) (6+r.length) r [] (W5 ⟨false,0,0,r,[]⟩) (ZC ⟨false,0,0,r,[]⟩) _ _ h0 (by omega) (decide_eq_true (by omega)) (by omega) rfl (decide_eq_true (by omega)) (by omega) rfl (by omega) (by omega)
      (fun i h6 hi=>by
       obtain⟨j,rfl⟩:∃ j,i=6+j:=⟨i-6,by omega⟩
       rw[eg]
       have hj:j<r.length:=by omega
       exact⟨r[j],List.getElem?_eq_getElem hj,Of fun e=>hno (e ▸ List.getElem_mem hj)⟩)
      (fun h=>by omega) (by rw[List.take_of_length_le (by omega),ed]) (List.drop_of_length_le (by omega)) hK rfl (fun hz=>V9 _ (Q3 hz)) rfl
     rw[if_neg (by omega)]at h
     rw[UF (Od hne (fun r' hr' e=>hI ⟨r',hr',e⟩) (fun h d hh e=>hno (by rw[List.append_cancel_left e];simp)))]
     exact h
    ·have hal:(a++47::b).length=a.length+(b.length+1):=by simp
     have hK:=Qf ⟨false,0,0,a,b⟩ ⟨by show a.length<=_;omega,by show b.length<=_;omega⟩
     have h:=NC ([100,116,110,58,47,47]++(a++47::b)) (6+a.length) a b (W5 ⟨false,0,0,a,b⟩) (ZC ⟨false,0,0,a,b⟩) _ _ h0 (by omega) (decide_eq_true (by omega)) (by omega) rfl (decide_eq_true (by omega)) (by omega) rfl (by omega) (by omega)
      (fun i h6 hi=>by
       obtain⟨j,rfl⟩:∃ j,i=6+j:=⟨i-6,by omega⟩
       rw[eg]
       have hj:j<a.length:=by omega
       exact⟨a[j],by rw[List.getElem?_append_left hj,List.getElem?_eq_getElem hj],Of fun e=>hno (e ▸ List.getElem_mem hj)⟩)
      (fun h=>⟨47,by rw[eg,List.getElem?_append_right (Nat.le_refl _),Nat.sub_self];rfl,rfl⟩)
      (by
       have e:([100,116,110,58,47,47]++(a++47::b):List UInt8).take (6+a.length)=[100,116,110,58,47,47]++a:=by
        rw[<- List.append_assoc,List.take_append_of_le_length (by simp;omega),List.take_of_length_le (by simp;omega)]
       rw[e];rfl)
      (by
       have e:([100,116,110,58,47,47]++(a++47::b):List UInt8).drop (6+(a.length+1))=(a++47::b).drop (a.length+1):=by rw[<- List.drop_drop,ed]
       rw[show 6+a.length+1=6+(a.length+1) by omega,e,List.drop_append,List.drop_of_length_le (by omega)];simp)
      hK rfl (fun hz=>V9 _ (Q3 hz)) rfl
     rw[if_pos (by omega)]at h
     rw[<- Og hne (GQ hno) rfl]
     exact h
   ·have hpn:=Od hne (fun r' hr' e=>hI ⟨r',hr',e⟩) (fun h d hh e=>hT ⟨_,by simp,e⟩)
    rw[UF hpn]
    have hK:=Qf Zx ⟨by decide,by decide⟩
    refine MR s h0 ?_ ?_ hK
    ·rcases Nat.lt_or_ge 4 s.length with h4|h4
     ·refine .inr ⟨decide_eq_true (by omega),by omega,?_⟩
      cases hb:((s.take (Int.toNat 4)).drop 0==[105,112,110,58]) with
      | false=>rfl
      | true=>
       have e:s.take 4=WQ:=beq_iff_eq.1 hb
       refine absurd ⟨s.drop 4,?_,?_⟩ hI
       ·intro hn;have:=congrArg List.length hn;simp at this;omega
       ·rw[<- e,List.take_append_drop]
     ·exact .inl (decide_eq_false (by omega))
    ·rcases Nat.lt_or_ge 6 s.length with h4|h4
     ·refine .inr ⟨decide_eq_true (by omega),by omega,?_⟩
      cases hb:((s.take (Int.toNat 6)).drop 0==[100,116,110,58,47,47]) with
      | false=>rfl
      | true=>
       have e:s.take 6=[100,116,110,58,47,47]:=beq_iff_eq.1 hb
       refine absurd ⟨s.drop 6,?_,?_⟩ hT
       ·intro hn;have:=congrArg List.length hn;simp at this;omega
       ·rw[<- e,List.take_append_drop]
     ·exact .inl (decide_eq_false (by omega))
theorem UG [Known](b:List UInt8)(id:Nat)(ei:Bool)(en es:Nat)(eh ed:List UInt8)(di:Bool)(dn dq:Nat)(dh dd:List UInt8)(pol num tik:Nat)(pay:List UInt8)(life tok on:Nat)(te td:List UInt8)(oe od:Bool)(i1 i2 i3 i4 e1 e2 e3 e4:Int)(c:List UInt8)(h0:AQ Tryz.prog 76 [.ptr 0 0] [[.sl .ext (b.map E.byte),.int .i64 0,.int .i64 0]] (.int .u64 (id:Int)) [[.sl .ext (b.map E.byte),.int .i64 i1,.int .i64 e1]])(h1:AQ Tryz.prog 77 [.ptr 0 0,.int .u64 1099511627776] [[.sl .ext (b.map E.byte),.int .i64 i1,.int .i64 e1]] (.int .u64 1) [[.sl .ext (b.map E.byte),.int .i64 i2,.int .i64 e2]])(hP:AP Tryz.prog 93 [.int .i64 1] (.str [101,112]) [])(h2:AQ Tryz.prog 78 [.ptr 0 0] [[.sl .ext (b.map E.byte),.int .i64 i2,.int .i64 e2]] (.sl .ext (te.map E.byte)) [[.sl .ext (b.map E.byte),.int .i64 i3,.int .i64 e3]])(ge:AP Tryz.prog 94 [.str te] (.tup [.agg [.bool ei,.int .u64 (en:Int),.int .u64 (es:Int),.str eh,.str ed],.bool oe]) [])(h3:AQ Tryz.prog 77 [.ptr 0 0,.int .u64 1099511627776] [[.sl .ext (b.map E.byte),.int .i64 i3,.int .i64 e3]] (.int .u64 (pol:Int)) [[.sl .ext (b.map E.byte),.int .i64 i4,.int .i64 e4]])(wp:IntKind.i64.wrap (pol:Int)=(pol:Int)) :
  (∀(t1:(e4 != 0)=false) (hR:AP Tryz.prog 82 [.agg [.int .u64 (id:Int),.int .i64 1,.bool ei,.int .u64 (en:Int),.int .u64 (es:Int),.str eh,.str ed,.bool false,.int .u64 0,.int .u64 0,.str [],.str [],.int .i64 (pol:Int),.int .i64 0,.int .i64 0,.sl .ext [],.int .u64 0,.int .u64 0,.bool false]] (.bool false) []),
  AP Tryz.prog 51 [.sl .ext (b.map E.byte)] (.tup [.agg [.int .u64 0,.int .i64 0,.bool false,.int .u64 0,.int .u64 0,.str [],.str [],.bool false,.int .u64 0,.int .u64 0,.str [],.str [],.int .i64 0,.int .i64 0,.int .i64 0,.sl .ext [],.int .u64 0,.int .u64 0,.bool false],.bool false]) []) /\
  (∀(t1:(e4 != 0)=true),
  AP Tryz.prog 51 [.sl .ext (b.map E.byte)] (.tup [.agg [.int .u64 0,.int .i64 0,.bool false,.int .u64 0,.int .u64 0,.str [],.str [],.bool false,.int .u64 0,.int .u64 0,.str [],.str [],.int .i64 0,.int .i64 0,.int .i64 0,.sl .ext [],.int .u64 0,.int .u64 0,.bool false],.bool false]) []) /\
  (∀(t1:(e4 != 0)=false) (hR:AP Tryz.prog 82 [.agg [.int .u64 (id:Int),.int .i64 1,.bool ei,.int .u64 (en:Int),.int .u64 (es:Int),.str eh,.str ed,.bool false,.int .u64 0,.int .u64 0,.str [],.str [],.int .i64 (pol:Int),.int .i64 0,.int .i64 0,.sl .ext [],.int .u64 0,.int .u64 0,.bool false]] (.bool true) []) (hW:AP Tryz.prog 88 [.agg [.int .u64 (id:Int),.int .i64 1,.bool ei,.int .u64 (en:Int),.int .u64 (es:Int),.str eh,.str ed,.bool false,.int .u64 0,.int .u64 0,.str [],.str [],.int .i64 (pol:Int),.int .i64 0,.int .i64 0,.sl .ext [],.int .u64 0,.int .u64 0,.bool false]] (.sl .ext (c.map E.byte)) []) (t2:(c != b)=true),
  AP Tryz.prog 51 [.sl .ext (b.map E.byte)] (.tup [.agg [.int .u64 0,.int .i64 0,.bool false,.int .u64 0,.int .u64 0,.str [],.str [],.bool false,.int .u64 0,.int .u64 0,.str [],.str [],.int .i64 0,.int .i64 0,.int .i64 0,.sl .ext [],.int .u64 0,.int .u64 0,.bool false],.bool false]) []) /\
  (∀(t1:(e4 != 0)=false) (hR:AP Tryz.prog 82 [.agg [.int .u64 (id:Int),.int .i64 1,.bool ei,.int .u64 (en:Int),.int .u64 (es:Int),.str eh,.str ed,.bool false,.int .u64 0,.int .u64 0,.str [],.str [],.int .i64 (pol:Int),.int .i64 0,.int .i64 0,.sl .ext [],.int .u64 0,.int .u64 0,.bool false]] (.bool true) []) (hW:AP Tryz.prog 88 [.agg [.int .u64 (id:Int),.int .i64 1,.bool ei,.int .u64 (en:Int),.int .u64 (es:Int),.str eh,.str ed,.bool false,.int .u64 0,.int .u64 0,.str [],.str [],.int .i64 (pol:Int),.int .i64 0,.int .i64 0,.sl .ext [],.int .u64 0,.int .u64 0,.bool false]] (.sl .ext (c.map E.byte)) []) (t2:(c != b)=false),
  AP Tryz.prog 51 [.sl .ext (b.map E.byte)] (.tup [.agg [.int .u64 (id:Int),.int .i64 1,.bool ei,.int .u64 (en:Int),.int .u64 (es:Int),.str eh,.str ed,.bool false,.int .u64 0,.int .u64 0,.str [],.str [],.int .i64 (pol:Int),.int .i64 0,.int .i64 0,.sl .ext [],.int .u64 0,.int .u64 0,.bool false],.bool true]) []):=by
 refine⟨fun t1 hR=>?_,fun t1=>?_,fun t1 hR hW t2=>?_,fun t1 hR hW t2=>?_⟩
 all_goals
  have wk:IntKind.i64.wrap 1=1:=by decide
  refine AP.ofA (Zp Tryz.func51 Z Tryz.ntmps51 Z Z ?_)
  repeat'(first|rw[wp]|rw[wk]|(apply Zh [1] (h0);kernel_rfl;(iterate 7 exact Z))|(apply Zh [1] (h1);kernel_rfl;(iterate 7 exact Z))|(apply Zc (hP);kernel_rfl;(iterate 4 exact Z))|(apply Zc (ge);kernel_rfl;(iterate 4 exact Z))|(apply Zh [1] (h2);kernel_rfl;(iterate 7 exact Z))|(apply Zh [1] (h3);kernel_rfl;(iterate 7 exact Z))|(apply Zc (hR);kernel_rfl;(iterate 4 exact Z))|(apply Zc (hW);kernel_rfl;(iterate 4 exact Z))|refine Z0 Zb Z Z Z Z Z Z Z Z Z ?_|refine Yo Zb Z Z Z Z Z (by decide) Z ?_|refine Yi 70 ?_|refine YE ?_|(apply Zl Zb;exact Z)|(apply Zj Zb;exact Z)|(apply Zt Zb;exact Z)|(apply Zi;(iterate 3 exact Z);(first|with_reducible assumption|decide +kernel|(solve|simp only[bn])))|(apply Zq;(iterate 3 exact Z);(first|with_reducible assumption|decide +kernel|(solve|simp only[bn])))|(apply Zo;exact Z;(first|with_reducible assumption|decide +kernel|(solve|simp only[bn]));exact Z;exact Z)|(apply Zn;exact Z;(first|with_reducible assumption|decide +kernel|(solve|simp only[bn]));exact Z;exact Z)|(apply Zf;exact Z;(first|with_reducible assumption|decide +kernel|(solve|simp only[bn])))|(apply Zg;exact Z;(first|with_reducible assumption|decide +kernel|(solve|simp only[bn])))|refine ZG Zb Z Z Z Z ?_|(apply Z5 16 Ze;decide +kernel;kernel_rfl;kernel_rfl;exact Z;exact Z)|(apply Yp;(iterate 3 exact Z))|refine AD.nil _|exact Yv rfl|refine Z0 Zb Z Z Z Z Z Z Z Z Z ?_)
  all_goals exact Qe
end Go.Proofs.YtchlgagdbflkmaaGreatDoor
end

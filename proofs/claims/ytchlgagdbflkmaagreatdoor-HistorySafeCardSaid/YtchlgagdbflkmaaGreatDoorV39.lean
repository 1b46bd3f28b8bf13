/- History: kept; the lines that are kept (hsgen2.py). -/
import Derived.Test.YtchlgagdbflkmaaGreatDoorV37
import Derived.Test.YtchlgagdbflkmaaGreatDoorV35
import Derived.Test.YtchlgagdbflkmaaGreatDoorV38
set_option linter.unusedVariables false
set_option linter.unusedSimpArgs false
section
open Go.RowKit Go.Pl Go.Av
namespace Go.Proofs.YtchlgagdbflkmaaGreatDoor
set_option maxHeartbeats 4000000
theorem KI [Known]:AT Tryz.prog 63 [.ptr 0 0] hsN [] (.fn 98 [.ptr 1 0]) (hsN++[[.ptr 0 0]]) []:=by
 refine Zl Tryz.func63 rfl Tryz.ntmps63 rfl rfl ?_
 repeat'(first|(apply Zh Za;exact Z))
 all_goals(apply Wg [0,1] [];(apply Zc Za;exact Z);(iterate 7 exact Z))
 all_goals rfl
theorem KJ [Known](L:List Ln)(s c:Nat):AT Tryz.prog 63 [.ptr 0 0] (hsR L s c) [] (.fn 98 [.ptr 2 0]) ((hsR L s c)++[[.ptr 0 0]]) []:=by
 refine Zl Tryz.func63 rfl Tryz.ntmps63 rfl rfl ?_
 repeat'(first|(apply Zh Za;exact Z))
 all_goals(apply Wg [0,1,2] [];(apply Zc Za;exact Z);(iterate 7 exact Z))
 all_goals rfl
def KpJ (L:List Ln)(s c:Nat)(i:Nat)(bx:List (List D))(fr:List Fr):Prop:=
 (ZM (L.take i)=[]/\bx=[[.bool true,.bsl 1 0 L.length c,.int .i64 (s:Int)],[.row (c*32) (lnF L)],[.ptr 0 0],[.sl .nil []],[.ptr 0 0]]/\fr=[]) \/
 (ZM (L.take i) ≠ []/\bx=[[.bool true,.bsl 1 0 L.length c,.int .i64 (s:Int)],[.row (c*32) (lnF L)],[.ptr 0 0],[.sl (.own 0) ((ZM (L.take i)).map lnE)],[.ptr 0 0]]/\fr=[⟨(ZM (L.take i)).length,32,82⟩])
theorem GA {L:List Ln}{s c i:Nat}{bx:List (List D)}{fr:List Fr}(h:Wv L i=true)(hJ:KpJ L s c i bx fr):KpJ L s c (i+1) bx fr:=by
 unfold KpJ at hJ ⊢
 rw[QM h]
 exact hJ
theorem BK [Known](L:List Ln)(s c:Nat)(hl:L.length<=1000):ItOk Tryz.prog 98 [.ptr 4 0] (KpJ L s c) (Wv L) L.length:=by
 refine QN Tryz.func98 rfl Tryz.ntmps98 rfl rfl ?_
 intro R l b0 bx fr hR hJ hy
 have hJ0:=hJ
 rcases hJ with⟨hz,rfl,rfl⟩ | ⟨hz,rfl,rfl⟩
 ·repeat'(first|refine ZN ?_|refine Z0 ?_|refine ZE hR (fun d=>?_)|refine YR Za Z Z Z Z ?_|(apply Zg Za;exact Z))
  refine UF (fun k tm bx fr=>∃ i:Nat,k+i=L.length/\tm=[(0,.yl l),(8,.bsl 1 0 L.length c),(9,.int .i64 (L.length:Int)),(10,.int .i64 (i:Int))]/\(KpJ L s c) i bx fr) (L.length+1) (LandS.mk' (m:=L.length) (tm1:=[(0,.yl l),(8,.bsl 1 0 L.length c),(9,.int .i64 (L.length:Int)),(10,.int .i64 ((0:Nat):Int))]) [0,1,2,3,4] [] (Nat.lt_succ_self _) ⟨0,rfl,rfl,hJ0⟩ rfl rfl rfl rfl ?_ rfl rfl rfl) ?_
  ·exact .cons rfl (.cons rfl (.cons rfl (.cons rfl .nil)))
  clear hJ0
  rintro k tm bx fr ⟨i,hki,rfl,hJ⟩
  have hJ0:=hJ
  rcases Nat.lt_or_ge i L.length with hlt|hge
  ·have hd:decide ((i:Int)<((L.length:Nat):Int))=true:=decide_eq_true (by omega)
   have hlt2:(i:Int)<((L.length:Nat):Int):=of_decide_eq_true hd
   obtain⟨x,hx⟩:∃ x,L[i]?=some x:=⟨_,List.getElem?_eq_getElem hlt⟩
   have ei:IntKind.i64.wrap ((i:Int)+1)=((i+1:Nat):Int):=by rw[IntWalk.i64_in _ (by omega)];omega
   have hrow:((lnF L).drop (((i:Nat):Int).toNat*32)).take 32=lnL ⟨x.e,x.r,x.told,x.lost⟩:=by rw[Int.toNat_natCast];exact KE hx
   have hrle:((i:Nat):Int).toNat*32+32<=(lnF L).length:=by rw[Int.toNat_natCast,UR];omega
   have hlo:=WC hx
   cases hl:x.lost with
   | true=>
    rw[hl]at hlo hrow
    rcases hJ with⟨hz,rfl,rfl⟩ | ⟨hz,rfl,rfl⟩
    ·repeat'(first|refine ZN ?_|refine Z0 ?_|refine ZE hR (fun d=>?_)|(apply YE;exact Z;exact Qt)|(apply Z1;exact Z;exact Qt)|refine YX ?_|refine YJ ?_|refine YK Za Z Z Z Z Z Z (Int.natCast_nonneg _) hlt2 Z ?_|refine YT Za Z Z Z Z hrow hrle Z Z ?_|rw[ei]|(apply Zg Za;exact Z)|(apply Zr;(iterate 3 exact Z);(first|with_reducible assumption|decide +kernel|(solve|simp only[bn])))|(apply Zi;exact Z;(first|with_reducible assumption|decide +kernel|(solve|simp only[bn]));exact Z;exact Z)|refine ZD ?_)
     refine LandS.mk' (m:=k-1) (tm1:=[(0,.yl l),(8,.bsl 1 0 L.length c),(9,.int .i64 (L.length:Int)),(10,.int .i64 ((i+1:Nat):Int))]) [0,1,2,3,4] [] (by omega) ⟨i+1,by omega,rfl,GA hlo hJ0⟩ rfl rfl rfl rfl ?_ rfl rfl rfl
     exact .cons rfl (.cons rfl (.cons rfl (.cons rfl .nil)))
    ·repeat'(first|refine ZN ?_|refine Z0 ?_|refine ZE hR (fun d=>?_)|(apply YE;exact Z;exact Qt)|(apply Z1;exact Z;exact Qt)|refine YX ?_|refine YJ ?_|refine YK Za Z Z Z Z Z Z (Int.natCast_nonneg _) hlt2 Z ?_|refine YT Za Z Z Z Z hrow hrle Z Z ?_|rw[ei]|(apply Zg Za;exact Z)|(apply Zr;(iterate 3 exact Z);(first|with_reducible assumption|decide +kernel|(solve|simp only[bn])))|(apply Zi;exact Z;(first|with_reducible assumption|decide +kernel|(solve|simp only[bn]));exact Z;exact Z)|refine ZD ?_)
     refine LandS.mk' (m:=k-1) (tm1:=[(0,.yl l),(8,.bsl 1 0 L.length c),(9,.int .i64 (L.length:Int)),(10,.int .i64 ((i+1:Nat):Int))]) [0,1,2,3,4] [0] (by omega) ⟨i+1,by omega,rfl,GA hlo hJ0⟩ rfl rfl rfl rfl ?_ rfl rfl rfl
     exact .cons rfl (.cons rfl (.cons rfl (.cons rfl .nil)))
   | false=>
    rw[hl]at hlo hrow
    rcases hJ with⟨hz,rfl,rfl⟩ | ⟨hz,rfl,rfl⟩
    ·repeat'(first|(refine US (id:=3) (i:=i) (l:=l) 6 hR ((KpJ L s c) (i+1)) (tmK:=[(0,.yl l),(8,.bsl 1 0 L.length c),(9,.int .i64 (L.length:Int)),(10,.int .i64 (i:Int)),(18,.bool true),(19,.yl l),(20,.int .i64 (i:Int))]) (bxK:=_) (frK:=_) rfl rfl rfl rfl (fun d=>?_) rfl rfl rfl rfl rfl (fun ds g w hm he hr=>hy i ds g _ _ w hlt hlo hJ0 hm he hr) (fun bx2 fr2 hJ2 d=>?_))|refine ZN ?_|refine Z0 ?_|refine ZE hR (fun d=>?_)|(apply YE;exact Z;exact Qt)|(apply Z1;exact Z;exact Qt)|refine YX ?_|refine YJ ?_|refine YK Za Z Z Z Z Z Z (Int.natCast_nonneg _) hlt2 Z ?_|refine YT Za Z Z Z Z hrow hrle Z Z ?_|(apply Zg Za;exact Z)|(apply Zd;(iterate 3 exact Z);(first|with_reducible assumption|decide +kernel|(solve|simp only[bn])))|(apply Zj;exact Z;(first|with_reducible assumption|decide +kernel|(solve|simp only[bn]));exact Z;exact Z)|refine ZD ?_)
     ·refine LandS.mk' (m:=0) (tm1:=[(0,.yl l),(8,.bsl 1 0 L.length c),(9,.int .i64 (L.length:Int)),(10,.int .i64 (i:Int)),(18,.bool true),(19,.yl l),(20,.int .i64 (i:Int))]) [0,1,2,3,4] [] (by decide) ⟨rfl,rfl,rfl⟩ rfl rfl rfl rfl ?_ rfl rfl rfl
      exact .cons rfl (.cons rfl (.cons rfl (.cons rfl (.cons rfl (.cons rfl (.cons rfl .nil))))))
     ·have hJ3:=hJ2
      rcases hJ2 with⟨hz,rfl,rfl⟩ | ⟨hz,rfl,rfl⟩
      ·repeat'(first|rw[ei])
       refine LandS.mk' (m:=k-1) (tm1:=[(0,.yl l),(8,.bsl 1 0 L.length c),(9,.int .i64 (L.length:Int)),(10,.int .i64 ((i+1:Nat):Int))]) [0,1,2,3,4] [] (by omega) ⟨i+1,by omega,rfl,hJ3⟩ rfl rfl rfl rfl ?_ rfl rfl rfl
       exact .cons rfl (.cons rfl (.cons rfl (.cons rfl .nil)))
      ·repeat'(first|rw[ei])
       refine LandS.mk' (m:=k-1) (tm1:=[(0,.yl l),(8,.bsl 1 0 L.length c),(9,.int .i64 (L.length:Int)),(10,.int .i64 ((i+1:Nat):Int))]) [0,1,2,3,4] [0] (by omega) ⟨i+1,by omega,rfl,hJ3⟩ rfl rfl rfl rfl ?_ rfl rfl rfl
       exact .cons rfl (.cons rfl (.cons rfl (.cons rfl .nil)))
    ·repeat'(first|(refine US (id:=3) (i:=i) (l:=l) 6 hR ((KpJ L s c) (i+1)) (tmK:=[(0,.yl l),(8,.bsl 1 0 L.length c),(9,.int .i64 (L.length:Int)),(10,.int .i64 (i:Int)),(18,.bool true),(19,.yl l),(20,.int .i64 (i:Int))]) (bxK:=_) (frK:=_) rfl rfl rfl rfl (fun d=>?_) rfl rfl rfl rfl rfl (fun ds g w hm he hr=>hy i ds g _ _ w hlt hlo hJ0 hm he hr) (fun bx2 fr2 hJ2 d=>?_))|refine ZN ?_|refine Z0 ?_|refine ZE hR (fun d=>?_)|(apply YE;exact Z;exact Qt)|(apply Z1;exact Z;exact Qt)|refine YX ?_|refine YJ ?_|refine YK Za Z Z Z Z Z Z (Int.natCast_nonneg _) hlt2 Z ?_|refine YT Za Z Z Z Z hrow hrle Z Z ?_|(apply Zg Za;exact Z)|(apply Zd;(iterate 3 exact Z);(first|with_reducible assumption|decide +kernel|(solve|simp only[bn])))|(apply Zj;exact Z;(first|with_reducible assumption|decide +kernel|(solve|simp only[bn]));exact Z;exact Z)|refine ZD ?_)
     ·refine LandS.mk' (m:=0) (tm1:=[(0,.yl l),(8,.bsl 1 0 L.length c),(9,.int .i64 (L.length:Int)),(10,.int .i64 (i:Int)),(18,.bool true),(19,.yl l),(20,.int .i64 (i:Int))]) [0,1,2,3,4] [0] (by decide) ⟨rfl,rfl,rfl⟩ rfl rfl rfl rfl ?_ rfl rfl rfl
      exact .cons rfl (.cons rfl (.cons rfl (.cons rfl (.cons rfl (.cons rfl (.cons rfl .nil))))))
     ·have hJ3:=hJ2
      rcases hJ2 with⟨hz,rfl,rfl⟩ | ⟨hz,rfl,rfl⟩
      ·repeat'(first|rw[ei])
       refine LandS.mk' (m:=k-1) (tm1:=[(0,.yl l),(8,.bsl 1 0 L.length c),(9,.int .i64 (L.length:Int)),(10,.int .i64 ((i+1:Nat):Int))]) [0,1,2,3,4] [] (by omega) ⟨i+1,by omega,rfl,hJ3⟩ rfl rfl rfl rfl ?_ rfl rfl rfl
       exact .cons rfl (.cons rfl (.cons rfl (.cons rfl .nil)))
      ·repeat'(first|rw[ei])
       refine LandS.mk' (m:=k-1) (tm1:=[(0,.yl l),(8,.bsl 1 0 L.length c),(9,.int .i64 (L.length:Int)),(10,.int .i64 ((i+1:Nat):Int))]) [0,1,2,3,4] [0] (by omega) ⟨i+1,by omega,rfl,hJ3⟩ rfl rfl rfl rfl ?_ rfl rfl rfl
       exact .cons rfl (.cons rfl (.cons rfl (.cons rfl .nil)))
  ·have hd:decide ((i:Int)<((L.length:Nat):Int))=false:=decide_eq_false (by omega)
   obtain rfl:i=L.length:=by omega
   rcases hJ with⟨hz,rfl,rfl⟩ | ⟨hz,rfl,rfl⟩
   ·repeat'(first|refine ZN ?_|refine ZE hR (fun d=>?_)|(apply Z1;exact Z;exact Qt)|refine V3 ?_|(apply Zg Za;exact Z)|refine WN ?_|refine Vr ?_)
    exact LandS.mk' (m:=0) (tm1:=[]) [0,1,2,3,4] [] (by decide) hJ0 rfl rfl rfl rfl .nil rfl rfl rfl
   ·repeat'(first|refine ZN ?_|refine ZE hR (fun d=>?_)|(apply Z1;exact Z;exact Qt)|refine V3 ?_|(apply Zg Za;exact Z)|refine WN ?_|refine Vr ?_)
    exact LandS.mk' (m:=0) (tm1:=[]) [0,1,2,3,4] [0] (by decide) hJ0 rfl rfl rfl rfl .nil rfl rfl rfl
 ·exact absurd rfl hz
theorem GB [Known](L:List Ln)(s c:Nat)(hl:L.length<=1000)(hk:∀ x ∈ L,Vb x):AQ Tryz.prog 34 [.ptr 0 0] (hsR L s c) (.sl .ext ((ZM L).map lnE)) (hsR L s c):=by
 refine AQ.weak (Qw Tryz.func34 Z Tryz.ntmps34 Z Z ?_)
 intro b0
 repeat'(first|refine ZN ?_|refine Z0 ?_|refine ZE (Yl _) (fun d=>?_)|(apply YE;exact Z;exact Qt)|(apply Zx [0,1] [] (KJ L s c);kernel_rfl;(iterate 10 exact Z))|(refine YZ (KpJ L s c) (Wv L) L.length (by kernel_rfl) rfl rfl rfl (.inl ⟨rfl,rfl,rfl⟩) (BK L s c hl) ?_ ?_)|(apply Zg Za;exact Z))
 ·rename_i d1 d2 d3
  clear d1 d2 d3 d
  rintro i bx fr hlt hlo hJ
  have hlt2:(i:Int)<((L.length:Nat):Int):=by omega
  obtain⟨x,hx⟩:∃ x,L[i]?=some x:=⟨_,List.getElem?_eq_getElem hlt⟩
  rw[WC hx]at hlo
  have hrow:((lnF L).drop (((i:Nat):Int).toNat*32)).take 32=lnL ⟨x.e,x.r,x.told,x.lost⟩:=by rw[Int.toNat_natCast];exact KE hx
  have hrle:((i:Nat):Int).toNat*32+32<=(lnF L).length:=by rw[Int.toNat_natCast,UR];omega
  have hxx:[x]=[(⟨x.e,x.r,x.told,false⟩:Ln)]:=by cases x;dsimp only at hlo;rw[hlo]
  have hC:=UA ⟨x.e,x.r,x.told,false⟩ (hk x (List.mem_of_getElem? hx))
  have hT:=WD hx
  rw[hlo]at hT hrow
  dsimp only at hT
  rw[hxx]at hT
  dsimp only[lnC]at hC
  have hkl:(ZM (L.take i)).length<=1000:=by have:=Ww (L.take i);rw[List.length_take]at this;omega
  rcases hJ with⟨hz,rfl,rfl⟩ | ⟨hz,rfl,rfl⟩
  ·rw[hz]at hT
   repeat'(first|refine WE ?_|(apply Xb 11 ZG;exact Z;decide +kernel;kernel_rfl;kernel_rfl;kernel_rfl;exact Z;exact Z)|exact Y2 (t:=20) rfl rfl|refine YK Za Z Z Z Z Z Z (Int.natCast_nonneg _) hlt2 Z ?_|refine YT Za Z Z Z Z hrow hrle Z Z ?_|(apply Zb (hC);kernel_rfl;(iterate 4 exact Z))|refine Z9 Za Z Z Z Z Z Z (Zk rfl) (List.cons_ne_nil _ _) Z Qd Qd Z Z Z ?_|(apply Zg Za;exact Z)|refine ZD ?_|refine Wp ?_|refine ZO Za Z Z Z Z Z Z Z Z Z Z Z Z ?_|(apply Zq;(iterate 4 exact Z))|exact AE.nil _ _ _ _|(apply Zv;exact Z)|(apply Yj;exact Z)|(apply ZA;exact Z;exact Z;decide +kernel;exact Z)|(apply ZB;exact Z)|(apply Yr;exact Z)|exact AO.nil _ _ _|(apply Zp;(decide +kernel))|exact AOs.nil|exact ZJ rfl rfl|exact Y6 rfl rfl rfl rfl rfl)
   ·refine LandS.mk' (m:=0) (tm1:=[]) [0,1,2,3,4] [0] (by decide) (.inr ⟨by rw[hT];simp,by rw[hT];rfl,by rw[hT];rfl⟩) rfl rfl rfl rfl .nil rfl rfl rfl
   all_goals first|(show 1<=maxLen;decide)|(show 1*328<=140737488355328;decide)|decide
  ·have hUh:=Gt (ZM (L.take i))
   have hhm:((ZM (L.take i)).map lnE).length=(ZM (L.take i)).length:=List.length_map ..
   repeat'(first|refine WE ?_|(apply Xb 11 ZG;exact Z;decide +kernel;kernel_rfl;kernel_rfl;kernel_rfl;exact Z;exact Z)|exact Y2 (t:=20) rfl rfl|refine YK Za Z Z Z Z Z Z (Int.natCast_nonneg _) hlt2 Z ?_|refine YT Za Z Z Z Z hrow hrle Z Z ?_|(apply Zb (hC);kernel_rfl;(iterate 4 exact Z))|(apply Zg Za;exact Z)|refine ZD ?_|refine Wp ?_|refine ZO Za Z Z Z Z Z Z Z Z Z Z Z Z ?_|(apply Zq;(iterate 4 exact Z))|exact AE.nil _ _ _ _|(apply Zv;exact Z)|(apply Yj;exact Z)|(apply ZA;exact Z;exact Z;decide +kernel;exact Z)|(apply ZB;exact Z)|(apply Yr;exact Z)|exact AO.nil _ _ _|(apply Zp;(decide +kernel))|exact AOs.nil|exact ZJ rfl rfl|exact Y6 rfl rfl rfl rfl rfl|(apply Z3 Za;(iterate 6 exact Z);(first|with_reducible assumption|decide +kernel|exact Z|rotate_left);exact Z;exact Z;(first|exact Zk rfl|with_reducible assumption|decide +kernel|rotate_left);(first|exact Zk rfl|with_reducible assumption|decide +kernel|rotate_left);(first|exact Qt|rotate_left);(first|exact Qt|rotate_left);(first|exact Qt|rotate_left);exact Z;exact Z))
   all_goals first
    | exact LandS.mk' (m:=0) (tm1:=[]) [0,1,2,3,4] [0] (by decide) (.inr ⟨by rw[hT];simp,by rw[hT,List.map_append];rfl,by rw[hT,List.length_append,<- hhm];rfl⟩) rfl rfl rfl rfl .nil rfl rfl rfl
    | exact hhm.symm
    | (simp only[List.length_cons,List.length_nil,hhm,maxLen];omega)
 ·rintro bx fr hJ
  have hTa:L.take L.length=L:=List.take_length
  unfold KpJ at hJ
  rw[hTa]at hJ
  rcases hJ with⟨hz,rfl,rfl⟩ | ⟨hz,rfl,rfl⟩
  ·repeat'(first|refine ZN ?_|refine ZE (Yl _) (fun d=>?_)|refine YX ?_|refine VG ?_|(apply Zg Za;exact Z))
   all_goals(apply Zt [0,1];(apply Zc Za;exact Z);(iterate 4 exact Z))
   all_goals first|rfl|(rw[hz];rfl)
  ·repeat'(first|refine ZN ?_|refine ZE (Yl _) (fun d=>?_)|refine YX ?_|refine VG ?_|(apply Zg Za;exact Z))
   all_goals(apply Zt [0,1];(apply Zc Za;exact Z);(iterate 4 exact Z))
   all_goals rfl
theorem KK {L:List Ln}{i:Nat}(s:Nat){x:Ln}(h:L[i]?=some x)(hl:x.lost=false):(ZM (L.take (min (i+1) s))).length=(ZM (L.take (min i s))).length+(if i<s then 1 else 0):=by
 by_cases his:i<s
 ·rw[if_pos his,Nat.min_eq_left (by omega),Nat.min_eq_left (by omega),WD h,hl,List.length_append]
  rfl
 ·rw[if_neg his,Nat.min_eq_right (by omega),Nat.min_eq_right (by omega),Nat.add_zero]
theorem Nh {L:List Ln}{i:Nat}(s:Nat)(h:Wv L i=true):ZM (L.take (min (i+1) s))=ZM (L.take (min i s)):=by
 by_cases his:i<s
 ·rw[Nat.min_eq_left (by omega),Nat.min_eq_left (by omega),QM h]
 ·rw[Nat.min_eq_right (by omega),Nat.min_eq_right (by omega)]
theorem Il [Known](left:Int):ItOk Tryz.prog 98 [.ptr 5 0] (fun _ bx fr=>bx=[[.bool true,.sl .nil [],.int .i64 0],[.ptr 0 0],[.int .i64 left],[.int .i64 0],[.int .i64 0],[.ptr 0 0]]/\fr=[]) (fun _=>true) 0:=by
 refine QN Tryz.func98 rfl Tryz.ntmps98 rfl rfl ?_
 rintro R l b0 bx fr hR ⟨rfl,rfl⟩ hy
 repeat'(first|refine ZN ?_|refine Z0 ?_|refine ZE hR (fun d=>?_)|(apply Zg Za;exact Z)|refine Zn Za Z Z Z Z ?_)
 refine UF (fun k tm bx fr=>tm=[(0,.yl l),(9,.int .i64 0),(10,.int .i64 0)]/\bx=[[.bool true,.sl .nil [],.int .i64 0],[.ptr 0 0],[.int .i64 left],[.int .i64 0],[.int .i64 0],[.ptr 0 0]]/\fr=[]) 1 (LandS.mk' (m:=0) (tm1:=[(0,.yl l),(9,.int .i64 0),(10,.int .i64 0)]) [0,1,2,3,4,5] [] (by decide) ⟨rfl,rfl,rfl⟩ rfl rfl rfl rfl ?_ rfl rfl rfl) ?_
 ·exact .cons rfl (.cons rfl (.cons rfl .nil))
 rintro k tm bx fr ⟨rfl,rfl,rfl⟩
 repeat'(first|refine ZN ?_|refine ZE hR (fun d=>?_)|(apply Z1;exact Z;exact Qt)|refine V3 ?_|(apply Zg Za;exact Z)|refine WN ?_|refine Vr ?_)
 exact LandS.mk' (m:=0) (tm1:=[]) [0,1,2,3,4,5] [] (by decide) ⟨rfl,rfl⟩ rfl rfl rfl rfl .nil rfl rfl rfl
theorem L7 [Known](left:Int):ItOk Tryz.prog 98 [.ptr 7 0] (fun _ bx fr=>bx=[[.bool true,.sl .nil [],.int .i64 0],[.ptr 0 0],[.int .i64 left],[.int .i64 0],[.int .i64 0],[.ptr 0 0],[.int .i64 0],[.ptr 0 0]]/\fr=[]) (fun _=>true) 0:=by
 refine QN Tryz.func98 rfl Tryz.ntmps98 rfl rfl ?_
 rintro R l b0 bx fr hR ⟨rfl,rfl⟩ hy
 repeat'(first|refine ZN ?_|refine Z0 ?_|refine ZE hR (fun d=>?_)|(apply Zg Za;exact Z)|refine Zn Za Z Z Z Z ?_)
 refine UF (fun k tm bx fr=>tm=[(0,.yl l),(9,.int .i64 0),(10,.int .i64 0)]/\bx=[[.bool true,.sl .nil [],.int .i64 0],[.ptr 0 0],[.int .i64 left],[.int .i64 0],[.int .i64 0],[.ptr 0 0],[.int .i64 0],[.ptr 0 0]]/\fr=[]) 1 (LandS.mk' (m:=0) (tm1:=[(0,.yl l),(9,.int .i64 0),(10,.int .i64 0)]) [0,1,2,3,4,5,6,7] [] (by decide) ⟨rfl,rfl,rfl⟩ rfl rfl rfl rfl ?_ rfl rfl rfl) ?_
 ·exact .cons rfl (.cons rfl (.cons rfl .nil))
 rintro k tm bx fr ⟨rfl,rfl,rfl⟩
 repeat'(first|refine ZN ?_|refine ZE hR (fun d=>?_)|(apply Z1;exact Z;exact Qt)|refine V3 ?_|(apply Zg Za;exact Z)|refine WN ?_|refine Vr ?_)
 exact LandS.mk' (m:=0) (tm1:=[]) [0,1,2,3,4,5,6,7] [] (by decide) ⟨rfl,rfl⟩ rfl rfl rfl rfl .nil rfl rfl rfl
theorem Ni [Known](left:Int)(h:left=0):AT Tryz.prog 32 [.ptr 0 0,.int .i64 left] hsN [] (.tup [.int .i64 0,.int .i64 0]) hsN []:=by
 subst h
 refine Qw Tryz.func32 rfl Tryz.ntmps32 rfl rfl ?_
 intro b0
 repeat'(first|refine ZN ?_|refine Z0 ?_|refine ZE (Yl _) (fun d=>?_)|(apply Z1;exact Z;exact Qt)|refine YJ ?_|(apply Zx [0] [] (KI);kernel_rfl;(iterate 10 exact Z))|(refine YZ (fun _ bx fr=>bx=[[.bool true,.sl .nil [],.int .i64 0],[.ptr 0 0],[.int .i64 0],[.int .i64 0],[.int .i64 0],[.ptr 0 0]]/\fr=[]) (fun _=>true) 0 (by kernel_rfl) rfl rfl rfl ⟨rfl,rfl⟩ (Il 0) ?_ ?_)|(apply Zg Za;exact Z)|(apply Zd;(iterate 3 exact Z);(first|with_reducible assumption|decide +kernel|(solve|simp only[bn])))|(apply Zi;exact Z;(first|with_reducible assumption|decide +kernel|(solve|simp only[bn]));exact Z;exact Z))
 ·rintro i bx fr hi
  exact absurd hi (Nat.not_lt_zero _)
 rintro bx fr ⟨rfl,rfl⟩
 repeat'(first|refine ZN ?_|refine Z0 ?_|refine ZE (Yl _) (fun d=>?_)|(apply Z1;exact Z;exact Qt)|refine YJ ?_|(apply Zx [0] [] (KI);kernel_rfl;(iterate 10 exact Z))|(refine YZ (fun _ bx fr=>bx=[[.bool true,.sl .nil [],.int .i64 0],[.ptr 0 0],[.int .i64 0],[.int .i64 0],[.int .i64 0],[.ptr 0 0],[.int .i64 0],[.ptr 0 0]]/\fr=[]) (fun _=>true) 0 (by kernel_rfl) rfl rfl rfl ⟨rfl,rfl⟩ (L7 0) ?_ ?_)|(apply Zg Za;exact Z)|(apply Zd;(iterate 3 exact Z);(first|with_reducible assumption|decide +kernel|(solve|simp only[bn])))|(apply Zi;exact Z;(first|with_reducible assumption|decide +kernel|(solve|simp only[bn]));exact Z;exact Z))
 ·rintro i bx fr hi
  exact absurd hi (Nat.not_lt_zero _)
 rintro bx fr ⟨rfl,rfl⟩
 repeat'(first|refine ZN ?_|refine ZE (Yl _) (fun d=>?_)|refine Xp (Yl _) (fun d=>?_)|refine YX ?_|refine VG ?_|(apply Zg Za;exact Z)|refine Zn Za Z Z Z Z ?_|(apply Zm 6 ZG;decide +kernel;kernel_rfl;kernel_rfl;kernel_rfl;exact Z;exact Z)|(apply Zq;(iterate 4 exact Z))|exact AE.nil _ _ _ _|(apply Zv;exact Z)|(apply ZA;exact Z;exact Z;decide +kernel;exact Z)|(apply ZB;exact Z)|exact AO.nil _ _ _|(apply Zp;(decide +kernel))|exact AOs.nil|exact ZJ rfl rfl)
 all_goals(apply Wg [0] [];(apply Zc Za;exact Z);(iterate 7 exact Z))
 all_goals rfl
theorem Hs [Known](left:Int)(h:left<0):AT Tryz.prog 32 [.ptr 0 0,.int .i64 left] hsN [] (.tup [.int .i64 0,.int .i64 1]) hsN []:=by
 have d1:decide (left<0)=true:=decide_eq_true h
 refine Qw Tryz.func32 rfl Tryz.ntmps32 rfl rfl ?_
 intro b0
 repeat'(first|refine ZN ?_|refine Z0 ?_|refine ZE (Yl _) (fun d=>?_)|(apply Z1;exact Z;exact Qt)|refine YJ ?_|(apply Zx [0] [] (KI);kernel_rfl;(iterate 10 exact Z))|(refine YZ (fun _ bx fr=>bx=[[.bool true,.sl .nil [],.int .i64 0],[.ptr 0 0],[.int .i64 left],[.int .i64 0],[.int .i64 0],[.ptr 0 0]]/\fr=[]) (fun _=>true) 0 (by kernel_rfl) rfl rfl rfl ⟨rfl,rfl⟩ (Il left) ?_ ?_)|(apply Zg Za;exact Z)|(apply Zd;(iterate 3 exact Z);(first|with_reducible assumption|decide +kernel|(solve|simp only[bn])))|(apply Zi;exact Z;(first|with_reducible assumption|decide +kernel|(solve|simp only[bn]));exact Z;exact Z))
 ·rintro i bx fr hi
  exact absurd hi (Nat.not_lt_zero _)
 rintro bx fr ⟨rfl,rfl⟩
 repeat'(first|refine ZN ?_|refine ZE (Yl _) (fun d=>?_)|(apply YE;exact Z;exact Qt)|refine YX ?_|refine VG ?_|(apply Zg Za;exact Z)|(apply Zo;(iterate 3 exact Z);(first|with_reducible assumption|decide +kernel|(solve|simp only[bn])))|(apply Zj;exact Z;(first|with_reducible assumption|decide +kernel|(solve|simp only[bn]));exact Z;exact Z)|refine WI ?_)
 all_goals(apply Wg [0] [];(apply Zc Za;exact Z);(iterate 7 exact Z))
 all_goals rfl
theorem Ht [Known](left:Int)(h:left>0):AT Tryz.prog 32 [.ptr 0 0,.int .i64 left] hsN [] (.tup [.int .i64 0,.int .i64 1]) hsN []:=by
 have d1:decide (left<0)=false:=decide_eq_false (by omega)
 have d2:decide (left>0)=true:=decide_eq_true h
 refine Qw Tryz.func32 rfl Tryz.ntmps32 rfl rfl ?_
 intro b0
 repeat'(first|refine ZN ?_|refine Z0 ?_|refine ZE (Yl _) (fun d=>?_)|(apply Z1;exact Z;exact Qt)|refine YJ ?_|(apply Zx [0] [] (KI);kernel_rfl;(iterate 10 exact Z))|(refine YZ (fun _ bx fr=>bx=[[.bool true,.sl .nil [],.int .i64 0],[.ptr 0 0],[.int .i64 left],[.int .i64 0],[.int .i64 0],[.ptr 0 0]]/\fr=[]) (fun _=>true) 0 (by kernel_rfl) rfl rfl rfl ⟨rfl,rfl⟩ (Il left) ?_ ?_)|(apply Zg Za;exact Z)|(apply Zd;(iterate 3 exact Z);(first|with_reducible assumption|decide +kernel|(solve|simp only[bn])))|(apply Zi;exact Z;(first|with_reducible assumption|decide +kernel|(solve|simp only[bn]));exact Z;exact Z))
 ·rintro i bx fr hi
  exact absurd hi (Nat.not_lt_zero _)
 rintro bx fr ⟨rfl,rfl⟩
 repeat'(first|refine ZN ?_|refine ZE (Yl _) (fun d=>?_)|(apply YE;exact Z;exact Qt)|refine YX ?_|refine VG ?_|(apply Zg Za;exact Z)|(apply Zd;(iterate 3 exact Z);(first|with_reducible assumption|decide +kernel|(solve|simp only[bn])))|(apply Zi;exact Z;(first|with_reducible assumption|decide +kernel|(solve|simp only[bn]));exact Z;exact Z)|refine WI ?_)
 all_goals(apply Wg [0] [];(apply Zc Za;exact Z);(iterate 7 exact Z))
 all_goals rfl
def Im (L:List Ln)(s c:Nat)(left:Int)(i:Nat)(bx:List (List D))(fr:List Fr):Prop:=
 bx=[[.bool true,.bsl 1 0 L.length c,.int .i64 (s:Int)],[.row (c*32) (lnF L)],[.ptr 0 0],[.int .i64 left],[.int .i64 (((ZM (L.take (min i s))).length:Nat):Int)],[.int .i64 (((ZM (L.take i)).length:Nat):Int)],[.ptr 0 0]]/\fr=[]
theorem Nj {L:List Ln}{s c i:Nat}{left:Int}{bx:List (List D)}{fr:List Fr}(h:Wv L i=true)(hJ:Im L s c left i bx fr):Im L s c left (i+1) bx fr:=by
 unfold Im at hJ ⊢
 rw[QM h,Nh s h]
 exact hJ
def Hu (L:List Ln)(s c:Nat)(left a b:Int)(i:Nat)(bx:List (List D))(fr:List Fr):Prop:=
 bx=[[.bool true,.bsl 1 0 L.length c,.int .i64 (s:Int)],[.row (c*32) (lnF (WT left L i))],[.ptr 0 0],[.int .i64 left],[.int .i64 a],[.int .i64 b],[.ptr 0 0],[.int .i64 (((ZM (L.take i)).length:Nat):Int)],[.ptr 0 0]]/\fr=[]
theorem Nk {L:List Ln}{s c i:Nat}{left a b:Int}{bx:List (List D)}{fr:List Fr}(hi:i<L.length)(h:Wv L i=true)(hJ:Hu L s c left a b i bx fr):Hu L s c left a b (i+1) bx fr:=by
 unfold Hu at hJ ⊢
 rw[QM h,Hp left hi h]
 exact hJ
theorem Hv [Known](L:List Ln)(s c:Nat)(left:Int)(hl:L.length<=1000):ItOk Tryz.prog 98 [.ptr 6 0] (Im L s c left) (Wv L) L.length:=by
 refine QN Tryz.func98 rfl Tryz.ntmps98 rfl rfl ?_
 intro R l b0 bx fr hR hJ hy
 have hJ0:=hJ
 rcases hJ with⟨rfl,rfl⟩
 ·repeat'(first|refine ZN ?_|refine Z0 ?_|refine ZE hR (fun d=>?_)|refine YR Za Z Z Z Z ?_|(apply Zg Za;exact Z))
  refine UF (fun k tm bx fr=>∃ i:Nat,k+i=L.length/\tm=[(0,.yl l),(8,.bsl 1 0 L.length c),(9,.int .i64 (L.length:Int)),(10,.int .i64 (i:Int))]/\(Im L s c left) i bx fr) (L.length+1) (LandS.mk' (m:=L.length) (tm1:=[(0,.yl l),(8,.bsl 1 0 L.length c),(9,.int .i64 (L.length:Int)),(10,.int .i64 ((0:Nat):Int))]) [0,1,2,3,4,5,6] [] (Nat.lt_succ_self _) ⟨0,rfl,rfl,hJ0⟩ rfl rfl rfl rfl ?_ rfl rfl rfl) ?_
  ·exact .cons rfl (.cons rfl (.cons rfl (.cons rfl .nil)))
  clear hJ0
  rintro k tm bx fr ⟨i,hki,rfl,hJ⟩
  have hJ0:=hJ
  rcases Nat.lt_or_ge i L.length with hlt|hge
  ·have hd:decide ((i:Int)<((L.length:Nat):Int))=true:=decide_eq_true (by omega)
   have hlt2:(i:Int)<((L.length:Nat):Int):=of_decide_eq_true hd
   obtain⟨x,hx⟩:∃ x,L[i]?=some x:=⟨_,List.getElem?_eq_getElem hlt⟩
   have ei:IntKind.i64.wrap ((i:Int)+1)=((i+1:Nat):Int):=by rw[IntWalk.i64_in _ (by omega)];omega
   have hrow:((lnF L).drop (((i:Nat):Int).toNat*32)).take 32=lnL ⟨x.e,x.r,x.told,x.lost⟩:=by rw[Int.toNat_natCast];exact KE hx
   have hrle:((i:Nat):Int).toNat*32+32<=(lnF L).length:=by rw[Int.toNat_natCast,UR];omega
   have hlo:=WC hx
   cases hl:x.lost with
   | true=>
    rw[hl]at hlo hrow
    rcases hJ with⟨rfl,rfl⟩
    ·repeat'(first|refine ZN ?_|refine Z0 ?_|refine ZE hR (fun d=>?_)|(apply YE;exact Z;exact Qt)|(apply Z1;exact Z;exact Qt)|refine YX ?_|refine YJ ?_|refine YK Za Z Z Z Z Z Z (Int.natCast_nonneg _) hlt2 Z ?_|refine YT Za Z Z Z Z hrow hrle Z Z ?_|rw[ei]|(apply Zg Za;exact Z)|(apply Zr;(iterate 3 exact Z);(first|with_reducible assumption|decide +kernel|(solve|simp only[bn])))|(apply Zi;exact Z;(first|with_reducible assumption|decide +kernel|(solve|simp only[bn]));exact Z;exact Z)|refine ZD ?_)
     refine LandS.mk' (m:=k-1) (tm1:=[(0,.yl l),(8,.bsl 1 0 L.length c),(9,.int .i64 (L.length:Int)),(10,.int .i64 ((i+1:Nat):Int))]) [0,1,2,3,4,5,6] [] (by omega) ⟨i+1,by omega,rfl,Nj hlo hJ0⟩ rfl rfl rfl rfl ?_ rfl rfl rfl
     exact .cons rfl (.cons rfl (.cons rfl (.cons rfl .nil)))
   | false=>
    rw[hl]at hlo hrow
    rcases hJ with⟨rfl,rfl⟩
    ·repeat'(first|(refine US (id:=3) (i:=i) (l:=l) 6 hR ((Im L s c left) (i+1)) (tmK:=[(0,.yl l),(8,.bsl 1 0 L.length c),(9,.int .i64 (L.length:Int)),(10,.int .i64 (i:Int)),(18,.bool true),(19,.yl l),(20,.int .i64 (i:Int))]) (bxK:=_) (frK:=_) rfl rfl rfl rfl (fun d=>?_) rfl rfl rfl rfl rfl (fun ds g w hm he hr=>hy i ds g _ _ w hlt hlo hJ0 hm he hr) (fun bx2 fr2 hJ2 d=>?_))|refine ZN ?_|refine Z0 ?_|refine ZE hR (fun d=>?_)|(apply YE;exact Z;exact Qt)|(apply Z1;exact Z;exact Qt)|refine YX ?_|refine YJ ?_|refine YK Za Z Z Z Z Z Z (Int.natCast_nonneg _) hlt2 Z ?_|refine YT Za Z Z Z Z hrow hrle Z Z ?_|(apply Zg Za;exact Z)|(apply Zd;(iterate 3 exact Z);(first|with_reducible assumption|decide +kernel|(solve|simp only[bn])))|(apply Zj;exact Z;(first|with_reducible assumption|decide +kernel|(solve|simp only[bn]));exact Z;exact Z)|refine ZD ?_)
     ·refine LandS.mk' (m:=0) (tm1:=[(0,.yl l),(8,.bsl 1 0 L.length c),(9,.int .i64 (L.length:Int)),(10,.int .i64 (i:Int)),(18,.bool true),(19,.yl l),(20,.int .i64 (i:Int))]) [0,1,2,3,4,5,6] [] (by decide) ⟨rfl,rfl,rfl⟩ rfl rfl rfl rfl ?_ rfl rfl rfl
      exact .cons rfl (.cons rfl (.cons rfl (.cons rfl (.cons rfl (.cons rfl (.cons rfl .nil))))))
     ·have hJ3:=hJ2
      rcases hJ2 with⟨rfl,rfl⟩
      ·repeat'(first|rw[ei])
       refine LandS.mk' (m:=k-1) (tm1:=[(0,.yl l),(8,.bsl 1 0 L.length c),(9,.int .i64 (L.length:Int)),(10,.int .i64 ((i+1:Nat):Int))]) [0,1,2,3,4,5,6] [] (by omega) ⟨i+1,by omega,rfl,hJ3⟩ rfl rfl rfl rfl ?_ rfl rfl rfl
       exact .cons rfl (.cons rfl (.cons rfl (.cons rfl .nil)))
  ·have hd:decide ((i:Int)<((L.length:Nat):Int))=false:=decide_eq_false (by omega)
   obtain rfl:i=L.length:=by omega
   rcases hJ with⟨rfl,rfl⟩
   ·repeat'(first|refine ZN ?_|refine ZE hR (fun d=>?_)|(apply Z1;exact Z;exact Qt)|refine V3 ?_|(apply Zg Za;exact Z)|refine WN ?_|refine Vr ?_)
    exact LandS.mk' (m:=0) (tm1:=[]) [0,1,2,3,4,5,6] [] (by decide) hJ0 rfl rfl rfl rfl .nil rfl rfl rfl
theorem Sx [Known](L:List Ln)(s c:Nat)(left a b:Int)(hl:L.length<=1000):ItOk Tryz.prog 98 [.ptr 8 0] (Hu L s c left a b) (Wv L) L.length:=by
 refine QN Tryz.func98 rfl Tryz.ntmps98 rfl rfl ?_
 intro R l b0 bx fr hR hJ hy
 have hJ0:=hJ
 rcases hJ with⟨rfl,rfl⟩
 ·repeat'(first|refine ZN ?_|refine Z0 ?_|refine ZE hR (fun d=>?_)|refine YR Za Z Z Z Z ?_|(apply Zg Za;exact Z))
  refine UF (fun k tm bx fr=>∃ i:Nat,k+i=L.length/\tm=[(0,.yl l),(8,.bsl 1 0 L.length c),(9,.int .i64 (L.length:Int)),(10,.int .i64 (i:Int))]/\(Hu L s c left a b) i bx fr) (L.length+1) (LandS.mk' (m:=L.length) (tm1:=[(0,.yl l),(8,.bsl 1 0 L.length c),(9,.int .i64 (L.length:Int)),(10,.int .i64 ((0:Nat):Int))]) [0,1,2,3,4,5,6,7,8] [] (Nat.lt_succ_self _) ⟨0,rfl,rfl,hJ0⟩ rfl rfl rfl rfl ?_ rfl rfl rfl) ?_
  ·exact .cons rfl (.cons rfl (.cons rfl (.cons rfl .nil)))
  clear hJ0
  rintro k tm bx fr ⟨i,hki,rfl,hJ⟩
  have hJ0:=hJ
  rcases Nat.lt_or_ge i L.length with hlt|hge
  ·have hd:decide ((i:Int)<((L.length:Nat):Int))=true:=decide_eq_true (by omega)
   have hlt2:(i:Int)<((L.length:Nat):Int):=of_decide_eq_true hd
   obtain⟨x,hx⟩:∃ x,L[i]?=some x:=⟨_,List.getElem?_eq_getElem hlt⟩
   have ei:IntKind.i64.wrap ((i:Int)+1)=((i+1:Nat):Int):=by rw[IntWalk.i64_in _ (by omega)];omega
   have hxm:(WT left L i)[i]?=some x:=(OO left hlt).trans hx
   have hrow:((lnF (WT left L i)).drop (((i:Nat):Int).toNat*32)).take 32=lnL ⟨x.e,x.r,x.told,x.lost⟩:=by rw[Int.toNat_natCast];exact KE hxm
   have hrle:((i:Nat):Int).toNat*32+32<=(lnF (WT left L i)).length:=by rw[Int.toNat_natCast,UR,ON];omega
   have hlo:=WC hx
   cases hl:x.lost with
   | true=>
    rw[hl]at hlo hrow
    rcases hJ with⟨rfl,rfl⟩
    ·repeat'(first|refine ZN ?_|refine Z0 ?_|refine ZE hR (fun d=>?_)|(apply YE;exact Z;exact Qt)|(apply Z1;exact Z;exact Qt)|refine YX ?_|refine YJ ?_|refine YK Za Z Z Z Z Z Z (Int.natCast_nonneg _) hlt2 Z ?_|refine YT Za Z Z Z Z hrow hrle Z Z ?_|rw[ei]|(apply Zg Za;exact Z)|(apply Zr;(iterate 3 exact Z);(first|with_reducible assumption|decide +kernel|(solve|simp only[bn])))|(apply Zi;exact Z;(first|with_reducible assumption|decide +kernel|(solve|simp only[bn]));exact Z;exact Z)|refine ZD ?_)
     refine LandS.mk' (m:=k-1) (tm1:=[(0,.yl l),(8,.bsl 1 0 L.length c),(9,.int .i64 (L.length:Int)),(10,.int .i64 ((i+1:Nat):Int))]) [0,1,2,3,4,5,6,7,8] [] (by omega) ⟨i+1,by omega,rfl,Nk hlt hlo hJ0⟩ rfl rfl rfl rfl ?_ rfl rfl rfl
     exact .cons rfl (.cons rfl (.cons rfl (.cons rfl .nil)))
   | false=>
    rw[hl]at hlo hrow
    rcases hJ with⟨rfl,rfl⟩
    ·repeat'(first|(refine US (id:=3) (i:=i) (l:=l) 6 hR ((Hu L s c left a b) (i+1)) (tmK:=[(0,.yl l),(8,.bsl 1 0 L.length c),(9,.int .i64 (L.length:Int)),(10,.int .i64 (i:Int)),(18,.bool true),(19,.yl l),(20,.int .i64 (i:Int))]) (bxK:=_) (frK:=_) rfl rfl rfl rfl (fun d=>?_) rfl rfl rfl rfl rfl (fun ds g w hm he hr=>hy i ds g _ _ w hlt hlo hJ0 hm he hr) (fun bx2 fr2 hJ2 d=>?_))|refine ZN ?_|refine Z0 ?_|refine ZE hR (fun d=>?_)|(apply YE;exact Z;exact Qt)|(apply Z1;exact Z;exact Qt)|refine YX ?_|refine YJ ?_|refine YK Za Z Z Z Z Z Z (Int.natCast_nonneg _) hlt2 Z ?_|refine YT Za Z Z Z Z hrow hrle Z Z ?_|(apply Zg Za;exact Z)|(apply Zd;(iterate 3 exact Z);(first|with_reducible assumption|decide +kernel|(solve|simp only[bn])))|(apply Zj;exact Z;(first|with_reducible assumption|decide +kernel|(solve|simp only[bn]));exact Z;exact Z)|refine ZD ?_)
     ·refine LandS.mk' (m:=0) (tm1:=[(0,.yl l),(8,.bsl 1 0 L.length c),(9,.int .i64 (L.length:Int)),(10,.int .i64 (i:Int)),(18,.bool true),(19,.yl l),(20,.int .i64 (i:Int))]) [0,1,2,3,4,5,6,7,8] [] (by decide) ⟨rfl,rfl,rfl⟩ rfl rfl rfl rfl ?_ rfl rfl rfl
      exact .cons rfl (.cons rfl (.cons rfl (.cons rfl (.cons rfl (.cons rfl (.cons rfl .nil))))))
     ·have hJ3:=hJ2
      rcases hJ2 with⟨rfl,rfl⟩
      ·repeat'(first|rw[ei])
       refine LandS.mk' (m:=k-1) (tm1:=[(0,.yl l),(8,.bsl 1 0 L.length c),(9,.int .i64 (L.length:Int)),(10,.int .i64 ((i+1:Nat):Int))]) [0,1,2,3,4,5,6,7,8] [] (by omega) ⟨i+1,by omega,rfl,hJ3⟩ rfl rfl rfl rfl ?_ rfl rfl rfl
       exact .cons rfl (.cons rfl (.cons rfl (.cons rfl .nil)))
  ·have hd:decide ((i:Int)<((L.length:Nat):Int))=false:=decide_eq_false (by omega)
   obtain rfl:i=L.length:=by omega
   rcases hJ with⟨rfl,rfl⟩
   ·repeat'(first|refine ZN ?_|refine ZE hR (fun d=>?_)|(apply Z1;exact Z;exact Qt)|refine V3 ?_|(apply Zg Za;exact Z)|refine WN ?_|refine Vr ?_)
    exact LandS.mk' (m:=0) (tm1:=[]) [0,1,2,3,4,5,6,7,8] [] (by decide) hJ0 rfl rfl rfl rfl .nil rfl rfl rfl
end Go.Proofs.YtchlgagdbflkmaaGreatDoor
end

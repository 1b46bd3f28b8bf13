/- History: Crash, of some lines, walked (hsgen2.py). -/
import Derived.Test.YtchlgagdbflkmaaGreatDoorV39
import Derived.Test.YtchlgagdbflkmaaGreatDoorV37
import Derived.Test.YtchlgagdbflkmaaGreatDoorK32
import Derived.Test.YtchlgagdbflkmaaGreatDoorK13
import Derived.Test.YtchlgagdbflkmaaGreatDoorK07
set_option linter.unusedVariables false
set_option linter.unusedSimpArgs false
section
open Go.RowKit Go.Pl Go.Av
namespace Go.Proofs.YtchlgagdbflkmaaGreatDoor
set_option maxHeartbeats 4000000
theorem Hw [Known](L:List Ln)(s c:Nat)(left:Int)(hl:L.length<=1000)(hs:s<=L.length)(h:left<(((ZM (L.take s)).length:Nat):Int)):AT Tryz.prog 32 [.ptr 0 0,.int .i64 left] (hsR L s c) [] (.tup [.int .i64 0,.int .i64 1]) (hsR L s c) []:=by
 refine Qw Tryz.func32 rfl Tryz.ntmps32 rfl rfl ?_
 intro b0
 repeat'(first|refine ZN ?_|refine Z0 ?_|refine ZE (Yl _) (fun d=>?_)|(apply Z1;exact Z;exact Qt)|refine YJ ?_|(apply Zx [0,1] [] (KJ L s c);kernel_rfl;(iterate 10 exact Z))|(refine YZ (Im L s c left) (Wv L) L.length (by kernel_rfl) rfl rfl rfl ⟨rfl,rfl⟩ (Hv L s c left hl) ?_ ?_)|(apply Zg Za;exact Z)|(apply Zd;(iterate 3 exact Z);(first|with_reducible assumption|decide +kernel|(solve|simp only[bn])))|(apply Zi;exact Z;(first|with_reducible assumption|decide +kernel|(solve|simp only[bn]));exact Z;exact Z))
 ·skip
  rename_i v1 v2 v3
  clear v1 v2 v3 d
  rintro i bx fr hlt hlo hJ
  have hlt2:(i:Int)<((L.length:Nat):Int):=by omega
  obtain⟨x,hx⟩:∃ x,L[i]?=some x:=⟨_,List.getElem?_eq_getElem hlt⟩
  rw[WC hx]at hlo
  have hT:=WD hx
  rw[hlo]at hT
  dsimp only at hT
  have hkl:(ZM (L.take i)).length<=1000:=by have:=Ww (L.take i);rw[List.length_take]at this;omega
  have hk2:(ZM (L.take (min i s))).length<=1000:=by have:=Ww (L.take (min i s));rw[List.length_take]at this;omega
  have ea:IntKind.i64.wrap ((((ZM (L.take i)).length:Nat):Int)+1)=(((ZM (L.take i)).length+1:Nat):Int):=by rw[IntWalk.i64_in _ (by omega)];omega
  have hM:=KK s hx hlo
  have eb:IntKind.i64.wrap ((((ZM (L.take (min i s))).length:Nat):Int)+1)=(((ZM (L.take (min i s))).length+1:Nat):Int):=by rw[IntWalk.i64_in _ (by omega)];omega
  obtain⟨rfl,rfl⟩:=hJ
  rcases Nat.lt_or_ge i s with his|his
  ·have dd:decide ((i:Int)<(s:Int))=true:=decide_eq_true (by omega)
   rw[if_pos his]at hM
   repeat'(first|refine WE ?_|refine V4 ?_|refine Wx rfl ?_|refine Xc Z Qt ?_|rw[ea]|rw[eb]|(apply Zg Za;exact Z)|refine ZD ?_|refine Wp ?_)
   exact LandS.mk' (m:=0) (tm1:=[]) [0,1,2,3,4,5,6] [] (by decide) ⟨by rw[hT,hM,List.length_append];rfl,rfl⟩ rfl rfl rfl rfl .nil rfl rfl rfl
  ·have dd:decide ((i:Int)<(s:Int))=false:=decide_eq_false (by omega)
   rw[if_neg (by omega),Nat.add_zero]at hM
   repeat'(first|refine WE ?_|refine V4 ?_|refine Wx rfl ?_|refine Xd Z Qt ?_|refine KF ?_|rw[ea]|(apply Zg Za;exact Z)|refine ZD ?_|refine Wp ?_)
   exact LandS.mk' (m:=0) (tm1:=[]) [0,1,2,3,4,5,6] [] (by decide) ⟨by rw[hT,hM,List.length_append];rfl,rfl⟩ rfl rfl rfl rfl .nil rfl rfl rfl
 rintro bx fr ⟨rfl,rfl⟩
 have hTa:L.take L.length=L:=List.take_length
 rw[hTa,Nat.min_eq_right hs]
 have d1:decide (left<(((ZM (L.take s)).length:Nat):Int))=true:=decide_eq_true h
 repeat'(first|refine ZN ?_|refine ZE (Yl _) (fun d=>?_)|(apply YE;exact Z;exact Qt)|refine YX ?_|refine VG ?_|(apply Zg Za;exact Z)|(apply Zo;(iterate 3 exact Z);(first|with_reducible assumption|decide +kernel|(solve|simp only[bn])))|(apply Zj;exact Z;(first|with_reducible assumption|decide +kernel|(solve|simp only[bn]));exact Z;exact Z)|refine WI ?_)
 all_goals(apply Wg [0,1] [];(apply Zc Za;exact Z);(iterate 7 exact Z))
 all_goals rfl
theorem Hx [Known](L:List Ln)(s c:Nat)(left:Int)(hl:L.length<=1000)(hs:s<=L.length)(h1:¬ left<(((ZM (L.take s)).length:Nat):Int))(h:left>(((ZM L).length:Nat):Int)):AT Tryz.prog 32 [.ptr 0 0,.int .i64 left] (hsR L s c) [] (.tup [.int .i64 0,.int .i64 1]) (hsR L s c) []:=by
 refine Qw Tryz.func32 rfl Tryz.ntmps32 rfl rfl ?_
 intro b0
 repeat'(first|refine ZN ?_|refine Z0 ?_|refine ZE (Yl _) (fun d=>?_)|(apply Z1;exact Z;exact Qt)|refine YJ ?_|(apply Zx [0,1] [] (KJ L s c);kernel_rfl;(iterate 10 exact Z))|(refine YZ (Im L s c left) (Wv L) L.length (by kernel_rfl) rfl rfl rfl ⟨rfl,rfl⟩ (Hv L s c left hl) ?_ ?_)|(apply Zg Za;exact Z)|(apply Zd;(iterate 3 exact Z);(first|with_reducible assumption|decide +kernel|(solve|simp only[bn])))|(apply Zi;exact Z;(first|with_reducible assumption|decide +kernel|(solve|simp only[bn]));exact Z;exact Z))
 ·skip
  rename_i v1 v2 v3
  clear v1 v2 v3 d
  rintro i bx fr hlt hlo hJ
  have hlt2:(i:Int)<((L.length:Nat):Int):=by omega
  obtain⟨x,hx⟩:∃ x,L[i]?=some x:=⟨_,List.getElem?_eq_getElem hlt⟩
  rw[WC hx]at hlo
  have hT:=WD hx
  rw[hlo]at hT
  dsimp only at hT
  have hkl:(ZM (L.take i)).length<=1000:=by have:=Ww (L.take i);rw[List.length_take]at this;omega
  have hk2:(ZM (L.take (min i s))).length<=1000:=by have:=Ww (L.take (min i s));rw[List.length_take]at this;omega
  have ea:IntKind.i64.wrap ((((ZM (L.take i)).length:Nat):Int)+1)=(((ZM (L.take i)).length+1:Nat):Int):=by rw[IntWalk.i64_in _ (by omega)];omega
  have hM:=KK s hx hlo
  have eb:IntKind.i64.wrap ((((ZM (L.take (min i s))).length:Nat):Int)+1)=(((ZM (L.take (min i s))).length+1:Nat):Int):=by rw[IntWalk.i64_in _ (by omega)];omega
  obtain⟨rfl,rfl⟩:=hJ
  rcases Nat.lt_or_ge i s with his|his
  ·have dd:decide ((i:Int)<(s:Int))=true:=decide_eq_true (by omega)
   rw[if_pos his]at hM
   repeat'(first|refine WE ?_|refine V4 ?_|refine Wx rfl ?_|refine Xc Z Qt ?_|rw[ea]|rw[eb]|(apply Zg Za;exact Z)|refine ZD ?_|refine Wp ?_)
   exact LandS.mk' (m:=0) (tm1:=[]) [0,1,2,3,4,5,6] [] (by decide) ⟨by rw[hT,hM,List.length_append];rfl,rfl⟩ rfl rfl rfl rfl .nil rfl rfl rfl
  ·have dd:decide ((i:Int)<(s:Int))=false:=decide_eq_false (by omega)
   rw[if_neg (by omega),Nat.add_zero]at hM
   repeat'(first|refine WE ?_|refine V4 ?_|refine Wx rfl ?_|refine Xd Z Qt ?_|refine KF ?_|rw[ea]|(apply Zg Za;exact Z)|refine ZD ?_|refine Wp ?_)
   exact LandS.mk' (m:=0) (tm1:=[]) [0,1,2,3,4,5,6] [] (by decide) ⟨by rw[hT,hM,List.length_append];rfl,rfl⟩ rfl rfl rfl rfl .nil rfl rfl rfl
 rintro bx fr ⟨rfl,rfl⟩
 have hTa:L.take L.length=L:=List.take_length
 rw[hTa,Nat.min_eq_right hs]
 have d1:decide (left<(((ZM (L.take s)).length:Nat):Int))=false:=decide_eq_false h1
 have d2:decide (left>(((ZM L).length:Nat):Int))=true:=decide_eq_true h
 repeat'(first|refine ZN ?_|refine ZE (Yl _) (fun d=>?_)|(apply YE;exact Z;exact Qt)|refine YX ?_|refine VG ?_|(apply Zg Za;exact Z)|(apply Zd;(iterate 3 exact Z);(first|with_reducible assumption|decide +kernel|(solve|simp only[bn])))|(apply Zi;exact Z;(first|with_reducible assumption|decide +kernel|(solve|simp only[bn]));exact Z;exact Z)|refine WI ?_)
 all_goals(apply Wg [0,1] [];(apply Zc Za;exact Z);(iterate 7 exact Z))
 all_goals rfl
theorem OQ [Known](L:List Ln)(s c:Nat)(left:Int)(hl:L.length<=1000)(hs:s<=L.length)(h1:¬ left<(((ZM (L.take s)).length:Nat):Int))(h2:¬ left>(((ZM L).length:Nat):Int)):AT Tryz.prog 32 [.ptr 0 0,.int .i64 left] (hsR L s c) [] (.tup [.int .i64 ((((ZM L).length:Nat):Int)-left),.int .i64 0]) (hsR (crA left 0 L) L.length c) []:=by
 refine Qw Tryz.func32 rfl Tryz.ntmps32 rfl rfl ?_
 intro b0
 repeat'(first|refine ZN ?_|refine Z0 ?_|refine ZE (Yl _) (fun d=>?_)|(apply Z1;exact Z;exact Qt)|refine YJ ?_|(apply Zx [0,1] [] (KJ L s c);kernel_rfl;(iterate 10 exact Z))|(refine YZ (Im L s c left) (Wv L) L.length (by kernel_rfl) rfl rfl rfl ⟨rfl,rfl⟩ (Hv L s c left hl) ?_ ?_)|(apply Zg Za;exact Z)|(apply Zd;(iterate 3 exact Z);(first|with_reducible assumption|decide +kernel|(solve|simp only[bn])))|(apply Zi;exact Z;(first|with_reducible assumption|decide +kernel|(solve|simp only[bn]));exact Z;exact Z))
 ·skip
  rename_i v1 v2 v3
  clear v1 v2 v3 d
  rintro i bx fr hlt hlo hJ
  have hlt2:(i:Int)<((L.length:Nat):Int):=by omega
  obtain⟨x,hx⟩:∃ x,L[i]?=some x:=⟨_,List.getElem?_eq_getElem hlt⟩
  rw[WC hx]at hlo
  have hT:=WD hx
  rw[hlo]at hT
  dsimp only at hT
  have hkl:(ZM (L.take i)).length<=1000:=by have:=Ww (L.take i);rw[List.length_take]at this;omega
  have hk2:(ZM (L.take (min i s))).length<=1000:=by have:=Ww (L.take (min i s));rw[List.length_take]at this;omega
  have ea:IntKind.i64.wrap ((((ZM (L.take i)).length:Nat):Int)+1)=(((ZM (L.take i)).length+1:Nat):Int):=by rw[IntWalk.i64_in _ (by omega)];omega
  have hM:=KK s hx hlo
  have eb:IntKind.i64.wrap ((((ZM (L.take (min i s))).length:Nat):Int)+1)=(((ZM (L.take (min i s))).length+1:Nat):Int):=by rw[IntWalk.i64_in _ (by omega)];omega
  obtain⟨rfl,rfl⟩:=hJ
  rcases Nat.lt_or_ge i s with his|his
  ·have dd:decide ((i:Int)<(s:Int))=true:=decide_eq_true (by omega)
   rw[if_pos his]at hM
   repeat'(first|refine WE ?_|refine V4 ?_|refine Wx rfl ?_|refine Xc Z Qt ?_|rw[ea]|rw[eb]|(apply Zg Za;exact Z)|refine ZD ?_|refine Wp ?_)
   exact LandS.mk' (m:=0) (tm1:=[]) [0,1,2,3,4,5,6] [] (by decide) ⟨by rw[hT,hM,List.length_append];rfl,rfl⟩ rfl rfl rfl rfl .nil rfl rfl rfl
  ·have dd:decide ((i:Int)<(s:Int))=false:=decide_eq_false (by omega)
   rw[if_neg (by omega),Nat.add_zero]at hM
   repeat'(first|refine WE ?_|refine V4 ?_|refine Wx rfl ?_|refine Xd Z Qt ?_|refine KF ?_|rw[ea]|(apply Zg Za;exact Z)|refine ZD ?_|refine Wp ?_)
   exact LandS.mk' (m:=0) (tm1:=[]) [0,1,2,3,4,5,6] [] (by decide) ⟨by rw[hT,hM,List.length_append];rfl,rfl⟩ rfl rfl rfl rfl .nil rfl rfl rfl
 rintro bx fr ⟨rfl,rfl⟩
 have hTa:L.take L.length=L:=List.take_length
 rw[hTa,Nat.min_eq_right hs]
 have d1:decide (left<(((ZM (L.take s)).length:Nat):Int))=false:=decide_eq_false h1
 have d2:decide (left>(((ZM L).length:Nat):Int))=false:=decide_eq_false h2
 have hka:(ZM L).length<=1000:=by have:=Ww L;omega
 have ee2:IntKind.i64.wrap ((((ZM L).length:Nat):Int)-left)=(((ZM L).length:Nat):Int)-left:=by rw[IntWalk.i64_in _ (by omega)]
 repeat'(first|refine ZN ?_|refine Z0 ?_|refine ZE (Yl _) (fun d=>?_)|(apply Z1;exact Z;exact Qt)|refine YJ ?_|(apply Zx [0,1] [] (KJ L s c);kernel_rfl;(iterate 10 exact Z))|(refine YZ (Hu L s c left _ _) (Wv L) L.length (by kernel_rfl) rfl rfl rfl ⟨rfl,rfl⟩ (Sx L s c left _ _ hl) ?_ ?_)|(apply Zg Za;exact Z)|(apply Zd;(iterate 3 exact Z);(first|with_reducible assumption|decide +kernel|(solve|simp only[bn])))|(apply Zi;exact Z;(first|with_reducible assumption|decide +kernel|(solve|simp only[bn]));exact Z;exact Z))
 ·skip
  rename_i v1 v2 v3 v4 v5 v6
  clear v1 v2 v3 v4 v5 v6 d
  rintro i bx fr hlt hlo hJ
  have hlt2:(i:Int)<((L.length:Nat):Int):=by omega
  obtain⟨x,hx⟩:∃ x,L[i]?=some x:=⟨_,List.getElem?_eq_getElem hlt⟩
  rw[WC hx]at hlo
  have hT:=WD hx
  rw[hlo]at hT
  dsimp only at hT
  have hkl:(ZM (L.take i)).length<=1000:=by have:=Ww (L.take i);rw[List.length_take]at this;omega
  have hk2:(ZM (L.take (min i s))).length<=1000:=by have:=Ww (L.take (min i s));rw[List.length_take]at this;omega
  have ea:IntKind.i64.wrap ((((ZM (L.take i)).length:Nat):Int)+1)=(((ZM (L.take i)).length+1:Nat):Int):=by rw[IntWalk.i64_in _ (by omega)];omega
  have hxm:(WT left L i)[i]?=some x:=(OO left hlt).trans hx
  have hst:WB (lnF (WT left L i)) (((i:Nat):Int).toNat*32+31) [.bool (decide ((((ZM (L.take i)).length+1:Nat):Int)>left))]=lnF (WT left L (i+1)):=by rw[Int.toNat_natCast,Tm _ hxm,Hq left hx hlo]
  have hle3:((i:Nat):Int).toNat*32+31 + [E.bool (decide ((((ZM (L.take i)).length+1:Nat):Int)>left))].length<=(lnF (WT left L i)).length:=by
   rw[UR,Int.toNat_natCast,ON];simp only[List.length_cons,List.length_nil];omega
  obtain⟨rfl,rfl⟩:=hJ
  repeat'(first|refine WE ?_|refine V4 ?_|refine Wx rfl ?_|(apply Xb 10 ZG;exact Z;decide +kernel;kernel_rfl;kernel_rfl;kernel_rfl;exact Z;exact Z)|rw[ea]|refine YK Za Z Z Z Z Z Z (Int.natCast_nonneg _) hlt2 Z ?_|refine J0 Za Z Z Z Z Z Z hle3 hst Z ?_|(apply Zg Za;exact Z)|refine YU Za Z Z Z Z Z Z Z ?_|refine ZD ?_|refine Wp ?_|(apply Zq;(iterate 4 exact Z))|exact AE.nil _ _ _ _|(apply Zv;exact Z)|(apply ZA;exact Z;exact Z;decide +kernel;exact Z)|(apply ZB;exact Z)|exact AO.nil _ _ _|(apply Zp;(decide +kernel))|exact AOs.nil|exact ZJ rfl rfl)
  exact LandS.mk' (m:=0) (tm1:=[]) [0,1,2,3,4,5,6,7,8] [] (by decide) ⟨by rw[hT,List.length_append];rfl,rfl⟩ rfl rfl rfl rfl .nil rfl rfl rfl
 rintro bx fr ⟨rfl,rfl⟩
 rw[Nc]
 repeat'(first|refine ZN ?_|refine ZE (Yl _) (fun d=>?_)|refine Xp (Yl _) (fun d=>?_)|refine YX ?_|refine VG ?_|refine YR Za Z Z Z Z ?_|rw[ee2]|(apply Zg Za;exact Z)|(apply Zm 6 ZG;decide +kernel;kernel_rfl;kernel_rfl;kernel_rfl;exact Z;exact Z)|(apply Zq;(iterate 4 exact Z))|exact AE.nil _ _ _ _|(apply Zv;exact Z)|(apply ZA;exact Z;exact Z;decide +kernel;exact Z)|(apply ZB;exact Z)|exact AO.nil _ _ _|(apply Zp;(decide +kernel))|exact AOs.nil|exact ZJ rfl rfl)
 all_goals(apply Wg [0,1] [];(apply Zc Za;exact Z);(iterate 7 exact Z))
 all_goals first|rfl|(unfold hsR;rw[VF])
theorem Sy:Ye ⟨3,7,0,0,rq0,[]⟩=true:=by decide +kernel
theorem MR:Ye ⟨4,7,0,0,rq0,[]⟩=true:=by decide +kernel
theorem MS:Yk ⟨0,0,0,0,0,[]⟩=true:=by decide +kernel
theorem MT (x:EvV)(h:x.rq.pay=[])(h2:x.data=[]):Vb ⟨x,⟨0,0,0,0,0,[]⟩,false,false⟩:=by
 unfold Vb
 dsimp only
 rw[h,h2]
 exact⟨by decide,by decide,by decide⟩
theorem BL [Known][KnownU8]:AFQ Tryz.prog 29 [.ptr 0 0,.agg [.int .u64 3,.int .i64 7,.int .u64 0,.int .i64 0,.int .u64 0,.int .i64 0,.bool false,.int .u64 0,.int .u64 0,.str [],.str [],.bool false,.int .u64 0,.int .u64 0,.str [],.str [],.int .i64 0,.int .i64 0,.int .i64 0,.sl .nil [],.int .u64 0,.int .u64 0,.bool false,.sl .nil []],.agg [.int .u64 0,.int .i64 0,.int .i64 0,.int .i64 0,.int .u64 0,.sl .nil []]] hsN 1 (.tup [.int .i64 0,.int .i64 0]) (fun c=>hsR [⟨⟨3,7,0,0,rq0,[]⟩,⟨0,0,0,0,0,[]⟩,false,false⟩] 0 c):=AC.unwk (Tn ⟨3,7,0,0,rq0,[]⟩ ⟨0,0,0,0,0,[]⟩ (MT _ rfl rfl) Sy MS)
theorem Sz [Known][KnownU8](c:Nat)(h:2<=c):AT Tryz.prog 29 [.ptr 0 0,.agg [.int .u64 4,.int .i64 7,.int .u64 0,.int .i64 0,.int .u64 0,.int .i64 0,.bool false,.int .u64 0,.int .u64 0,.str [],.str [],.bool false,.int .u64 0,.int .u64 0,.str [],.str [],.int .i64 0,.int .i64 0,.int .i64 0,.sl .nil [],.int .u64 0,.int .u64 0,.bool false,.sl .nil []],.agg [.int .u64 0,.int .i64 0,.int .i64 0,.int .i64 0,.int .u64 0,.sl .nil []]] (hsR [⟨⟨3,7,0,0,rq0,[]⟩,⟨0,0,0,0,0,[]⟩,false,false⟩] 0 c) [] (.tup [.int .i64 1,.int .i64 0]) (hsR [⟨⟨3,7,0,0,rq0,[]⟩,⟨0,0,0,0,0,[]⟩,false,false⟩,⟨⟨4,7,0,0,rq0,[]⟩,⟨0,0,0,0,0,[]⟩,false,false⟩] 0 c) []:=AC.unwk (Ij [⟨⟨3,7,0,0,rq0,[]⟩,⟨0,0,0,0,0,[]⟩,false,false⟩] 0 c (List.cons_ne_nil _ _) (by decide) (by show 1<=c;omega) ⟨4,7,0,0,rq0,[]⟩ ⟨0,0,0,0,0,[]⟩ (MT _ rfl rfl) MR MS h)
theorem SA [Known][KnownU8](c:Nat)(h1:1<=c)(h:c<2):AFQ Tryz.prog 29 [.ptr 0 0,.agg [.int .u64 4,.int .i64 7,.int .u64 0,.int .i64 0,.int .u64 0,.int .i64 0,.bool false,.int .u64 0,.int .u64 0,.str [],.str [],.bool false,.int .u64 0,.int .u64 0,.str [],.str [],.int .i64 0,.int .i64 0,.int .i64 0,.sl .nil [],.int .u64 0,.int .u64 0,.bool false,.sl .nil []],.agg [.int .u64 0,.int .i64 0,.int .i64 0,.int .i64 0,.int .u64 0,.sl .nil []]] (hsR [⟨⟨3,7,0,0,rq0,[]⟩,⟨0,0,0,0,0,[]⟩,false,false⟩] 0 c) 2 (.tup [.int .i64 1,.int .i64 0]) (fun c2=>[[.bool true,.bsl 2 0 2 c2,.int .i64 0],[.row (c*32) (lnF [⟨⟨3,7,0,0,rq0,[]⟩,⟨0,0,0,0,0,[]⟩,false,false⟩])],[.row (c2*32) (lnF [⟨⟨3,7,0,0,rq0,[]⟩,⟨0,0,0,0,0,[]⟩,false,false⟩,⟨⟨4,7,0,0,rq0,[]⟩,⟨0,0,0,0,0,[]⟩,false,false⟩])]]):=AC.unwk (Ik [⟨⟨3,7,0,0,rq0,[]⟩,⟨0,0,0,0,0,[]⟩,false,false⟩] 0 c (List.cons_ne_nil _ _) (by decide) (by show 1<=c;omega) ⟨4,7,0,0,rq0,[]⟩ ⟨0,0,0,0,0,[]⟩ (MT _ rfl rfl) MR MS h)
theorem Rx [Known](c:Nat):AT Tryz.prog 30 [.ptr 0 0,.int .i64 0] ([[.bool true,.bsl 1 0 2 c,.int .i64 0],[.row (c*32) (lnF [⟨⟨3,7,0,0,rq0,[]⟩,⟨0,0,0,0,0,[]⟩,false,false⟩,⟨⟨4,7,0,0,rq0,[]⟩,⟨0,0,0,0,0,[]⟩,false,false⟩])]]) [] (.int .i64 7) ([[.bool true,.bsl 1 0 2 c,.int .i64 0],[.row (c*32) (lnF [⟨⟨3,7,0,0,rq0,[]⟩,⟨0,0,0,0,0,[]⟩,false,false⟩,⟨⟨4,7,0,0,rq0,[]⟩,⟨0,0,0,0,0,[]⟩,false,false⟩])]]) []:=J8 [⟨⟨3,7,0,0,rq0,[]⟩,⟨0,0,0,0,0,[]⟩,false,false⟩,⟨⟨4,7,0,0,rq0,[]⟩,⟨0,0,0,0,0,[]⟩,false,false⟩] 0 c 0 _ rfl (.inr (Nat.le_refl _))
theorem Ry [Known](c:Nat):AT Tryz.prog 31 [.ptr 0 0,.int .i64 1] ([[.bool true,.bsl 1 0 2 c,.int .i64 0],[.row (c*32) (lnF [⟨⟨3,7,0,0,rq0,[]⟩,⟨0,0,0,0,0,[]⟩,false,false⟩,⟨⟨4,7,0,0,rq0,[]⟩,⟨0,0,0,0,0,[]⟩,false,false⟩])]]) [] (.int .i64 0) ([[.bool true,.bsl 1 0 2 c,.int .i64 1],[.row (c*32) (lnF [⟨⟨3,7,0,0,rq0,[]⟩,⟨0,0,0,0,0,[]⟩,false,false⟩,⟨⟨4,7,0,0,rq0,[]⟩,⟨0,0,0,0,0,[]⟩,false,false⟩])]]) []:=Gu [⟨⟨3,7,0,0,rq0,[]⟩,⟨0,0,0,0,0,[]⟩,false,false⟩,⟨⟨4,7,0,0,rq0,[]⟩,⟨0,0,0,0,0,[]⟩,false,false⟩] 0 c 1 (by decide) (by decide)
theorem Rz [Known](c:Nat):AT Tryz.prog 30 [.ptr 0 0,.int .i64 0] ([[.bool true,.bsl 1 0 2 c,.int .i64 1],[.row (c*32) (lnF [⟨⟨3,7,0,0,rq0,[]⟩,⟨0,0,0,0,0,[]⟩,false,false⟩,⟨⟨4,7,0,0,rq0,[]⟩,⟨0,0,0,0,0,[]⟩,false,false⟩])]]) [] (.int .i64 0) ([[.bool true,.bsl 1 0 2 c,.int .i64 1],[.row (c*32) (lnF [⟨⟨3,7,0,0,rq0,[]⟩,⟨0,0,0,0,0,[]⟩,true,false⟩,⟨⟨4,7,0,0,rq0,[]⟩,⟨0,0,0,0,0,[]⟩,false,false⟩])]]) []:=Gv [⟨⟨3,7,0,0,rq0,[]⟩,⟨0,0,0,0,0,[]⟩,false,false⟩,⟨⟨4,7,0,0,rq0,[]⟩,⟨0,0,0,0,0,[]⟩,false,false⟩] [⟨⟨3,7,0,0,rq0,[]⟩,⟨0,0,0,0,0,[]⟩,true,false⟩,⟨⟨4,7,0,0,rq0,[]⟩,⟨0,0,0,0,0,[]⟩,false,false⟩] 1 c 0 _ rfl rfl (by decide) rfl rfl
theorem RA [Known](c:Nat):AT Tryz.prog 32 [.ptr 0 0,.int .i64 1] ([[.bool true,.bsl 1 0 2 c,.int .i64 1],[.row (c*32) (lnF [⟨⟨3,7,0,0,rq0,[]⟩,⟨0,0,0,0,0,[]⟩,true,false⟩,⟨⟨4,7,0,0,rq0,[]⟩,⟨0,0,0,0,0,[]⟩,false,false⟩])]]) [] (.tup [.int .i64 1,.int .i64 0]) ([[.bool true,.bsl 1 0 2 c,.int .i64 2],[.row (c*32) (lnF [⟨⟨3,7,0,0,rq0,[]⟩,⟨0,0,0,0,0,[]⟩,true,false⟩,⟨⟨4,7,0,0,rq0,[]⟩,⟨0,0,0,0,0,[]⟩,false,true⟩])]]) []:=OQ [⟨⟨3,7,0,0,rq0,[]⟩,⟨0,0,0,0,0,[]⟩,true,false⟩,⟨⟨4,7,0,0,rq0,[]⟩,⟨0,0,0,0,0,[]⟩,false,false⟩] 1 c 1 (by decide) (by decide) (by decide) (by decide)
theorem RB [Known](c:Nat):AT Tryz.prog 34 [.ptr 0 0] ([[.bool true,.bsl 1 0 2 c,.int .i64 2],[.row (c*32) (lnF [⟨⟨3,7,0,0,rq0,[]⟩,⟨0,0,0,0,0,[]⟩,true,false⟩,⟨⟨4,7,0,0,rq0,[]⟩,⟨0,0,0,0,0,[]⟩,false,true⟩])]]) [] (.sl .ext [lnE ⟨⟨3,7,0,0,rq0,[]⟩,⟨0,0,0,0,0,[]⟩,true,false⟩]) ([[.bool true,.bsl 1 0 2 c,.int .i64 2],[.row (c*32) (lnF [⟨⟨3,7,0,0,rq0,[]⟩,⟨0,0,0,0,0,[]⟩,true,false⟩,⟨⟨4,7,0,0,rq0,[]⟩,⟨0,0,0,0,0,[]⟩,false,true⟩])]]) []:=AQ.toT (GB [⟨⟨3,7,0,0,rq0,[]⟩,⟨0,0,0,0,0,[]⟩,true,false⟩,⟨⟨4,7,0,0,rq0,[]⟩,⟨0,0,0,0,0,[]⟩,false,true⟩] 2 c (by decide) (fun x hx=>by
 rcases List.mem_cons.1 hx with rfl|hx
 ·exact⟨by decide,by decide,by decide⟩
 ·rcases List.mem_cons.1 hx with rfl|hx
  ·exact⟨by decide,by decide,by decide⟩
  ·cases hx))
theorem RC [Known](c:Nat):AT Tryz.prog 36 [.ptr 0 0] ([[.bool true,.bsl 1 0 2 c,.int .i64 2],[.row (c*32) (lnF [⟨⟨3,7,0,0,rq0,[]⟩,⟨0,0,0,0,0,[]⟩,true,false⟩,⟨⟨4,7,0,0,rq0,[]⟩,⟨0,0,0,0,0,[]⟩,false,true⟩])]]) [] (.int .i64 2) ([[.bool true,.bsl 1 0 2 c,.int .i64 2],[.row (c*32) (lnF [⟨⟨3,7,0,0,rq0,[]⟩,⟨0,0,0,0,0,[]⟩,true,false⟩,⟨⟨4,7,0,0,rq0,[]⟩,⟨0,0,0,0,0,[]⟩,false,true⟩])]]) []:=LY [⟨⟨3,7,0,0,rq0,[]⟩,⟨0,0,0,0,0,[]⟩,true,false⟩,⟨⟨4,7,0,0,rq0,[]⟩,⟨0,0,0,0,0,[]⟩,false,true⟩] 2 c
theorem RD [Known](c:Nat):AT Tryz.prog 30 [.ptr 0 0,.int .i64 0] ([[.bool true,.bsl 1 0 2 c,.int .i64 2],[.row (c*32) (lnF [⟨⟨3,7,0,0,rq0,[]⟩,⟨0,0,0,0,0,[]⟩,true,false⟩,⟨⟨4,7,0,0,rq0,[]⟩,⟨0,0,0,0,0,[]⟩,false,true⟩])]]) [] (.int .i64 11) ([[.bool true,.bsl 1 0 2 c,.int .i64 2],[.row (c*32) (lnF [⟨⟨3,7,0,0,rq0,[]⟩,⟨0,0,0,0,0,[]⟩,true,false⟩,⟨⟨4,7,0,0,rq0,[]⟩,⟨0,0,0,0,0,[]⟩,false,true⟩])]]) []:=OM [⟨⟨3,7,0,0,rq0,[]⟩,⟨0,0,0,0,0,[]⟩,true,false⟩,⟨⟨4,7,0,0,rq0,[]⟩,⟨0,0,0,0,0,[]⟩,false,true⟩] 2 c 0 _ rfl rfl (by decide) rfl
theorem RF [Known](c:Nat):AT Tryz.prog 30 [.ptr 0 0,.int .i64 1] ([[.bool true,.bsl 1 0 2 c,.int .i64 2],[.row (c*32) (lnF [⟨⟨3,7,0,0,rq0,[]⟩,⟨0,0,0,0,0,[]⟩,true,false⟩,⟨⟨4,7,0,0,rq0,[]⟩,⟨0,0,0,0,0,[]⟩,false,true⟩])]]) [] (.int .i64 7) ([[.bool true,.bsl 1 0 2 c,.int .i64 2],[.row (c*32) (lnF [⟨⟨3,7,0,0,rq0,[]⟩,⟨0,0,0,0,0,[]⟩,true,false⟩,⟨⟨4,7,0,0,rq0,[]⟩,⟨0,0,0,0,0,[]⟩,false,true⟩])]]) []:=J8 [⟨⟨3,7,0,0,rq0,[]⟩,⟨0,0,0,0,0,[]⟩,true,false⟩,⟨⟨4,7,0,0,rq0,[]⟩,⟨0,0,0,0,0,[]⟩,false,true⟩] 2 c 1 _ rfl (.inl rfl)
set_option maxRecDepth 10000 in
theorem Jf [Known][KnownU8]:AP Tryz.prog 28 [] (.bool true) []:=by
 refine AP.ofA (Zl Tryz.func28 Z Tryz.ntmps28 Z Z ?_)
 repeat'(first|(apply Zx [] [] (MH);kernel_rfl;(iterate 10 exact Z))|(apply UB [0] (BL);kernel_rfl;(iterate 3 exact Z);exact(fun _=>rfl);exact Z;exact Z;exact(fun _=>rfl);intro c1 hc1)|(apply Zg Za;exact Z)|(apply Zh Za;exact Z))
 rcases Nat.lt_or_ge c1 2 with h2|h2
 ·have hA:=SA c1 hc1 h2
  repeat'(first|(apply UB [0,1] (hA);kernel_rfl;(iterate 3 exact Z);exact(fun _=>rfl);exact Z;exact Z;exact(fun _=>rfl);intro c1 hc1)|(apply Zx [0,2] [] (Rx _);kernel_rfl;(iterate 10 exact Z))|(apply Zx [0,2] [] (Ry _);kernel_rfl;(iterate 10 exact Z))|(apply Zx [0,2] [] (Rz _);kernel_rfl;(iterate 10 exact Z))|(apply Zx [0,2] [] (RA _);kernel_rfl;(iterate 10 exact Z))|(apply Zx [0,2] [] (RB _);kernel_rfl;(iterate 10 exact Z))|(apply Zx [0,2] [] (RC _);kernel_rfl;(iterate 10 exact Z))|(apply Zx [0,2] [] (RD _);kernel_rfl;(iterate 10 exact Z))|(apply Zx [0,2] [] (RF _);kernel_rfl;(iterate 10 exact Z))|(apply Zg Za;exact Z)|(apply Zh Za;exact Z)|(apply Zd;(iterate 3 exact Z);(first|with_reducible assumption|decide +kernel|(solve|simp only[bn])))|(apply Zj;exact Z;(first|with_reducible assumption|decide +kernel|(solve|simp only[bn]));exact Z;exact Z)|refine Zn Za Z Z Z Z ?_|(apply Zw Za;(iterate 6 exact Z);(first|exact Qt|rotate_left);(first|with_reducible assumption|decide +kernel|exact Z);(first|exact Zk rfl|with_reducible assumption|decide +kernel|rotate_left)))
  all_goals exact Qe
 ·have hA:=Sz c1 h2
  repeat'(first|(apply Zx [0,1] [] (hA);kernel_rfl;(iterate 10 exact Z))|(apply Zx [0,1] [] (Rx _);kernel_rfl;(iterate 10 exact Z))|(apply Zx [0,1] [] (Ry _);kernel_rfl;(iterate 10 exact Z))|(apply Zx [0,1] [] (Rz _);kernel_rfl;(iterate 10 exact Z))|(apply Zx [0,1] [] (RA _);kernel_rfl;(iterate 10 exact Z))|(apply Zx [0,1] [] (RB _);kernel_rfl;(iterate 10 exact Z))|(apply Zx [0,1] [] (RC _);kernel_rfl;(iterate 10 exact Z))|(apply Zx [0,1] [] (RD _);kernel_rfl;(iterate 10 exact Z))|(apply Zx [0,1] [] (RF _);kernel_rfl;(iterate 10 exact Z))|(apply Zg Za;exact Z)|(apply Zh Za;exact Z)|(apply Zd;(iterate 3 exact Z);(first|with_reducible assumption|decide +kernel|(solve|simp only[bn])))|(apply Zj;exact Z;(first|with_reducible assumption|decide +kernel|(solve|simp only[bn]));exact Z;exact Z)|refine Zn Za Z Z Z Z ?_|(apply Zw Za;(iterate 6 exact Z);(first|exact Qt|rotate_left);(first|with_reducible assumption|decide +kernel|exact Z);(first|exact Zk rfl|with_reducible assumption|decide +kernel|rotate_left)))
  all_goals exact Qe
def Z2 (x:EvV):Bool:=Js x.rq||decide (((x.data.map E.byte).length:Int)>1300)
theorem UT [Known](x:EvV):AP Tryz.prog 27 [.agg (evC x)] (.bool (Z2 x)) []:=by
 have hR:=GV x.rq
 unfold Z2
 generalize Js x.rq=g at *
 obtain⟨now,kd,tok,ses,⟨id,rk,⟨ei,en,es,eh,ed⟩,⟨di,dn,dq,dh,dd⟩,pol,num,tik,pay,life,rt,on⟩,data⟩:=x
 dsimp only at *
 cases g
 all_goals
  refine AP.ofA (Zl Tryz.func27 Z Tryz.ntmps27 Z Z ?_)
  repeat'(first|(apply Zb (hR);kernel_rfl;(iterate 4 exact Z))|(apply Zg Za;exact Z)|(apply Zh Za;exact Z)|(apply Zd;(iterate 3 exact Z);(first|with_reducible assumption|decide +kernel|(solve|simp only[bn])))|(apply Zo;(iterate 3 exact Z);(first|with_reducible assumption|decide +kernel|(solve|simp only[bn])))|(apply Zj;exact Z;(first|with_reducible assumption|decide +kernel|(solve|simp only[bn]));exact Z;exact Z)|(apply Zi;exact Z;(first|with_reducible assumption|decide +kernel|(solve|simp only[bn]));exact Z;exact Z)|refine Zn Za Z Z Z Z ?_)
  all_goals exact Qe
end Go.Proofs.YtchlgagdbflkmaaGreatDoor
end
section
open Go.RowKit Go.Pl
namespace Go.Av
def Tp:Code->Bool
 | .loop _=>true
 | .seq a b=>Tp a||Tp b
 | .block _ c=>Tp c
 | _=>false
def Ya:Code->Code
 | .loop c=>c
 | .seq a b=>match Tp a with
  | true=>Ya a
  | false=>Ya b
 | .block _ c=>Ya c
 | c=>c
theorem UU [Known][Dfr]{P:Program}{Q:X->St->Prop}{S:St}{c:Code}{n k:Nat}{ee:Nat × Nat}{J:Nat->List (Nat × D)->List (List D)->List Fr->Prop}
  (h:LandS J n ee k S) (hy:∀ m tm bx fr,J m tm bx fr->AW P c ⟨n,tm,bx,fr,ee⟩ Q):AW P c S Q:=by
 refine⟨fun b0 g a w hi=>?_⟩
 obtain⟨m,hm,tm,bx,fr,g',hJ,hi'⟩:=h.inv hi
 exact(hy m tm bx fr hJ).run b0 g' a w hi'
theorem MU [Known][Dfr]{P:Program}{Q:X->St->Prop}{n:Nat}{ee:Nat × Nat}{tm0:List (Nat × D)}{bx0:List (List D)}{fr0:List Fr}{r x y:Code}(t:Nat)(J:List (Nat × D)->List (List D)->List Fr->Prop)
  (hy:∀ tm bx fr,J tm bx fr->AW P y ⟨n,tm,bx,fr,ee⟩ Q) (hx:AW P (.seq r (.block t x)) ⟨n,tm0,bx0,fr0,ee⟩ (X.then (LandS (fun _=>J) n ee 1) Q)):AW P (.seq (.seq r (.block t x)) y) ⟨n,tm0,bx0,fr0,ee⟩ Q:=
 Xt (OT hx fun x S h=>by
  cases x with
  | norm=>exact UU h fun _=>hy
  | _=>exact h)
theorem GC [Known][Dfr]{P:Program}{Q:X->St->Prop}{n:Nat}{ee:Nat × Nat}{tm0:List (Nat × D)}{bx0:List (List D)}{fr0:List Fr}{r x y:Code}(t:Nat)(J K:List (Nat × D)->List (List D)->List Fr->Prop)
  (hy:∀ tm bx fr,J tm bx fr->AW P y ⟨n,tm,bx,fr,ee⟩ Q) (hx:∀ tm bx fr,K tm bx fr->AW P (.seq r (.block t x)) ⟨n,tm,bx,fr,ee⟩ (X.then (LandS (fun _=>J) n ee 1) Q)) (hk:LandS (fun _=>K) n ee 1 ⟨n,tm0,bx0,fr0,ee⟩):AW P (.seq (.seq r (.block t x)) y) ⟨n,tm0,bx0,fr0,ee⟩ Q:=
 MU t J hy (UU hk fun _ tm bx fr h=>hx tm bx fr h)
def isB (t:Nat):Code->Bool
 | .block u _=>Nat.beq u t
 | .seq _ c=>match c with
  | .block u _=>Nat.beq u t
  | _=>false
 | _=>false
def MV (t:Nat):Code->Bool
 | .seq a b=>isB t a||MV t a||MV t b
 | .block _ c=>MV t c
 | _=>false
def Io (t:Nat):Code->Code
 | .seq a b=>match isB t a with
  | true=>b
  | false=>match MV t a with
   | true=>Io t a
   | false=>Io t b
 | .block _ c=>Io t c
 | c=>c
def atB (t:Nat):Code->Code
 | .seq a b=>match isB t a with
  | true=>a
  | false=>match MV t a with
   | true=>atB t a
   | false=>atB t b
 | .block _ c=>atB t c
 | c=>c
end Go.Av
end
section
open Go.RowKit Go.Pl Go.Av
namespace Go.Proofs.YtchlgagdbflkmaaGreatDoor
set_option maxHeartbeats 4000000
theorem UV {x:EvV}{r:RyV}(g1:Z2 x=false)(g2:decide (((r.data.map E.byte).length:Int)>1000)=false):Vb ⟨x,r,false,false⟩:=by
 unfold Z2 Js at g1
 simp only[Bool.or_eq_false_iff,decide_eq_false_iff_not,List.length_map]at g1 g2
 refine⟨?_,?_,?_⟩
 ·show x.data.length<=3000;omega
 ·show x.rq.pay.length<=3000;omega
 ·show r.data.length<=3000;omega
structure OpH where
 kd:Int
 n:Int
 x:EvV
 r:RyV
abbrev ohE (o:OpH):E:=.agg [.int .i64 o.kd,.int .i64 o.n,.int .u64 (o.x.now:Int),.int .i64 o.x.kd,.int .u64 (o.x.tok:Int),.int .i64 o.x.ses,.int .u64 (o.x.rq.id:Int),.int .i64 o.x.rq.kd,.bool o.x.rq.ep.i,.int .u64 (o.x.rq.ep.n:Int),.int .u64 (o.x.rq.ep.s:Int),.str o.x.rq.ep.h,.str o.x.rq.ep.d,.bool o.x.rq.ds.i,.int .u64 (o.x.rq.ds.n:Int),.int .u64 (o.x.rq.ds.s:Int),.str o.x.rq.ds.h,.str o.x.rq.ds.d,.int .i64 o.x.rq.pol,.int .i64 o.x.rq.num,.int .i64 o.x.rq.tik,.sl (o.x.rq.pay.map E.byte),.int .u64 (o.x.rq.life:Int),.int .u64 (o.x.rq.tok:Int),.bool o.x.rq.on,.sl (o.x.data.map E.byte),.int .u64 (o.r.id:Int),.int .i64 o.r.err,.int .i64 o.r.num,.int .i64 o.r.cnt,.int .u64 (o.r.tok:Int),.sl (o.r.data.map E.byte)]
theorem GD (l:List OpH):Uni 32 (l.map ohE):=Uni.map (f:=ohE) (fun _=>rfl) l
def WU (L:List Ln)(s:Nat):Prop:=s<=L.length/\(∀ x ∈ L,Vb x)/\∀(j:Nat) (x:Ln),L[j]?=some x->x.told=true->x.lost=false/\j<s
theorem JJ {L:List Ln}{s:Nat}(h:WU L s)(x:EvV)(r:RyV)(hk:Vb ⟨x,r,false,false⟩):WU (L++[⟨x,r,false,false⟩]) s:=by
 obtain⟨h1,h2,h3⟩:=h
 refine⟨by rw[List.length_append];omega,fun y hy=>?_,fun j y hy ht=>?_⟩
 ·rcases List.mem_append.1 hy with hy|hy
  ·exact h2 y hy
  ·rw[List.mem_singleton.1 hy];exact hk
 ·rcases Nat.lt_or_ge j L.length with hj|hj
  ·rw[List.getElem?_append_left hj]at hy
   exact h3 j y hy ht
  ·rw[List.getElem?_append_right hj]at hy
   rw[List.mem_singleton.1 (List.mem_of_getElem? hy)]at ht
   cases ht
theorem Nl {L:List Ln}{s n:Nat}{x:Ln}(h:WU L s)(hx:L[n]?=some x)(hl:x.lost=false)(hs:n<s):WU (L.set n ⟨x.e,x.r,true,x.lost⟩) s:=by
 obtain⟨h1,h2,h3⟩:=h
 refine⟨by rw[List.length_set];exact h1,fun y hy=>?_,fun j y hy ht=>?_⟩
 ·rcases List.mem_or_eq_of_mem_set hy with hy|rfl
  ·exact h2 y hy
  ·exact h2 x (List.mem_of_getElem? hx)
 ·by_cases hj:n=j
  ·subst hj
   rw[List.getElem?_set_self (List.getElem?_eq_some_iff.1 hx).1]at hy
   injection hy with hy
   subst hy
   exact⟨hl,hs⟩
  ·rw[List.getElem?_set_ne hj]at hy
   exact h3 j y hy ht
theorem Nm {L:List Ln}{s n:Nat}(h:WU L s)(h1:s<=n)(h2:n<=L.length):WU L n:=⟨h2,h.2.1,fun j x hx ht=>⟨(h.2.2 j x hx ht).1,by have:=(h.2.2 j x hx ht).2;omega⟩⟩
theorem QO (left:Int):∀(L:List Ln) (n j:Nat) (y:Ln),(crA left n L)[j]?=some y->∃ x,L[j]?=some x/\y.e=x.e/\y.r=x.r/\y.told=x.told/\(x.lost=true->y.lost=true)/\(x.lost=false->y.lost=decide (((n+(ZM (L.take j)).length+1:Nat):Int)>left))
 | [],n,j,y,h=>by simp[crA]at h
 | x::L,n,j,y,h=>by
  rw[UC]at h
  cases hl:x.lost with
  | true=>
   rw[hl]at h
   dsimp only at h
   cases j with
   | zero=>simp at h;subst h;exact⟨x,rfl,rfl,rfl,rfl,fun _=>hl,fun e=>by rw[hl]at e;cases e⟩
   | succ j=>
    obtain⟨x',q1,q2,q3,q4,q5,q6⟩:=QO left L n j y (by simpa using h)
    refine⟨x',by simpa using q1,q2,q3,q4,q5,fun e=>?_⟩
    rw[q6 e,List.take_succ_cons]
    unfold ZM
    simp only[List.filter_cons,hl,Bool.not_true,Bool.false_eq_true,if_false]
  | false=>
   rw[hl]at h
   dsimp only at h
   cases j with
   | zero=>
    simp only[List.getElem?_cons_zero,Option.some.injEq]at h
    subst h
    exact⟨x,rfl,rfl,rfl,rfl,(fun e=>by rw[hl]at e;cases e),fun _=>rfl⟩
   | succ j=>
    obtain⟨x',q1,q2,q3,q4,q5,q6⟩:=QO left L (n+1) j y (by simpa using h)
    refine⟨x',by simpa using q1,q2,q3,q4,q5,fun e=>?_⟩
    rw[q6 e,List.take_succ_cons]
    unfold ZM
    simp only[List.filter_cons,hl,Bool.not_false,if_true,List.length_cons]
    rw[show n+1+(List.filter (fun x=>!x.lost) (L.take j)).length+1=n+((List.filter (fun x=>!x.lost) (L.take j)).length+1)+1 by omega]
theorem MX {left:Int}{L:List Ln}{s j:Nat}{x y:Ln}(hs:¬ left<(((ZM (L.take s)).length:Nat):Int))(hj:j<s)(hx:L[j]?=some x)(hy:(crA left 0 L)[j]?=some y):y.lost=x.lost:=by
 obtain⟨x',q1,_,_,_,q5,q6⟩:=QO left L 0 j y hy
 rw[hx]at q1
 injection q1 with q1
 subst q1
 cases hl:x.lost with
 | true=>exact q5 hl
 | false=>
  rw[q6 hl]
  refine decide_eq_false ?_
  have h1:=WD hx
  rw[hl]at h1
  have h2:L.take s=L.take (j+1)++(L.take s).drop (j+1):=by
   have:=(List.take_append_drop (j+1) (L.take s)).symm
   rw[List.take_take,Nat.min_eq_left (by omega)]at this
   exact this
  have h3:(ZM (L.take s)).length=(ZM (L.take (j+1))).length+(ZM ((L.take s).drop (j+1))).length:=by
   have:=congrArg (fun l=>(ZM l).length) h2
   simp only[MM,List.length_append]at this
   exact this
  rw[h1,List.length_append]at h3
  simp only[List.length_cons,List.length_nil]at h3
  omega
theorem Hz {L:List Ln}{s:Nat}{left:Int}(h:WU L s)(hs:¬ left<(((ZM (L.take s)).length:Nat):Int)):WU (crA left 0 L) L.length:=by
 refine⟨by rw[VF];exact Nat.le_refl _,fun y hy=>?_,fun j y hy ht=>?_⟩
 ·obtain⟨j,hj⟩:=List.getElem?_of_mem hy
  obtain⟨x,q1,q2,q3,_⟩:=QO left L 0 j y hj
  have:=h.2.1 x (List.mem_of_getElem? q1)
  unfold Vb at this ⊢
  rw[q2,q3]
  exact this
 ·obtain⟨x,q1,q2,q3,q4,_⟩:=QO left L 0 j y hy
  rw[q4]at ht
  obtain⟨r1,r2⟩:=h.2.2 j x q1 ht
  exact⟨(MX hs r2 q1 hy).trans r1,(List.getElem?_eq_some_iff.1 q1).1⟩
def DA (s0:Nat)(L0:List Ln)(s:Nat)(L:List Ln):Prop:=s0<=s/\L0.length<=L.length/\∀(k:Nat) (x x0:Ln),k<s0->L[k]?=some x->L0[k]?=some x0->x.lost=x0.lost
theorem Du (s:Nat)(L:List Ln):DA s L s L:=⟨Nat.le_refl _,Nat.le_refl _,fun k x x0 _ h1 h2=>by rw[h1]at h2;cases h2;rfl⟩
theorem DE (s:Nat)(L:List Ln)(y:Ln)(hs:s<=L.length):DA s L s (L++[y]):=⟨Nat.le_refl _,by rw[List.length_append];omega,fun k x x0 hk h1 h2=>by
 rw[List.getElem?_append_left (by omega),h2]at h1
 cases h1
 rfl⟩
theorem DL {s n:Nat}{L:List Ln}{y:Ln}(hy:L[n]?=some y):DA s L s (L.set n ⟨y.e,y.r,true,y.lost⟩):=⟨Nat.le_refl _,by rw[List.length_set];exact Nat.le_refl _,fun k x x0 hk h1 h2=>by
 by_cases hnk:n=k
 ·subst hnk
  rw[List.getElem?_set_self (List.getElem?_eq_some_iff.1 hy).1]at h1
  rw[hy]at h2
  cases h1
  cases h2
  rfl
 ·rw[List.getElem?_set_ne hnk,h2]at h1
  cases h1
  rfl⟩
theorem DM {s n:Nat}{L:List Ln}(h:s<=n):DA s L n L:=⟨h,Nat.le_refl _,(Du s L).2.2⟩
theorem DH {s:Nat}{L:List Ln}{left:Int}(hs:s<=L.length)(h:¬ left<(((ZM (L.take s)).length:Nat):Int)):DA s L L.length (crA left 0 L):=⟨hs,by rw[VF];exact Nat.le_refl _,fun k x x0 hk h1 h2=>MX h hk h2 h1⟩
def HvS (L:List Ln)(s:Nat)(bx:List (List D))(fr:List Fr):Prop:=
 (L=[]/\s=0/\bx=hsN/\fr=[])\/(L ≠ []/\∃ c,L.length<=c/\bx=hsR L s c/\fr=[])
abbrev hvT (ops:List OpH)(i:Nat):List (Nat × D):=[(0,.sl .ext (ops.map ohE)),(3,.ptr 0 0),(4,.int .i64 (i:Int))]
abbrev hvU (ops:List OpH)(i s0:Nat)(bD:D):List (Nat × D):=[(0,.sl .ext (ops.map ohE)),(3,.ptr 0 0),(4,.int .i64 (i:Int)),(6,.int .i64 (s0:Int)),(7,bD)]
def HvB (L0:List Ln)(bD:D):Prop:=(L0=[]/\bD=.sl .nil [])\/bD=.sl .ext (L0.map lnE)
def HvJ (ops:List OpH)(k:Nat)(tm:List (Nat × D))(bx:List (List D))(fr:List Fr):Prop:=
 ∃(i:Nat) (L:List Ln) (s:Nat),k+i=80/\L.length<=i/\WU L s/\tm=hvT ops i/\HvS L s bx fr
def HvM (ops:List OpH)(i s0:Nat)(L0:List Ln)(bD:D)(tm:List (Nat × D))(bx:List (List D))(fr:List Fr):Prop:=
 ∃(L:List Ln) (s:Nat),L.length<=i+1/\WU L s/\DA s0 L0 s L/\tm=hvU ops i s0 bD/\HvS L s bx fr
end Go.Proofs.YtchlgagdbflkmaaGreatDoor
end

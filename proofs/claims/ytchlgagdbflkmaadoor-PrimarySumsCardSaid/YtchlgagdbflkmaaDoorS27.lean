/- PrimarySums: the walk, of what is sealed. -/
import Derived.Test.YtchlgagdbflkmaaDoorS26
import Derived.Test.YtchlgagdbflkmaaDoorS25
import Derived.Test.YtchlgagdbflkmaaDoorS11
import Derived.Test.YtchlgagdbflkmaaDoorS01
import Derived.Test.YtchlgagdbflkmaaDoorS12
import Derived.Test.YtchlgagdbflkmaaDoorS07
import Derived.Test.YtchlgagdbflkmaaDoorProg
import Derived.Lib.LaidU8
set_option linter.unusedVariables false
set_option linter.unusedSimpArgs false
section
open Go.RowKit Go.Pl Go.Av
namespace Go.Proofs.YtchlgagdbflkmaaDoor
set_option maxHeartbeats 4000000
theorem H3 [Known](L:List E)(s r g:Int)(hA:AP Tryd.prog 5 [] (.bool true) [])
  (hG:AP Tryd.prog 4 [.agg [.int .i64 4,.int .u64 0,.sl .ext [],.sl .ext L],.int .i64 1,.int .i64 100] (.int .i64 g) [])
  (h1:decide ((L.length:Int)>20)=false) (h2:decide (g<0)=false)
  (e1:IntKind.i64.wrap s=s) (e2:s.tmod 3=0) (e3:IntKind.u64.wrap 0=0) (hU:Uni 4 L)
  (hN:AP Tryd.prog 6 [.int .u64 0] (.agg [.int .i64 0,.int .u64 0,.sl .ext [],.sl .ext []]) [])
  (hS:AP Tryd.prog 7 [.sl .ext (nmI 0::L),.int .i64 0] (.tup [.agg [.int .i64 4,.int .u64 0,.sl .ext [],.sl .ext (nmI 0::L)],.int .i64 0]) []) :
  AP Tryd.prog 3 [.sl .ext L,.int .u8 s,.int .u8 r] (.bool true) []:=by
 have hll:L.length<=20:=by have:=of_decide_eq_false h1;omega
 have hU1:Uni 4 [nmI 0]:=Zf rfl
 have hl1:[nmI 0].length+L.length<=maxLen:=by unfold maxLen;simp;omega
 have hb1:([nmI 0].length+L.length)*64<=140737488355328:=by simp;omega
 have y:(((nmI 0::L).length:Int)==(([nmI 0]++L).length:Int))=true:=by simp
 refine AP.ofA (Zm Tryd.func3 Z Tryd.ntmps3 Z Z ?_)
 repeat'(first|refine Zb hA Qk Z Z Z Z ?_|refine Zb hG Qk Z Z Z Z ?_|refine Zb hN Qk Z Z Z Z ?_|refine Zb hS Qk Z Z Z Z ?_|rw[e1]|rw[e2]|rw[e3]|refine VZ Za Z Z Z Z Z Z Z Z Z hU1 hU hl1 hb1 Z Z ?_|rw[y]|refine Zj Za Z ?_|refine Zg Za Z ?_|refine Zv Za Z ?_|(apply Zi;(iterate 3 exact Z);(first|with_reducible assumption|decide +kernel|(solve|simp only[bn])))|(apply Zp;exact Z;(first|with_reducible assumption|decide +kernel|(solve|simp only[bn]));exact Z;exact Z)|(apply Zk;exact Z;(first|with_reducible assumption|decide +kernel|(solve|simp only[bn]));exact Z;exact Z)|(apply Zd;exact Z;(first|with_reducible assumption|decide +kernel|(solve|simp only[bn])))|(apply Ze;exact Z;(first|with_reducible assumption|decide +kernel|(solve|simp only[bn])))|refine Zn Za Z Z Z Z ?_|refine Yd Za Z Z Z Z Z Z Z Z Z Z Z Z ?_|(apply XJ;exact Z;exact Z;(first|exact Qt|rotate_left);exact Z))
 all_goals(apply Zu [];(apply Zc Za;exact Z);(iterate 4 exact Z))
 all_goals first|rfl|rw[y]
theorem H4 [Known](L:List E)(s r g:Int)(k:Nat)(b0:UInt8)(bt:List UInt8)(v:UInt8)(hk:k=1\/k=2)(hA:AP Tryd.prog 5 [] (.bool true) [])
  (hG:AP Tryd.prog 4 [.agg [.int .i64 4,.int .u64 0,.sl .ext [],.sl .ext L],.int .i64 1,.int .i64 100] (.int .i64 g) [])
  (h1:decide ((L.length:Int)>20)=false) (h2:decide (g<0)=false)
  (e1:IntKind.i64.wrap s=s) (e2:s.tmod 3=(k:Int)) (e3:IntKind.u64.wrap (k:Int)=(k:Int)) (e4:IntKind.i64.wrap (2*(k:Int))=2*(k:Int)) (hU:Uni 4 L) (hbt:(b0::bt).length=2*k) (hx2:bits .xor .u8 (b0.toNat:Int) (bits .or .u8 r 1)=(v.toNat:Int))
  (hN:AP Tryd.prog 6 [.int .u64 (k:Int)] (.agg [.int .i64 0,.int .u64 (k:Int),.sl .ext [],.sl .ext []]) [])
  (hS:AQ Tryd.prog 7 [.sl .ext (nmI k::L),.int .i64 0] [] (.tup [.agg [.int .i64 4,.int .u64 0,.sl .ext [],.bsl 0 0 ((nmI k::L).length+1) 0],.int .i64 0])
   [[.mix (flat (nmI k::L)) [.int .i64 2,.int .u64 0,.bsl 1 0 ((b0::bt).map E.byte).length 0,.sl .ext []]],[.row 0 (flat ((b0::bt).map E.byte))]])
  (hO:AP Tryd.prog 8 [.agg [.int .i64 4,.int .u64 0,.sl .ext [],.sl .ext ((nmI k::L)++[.agg [.int .i64 2,.int .u64 0,.sl ((v::bt).map E.byte),.sl []]])],.int .i64 0] (.tup [.sl .ext [],.int .i64 10]) []) :
  AP Tryd.prog 3 [.sl .ext L,.int .u8 s,.int .u8 r] (.bool true) []:=by
 have hll:L.length<=20:=by have:=of_decide_eq_false h1;omega
 have hU1:Uni 4 [nmI k]:=Zf rfl
 have hl1:[nmI k].length+L.length<=maxLen:=by unfold maxLen;simp;omega
 have hb1:([nmI k].length+L.length)*64<=140737488355328:=by simp;omega
 have k0:((k:Int)==0)=false:=by rcases hk with rfl|rfl<;>rfl
 have hUU:Uni 4 (nmI k::L):=hU1.append hU
 have hofs:(((nmI k::L).length:Int).toNat*4+2)=(flat (nmI k::L)).length+2:=by rw[Int.toNat_natCast,hUU.flat]
 have en:IntKind.i64.wrap ((((nmI k::L).length+1:Nat):Int)-1)=((nmI k::L).length:Int):=by rw[IntWalk.i64_in _ (by simp;omega)];simp
 have y2:(((nmI k::L).length:Int) != (([nmI k]++L).length:Int))=false:=by simp
 have y3:((((b0::bt).map E.byte).length:Int) != 2*(k:Int))=false:=by rw[List.length_map,hbt];simp
 have hn2:((nmI k::L).length:Int)<(((nmI k::L).length+1:Nat):Int):=by omega
 have hz2:(0:Int)<((((b0::bt).map E.byte).length:Nat):Int):=by simp
 have he:(flat ((b0::bt).map E.byte))[(0:Int).toNat*1]?=some (.int .u8 (b0.toNat:Int)):=rfl
 have hle:(0:Int).toNat*1+1<=(flat ((b0::bt).map E.byte)).length:=by rw[IC];simp
 have hst:W6 (flat ((b0::bt).map E.byte)) ((0:Int).toNat*1) [.int .u8 (v.toNat:Int)]=flat ((v::bt).map E.byte):=XC (b0::bt) (i:=0) (by simp) v
 have hm1:((nmI k::L)++[E.agg [.int .i64 2,.int .u64 0,.sl ((v::bt).map E.byte),.sl []]]).length=(nmI k::L).length+1:=by simp
 refine AP.ofA (Zm Tryd.func3 Z Tryd.ntmps3 Z Z ?_)
 repeat'(first|refine Zb hA Qk Z Z Z Z ?_|refine Zb hG Qk Z Z Z Z ?_|refine Zb hN Qk Z Z Z Z ?_|refine Uv [] hS Qk Z Z Z Z Z Z Z ?_|rw[e1]|rw[e2]|rw[e3]|rw[k0]|refine VZ Za Z Z Z Z Z Z Z Z Z hU1 hU hl1 hb1 Z Z ?_|refine KA Za Z Z Z Z ?_|refine Io Za Z Z Z Z hofs Z Z Z ?_|rw[en]|rw[y2]|rw[e4]|rw[y3]|refine Jy Za Z Z Z Z Z Z (Int.natCast_nonneg _) hn2 Z ?_|refine Jy Za Z Z Z Z Z Z (Int.le_refl _) hz2 Z ?_|refine Ja Za Z Z Z Z he Z Z ?_|rw[hx2]|refine Jc Za Z Z Z Z Z Z hle hst Z ?_|refine Xu hO Qk (Y4.cons (LdD.agg (Y4.cons LdD.int (Y4.cons LdD.int (Y4.cons LdD.slx (Y4.cons (LdD.sl (Je rfl rfl hm1)) Y4.nil))))) (Y4.cons LdD.int Y4.nil)) Z Z ?_|refine Zj Za Z ?_|refine Zg Za Z ?_|refine Zv Za Z ?_|refine V3 Za Z Z Z Z Z Z Z ?_|(apply Zi;(iterate 3 exact Z);(first|with_reducible assumption|decide +kernel|(solve|simp only[bn])))|(apply Zp;exact Z;(first|with_reducible assumption|decide +kernel|(solve|simp only[bn]));exact Z;exact Z)|(apply Zk;exact Z;(first|with_reducible assumption|decide +kernel|(solve|simp only[bn]));exact Z;exact Z)|(apply Ze;exact Z;(first|with_reducible assumption|decide +kernel|(solve|simp only[bn])))|refine Zn Za Z Z Z Z ?_|refine Yd Za Z Z Z Z Z Z Z Z Z Z Z Z ?_|(apply Zo 17 ZG;decide +kernel;kernel_rfl;kernel_rfl;kernel_rfl;exact Z;exact Z)|(apply Zr;(iterate 4 exact Z))|exact AE.nil _ _ _ _|(apply Zt;exact Z)|(apply Zx;exact Z;exact Z;decide +kernel;exact Z)|(apply Zz;exact Z)|exact AO.nil _ _ _|(apply Zq;(decide +kernel))|exact AOs.nil|exact ZM rfl rfl|(apply XJ;exact Z;exact Z;(first|exact Qt|rotate_left);exact Z))
 all_goals exact Qe
end Go.Proofs.YtchlgagdbflkmaaDoor
end
section
open Go.RowKit Go.Pl Go.Av
namespace Go.Proofs.YtchlgagdbflkmaaDoor
set_option maxHeartbeats 4000000
theorem ID (k:Int)(n:Nat)(b:List UInt8)(l:List It):(ZH l).length<=(ZC (.mk k n b l)).length:=by
 rw[ZC,List.length_append,List.length_append]
 omega
mutual
theorem IE:∀(x:It) (d:Nat) (m:Int),0<=Z7 x d m->(Vz x:Int)<=m-Z7 x d m
 | .mk k n b l,d,m,h=>by
  rw[Z7]at h ⊢
  split at h
  ·omega
  split at h
  ·omega
  rename_i h1 h2
  rw[if_neg h1,if_neg h2]
  have:=Jp l (d+1) (m-1) h
  rw[Vz]
  omega
theorem Jp:∀(l:List It) (d:Nat) (m:Int),0<=Ym l d m->(WC l:Int)<=m-Ym l d m
 | [],_,m,h=>by simp[Ym,WC]
 | x::l,d,m,h=>by
  rw[Ym]at h ⊢
  split at h
  ·omega
  rename_i h1
  rw[if_neg h1]
  have h0:0<=Z7 x d m:=by
   rcases Int.lt_or_le (Z7 x d m) 0 with hlt|hge
   ·have:=WW l d (Z7 x d m) (by have:=Ww x d m (by omega);omega);omega
   ·exact hge
  have q:=IE x d m h0
  have r:=Jp l d _ h
  rw[WC]
  omega
end
end Go.Proofs.YtchlgagdbflkmaaDoor
end
section
open Go.RowKit Go.Pl Go.Av
namespace Go.Proofs.YtchlgagdbflkmaaDoor
set_option maxHeartbeats 4000000
theorem QM (y y':It)(h:∀ d m,Yz y d m=Yz y' d m):∀(a:List It) (d m:Nat),Yu (a++[y]) d m=Yu (a++[y']) d m
 | [],d,m=>by rw[List.nil_append,List.nil_append,Yu,Yu,h]
 | x::a,d,m=>by
  rw[List.cons_append,List.cons_append,Yu,Yu]
  cases Yz x d m with
  | none=>rfl
  | some r=>exact QM y y' h a d r
theorem Kb (B B':List UInt8)(d m:Nat):Yz (.mk 2 0 B []) d m=Yz (.mk 2 0 B' []) d m:=by
 rw[Yz,Yz]
 rfl
theorem Kc (a:List It)(B B':List UInt8):ZB (.mk 4 0 [] (a++[.mk 2 0 B []]))=ZB (.mk 4 0 [] (a++[.mk 2 0 B' []])):=by
 unfold ZB
 rw[Yz,Yz]
 have e:=QM (.mk 2 0 B []) (.mk 2 0 B' []) (Kb B B') a (1+1) (256-1)
 have o:∀ l:List It,Vh 4 0 [] l=true:=fun l=>rfl
 rw[o,o]
 dsimp only
 rw[e]
theorem XD (k:Nat)(hk:k<3)(l:List It):Yp (.mk 0 k [] []::l) 0=(k:Int):=by
 unfold Yp
 rw[if_neg (by omega)]
 show(match decide ((k:Int)>2) with|true=>(-1:Int)|false=>match It.beq (.mk 0 k [] []) (.mk 0 k [] []) with|true=>(k:Int)|false => -1)=_
 rw[decide_eq_false (by omega),It.beq_iff.2 rfl]
theorem IF (k:Nat)(hk:k=1\/k=2)(l:List It)(b:List UInt8)(hb:b.length=2*k)(hz:ZB (ZI k (.mk 0 k [] []::l))=true)(hr:ZB (WD k (.mk 0 k [] []::l))=true)(hne:YP k (ZC (ZI k (.mk 0 k [] []::l))) ≠ b) :
  UT (.mk 4 0 [] ((.mk 0 k [] []::l)++[.mk 2 0 b []])) 0=([],10):=by
 have ht:Yp ((.mk 0 k [] []::l)++[.mk 2 0 b []]) 0=(k:Int):=by rw[List.cons_append];exact XD k (by omega) _
 have hr2:ZB (.mk 4 0 [] ((.mk 0 k [] []::l)++[.mk 2 0 b []]))=true:=by rw[Kc _ b (YP k (ZC (ZI k (.mk 0 k [] []::l))))];exact hr
 have hl:((.mk 0 k [] []::l)++[It.mk 2 0 b []]).length-1=l.length+1:=by simp
 have hg:((.mk 0 k [] []::l)++[It.mk 2 0 b []])[l.length+1]?=some (.mk 2 0 b []):=by
  rw[List.getElem?_append_right (by simp)];simp
 have htk:((.mk 0 k [] []::l)++[It.mk 2 0 b []]).take (l.length+1)=.mk 0 k [] []::l:=by
  rw[List.take_append_of_le_length (by simp)];exact List.take_of_length_le (by simp)
 unfold UT
 dsimp only
 rw[hr2,ht,hl,hg,htk]
 dsimp only
 rw[Bool.true_and,show((4:Int)==4)=true from rfl,decide_eq_false (show ¬ (k:Int)<0 by omega)]
 dsimp only
 rw[show((k:Int)==0)=false by rcases hk with rfl|rfl<;>rfl,Int.toNat_natCast,It.beq_iff.2 rfl,decide_eq_false (show ¬ ((l.length+1:Nat):Int)<=0 by omega),show((b.length:Int) != ((2*k:Nat):Int))=false by rw[hb];simp,hz,show(YP k (ZC (ZI k (.mk 0 k [] []::l)))==b)=false by simpa using hne]
 rfl
theorem Hf (b r:UInt8):b ^^^ (r ||| 1) ≠ b:=by
 intro h
 have h1:b ^^^ (b ^^^ (r ||| 1))=b ^^^ b:=by rw[h]
 rw[<- UInt8.xor_assoc,UInt8.xor_self,UInt8.zero_xor]at h1
 have h2:=congrArg UInt8.toNat h1
 rw[UInt8.toNat_or]at h2
 have h3:(1:UInt8).toNat<=r.toNat ||| (1:UInt8).toNat:=Nat.right_le_or
 have h4:(1:UInt8).toNat=1:=rfl
 have h5:(0:UInt8).toNat=0:=rfl
 omega
theorem Om {l:List It}(k:Nat)(hk:k<3)(h:0<=Z7 (.mk 4 0 [] l) 1 100)(hn:nIs l)(hl:l.length<=20) :
  wfs (.mk 0 k [] []::l)/\(∀ s,s=1\/s=2->(ZC (ZI s (.mk 0 k [] []::l))).length<=1000000000)/\∀(b:List UInt8) (s m:Nat),b.length<=4->s=1\/s=2->(ZC (ZI s (((It.mk 0 k [] []::l)++[It.mk 2 0 b []]).take m))).length<=1000000000:=by
 have hs:=Xz (.mk 4 0 [] l) 1 100 (by omega) h ⟨by decide,hn⟩
 obtain⟨q1,q2,q3,q4⟩:=hs
 refine⟨⟨⟨by omega,by simp,by simp,trivial⟩,q1.2.2.2⟩,fun s hs=>?_,fun b s m hb hs=>?_⟩
 case refine_2=>
  have h0:=Z8 4 0 [] ((((It.mk 0 k [] []::l)++[It.mk 2 0 b []]).take m)++[.mk 2 0 (List.replicate (2*s) 0) []])
  have h1:=Z8 0 k [] []
  have h2:=Z8 2 0 (List.replicate (2*s) 0) []
  have h4:=Z8 2 0 b []
  have h3:=ID 4 0 [] l
  have h5:=ZP ((.mk 0 k [] []::l)++[.mk 2 0 b []]) m
  rw[Vs]at h0 h5
  simp only[ZH,List.length_append,List.length_nil,List.length_replicate,Nat.add_zero,Nat.zero_add]at h0 h1 h2 h4 h5
  show(ZC (.mk 4 0 [] ((((It.mk 0 k [] []::l)++[It.mk 2 0 b []]).take m)++[.mk 2 0 (List.replicate (2*s) 0) []]))).length<=1000000000
  omega
 have h0:=Z8 4 0 [] ((.mk 0 k [] []::l)++[.mk 2 0 (List.replicate (2*s) 0) []])
 have h1:=Z8 0 k [] []
 have h2:=Z8 2 0 (List.replicate (2*s) 0) []
 have h3:=ID 4 0 [] l
 rw[Vs]at h0
 simp only[ZH,List.length_append,List.length_nil,List.length_replicate,Nat.add_zero,Nat.zero_add]at h0 h1 h2
 show(ZC (.mk 4 0 [] ((.mk 0 k [] []::l)++[.mk 2 0 (List.replicate (2*s) 0) []]))).length<=1000000000
 omega
theorem QN [Known][KnownU8](l:List It)(s r:Int)(hs:0<=s/\s<256)(hr:0<=r/\r<256)(hn:nIs l):AP Tryd.prog 3 [.sl .ext (Zh l),.int .u8 s,.int .u8 r] (.bool true) []:=by
 have hA:=Ol
 have hlen:=Zl l
 cases h1:decide (((Zh l).length:Int)>20) with
 | true=>exact H0 (Zh l) s r 0 hA h1
 | false=>
 have hl:l.length<=20:=by have:=of_decide_eq_false h1;omega
 have hG:=Iz (.mk 4 0 [] l) 1 100 (by omega) (by omega) (by omega)
 have hsz:=fun k hk h=>Om (l:=l) k hk h hn hl
 generalize Z7 (.mk 4 0 [] l) 1 100=g at *
 replace hG:AP Tryd.prog 4 [.agg [.int .i64 4,.int .u64 0,.sl .ext [],.sl .ext (Zh l)],.int .i64 1,.int .i64 100] (.int .i64 g) []:=hG
 cases h2:decide (g<0) with
 | true=>exact H1 (Zh l) s r g hA hG h1 h2
 | false=>
 have hg0:0<=g:=by have:=of_decide_eq_false h2;omega
 have e1:IntKind.i64.wrap s=s:=IntWalk.i64_in _ (by omega)
 obtain⟨k,hk,e2⟩:∃ k:Nat,k<3/\s.tmod 3=(k:Int):=by
  refine⟨s.toNat % 3,Nat.mod_lt _ (by decide),?_⟩
  rw[Int.tmod_eq_emod_of_nonneg hs.1]
  omega
 have e3:IntKind.u64.wrap (k:Int)=(k:Int):=by
  have:k=0\/k=1\/k=2:=by omega
  rcases this with rfl|rfl|rfl<;>rfl
 have hU:=Yb l
 obtain⟨hws,hlim,hlim2⟩:=hsz k hk hg0
 clear hsz
 have hN:AP Tryd.prog 6 [.int .u64 (k:Int)] (.agg [.int .i64 0,.int .u64 (k:Int),.sl .ext [],.sl .ext []]) []:=Yy k
 have hS:=Kz (.mk 0 k [] []::l) 0 hws (by simp;omega) hlim
 have hty:=XD k hk l
 have hge:decide ((0:Int) ≥ ((It.mk 0 k [] []::l).length:Int))=false:=decide_eq_false (by first|(simp;done)|(simp;omega))
 have hF:Uj (.mk 0 k [] []::l) 0=(z0,3)->AP Tryd.prog 3 [.sl .ext (Zh l),.int .u8 s,.int .u8 r] (.bool true) []:=fun e=>by
  rw[e]at hS
  exact H2 (Zh l) s r g k hA hG h1 h2 e1 e2 e3 hU hN hS
 have hV:Uj (.mk 0 k [] []::l) 0=match(It.mk 0 k [] []::l).all ZB with
   | false=>(z0,3)
   | true=>match decide ((k:Int)>0) with
    | false=>(match ZB (.mk 4 0 [] (.mk 0 k [] []::l)) with|true=>(.mk 4 0 [] (.mk 0 k [] []::l),0)|false=>(z0,3))
    | true=>(match ZB (ZI k (.mk 0 k [] []::l)) with
     | false=>(z0,3)
     | true=>match ZB (WD k (.mk 0 k [] []::l)) with
      | false=>(z0,3)
      | true=>(WD k (.mk 0 k [] []::l),0)):=by
  unfold Uj
  rw[hty,hge,Int.toNat_natCast,decide_eq_true (show(k:Int) ≥ 0 by omega),Bool.and_true]
  rfl
 cases hA2:(It.mk 0 k [] []::l).all ZB with
 | false=>rw[hA2]at hV;exact hF hV
 | true=>
 rw[hA2]at hV
 dsimp only at hV
 rcases Nat.eq_zero_or_pos k with rfl|hkp
 ·rw[show decide (((0:Nat):Int)>0)=false from rfl]at hV
  cases hr0:ZB (.mk 4 0 [] (.mk 0 0 [] []::l)) with
  | false=>rw[hr0]at hV;exact hF hV
  | true=>
   rw[hr0]at hV
   dsimp only at hV
   rw[hV]at hS
   exact H3 (Zh l) s r g hA hG h1 h2 e1 e2 e3 hU hN hS
 ·rw[decide_eq_true (show(k:Int)>0 by omega)]at hV
  have hk2:k=1\/k=2:=by omega
  cases hz:ZB (ZI k (.mk 0 k [] []::l)) with
  | false=>rw[hz]at hV;exact hF hV
  | true=>
  rw[hz]at hV
  cases ho:ZB (WD k (.mk 0 k [] []::l)) with
  | false=>rw[ho]at hV;exact hF hV
  | true=>
  have hW:=Ip (.mk 0 k [] []::l) 0 k hk2 hty (by omega) (by first|(simp;done)|(simp;omega)) hws (by first|(simp;done)|(simp;omega)) (hlim k hk2) hA2 hz ho
  have hsl:=Vt k (ZC (ZI k (.mk 0 k [] []::l))) hk2
  have hos:=fun b hb hne=>IF k hk2 l b hb hz ho hne
  generalize YP k (ZC (ZI k (.mk 0 k [] []::l)))=SB at *
  cases SB with
  | nil=>simp at hsl;omega
  | cons b0 bt=>
   have hb4:((b0 ^^^ (UInt8.ofNat r.toNat ||| 1))::bt).length<=4:=by simp at hsl ⊢;omega
   have hwx:wfI (.mk 4 0 [] ((.mk 0 k [] []::l)++[.mk 2 0 ((b0 ^^^ (UInt8.ofNat r.toNat ||| 1))::bt) []])):=⟨by decide,by simp,by simp;omega,Uh hws ⟨⟨by decide,by omega,by simp,trivial⟩,trivial⟩⟩
   have hO:=KB (It.mk 4 0 [] ((It.mk 0 k [] []::l)++[It.mk 2 0 ((b0 ^^^ (UInt8.ofNat r.toNat ||| 1))::bt) []])) 0 hwx (by simp[It.l];omega) (fun s m hsm=>hlim2 ((b0 ^^^ (UInt8.ofNat r.toNat ||| 1))::bt) s m hb4 hsm)
   ·rw[hos _ (by simpa using hsl) (fun e=>by injection e with e _;exact Hf b0 _ e.symm)]at hO
    refine H4 (Zh l) s r g k b0 bt (b0 ^^^ (UInt8.ofNat r.toNat ||| 1)) hk2 hA hG h1 h2 e1 e2 e3 (IntWalk.i64_in _ (by omega)) hU hsl ?_ hN hW ?_
    ·have hrn:r=((UInt8.ofNat r.toNat).toNat:Int):=by rw[UInt8.toNat_ofNat'];omega
     have h8:=u8_or_nat (UInt8.ofNat r.toNat).toNat 1 (UInt8.toNat_lt _) (by decide)
     have h9:=u8_xor_nat b0.toNat (UInt8.ofNat r.toNat ||| 1).toNat (UInt8.toNat_lt _) (UInt8.toNat_lt _)
     rw[UInt8.toNat_xor,<- h9,UInt8.toNat_or]
     conv=>lhs;rw[hrn]
     rw[show((1:Int))=((1:Nat):Int) from rfl,h8]
     rfl
    ·have e:itD (.mk 4 0 [] ((.mk 0 k [] []::l)++[.mk 2 0 ((b0 ^^^ (UInt8.ofNat r.toNat ||| 1))::bt) []]))=.agg [.int .i64 4,.int .u64 0,.sl .ext [],.sl .ext ((nmI k::Zh l)++[.agg [.int .i64 2,.int .u64 0,.sl (((b0 ^^^ (UInt8.ofNat r.toNat ||| 1))::bt).map E.byte),.sl []]])]:=by
      show D.agg [.int .i64 4,.int .u64 0,.sl .ext [],.sl .ext (Zh ((.mk 0 k [] []::l)++[.mk 2 0 ((b0 ^^^ (UInt8.ofNat r.toNat ||| 1))::bt) []]))]=_
      rw[YS]
      rfl
     rw[e]at hO
     exact hO
end Go.Proofs.YtchlgagdbflkmaaDoor
end
section
open Go.RowKit Go.Pl Go.Av
namespace Go.Proofs.YtchlgagdbflkmaaDoor
def H5 {α β:Type}(R:Rep α)(f:β->α):Rep β where
 n:=R.n
 ok:=fun w S cs x=>R.ok w S cs (f x)
 len:=R.len
 one:=R.one
 frame:=R.frame
 mono:=R.mono
 lt:=R.lt
def HL:Rep It where
 n:=4
 ok:=fun _ _ _ _=>False
 len:=fun h=>h.elim
 one:=fun h=>h.elim
 frame:=fun _ h=>h
 mono:=fun _ h=>h
 lt:=fun h=>h
def RI:Nat -> {R:Rep It // R.n=4}
 | 0=>⟨HL,rfl⟩
 | m+1=>⟨H5 (Rep.i64.prod (Rep.u64.prod ((Rep.slice Rep.byte (by decide)).prod (Rep.slice (RI m).1 (by rw[(RI m).2];decide))))) fun x=>(x.k,x.n,x.b,x.l),rfl⟩
theorem XF:∀ m:Nat,ToE (RI m).1 itE
 | 0=>⟨fun _ _ _ _ _ _ h=>h.elim⟩
 | m+1=>⟨fun w S C cs x hC h=>by
  have h0:=((ToE.i64.prod (ToE.u64.prod ((ToE.byte.slice (by decide)).prod ((XF m).slice (by rw[(RI m).2];decide))))).cells w S C cs (x.k,x.n,x.b,x.l) hC h)
  obtain⟨k,n,b,l⟩:=x
  have e:(itE (.mk k n b l)).cells=[.int .i64 k,.int .u64 (n:Int),.sl (b.map E.byte),.sl (l.map itE)]:=by rw[<- ZD];rfl
  rw[e]
  exact h0⟩
theorem JF {α:Type}{R:Rep α}{w:World}{S:Nat->Prop}:∀ {l:List α} {cs:List Value},Run R w S cs l->∀ x ∈ l,∃ cs',R.ok w S cs' x
 | [],_,_,x,hx=>nomatch hx
 | y::l,cs,h,x,hx=>by
  obtain⟨c1,c2,_,h1,h2⟩:=h
  rcases List.mem_cons.1 hx with rfl|hx
  ·exact⟨c1,h1⟩
  ·exact JF h2 x hx
theorem Ke:∀ {l:List It},(∀ x ∈ l,nI x)->nIs l
 | [],_=>trivial
 | x::l,h=>⟨h x (List.mem_cons_self ..),Ke fun y hy=>h y (List.mem_cons_of_mem _ hy)⟩
theorem KH:∀(m:Nat) {w:World} {S:Nat->Prop} {cs:List Value} {x:It},(RI m).1.ok w S cs x->nI x
 | 0,_,_,_,_,h=>h.elim
 | m+1,w,S,cs,x,h=>by
  obtain⟨k,n,b,l⟩:=x
  obtain⟨_,_,_,_,_,_,_,⟨_,hn⟩,_,_,_,_,v,_,A,cap,_,_,_,cs',hr,_⟩:=h
  exact⟨hn,Ke fun y hy=>let⟨c,hc⟩:=JF hr y hy;KH m hc⟩
variable {P:Program} {t:TypeId}
theorem Un {α:Type}{R:Rep α}{e:TypeId}(hR:0<R.n)(ht:P.underlying t=some (.slice e))(hc:P.cellsOf e=R.n){H:Type}{enc:TypeId × Value->H}{W:World}{spare:Nat->Bool}{held:Bool}{fuel:Nat}{cs:List Value}{y:DataW H × List MemPlace}
  (he:∀(f:Nat) (cs:List Value) (y:DataW H × List MemPlace),f<fuel->DataW.trod enc P W 0 spare held f e cs=some y->∃ x,R.ok W (· < W.heap.size) cs x) (h:DataW.trod enc P W 0 spare held fuel t cs=some y):∃ x,(Rep.slice R hR).ok W (· < W.heap.size) cs x:=by
 rcases DataW.trod_slice ht h with⟨rfl,_⟩ | ⟨a,len,cap,elems,rest,n,hn,rfl,_,_,hl,hm,hlen,hi,_,_⟩
 ·exact⟨[],_,rfl,Sl.nil _ _ _⟩
 ·rw[hc]at hi
  have key:∀ k,k<=len->∃(l:List α) (cs:List Value),l.length=k/\Run R W (· < W.heap.size) cs l/\∀ j,j<cs.length->W.cell? (a.add j)=cs[j]? := by
   intro k
   induction k with
   | zero=>intro _;exact⟨[],[],rfl,rfl,fun j hj=>by simp at hj⟩
   | succ k ih=>
    intro hk
    obtain⟨l,cs,hll,hr,hcc⟩:=ih (by omega)
    have hik:=hi k (by omega)
    rw[List.getElem?_eq_getElem (by omega)]at hik
    obtain⟨cs',hcs',ht'⟩:=Option.bind_eq_some_iff.1 hik
    obtain⟨x,hx⟩:=he n cs' _ (by omega) ht'
    obtain⟨_,hcl,hat⟩:=World.cells?_some hcs'
    refine⟨l++[x],cs++cs',by simp[hll],hr.append (Run.single hx),fun j hj=>?_⟩
    have hlen:=hr.length
    rw[hll]at hlen
    rcases Nat.lt_or_ge j cs.length with h1|h1
    ·rw[List.getElem?_append_left h1];exact hcc j h1
    ·rw[List.getElem?_append_right h1]
     have h2:j-cs.length<R.n:=by rw[List.length_append,hcl]at hj;omega
     have:=hat (j-cs.length) h2
     rw[Go.Deep.add_add]at this
     rw[<- this]
     congr 2
     omega
  obtain⟨l,cs,hll,hr,hcc⟩:=key len (Nat.le_refl _)
  subst hll
  refine⟨l,_,rfl,some a,cap,rfl,hl,hm,cs,hr,fun hne=>?_⟩
  have hlen:=hr.length
  have hpos:0<cs.length:=by rw[hlen];exact Nat.mul_pos (List.length_pos_iff.2 hne) hR
  obtain⟨b,off,spot⟩:=a
  have h0:=(hcc 0 hpos).trans (List.getElem?_eq_getElem hpos)
  have hspot:spot=none:=by simpa[Addr.add]using World.cell?_spot h0
  subst hspot
  refine⟨b,off,rfl,World.block_lt_of_cell? W _ (by simpa[Addr.add]using h0),fun j hj=>?_⟩
  rw[<- hcc j hj]
  congr 1
  unfold Addr.add;split<;>simp_all
theorem Kf {fs:Array Field}{f0 f1 f2 f3:Field}(hs:P.underlying t=some (.struct fs))(hfs:fs = #[f0,f1,f2,f3])(hc:P.cellsOf t=4)
  (h00:f0.offset=0) (h01:f1.offset=1) (h02:f2.offset=2) (h03:f3.offset=3) (hc0:P.cellsOf f0.type=1) (hc1:P.cellsOf f1.type=1) (hc2:P.cellsOf f2.type=1) (hc3:P.cellsOf f3.type=1)
  (h0:UK P f0.type Rep.i64) (h1:UK P f1.type Rep.u64) (h2:UK P f2.type (Rep.slice Rep.byte (by decide))) (h3:P.underlying f3.type=some (.slice t))
  {H:Type} {enc:TypeId × Value->H} {W:World} {spare:Nat->Bool} {held:Bool}:∀(fuel:Nat) (cs:List Value) (y:DataW H × List MemPlace),DataW.trod enc P W 0 spare held fuel t cs=some y->∀ j,fuel<=j->∃ x,(RI j).1.ok W (· < W.heap.size) cs x:=by
 intro fuel
 induction fuel using Nat.strongRecOn with
 | _ fuel ih=>
  intro cs y h j hj
  obtain⟨xs,n,hn,_,hl,hxl,hg⟩:=DataW.trod_struct hs h
  subst hfs
  obtain⟨j,rfl⟩:∃ i,j=i+1:=⟨j-1,by omega⟩
  have e0:=hg 0 f0 rfl
  have e1:=hg 1 f1 rfl
  have e2:=hg 2 f2 rfl
  have e3:=hg 3 f3 rfl
  rw[hc]at hl
  match cs,hl with
  | [v0,v1,v2,v3],_=>
  rw[h00,hc0]at e0
  rw[h01,hc1]at e1
  rw[h02,hc2]at e2
  rw[h03,hc3]at e3
  have hn4:xs.length=4:=hxl
  obtain⟨k,hk⟩:=h0 H enc W spare held n _ _ (e0.trans (List.getElem?_eq_getElem (by omega)))
  obtain⟨m,hm⟩:=h1 H enc W spare held n _ _ (e1.trans (List.getElem?_eq_getElem (by omega)))
  obtain⟨b,hb⟩:=h2 H enc W spare held n _ _ (e2.trans (List.getElem?_eq_getElem (by omega)))
  obtain⟨l,hll⟩:=Un (R:=(RI j).1) (by rw[(RI j).2];decide) h3 (by rw[hc,(RI j).2]) (fun f cs y hf hy=>ih f (by omega) cs y hy j (by omega)) (e3.trans (List.getElem?_eq_getElem (by omega)))
  exact⟨.mk k m b l,[v0],[v1,v2,v3],rfl,hk,[v1],[v2,v3],rfl,hm,[v2],[v3],rfl,hb,hll⟩
end Go.Proofs.YtchlgagdbflkmaaDoor
end
section
open Go.RowKit Go.Pl Go.Av
namespace Go.Proofs.YtchlgagdbflkmaaDoor
set_option maxHeartbeats 4000000
end Go.Proofs.YtchlgagdbflkmaaDoor
end
section
open Go.RowKit Go.Pl Go.Av Go.Lib
namespace Go.Proofs.YtchlgagdbflkmaaDoor
theorem UI (k:IntKind):∀ zs:List Int,UW (zs.map fun z=>.lit (.int k z))=zs.map fun z=>Value.int k z
 | []=>rfl
 | z::zs=>by rw[List.map_cons,List.map_cons,UW,UI k zs];rfl
theorem XG {P:Program}{W:World}{n:String}{g:Nat}{t:TypeId}{d:DataW Unit}(hg:P.globalNamed n=some g)(ht:(P.globals[g]?).map (·.type)=some t)(h:VarReads P W n d)
  (key:∀(fuel:Nat) (cs:List Value) (p:List MemPlace),DataW.trod (fun _=>()) P W 0 (fun _=>true) false fuel t cs=some (d,p)->∀(j:Nat) (v:Value),(dcs d)[j]?=some v->cs[j]?=some v) :
  ∀(j:Nat) (v:Value),(dcs d)[j]?=some v->(g0 W).C g j/\W.cell? ⟨g,j,none⟩=some v:=by
 obtain⟨g',t',cs,fuel,p,h1,h2,h3,h4⟩:=h
 obtain rfl:=Option.some.inj (hg.symm.trans h1)
 obtain rfl:=Option.some.inj (ht.symm.trans h2)
 intro j v hv
 have hc:=key fuel cs.toList p h4 j v hv
 have hcell:W.cell? ⟨g,j,none⟩=some v:=by
  rw[World.var?_cell hg h3 j,<- Array.getElem?_toList];exact hc
 exact⟨World.block_lt_of_cell? W _ hcell,hcell⟩
theorem Gw {P:Program}{W:World}{t e:TypeId}{n:Nat}{k:IntKind}{d:DataW Unit}(zs:List Int)(hd:d=tabData k zs)(ht:P.underlying t=some (.array n e))(he:P.underlying e=some (.int k))(hce:P.cellsOf e=1)(hct:P.cellsOf t=n) :
  ∀(fuel:Nat) (cs:List Value) (p:List MemPlace),DataW.trod (fun _=>()) P W 0 (fun _=>true) false fuel t cs=some (d,p)->∀(j:Nat) (v:Value),(dcs d)[j]?=some v->cs[j]?=some v:=by
 subst hd
 intro fuel cs p h j v hv
 rw[cells_of_tab ht he hce hct h]
 rw[tabData,dcs,UI]at hv
 exact hv
theorem Gx {P:Program}{W:World}{t e:TypeId}{n:Nat}{k:IntKind}{d:DataW Unit}{fs:Array Field}(rows:List (List Int))(hd:d=.agg (rows.map fun r=>.agg (r.map fun z=>.lit (.int k z))))(hn:rows.length=n)(ht:P.underlying t=some (.array n e))(he:P.underlying e=some (.struct fs))
  (hf:∀(i:Nat) (f:Field),fs[i]?=some f->P.underlying f.type=some (.int k)/\f.offset=i/\P.cellsOf f.type=1) (hce:P.cellsOf e=fs.size) :
  ∀(fuel:Nat) (cs:List Value) (p:List MemPlace),DataW.trod (fun _=>()) P W 0 (fun _=>true) false fuel t cs=some (d,p)->∀(j:Nat) (v:Value),(dcs d)[j]?=some v->cs[j]?=some v:=by
 subst hd
 intro fuel cs p h j v hv
 have key:∀ i,i<=n->cs.take (i*fs.size)=UW ((rows.take i).map fun r=>.agg (r.map fun z=>.lit (.int k z))):=by
  intro i
  induction i with
  | zero=>intro _;rw[Nat.zero_mul,List.take_zero,List.take_zero];rfl
  | succ i ih=>
   intro hi
   obtain⟨fuel',d',q,hdi,he'⟩:=array_elem ht h i (by omega)
   rw[List.getElem?_map,List.getElem?_eq_getElem (by omega:i<rows.length)]at hdi
   simp only[Option.map_some,Option.some.injEq]at hdi
   subst hdi
   rw[hce]at he'
   have hcs:=ints_of_struct he hf hce he'
   rw[Nat.succ_mul,List.take_add,ih (by omega),hcs,List.take_succ_eq_append_getElem (by omega:i<rows.length),List.map_append]
   have app:∀(a b:List (DataW Unit)),UW (a++b)=UW a++UW b:=fun a b=>by
    induction a with
    | nil=>rfl
    | cons x a ih=>rw[List.cons_append,UW,UW,ih,List.append_assoc]
   rw[app,List.map_cons,List.map_nil,UW,dcs,UI]
   simp[UW]
 have h2:=key n (Nat.le_refl _)
 rw[<- hn,List.take_length]at h2
 rw[dcs,<- h2]at hv
 rw[List.getElem?_take]at hv
 split at hv
 ·exact hv
 ·cases hv
abbrev Vb:Known:=⟨[0,1]⟩
theorem Kg : @KnownU8 Vb:=@KnownU8.mk Vb (List.mem_cons_self ..) (List.mem_cons_of_mem _ (List.mem_cons_self ..))
def Hg:List Int:=Pinned.utf8FirstZ.map Int.ofNat
def Gy:List (List Int):=[[128,191],[160,191],[128,159],[144,191],[128,143],[0,0],[0,0],[0,0],[0,0],[0,0],[0,0],[0,0],[0,0],[0,0],[0,0],[0,0]]
theorem Hh {W:World}{laid:List (String × DataW Unit)}(h1:("unicode/utf8.first",Rows.laid_unicode_utf8_first) ∈ laid)(h2:("unicode/utf8.acceptRanges",Rows.laid_unicode_utf8_acceptRanges) ∈ laid)(h:laidMet Tryd.prog laid W) : @Gls Vb (g0 W).C W:=by
 have r1:=laidMet.reads h h1
 have r2:=laidMet.reads h h2
 have c1:=XG (P:=Tryd.prog) (g:=0) (t:=95) (by kernel_rfl) (by kernel_rfl) r1 (Gw Hg (by kernel_rfl) (n:=256) (by kernel_rfl) Tryd.underlying5 (by kernel_rfl) (by kernel_rfl))
 have c2:=XG (P:=Tryd.prog) (g:=1) (t:=98) (by kernel_rfl) (by kernel_rfl) r2 (Gx Gy (by kernel_rfl) (n:=16) rfl Tryd.underlying98 Tryd.underlying97 (fun i f hf=>by
  match i,hf with
  | 0,hf=>simp at hf;subst hf;exact⟨Tryd.underlying5,rfl,by kernel_rfl⟩
  | 1,hf=>simp at hf;subst hf;exact⟨Tryd.underlying5,rfl,by kernel_rfl⟩
  | i+2,hf=>simp at hf) (by kernel_rfl))
 refine⟨fun k cs hk=>?_,fun k t hk=>?_⟩
 ·obtain⟨hk,hm⟩:=hk
  simp only[JJ,List.mem_cons,List.not_mem_nil,or_false,Prod.mk.injEq]at hm
  have hk:k ∈ [0,1]:=hk
  simp only[List.mem_cons,List.not_mem_nil,or_false]at hk
  clear r1 r2 h1 h2 h
  rcases hk with rfl|rfl
  all_goals repeat'(refine Or.elim hm (fun hm=>?_) (fun hm=>?_))
  all_goals first
   | (obtain⟨h,rfl⟩:=hm;exact c1)
   | (obtain⟨h,rfl⟩:=hm;exact c2)
   | (obtain⟨h,_⟩:=hm;exact absurd h (by decide))
 ·obtain⟨hk,hm⟩:=hk
  have hk:k ∈ [0,1]:=hk
  simp only[List.mem_cons,List.not_mem_nil,or_false]at hk
  simp only[Hj,List.mem_cons,List.not_mem_nil,or_false,Prod.mk.injEq]at hm
  all_goals omega
end Go.Proofs.YtchlgagdbflkmaaDoor
end
section
open Go.RowKit Go.Pl Go.Av
namespace Go.Proofs.YtchlgagdbflkmaaDoor
theorem Gz {W:World}{v:Value}{l:List It}{m:Nat}(hs:Sl (RI m).1 W (· < W.heap.size) v l):nIs l:=by
 obtain⟨A,cap,_,_,_,cs,hr,_⟩:=hs
 exact Ke fun y hy=>let⟨c,hc⟩:=JF hr y hy;KH m hc
theorem HM [Known]{W:World}{v:Value}{l:List It}{m:Nat}(hs:Sl (RI m).1 W (· < W.heap.size) v l):V W (g0 W) [] (.sl .ext (Zh l)) v:=by
 have h:=V.ofE (w:=W) (g:=g0 W) (fr:=[]) (e:=.sl (l.map itE)) ((XF m).sl (C:=(g0 W).C) (fun k hk o=>hk) hs)
 rw[ZD]
 exact h
theorem UJ (v0:Value)(b1 b2:UInt8)(x0:List It)(W:World)(h0:∃ m,Sl (RI m).1 W (· < W.heap.size) v0 x0)(hl:laidMet Tryd.prog Rows.primarySumsRow.laid W) :
  Calls Tryd.prog 3 #[v0,.int .u8 (b1.toNat:Int),.int .u8 (b2.toNat:Int)] W fun e w'=>e=.returned (.bool true)/\Below W.heap.size W w':=by
 have hg:=Hh (laid:=Rows.primarySumsRow.laid) (by unfold Rows.primarySumsRow;repeat (first|exact List.mem_cons_self .. | apply List.mem_cons_of_mem)) (by unfold Rows.primarySumsRow;repeat (first|exact List.mem_cons_self .. | apply List.mem_cons_of_mem)) hl
 have l1:=UInt8.toNat_lt b1
 have l2:=UInt8.toNat_lt b2
 have h:=@QN Vb Kg x0 (b1.toNat:Int) (b2.toNat:Int) (by omega) (by omega) (Gz h0.choose_spec)
 refine @HP Vb Tryd.prog 3 _ (@AC.mono Vb _ _ _ _ _ _ _ h fun r b t h=>h.1) W [v0,.int .u8 (b1.toNat:Int),.int .u8 (b2.toNat:Int)] hg rfl ?_
 intro j d v hd hv
 match j,hd,hv with
 | 0,hd,hv=>cases hd;cases hv;exact @HM Vb _ _ _ _ h0.choose_spec
 | 1,hd,hv=>cases hd;cases hv;exact .int _ _
 | 2,hd,hv=>cases hd;cases hv;exact .int _ _
 | j+3,hd,hv=>cases hd
end Go.Proofs.YtchlgagdbflkmaaDoor
end

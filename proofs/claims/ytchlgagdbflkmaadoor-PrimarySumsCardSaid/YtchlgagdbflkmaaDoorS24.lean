/- Package eid: an item's name. -/
import Derived.Test.YtchlgagdbflkmaaDoorS22
import Derived.Test.YtchlgagdbflkmaaDoorS23
import Derived.Test.YtchlgagdbflkmaaDoorS16
import Derived.Test.YtchlgagdbflkmaaDoorS10
import Derived.Test.YtchlgagdbflkmaaDoorS12
import Derived.Test.YtchlgagdbflkmaaDoorS18
set_option linter.unusedVariables false
set_option linter.unusedSimpArgs false
section
open Go.RowKit Go.Pl Go.Av
namespace Go.Proofs.YtchlgagdbflkmaaDoor
set_option maxHeartbeats 4000000
def UE (s r:It):EidV × Bool:=
 match WH 1 s with
 | true=>(match WH 0 r with
  | true=>(YJ,true)
  | false=>(match r.k==3 with
   | true=>ppV r.b
   | false=>(YJ,false)))
 | false=>(match WH 2 s with
  | true=>(match UU r with
   | some (a,c)=>(⟨true,a,c,[],[]⟩,Ye ⟨true,a,c,[],[]⟩)
   | none=>(YJ,false))
  | false=>(YJ,false))
def YA (x:It):EidV × Bool:=match ZB x,x with
 | true,.mk k _ _ [s,r]=>if k=4 then UE s r else(YJ,false)
 | _,_=>(YJ,false)
abbrev Oh (x:EidV × Bool):D:=.tup [.agg (eC (match x.2 with|true=>x.1|false=>YJ)),.int .i64 (match x.2 with|true=>0|false=>3)]
theorem QC [Known][KnownU8](x:It)(hw:wfI x)(h:ZB x=false\/x.k ≠ 4\/x.l.length ≠ 2):AP Tryd.prog 24 [itD x] (Oh (YJ,false)) []:=by
 have hR:=YF x hw
 show AP Tryd.prog _ _ (.tup [.agg [.bool false,.int .u64 0,.int .u64 0,.str [],.str []],.int .i64 3]) []
 cases hr:ZB x with
 | false=>
  rw[hr]at hR
  obtain⟨k,n,b,l⟩:=x
  refine AP.ofA (Zm Tryd.func24 Z Tryd.ntmps24 Z Z ?_)
  repeat'(first|refine Zb hR Qk Z Z Z Z ?_|refine Zj Za Z ?_|refine Zg Za Z ?_|refine Zv Za Z ?_|refine Zw Z Z Z Qt ?_|refine Zp Z Qt Z Z ?_|refine Zd Z Qt ?_)
  all_goals exact Qe
 | true=>
  rw[hr]at hR h
  obtain⟨k,n,b,l⟩:=x
  simp only[It.k,It.l]at h
  by_cases hk:k=4
  ·have t1:(k != 4)=false:=by simpa using hk
   have hl:l.length ≠ 2:=by
    rcases h with h|h|h
    ·cases h
    ·exact absurd hk h
    ·exact h
   have t2:(((Zh l).length:Int) != 2)=true:=by rw[Zl];simp;omega
   refine AP.ofA (Zm Tryd.func24 Z Tryd.ntmps24 Z Z ?_)
   repeat'(first|refine Zb hR Qk Z Z Z Z ?_|refine Zj Za Z ?_|refine Zg Za Z ?_|refine Zv Za Z ?_|refine Zi Z Z Z Qt ?_|refine Zk Z Qt Z Z ?_|refine Zd Z Qt ?_|refine Zn Za Z Z Z Z ?_)
   all_goals exact Qe
  ·have t1:(k != 4)=true:=by simpa using hk
   refine AP.ofA (Zm Tryd.func24 Z Tryd.ntmps24 Z Z ?_)
   repeat'(first|refine Zb hR Qk Z Z Z Z ?_|refine Zj Za Z ?_|refine Zg Za Z ?_|refine Zv Za Z ?_|refine Zi Z Z Z Qt ?_|refine Zw Z Z Z Qt ?_|refine Zp Z Qt Z Z ?_|refine Zk Z Qt Z Z ?_|refine Zd Z Qt ?_)
   all_goals exact Qe
theorem Hb [Known][KnownU8](n:Nat)(b:List UInt8)(s r:It)(hw:wfI (.mk 4 n b [s,r]))(hr:ZB (.mk 4 n b [s,r])=true)(h1:WH 1 s=true):AP Tryd.prog 24 [itD (.mk 4 n b [s,r])] (Oh (UE s r)) []:=by
 have hR:=YF _ hw
 rw[hr]at hR
 obtain⟨_,_,_,hws,hwr,_⟩:=hw
 have e1:s=.mk 0 1 [] []:=It.beq_iff.1 h1
 have hS1:=WB s hws 1 (by omega)
 have hS2:=WB s hws 2 (by omega)
 have hR0:=WB r hwr 0 (by omega)
 have n0:=W9 0
 have n1:=W9 1
 have n2:=W9 2
 replace n0:AP Tryd.prog _ [.int .u64 0] (.agg [.int .i64 0,.int .u64 0,.sl .ext [],.sl .ext []]) []:=n0
 replace n1:AP Tryd.prog _ [.int .u64 1] (.agg [.int .i64 0,.int .u64 1,.sl .ext [],.sl .ext []]) []:=n1
 replace n2:AP Tryd.prog _ [.int .u64 2] (.agg [.int .i64 0,.int .u64 2,.sl .ext [],.sl .ext []]) []:=n2
 have h2:WH 2 s=false:=by rw[e1];rfl
 rw[h1]at hS1
 rw[h2]at hS2
 have hU:=Yb [s,r]
 unfold UE
 rw[h1]
 dsimp only
 have hbl:r.b.length<=140737488351232:=by obtain⟨kr,nr,br,lr⟩:=r;exact hwr.2.1
 have hP:=HA r.b hbl
 obtain⟨ks,ns,bs,ls⟩:=s
 obtain⟨kr,nr,br,lr⟩:=r
 simp only[It.b,It.k]at hP ⊢
 have t2:(((Zh [It.mk ks ns bs ls,It.mk kr nr br lr]).length:Int) != 2)=false:=rfl
 cases h0:WH 0 (.mk kr nr br lr) with
 | true=>
  rw[h0]at hR0
  show AP Tryd.prog _ _ (.tup [.agg [.bool false,.int .u64 0,.int .u64 0,.str [],.str []],.int .i64 0]) []
  refine AP.ofA (Zm Tryd.func24 Z Tryd.ntmps24 Z Z ?_)
  repeat'(first|(apply WU 11 Za ZG;decide +kernel;kernel_rfl;kernel_rfl;kernel_rfl;exact Z;exact Z)|exact AV.nil _ _|(apply Jk;exact Z;exact Z)|(apply Jl;(iterate 4 exact Z))|(apply Jj;(iterate 4 exact Z))|refine UD Z Z Z Z ?_|refine Zb hR Qk Z Z Z Z ?_|refine Zb hS1 Qk Z Z Z Z ?_|refine Zb hR0 Qk Z Z Z Z ?_|refine Zb n0 Qk Z Z Z Z ?_|refine Zb n1 Qk Z Z Z Z ?_|refine Zj Za Z ?_|refine Zg Za Z ?_|refine Zv Za Z ?_|refine Zi Z Z Z Qt ?_|refine Zp Z Qt Z Z ?_|refine Zk Z Qt Z Z ?_|refine Zd Z Qt ?_|refine Ze Z Qt ?_|refine Zn Za Z Z Z Z ?_|(apply Zo 6 ZG;decide +kernel;kernel_rfl;kernel_rfl;kernel_rfl;exact Z;exact Z)|(apply Zr;(iterate 4 exact Z))|exact AE.nil _ _ _ _|(apply Zt;exact Z)|(apply Zx;exact Z;exact Z;decide +kernel;exact Z)|(apply Zz;exact Z)|exact AO.nil _ _ _|(apply Zq;(decide +kernel))|exact AOs.nil|exact ZM rfl rfl|(apply Zs Za;(iterate 6 exact Z);(first|exact Qt|rotate_left);(first|with_reducible assumption|decide +kernel|exact Z);(first|exact Zf rfl|with_reducible assumption|decide +kernel|rotate_left)))
  all_goals exact Qe
 | false=>
  rw[h0]at hR0
  generalize ppV br=xp at *
  obtain⟨⟨qi,qn,qs,qh,qd⟩,qb⟩:=xp
  replace hP:AP Tryd.prog _ [.str br] (.tup [.agg [.bool qi,.int .u64 (qn:Int),.int .u64 (qs:Int),.str qh,.str qd],.bool qb]) []:=hP
  cases hk:kr==3 with
  | true=>
   cases qb
   all_goals
    refine AP.ofA (Zm Tryd.func24 Z Tryd.ntmps24 Z Z ?_)
    repeat'(first|(apply WU 11 Za ZG;decide +kernel;kernel_rfl;kernel_rfl;kernel_rfl;exact Z;exact Z)|exact AV.nil _ _|(apply Jk;exact Z;exact Z)|(apply Jl;(iterate 4 exact Z))|(apply Jj;(iterate 4 exact Z))|refine UD Z Z Z Z ?_|refine Zb hR Qk Z Z Z Z ?_|refine Zb hS1 Qk Z Z Z Z ?_|refine Zb hR0 Qk Z Z Z Z ?_|refine Zb n0 Qk Z Z Z Z ?_|refine Zb n1 Qk Z Z Z Z ?_|refine Zb hP Qk Z Z Z Z ?_|refine Zj Za Z ?_|refine Zg Za Z ?_|refine Zv Za Z ?_|refine Zi Z Z Z Qt ?_|refine Zp Z Qt Z Z ?_|refine Zk Z Qt Z Z ?_|refine Zd Z Qt ?_|refine Ze Z Qt ?_|refine Zn Za Z Z Z Z ?_|(apply Zo 2 ZG;decide +kernel;kernel_rfl;kernel_rfl;kernel_rfl;exact Z;exact Z)|(apply Zo 6 ZG;decide +kernel;kernel_rfl;kernel_rfl;kernel_rfl;exact Z;exact Z)|(apply Zr;(iterate 4 exact Z))|exact AE.nil _ _ _ _|(apply Zt;exact Z)|(apply Zx;exact Z;exact Z;decide +kernel;exact Z)|(apply Zz;exact Z)|exact AO.nil _ _ _|(apply Zq;(decide +kernel))|exact AOs.nil|exact ZM rfl rfl|(apply Zs Za;(iterate 6 exact Z);(first|exact Qt|rotate_left);(first|with_reducible assumption|decide +kernel|exact Z);(first|exact Zf rfl|with_reducible assumption|decide +kernel|rotate_left))|refine OI Za Z Z Z Z Z Z Z Z Z ?_)
    all_goals exact Qe
  | false=>
   refine AP.ofA (Zm Tryd.func24 Z Tryd.ntmps24 Z Z ?_)
   repeat'(first|(apply WU 11 Za ZG;decide +kernel;kernel_rfl;kernel_rfl;kernel_rfl;exact Z;exact Z)|exact AV.nil _ _|(apply Jk;exact Z;exact Z)|(apply Jl;(iterate 4 exact Z))|(apply Jj;(iterate 4 exact Z))|refine UD Z Z Z Z ?_|refine Zb hR Qk Z Z Z Z ?_|refine Zb hS1 Qk Z Z Z Z ?_|refine Zb hS2 Qk Z Z Z Z ?_|refine Zb hR0 Qk Z Z Z Z ?_|refine Zb n0 Qk Z Z Z Z ?_|refine Zb n1 Qk Z Z Z Z ?_|refine Zb n2 Qk Z Z Z Z ?_|refine Zj Za Z ?_|refine Zg Za Z ?_|refine Zv Za Z ?_|refine Zi Z Z Z Qt ?_|refine Zp Z Qt Z Z ?_|refine Zk Z Qt Z Z ?_|refine Zd Z Qt ?_|refine Ze Z Qt ?_|refine Zn Za Z Z Z Z ?_|(apply Zo 2 ZG;decide +kernel;kernel_rfl;kernel_rfl;kernel_rfl;exact Z;exact Z)|(apply Zo 6 ZG;decide +kernel;kernel_rfl;kernel_rfl;kernel_rfl;exact Z;exact Z)|(apply Zr;(iterate 4 exact Z))|exact AE.nil _ _ _ _|(apply Zt;exact Z)|(apply Zx;exact Z;exact Z;decide +kernel;exact Z)|(apply Zz;exact Z)|exact AO.nil _ _ _|(apply Zq;(decide +kernel))|exact AOs.nil|exact ZM rfl rfl|(apply Zs Za;(iterate 6 exact Z);(first|exact Qt|rotate_left);(first|with_reducible assumption|decide +kernel|exact Z);(first|exact Zf rfl|with_reducible assumption|decide +kernel|rotate_left)))
   all_goals exact Qe
theorem Hc [Known][KnownU8](n:Nat)(b:List UInt8)(s r:It)(hw:wfI (.mk 4 n b [s,r]))(hr:ZB (.mk 4 n b [s,r])=true)(h1:WH 1 s=false):AP Tryd.prog 24 [itD (.mk 4 n b [s,r])] (Oh (UE s r)) []:=by
 have hR:=YF _ hw
 rw[hr]at hR
 obtain⟨_,_,_,hws,hwr,_⟩:=hw
 have hS1:=WB s hws 1 (by omega)
 have hS2:=WB s hws 2 (by omega)
 have hN:=Gp r hwr
 have n1:=W9 1
 have n2:=W9 2
 replace n1:AP Tryd.prog _ [.int .u64 1] (.agg [.int .i64 0,.int .u64 1,.sl .ext [],.sl .ext []]) []:=n1
 replace n2:AP Tryd.prog _ [.int .u64 2] (.agg [.int .i64 0,.int .u64 2,.sl .ext [],.sl .ext []]) []:=n2
 rw[h1]at hS1
 have hU:=Yb [s,r]
 unfold UE
 rw[h1]
 dsimp only
 obtain⟨ks,ns,bs,ls⟩:=s
 obtain⟨kr,nr,br,lr⟩:=r
 have t2:(((Zh [It.mk ks ns bs ls,It.mk kr nr br lr]).length:Int) != 2)=false:=rfl
 cases h2:WH 2 (.mk ks ns bs ls) with
 | false=>
  rw[h2]at hS2
  show AP Tryd.prog _ _ (.tup [.agg [.bool false,.int .u64 0,.int .u64 0,.str [],.str []],.int .i64 3]) []
  refine AP.ofA (Zm Tryd.func24 Z Tryd.ntmps24 Z Z ?_)
  repeat'(first|(apply WU 11 Za ZG;decide +kernel;kernel_rfl;kernel_rfl;kernel_rfl;exact Z;exact Z)|exact AV.nil _ _|(apply Jk;exact Z;exact Z)|(apply Jl;(iterate 4 exact Z))|(apply Jj;(iterate 4 exact Z))|refine UD Z Z Z Z ?_|refine Zb hR Qk Z Z Z Z ?_|refine Zb hS1 Qk Z Z Z Z ?_|refine Zb hS2 Qk Z Z Z Z ?_|refine Zb n1 Qk Z Z Z Z ?_|refine Zb n2 Qk Z Z Z Z ?_|refine Zj Za Z ?_|refine Zg Za Z ?_|refine Zv Za Z ?_|refine Zi Z Z Z Qt ?_|refine ZE Z Z Z Qt ?_|refine Zk Z Qt Z Z ?_|refine Zd Z Qt ?_|refine Ze Z Qt ?_|refine Zn Za Z Z Z Z ?_|(apply Zo 2 ZG;decide +kernel;kernel_rfl;kernel_rfl;kernel_rfl;exact Z;exact Z)|(apply Zo 6 ZG;decide +kernel;kernel_rfl;kernel_rfl;kernel_rfl;exact Z;exact Z)|(apply Zr;(iterate 4 exact Z))|exact AE.nil _ _ _ _|(apply Zt;exact Z)|(apply Zx;exact Z;exact Z;decide +kernel;exact Z)|(apply Zz;exact Z)|exact AO.nil _ _ _|(apply Zq;(decide +kernel))|exact AOs.nil|exact ZM rfl rfl|(apply Zs Za;(iterate 6 exact Z);(first|exact Qt|rotate_left);(first|with_reducible assumption|decide +kernel|exact Z);(first|exact Zf rfl|with_reducible assumption|decide +kernel|rotate_left)))
  all_goals exact Qe
 | true=>
  rw[h2]at hS2
  dsimp only
  cases hq:UU (.mk kr nr br lr) with
  | none=>
   rw[hq]at hN
   replace hN:AP Tryd.prog _ _ (.tup [.sl .ext [],.bool false]) []:=hN
   show AP Tryd.prog _ _ (.tup [.agg [.bool false,.int .u64 0,.int .u64 0,.str [],.str []],.int .i64 3]) []
   refine AP.ofA (Zm Tryd.func24 Z Tryd.ntmps24 Z Z ?_)
   repeat'(first|(apply WU 11 Za ZG;decide +kernel;kernel_rfl;kernel_rfl;kernel_rfl;exact Z;exact Z)|exact AV.nil _ _|(apply Jk;exact Z;exact Z)|(apply Jl;(iterate 4 exact Z))|(apply Jj;(iterate 4 exact Z))|refine UD Z Z Z Z ?_|refine Zb hR Qk Z Z Z Z ?_|refine Zb hS1 Qk Z Z Z Z ?_|refine Zb hS2 Qk Z Z Z Z ?_|refine Zb n1 Qk Z Z Z Z ?_|refine Zb n2 Qk Z Z Z Z ?_|refine Zb hN Qk Z Z Z Z ?_|refine Zj Za Z ?_|refine Zg Za Z ?_|refine Zv Za Z ?_|refine Zi Z Z Z Qt ?_|refine ZE Z Z Z Qt ?_|refine Zk Z Qt Z Z ?_|refine Zd Z Qt ?_|refine Ze Z Qt ?_|refine Zn Za Z Z Z Z ?_|(apply Zo 2 ZG;decide +kernel;kernel_rfl;kernel_rfl;kernel_rfl;exact Z;exact Z)|(apply Zo 6 ZG;decide +kernel;kernel_rfl;kernel_rfl;kernel_rfl;exact Z;exact Z)|(apply Zr;(iterate 4 exact Z))|exact AE.nil _ _ _ _|(apply Zt;exact Z)|(apply Zx;exact Z;exact Z;decide +kernel;exact Z)|(apply Zz;exact Z)|exact AO.nil _ _ _|(apply Zq;(decide +kernel))|exact AOs.nil|exact ZM rfl rfl|(apply Zs Za;(iterate 6 exact Z);(first|exact Qt|rotate_left);(first|with_reducible assumption|decide +kernel|exact Z);(first|exact Zf rfl|with_reducible assumption|decide +kernel|rotate_left)))
   all_goals exact Qe
  | some ac=>
   obtain⟨a,c⟩:=ac
   rw[hq]at hN
   replace hN:AP Tryd.prog _ _ (.tup [.sl .ext [.int .u64 (a:Int),.int .u64 (c:Int)],.bool true]) []:=hN
   have hE:=Wu ⟨true,a,c,[],[]⟩
   dsimp only
   generalize Ye ⟨true,a,c,[],[]⟩=R at *
   replace hE:AP Tryd.prog _ [.agg [.bool true,.int .u64 (a:Int),.int .u64 (c:Int),.str [],.str []]] (.bool R) []:=hE
   cases R
   all_goals
    refine AP.ofA (Zm Tryd.func24 Z Tryd.ntmps24 Z Z ?_)
    repeat'(first|(apply WU 11 Za ZG;decide +kernel;kernel_rfl;kernel_rfl;kernel_rfl;exact Z;exact Z)|exact AV.nil _ _|(apply Jk;exact Z;exact Z)|(apply Jl;(iterate 4 exact Z))|(apply Jj;(iterate 4 exact Z))|refine UD Z Z Z Z ?_|refine Zb hR Qk Z Z Z Z ?_|refine Zb hS1 Qk Z Z Z Z ?_|refine Zb hS2 Qk Z Z Z Z ?_|refine Zb n1 Qk Z Z Z Z ?_|refine Zb n2 Qk Z Z Z Z ?_|refine Zb hN Qk Z Z Z Z ?_|refine Zb hE Qk Z Z Z Z ?_|refine Zj Za Z ?_|refine Zg Za Z ?_|refine Zv Za Z ?_|refine Zi Z Z Z Qt ?_|refine ZE Z Z Z Qt ?_|refine Zk Z Qt Z Z ?_|refine Zd Z Qt ?_|refine Ze Z Qt ?_|refine Zn Za Z Z Z Z ?_|(apply Zo 2 ZG;decide +kernel;kernel_rfl;kernel_rfl;kernel_rfl;exact Z;exact Z)|(apply Zo 6 ZG;decide +kernel;kernel_rfl;kernel_rfl;kernel_rfl;exact Z;exact Z)|(apply Zr;(iterate 4 exact Z))|exact AE.nil _ _ _ _|(apply Zt;exact Z)|(apply Zx;exact Z;exact Z;decide +kernel;exact Z)|(apply Zz;exact Z)|exact AO.nil _ _ _|(apply Zq;(decide +kernel))|exact AOs.nil|exact ZM rfl rfl|(apply Zs Za;(iterate 6 exact Z);(first|exact Qt|rotate_left);(first|with_reducible assumption|decide +kernel|exact Z);(first|exact Zf rfl|with_reducible assumption|decide +kernel|rotate_left)))
    all_goals exact Qe
theorem QD [Known][KnownU8](x:It)(hw:wfI x):AP Tryd.prog 24 [itD x] (Oh (YA x)) []:=by
 cases hr:ZB x with
 | false=>
  have e:YA x=(YJ,false):=by unfold YA;rw[hr]
  rw[e]
  exact QC x hw (.inl hr)
 | true=>
  obtain⟨k,n,b,l⟩:=x
  by_cases hk:k=4
  ·subst hk
   match l,hw,hr with
   | [s,r],hw,hr=>
    have e:YA (.mk 4 n b [s,r])=UE s r:=by unfold YA;rw[hr];dsimp only;rw[if_pos rfl]
    rw[e]
    cases h1:WH 1 s with
    | true=>exact Hb n b s r hw hr h1
    | false=>exact Hc n b s r hw hr h1
   | [],hw,hr=>
    have e:YA (.mk 4 n b [])=(YJ,false):=by unfold YA;rw[hr]
    rw[e];exact QC _ hw (.inr (.inr (by simp[It.l])))
   | [s],hw,hr=>
    have e:YA (.mk 4 n b [s])=(YJ,false):=by unfold YA;rw[hr]
    rw[e];exact QC _ hw (.inr (.inr (by simp[It.l])))
   | s::r::y::l,hw,hr=>
    have e:YA (.mk 4 n b (s::r::y::l))=(YJ,false):=by unfold YA;rw[hr]
    rw[e];exact QC _ hw (.inr (.inr (by simp[It.l])))
  ·have e:YA (.mk k n b l)=(YJ,false):=by
    unfold YA;rw[hr]
    match l with
    | [s,r]=>dsimp only;rw[if_neg hk]
    | []=>rfl
    | [s]=>rfl
    | s::r::y::l=>rfl
   rw[e]
   exact QC _ hw (.inr (.inl hk))
def Vw (x:EidV):List UInt8:=[47,47]++x.h++[47]++x.d
theorem QE {x:EidV}(h:Ye x=true)(hz:isZ x=false)(hi:x.i=true):x.n<=4294967295/\x.s<=4294967295/\x.h=[]/\x.d=[]/\1<=x.n:=by
 rw[Xd hz hi]at h
 simp only[Bool.and_eq_true,decide_eq_true_eq,beq_iff_eq]at h
 obtain⟨⟨⟨⟨_,_,_,h1,h2,_⟩,h3⟩,h4⟩,h5⟩:=h
 exact⟨by omega,by omega,h1,h2,by omega⟩
theorem VX {x:EidV}(h:Ye x=true)(hz:isZ x=false)(hi:x.i=false):x.n=0/\x.s=0/\1<=x.h.length/\x.h.length<=16/\x.d.length<=24/\x.h.all (okB 45)=true/\x.d.all (okB 47)=true:=by
 rw[Xe hz hi]at h
 simp only[Bool.and_eq_true,decide_eq_true_eq,beq_iff_eq]at h
 obtain⟨⟨⟨⟨⟨⟨_,h1,h2,_⟩,h3⟩,h4⟩,h5⟩,h6⟩,h7⟩:=h
 exact⟨by omega,by omega,by omega,by omega,by omega,h6,h7⟩
theorem Gr [Known](x:EidV)(h1:x.h.length<=16)(h2:x.d.length<=24):AP Tryd.prog 38 [.agg (eC x)] (.str (Vw x)) []:=by
 have l1:[(47:UInt8),47].length+x.h.length<=maxLen:=by simp;unfold maxLen;omega
 have l2:([(47:UInt8),47]++x.h).length + [(47:UInt8)].length<=maxLen:=by simp;unfold maxLen;omega
 have l3:([(47:UInt8),47]++x.h++[47]).length+x.d.length<=maxLen:=by simp;unfold maxLen;omega
 refine AP.ofA (Zm Tryd.func38 Z Tryd.ntmps38 Z Z ?_)
 repeat'(first|(apply GN;exact Z;exact Z;(first|exact l1|exact l2|exact l3);exact Z)|refine Zj Za Z ?_|refine Zg Za Z ?_)
 all_goals exact Qe
def Y6 (x:EidV):It:=
 if isZ x then .mk 4 0 [] [.mk 0 1 [] [],.mk 0 0 [] []]
 else if x.i then .mk 4 0 [] [.mk 0 2 [] [],.mk 4 0 [] [.mk 0 x.n [] [],.mk 0 x.s [] []]]
 else .mk 4 0 [] [.mk 0 1 [] [],.mk 3 0 (Vw x) []]
theorem WV [Known](x:EidV):AP Tryd.prog 22 [.agg (eC x)] (.tup [itD (if Ye x then Y6 x else .mk 0 0 [] []),.int .i64 (if Ye x then 0 else 3)]) []:=by
 have hR:=Wu x
 cases hr:Ye x with
 | false=>
  rw[hr]at hR
  refine AP.ofA (Zm Tryd.func22 Z Tryd.ntmps22 Z Z ?_)
  repeat'(first|refine Zb hR Qk Z Z Z Z ?_|refine Zj Za Z ?_|refine Zg Za Z ?_|refine Zv Za Z ?_|refine Zd Z Qt ?_)
  all_goals exact Qe
 | true=>
  rw[hr]at hR
  rw[if_pos rfl,if_pos rfl]
  unfold Y6
  cases hz:isZ x with
  | true=>
   rw[if_pos rfl]
   have n1:=Yy 1
   have n0:=Yy 0
   have hL:=Y2 [.mk 0 1 [] [],.mk 0 0 [] []] (by decide) (by simp[wfI,wfs])
   replace n1:AP Tryd.prog _ [.int .u64 1] (.agg [.int .i64 0,.int .u64 1,.sl .ext [],.sl .ext []]) []:=n1
   replace n0:AP Tryd.prog _ [.int .u64 0] (.agg [.int .i64 0,.int .u64 0,.sl .ext [],.sl .ext []]) []:=n0
   unfold isZ at hz
   refine AP.ofA (Zm Tryd.func22 Z Tryd.ntmps22 Z Z ?_)
   repeat'(first|refine Zb hR Qk Z Z Z Z ?_|refine Zb n1 Qk Z Z Z Z ?_|refine Zb n0 Qk Z Z Z Z ?_|refine Zb hL Qk Z Z Z Z ?_|refine Zj Za Z ?_|refine Zg Za Z ?_|refine Zv Za Z ?_|refine Zd Z Qt ?_|refine Ze Z Qt ?_|refine Yd Za Z Z Z Z Z Z Z Z Z Z Z Z ?_|refine Vl Za Z Z Z Z Qk Qk Z Z Z ?_)
   all_goals exact Qe
  | false=>
   rw[if_neg (by simp)]
   cases hi:x.i with
   | true=>
    obtain⟨b1,b2,_⟩:=QE hr hz hi
    rw[if_pos rfl]
    have n2:=Yy 2
    have nn:=Yy x.n
    have ns:=Yy x.s
    have hL1:=Y2 [.mk 0 x.n [] [],.mk 0 x.s [] []] (by simp) (by simp[wfI,wfs];omega)
    have hL:=Y2 [.mk 0 2 [] [],.mk 4 0 [] [.mk 0 x.n [] [],.mk 0 x.s [] []]] (by simp) (by simp[wfI,wfs];omega)
    replace n2:AP Tryd.prog _ [.int .u64 2] (.agg [.int .i64 0,.int .u64 2,.sl .ext [],.sl .ext []]) []:=n2
    replace nn:AP Tryd.prog _ [.int .u64 (x.n:Int)] (.agg [.int .i64 0,.int .u64 (x.n:Int),.sl .ext [],.sl .ext []]) []:=nn
    replace ns:AP Tryd.prog _ [.int .u64 (x.s:Int)] (.agg [.int .i64 0,.int .u64 (x.s:Int),.sl .ext [],.sl .ext []]) []:=ns
    replace hL1:AP Tryd.prog _ _ (.agg [.int .i64 4,.int .u64 0,.sl .ext [],.sl .ext [.agg [.int .i64 0,.int .u64 (x.n:Int),.sl [],.sl []],.agg [.int .i64 0,.int .u64 (x.s:Int),.sl [],.sl []]]]) []:=hL1
    unfold isZ at hz
    refine AP.ofA (Zm Tryd.func22 Z Tryd.ntmps22 Z Z ?_)
    repeat'(first|refine Zb hR Qk Z Z Z Z ?_|refine Zb n2 Qk Z Z Z Z ?_|refine Zb nn Qk Z Z Z Z ?_|refine Zb ns Qk Z Z Z Z ?_|refine Zb hL1 Qk Z Z Z Z ?_|refine Zb hL Qk Z Z Z Z ?_|refine Zj Za Z ?_|refine Zg Za Z ?_|refine Zv Za Z ?_|refine Zd Z Qt ?_|refine Ze Z Qt ?_|refine Yd Za Z Z Z Z Z Z Z Z Z Z Z Z ?_|refine Vl Za Z Z Z Z Qk Qk Z Z Z ?_|(apply Zo 6 ZG;decide +kernel;kernel_rfl;kernel_rfl;kernel_rfl;exact Z;exact Z)|(apply Zr;(iterate 4 exact Z))|exact AE.nil _ _ _ _|(apply Zt;exact Z)|(apply Zx;exact Z;exact Z;decide +kernel;exact Z)|(apply Zz;exact Z)|exact AO.nil _ _ _|(apply Zq;(decide +kernel))|exact AOs.nil|exact ZM rfl rfl)
    all_goals exact Qe
   | false=>
    obtain⟨_,_,_,b1,b2,_⟩:=VX hr hz hi
    rw[if_neg (by simp)]
    have n1:=Yy 1
    have hP:=Gr x b1 b2
    have hT:=I8 (Vw x)
    have hpl:(Vw x).length<=1099511627776:=by unfold Vw;simp;omega
    generalize Vw x=p at *
    have hL:=Y2 [.mk 0 1 [] [],.mk 3 0 p []] (by simp) (by simp[wfI,wfs];omega)
    replace n1:AP Tryd.prog _ [.int .u64 1] (.agg [.int .i64 0,.int .u64 1,.sl .ext [],.sl .ext []]) []:=n1
    replace hT:AP Tryd.prog _ [.str p] (.agg [.int .i64 3,.int .u64 0,byE p,.sl .ext []]) []:=hT
    unfold isZ at hz
    refine AP.ofA (Zm Tryd.func22 Z Tryd.ntmps22 Z Z ?_)
    repeat'(first|refine Zb hR Qk Z Z Z Z ?_|refine Zb n1 Qk Z Z Z Z ?_|refine Zb hP Qk Z Z Z Z ?_|refine Zb hT Qk Z Z Z Z ?_|refine Zb hL Qk Z Z Z Z ?_|refine Zj Za Z ?_|refine Zg Za Z ?_|refine Zv Za Z ?_|refine Ze Z Qt ?_|refine Yd Za Z Z Z Z Z Z Z Z Z Z Z Z ?_|refine Vl Za Z Z Z Z Qk Qk Z Z Z ?_|(apply Zo 2 ZG;decide +kernel;kernel_rfl;kernel_rfl;kernel_rfl;exact Z;exact Z)|(apply Zr;(iterate 4 exact Z))|exact AE.nil _ _ _ _|(apply Zt;exact Z)|(apply Zx;exact Z;exact Z;decide +kernel;exact Z)|(apply Zz;exact Z)|exact AO.nil _ _ _|(apply Zq;(decide +kernel))|exact AOs.nil|exact ZM rfl rfl)
    all_goals exact Qe
theorem Vx {x:EidV}(h:Ye x=true):wfI (Y6 x):=by
 unfold Y6
 cases hz:isZ x with
 | true=>rw[if_pos rfl];simp[wfI,wfs]
 | false=>
  rw[if_neg (by simp)]
  cases hi:x.i with
  | true=>
   obtain⟨b1,b2,b3,b4,b5⟩:=QE h hz hi
   rw[if_pos rfl]
   simp[wfI,wfs]
   omega
  | false=>
   obtain⟨b1,b2,b3,b4,b5,b6,b7⟩:=VX h hz hi
   rw[if_neg (by simp)]
   simp[wfI,wfs,Vw]
   omega
def QF (x:EidV)(t q:Nat):It:=.mk 4 0 [] [Y6 x,.mk 4 0 [] [.mk 0 t [] [],.mk 0 q [] []]]
theorem Va {x:EidV}{t q:Nat}:Y5 x t q=true ↔ Ye x=true/\t<=1099511627776/\q<=1099511627776:=by
 unfold Y5
 simp only[Bool.and_eq_true,decide_eq_true_eq]
 rw[and_assoc]
 exact and_congr Iff.rfl (and_congr (by omega) (by omega))
theorem Iw {x:EidV}{t q:Nat}(h:Y5 x t q=true):wfI (QF x t q):=by
 obtain⟨h1,h2,h3⟩:=Va.1 h
 have hw:=Vx h1
 unfold QF
 generalize Y6 x=y at *
 simp[wfI,wfs,hw]
 omega
theorem UF [Known](x:EidV)(t q:Nat):AP Tryd.prog 23 [.agg (iC x t q)] (.tup [itD (if Y5 x t q then QF x t q else .mk 0 0 [] []),.int .i64 (if Y5 x t q then 0 else 3)]) []:=by
 have hR:=Jf x t q
 cases hr:Y5 x t q with
 | false=>
  rw[hr]at hR
  refine AP.ofA (Zm Tryd.func23 Z Tryd.ntmps23 Z Z ?_)
  repeat'(first|refine Zb hR Qk Z Z Z Z ?_|refine Zj Za Z ?_|refine Zg Za Z ?_|refine Zv Za Z ?_|refine Zd Z Qt ?_)
  all_goals exact Qe
 | true=>
  rw[hr]at hR
  rw[if_pos rfl,if_pos rfl]
  obtain⟨h1,h2,h3⟩:=Va.1 hr
  have hE:=WV x
  rw[h1,if_pos rfl,if_pos rfl]at hE
  have hw:=Vx h1
  have nt:=Yy t
  have nq:=Yy q
  unfold QF
  generalize Y6 x=y at *
  have hL1:=Y2 [.mk 0 t [] [],.mk 0 q [] []] (by simp) (by simp[wfI,wfs];omega)
  have hL:=Y2 [y,.mk 4 0 [] [.mk 0 t [] [],.mk 0 q [] []]] (by simp) (by simp[wfI,wfs,hw];omega)
  obtain⟨k,n,b,l⟩:=y
  replace nt:AP Tryd.prog _ [.int .u64 (t:Int)] (.agg [.int .i64 0,.int .u64 (t:Int),.sl .ext [],.sl .ext []]) []:=nt
  replace nq:AP Tryd.prog _ [.int .u64 (q:Int)] (.agg [.int .i64 0,.int .u64 (q:Int),.sl .ext [],.sl .ext []]) []:=nq
  replace hE:AP Tryd.prog _ [.agg (eC x)] (.tup [.agg [.int .i64 k,.int .u64 (n:Int),byE b,.sl .ext (Zh l)],.int .i64 0]) []:=hE
  replace hL1:AP Tryd.prog _ _ (.agg [.int .i64 4,.int .u64 0,.sl .ext [],.sl .ext [.agg [.int .i64 0,.int .u64 (t:Int),.sl [],.sl []],.agg [.int .i64 0,.int .u64 (q:Int),.sl [],.sl []]]]) []:=hL1
  refine AP.ofA (Zm Tryd.func23 Z Tryd.ntmps23 Z Z ?_)
  repeat'(first|refine Zb hR Qk Z Z Z Z ?_|refine Zb hE Qk Z Z Z Z ?_|refine Zb nt Qk Z Z Z Z ?_|refine Zb nq Qk Z Z Z Z ?_|refine Zb hL1 Qk Z Z Z Z ?_|refine Zb hL Qk Z Z Z Z ?_|refine Zj Za Z ?_|refine Zg Za Z ?_|refine Zv Za Z ?_|refine Ze Z Qt ?_|refine Yd Za Z Z Z Z Z Z Z Z Z Z Z Z ?_|(apply Zo 13 ZG;decide +kernel;kernel_rfl;kernel_rfl;kernel_rfl;exact Z;exact Z)|(apply Zr;(iterate 4 exact Z))|exact AE.nil _ _ _ _|(apply Zt;exact Z)|(apply VV;exact Z)|(apply Zx;exact Z;exact Z;decide +kernel;exact Z)|(apply Zz;exact Z)|(apply Qh;exact Z)|exact AO.nil _ _ _|(apply Zq;(decide +kernel))|(apply ZY;(iterate 3 exact Z))|exact AOs.nil|exact ZM rfl rfl|exact WE rfl rfl rfl rfl rfl|exact Ux rfl)
  all_goals exact Qe
def Yk (p:PriV):List It:=[.mk 0 7 [] [],.mk 0 p.fl [] [],.mk 0 p.sum.toNat [] [],Y6 p.dest,Y6 p.src,Y6 p.rep,.mk 4 0 [] [.mk 0 p.t [] [],.mk 0 p.q [] []],.mk 0 p.life [] []]
def Wn (p:PriV):It × Int:=match Wl p with
 | true=>Uj (Yk p) 2
 | false=>(z0,3)
theorem Um {p:PriV}(h:Wl p=true):0<=p.sum/\p.sum<=2/\Ye p.dest=true/\Ye p.rep=true/\Y5 p.src p.t p.q=true/\p.life<=1099511627776:=by
 unfold Wl at h
 simp only[Bool.and_eq_true,decide_eq_true_eq]at h
 obtain⟨_,h1,h2,h3,h4,h5,h6⟩:=h
 exact⟨h1,h2,h3,h4,h5,by omega⟩
theorem Ix {p:PriV}(h:Wl p=true)(hfl:p.fl<18446744073709551616):wfs (Yk p):=by
 obtain⟨h1,h2,h3,h4,h5,h6⟩:=Um h
 obtain⟨i1,i2,i3⟩:=Va.1 h5
 refine⟨?_,?_,?_,Vx h3,Vx i1,Vx h4,?_,?_,trivial⟩
 all_goals first|(simp[wfI,wfs];done)|(simp[wfI,wfs];omega)
theorem Oi [Known][KnownU8](p:PriV)(hfl:p.fl<18446744073709551616)(hlim:∀ s,s=1\/s=2->(ZC (ZI s (Yk p))).length<=1000000000):AP Tryd.prog 9 [.agg (prC p)] (Xi (Wn p)) []:=by
 have hR:=UC p
 unfold Wn
 cases hr:Wl p with
 | false=>
  rw[hr]at hR
  obtain⟨fl,sum,⟨di,dn,ds,dh,dd⟩,⟨ri,rn,rs,rh,rd⟩,⟨xi,xn,xs,xh,xd⟩,t,q,life⟩:=p
  dsimp only[z0]at *
  refine AP.ofA (Zm Tryd.func9 Z Tryd.ntmps9 Z Z ?_)
  repeat'(first|refine Zb hR Qk Z Z Z Z ?_|refine Zj Za Z ?_|refine Zg Za Z ?_|refine Zv Za Z ?_|refine Zd Z Qt ?_)
  all_goals exact Qe
 | true=>
  rw[hr]at hR
  obtain⟨h1,h2,h3,h4,h5,h6⟩:=Um hr
  have hS:=Kz (Yk p) 2 (Ix hr hfl) (by simp[Yk]) hlim
  have hD:=WV p.dest
  have hP:=WV p.rep
  have hI:=UF p.src p.t p.q
  rw[if_pos h3,if_pos h3]at hD
  rw[if_pos h4,if_pos h4]at hP
  rw[if_pos h5,if_pos h5]at hI
  have hN:=Yy 7
  have hF:=Yy p.fl
  have hM:=Yy p.sum.toNat
  have hL:=Yy p.life
  dsimp only
  generalize Uj (Yk p) 2=r at *
  unfold Yk at hS
  unfold QF at hI
  obtain⟨fl,sum,⟨di,dn,ds,dh,dd⟩,⟨ri,rn,rs,rh,rd⟩,⟨xi,xn,xs,xh,xd⟩,t,q,life⟩:=p
  dsimp only at *
  generalize Y6 ⟨di,dn,ds,dh,dd⟩=I1 at *
  generalize Y6 ⟨ri,rn,rs,rh,rd⟩=I2 at *
  generalize Y6 ⟨xi,xn,xs,xh,xd⟩=I3 at *
  obtain⟨ak,an,ab,al⟩:=I1
  obtain⟨bk,bn,bb,bl⟩:=I2
  obtain⟨ck,cn,cb,cl⟩:=I3
  obtain⟨⟨k,n,b,l⟩,e⟩:=r
  have es:IntKind.u64.wrap sum=((sum.toNat:Nat):Int):=by rw[IntWalk.u64_in _ (by omega)];omega
  have hU:=Yb [It.mk ck cn cb cl,.mk 4 0 [] [.mk 0 t [] [],.mk 0 q [] []]]
  have hv0:(Zh [It.mk ck cn cb cl,.mk 4 0 [] [.mk 0 t [] [],.mk 0 q [] []]])[(0:Int).toNat]?=some (.agg [.int .i64 ck,.int .u64 (cn:Int),.sl (cb.map E.byte),.sl (Zh cl)]):=rfl
  have hv1:(Zh [It.mk ck cn cb cl,.mk 4 0 [] [.mk 0 t [] [],.mk 0 q [] []]])[(1:Int).toNat]?=some (.agg [.int .i64 4,.int .u64 0,.sl [],.sl [nmE t,nmE q]]):=rfl
  generalize hLe:Zh [It.mk ck cn cb cl,.mk 4 0 [] [.mk 0 t [] [],.mk 0 q [] []]]=LL at *
  replace hI:AP Tryd.prog 23 [.agg (iC ⟨xi,xn,xs,xh,xd⟩ t q)] (.tup [.agg [.int .i64 4,.int .u64 0,.sl .ext [],.sl .ext LL],.int .i64 0]) []:=by rw[<- hLe];exact hI
  replace hS:AP Tryd.prog 7 [.sl .ext [nmE 7,nmE fl,nmE sum.toNat,.agg [.int .i64 ak,.int .u64 (an:Int),.sl (ab.map E.byte),.sl (Zh al)],.agg [.int .i64 ck,.int .u64 (cn:Int),.sl (cb.map E.byte),.sl (Zh cl)],.agg [.int .i64 bk,.int .u64 (bn:Int),.sl (bb.map E.byte),.sl (Zh bl)],.agg [.int .i64 4,.int .u64 0,.sl [],.sl [nmE t,nmE q]],nmE life],.int .i64 2] (Xi (.mk k n b l,e)) []:=hS
  refine AP.ofA (Zm Tryd.func9 Z Tryd.ntmps9 Z Z ?_)
  repeat'(first|refine Zb hR Qk Z Z Z Z ?_|rw[es]|refine Zb hD Qk Z Z Z Z ?_|refine Zb hP Qk Z Z Z Z ?_|refine Zb hI Qk Z Z Z Z ?_|refine Zb hN Qk Z Z Z Z ?_|refine Zb hF Qk Z Z Z Z ?_|refine Zb hM Qk Z Z Z Z ?_|refine Zb hL Qk Z Z Z Z ?_|refine Zb hS Qk Z Z Z Z ?_|refine Zj Za Z ?_|refine Zg Za Z ?_|refine Zv Za Z ?_|refine Ze Z Qt ?_|refine Yd Za Z Z Z Z Z Z Z Z Z Z Z Z ?_|(apply Zo 21 ZG;decide +kernel;kernel_rfl;kernel_rfl;kernel_rfl;exact Z;exact Z)|(apply Zr;(iterate 4 exact Z))|exact AE.nil _ _ _ _|(apply Zt;exact Z)|(apply Zx;exact Z;exact Z;decide +kernel;exact Z)|(apply Zz;exact Z)|exact AO.nil _ _ _|(apply Zq;(decide +kernel))|exact AOs.nil|exact ZM rfl rfl|(apply Zs Za;(iterate 6 exact Z);(first|exact Qt|rotate_left);(first|with_reducible assumption|decide +kernel|exact Z);(first|exact Zf rfl|with_reducible assumption|decide +kernel|rotate_left)))
  all_goals exact Qe
theorem HX [Known][KnownU8](k:Int)(n:Nat)(b:List UInt8)(xl:List E)(L:List E)(e:Int)
  (hO:AP Tryd.prog 8 [.agg [.int .i64 k,.int .u64 (n:Int),byE b,.sl .ext xl],.int .i64 2] (.tup [.sl .ext L,.int .i64 e]) []) (t1:(e != 0)=true) :
  AP Tryd.prog 10 [.agg [.int .i64 k,.int .u64 (n:Int),byE b,.sl .ext xl]] (.tup [.agg [.int .u64 0,.int .i64 0,.bool false,.int .u64 0,.int .u64 0,.str [],.str [],.bool false,.int .u64 0,.int .u64 0,.str [],.str [],.bool false,.int .u64 0,.int .u64 0,.str [],.str [],.int .u64 0,.int .u64 0,.int .u64 0],.int .i64 e]) []:=by
 refine AP.ofA (Zm Tryd.func10 Z Tryd.ntmps10 Z Z ?_)
 repeat'(first|refine Zb hO Qk Z Z Z Z ?_|refine Zj Za Z ?_|refine Zg Za Z ?_|refine Zv Za Z ?_|refine Zd Z Qt ?_)
 all_goals exact Qe
theorem HY [Known][KnownU8](k:Int)(n:Nat)(b:List UInt8)(xl:List E)(L:List E)(e:Int)
  (hO:AP Tryd.prog 8 [.agg [.int .i64 k,.int .u64 (n:Int),byE b,.sl .ext xl],.int .i64 2] (.tup [.sl .ext L,.int .i64 e]) []) (t1:(e != 0)=false) (t2:((L.length:Int) != 8)=true) :
  AP Tryd.prog 10 [.agg [.int .i64 k,.int .u64 (n:Int),byE b,.sl .ext xl]] (.tup [.agg [.int .u64 0,.int .i64 0,.bool false,.int .u64 0,.int .u64 0,.str [],.str [],.bool false,.int .u64 0,.int .u64 0,.str [],.str [],.bool false,.int .u64 0,.int .u64 0,.str [],.str [],.int .u64 0,.int .u64 0,.int .u64 0],.int .i64 3]) []:=by
 refine AP.ofA (Zm Tryd.func10 Z Tryd.ntmps10 Z Z ?_)
 repeat'(first|refine Zb hO Qk Z Z Z Z ?_|refine Zj Za Z ?_|refine Zg Za Z ?_|refine Zv Za Z ?_|refine Zd Z Qt ?_|refine Ze Z Qt ?_|refine Zn Za Z Z Z Z ?_)
 all_goals exact Qe
end Go.Proofs.YtchlgagdbflkmaaDoor
end

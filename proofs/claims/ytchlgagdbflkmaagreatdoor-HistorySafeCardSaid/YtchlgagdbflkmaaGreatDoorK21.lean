/- The reader of items: an item. -/
import Derived.Test.YtchlgagdbflkmaaGreatDoorK18
import Derived.Test.YtchlgagdbflkmaaGreatDoorK20
import Derived.Test.YtchlgagdbflkmaaGreatDoorK13
set_option linter.unusedVariables false
set_option linter.unusedSimpArgs false
section
open Go.RowKit Go.Pl Go.Av
namespace Go.Proofs.YtchlgagdbflkmaaGreatDoor
set_option maxHeartbeats 4000000
theorem LA {k:Int}(h:okK k=false):(k==0)=false/\(k==2)=false/\(k==3)=false/\(k==4)=false:=by
 simpa[okK]using h
theorem I8 [Known][KnownU8](b:List UInt8)(hb:b.length<=140737488351232):∀(d deep:Nat),deep+d=7->∀ p m,p<=b.length->m<=256->AR Tryz.prog 170 [.ptr 0 0,.int .i64 (deep:Int)] [rdC b p m] (itR b d p m)
 | d,deep=>fun hdd p m hp hm=>by
  have hhd:=I6 b p m hb hp
  unfold itR
  cases hr:rdS (b.drop p) with
  | error e=>
   rw[hr]at hhd
   have hi:Yc d m (b.drop p)=.error e:=by cases d<;>rw[Yc,hr]
   rw[hi]
   dsimp only at hhd ⊢
   refine Zl Tryz.func170 rfl Tryz.ntmps170 rfl rfl ?_
   repeat'(first|(apply Yd [0] (hhd.x rfl);kernel_rfl;(iterate 6 exact Z);intro bx2 fr2 hle2)|(apply Zh Za;exact Z)|(apply Zs Za;exact Z))
   all_goals(apply VC;exact Z;(first|exact Nat.zero_le _|exact Nat.le_trans (Nat.le_of_ble_eq_true rfl) (by assumption));exact Z)
  | ok y=>
   obtain⟨⟨k,n,o⟩,r⟩:=y
   rw[hr]at hhd
   dsimp only at hhd
   obtain⟨_,hn,pre,hpre,_,hpos⟩:=O6 hr
   dsimp only at hn
   obtain⟨q1,q2,q3⟩:=VW hp hpre
   generalize hp2:b.length-r.length=p2 at q1 q2 q3 hhd
   replace hhd:AR Tryz.prog _ _ _ (.ok (.agg [.int .i64 k,.int .u64 (n:Int),.bool o],[rdC b p2 m])):=hhd
   cases hk:okK k with
   | false=>
    have hi:Yc d m (b.drop p)=.error 3:=by cases d<;>rw[Yc,hr]<;>dsimp only<;>rw[hk]<;>rfl
    rw[hi]
    dsimp only
    obtain⟨k0,k2,k3,k4⟩:=LA hk
    refine Zl Tryz.func170 rfl Tryz.ntmps170 rfl rfl ?_
    repeat'(first|rw[k4]|(apply ZC [0] (hhd.q rfl);kernel_rfl;(iterate 7 exact Z))|(apply Yd [] (W6 3);kernel_rfl;(iterate 6 exact Z);intro bx2 fr2 hle2)|(apply Zg Za;exact Z)|(apply Zh Za;exact Z)|(apply Zs Za;exact Z)|refine Z7 ?_|refine Zd Z Z Z Qt ?_|refine Zi Z Qt Z Z ?_)
    all_goals(apply VC;exact Z;(first|exact Nat.zero_le _|exact Nat.le_trans (Nat.le_of_ble_eq_true rfl) (by assumption));exact Z)
   | true=>
    have hk':=Od hk
    cases d with
    | zero=>
     have hi:Yc 0 m (b.drop p)=.error 9:=by rw[Yc,hr];dsimp only;rw[hk];rfl
     rw[hi]
     dsimp only
     obtain rfl:deep=7:=by omega
     rcases hk' with rfl|rfl|rfl|rfl
     all_goals
      refine Zl Tryz.func170 rfl Tryz.ntmps170 rfl rfl ?_
      repeat'(first|(apply ZC [0] (hhd.q rfl);kernel_rfl;(iterate 7 exact Z))|(apply Zb (ZV 3);kernel_rfl;(iterate 4 exact Z))|(apply Yd [] (W6 9);kernel_rfl;(iterate 6 exact Z);intro bx2 fr2 hle2)|(apply Zg Za;exact Z)|(apply Zh Za;exact Z)|(apply Zs Za;exact Z)|refine Z7 ?_|refine Zd Z Z Z Qt ?_|refine Zo Z Z Z Qt ?_|refine Zj Z Qt Z Z ?_|refine Zi Z Qt Z Z ?_)
      all_goals(apply VC;exact Z;(first|exact Nat.zero_le _|exact Nat.le_trans (Nat.le_of_ble_eq_true rfl) (by assumption));exact Z)
    | succ d=>
     have dd:decide ((deep:Int)<=6)=true:=by simp;omega
     by_cases hm0:m=0
     ·have hi:Yc (d+1) m (b.drop p)=.error 2:=by rw[Yc,hr];dsimp only;rw[hk,if_neg (by simp),if_pos hm0]
      rw[hi]
      dsimp only
      subst hm0
      rcases hk' with rfl|rfl|rfl|rfl
      all_goals
       refine Zl Tryz.func170 rfl Tryz.ntmps170 rfl rfl ?_
       repeat'(first|rw[dd]|(apply ZC [0] (hhd.q rfl);kernel_rfl;(iterate 7 exact Z))|(apply Zb (ZV 3);kernel_rfl;(iterate 4 exact Z))|(apply Zb (ZV 9);kernel_rfl;(iterate 4 exact Z))|(apply Yd [] (W6 2);kernel_rfl;(iterate 6 exact Z);intro bx2 fr2 hle2)|(apply Zg Za;exact Z)|(apply Zh Za;exact Z)|(apply Zs Za;exact Z)|refine Z7 ?_|refine Zd Z Z Z Qt ?_|refine Zo Z Z Z Qt ?_|refine Zj Z Qt Z Z ?_|refine Zi Z Qt Z Z ?_)
       all_goals(apply VC;exact Z;(first|exact Nat.zero_le _|exact Nat.le_trans (Nat.le_of_ble_eq_true rfl) (by assumption));exact Z)
     ·have hi:Yc (d+1) m (b.drop p)=WS (Yc d) (k,n,o) (m-1) r:=by rw[Yc,hr];dsimp only;rw[hk,if_neg (by simp),if_neg hm0]
      rw[hi]
      have dm:decide ((m:Int)>0)=true:=by simp;omega
      have em:IntKind.i64.wrap ((m:Int)-1)=((m-1:Nat):Int):=by rw[IntWalk.i64_in _ (by omega)];omega
      rcases hk' with rfl|rfl|rfl|rfl
      ·unfold WS
       rw[if_pos rfl]
       dsimp only
       rw[hp2]
       refine Zl Tryz.func170 rfl Tryz.ntmps170 rfl rfl ?_
       repeat'(first|rw[dd]|rw[dm]|rw[em]|(apply ZC [0] (hhd.q rfl);kernel_rfl;(iterate 7 exact Z))|(apply Zb (ZV 3);kernel_rfl;(iterate 4 exact Z))|(apply Zb (ZV 9);kernel_rfl;(iterate 4 exact Z))|(apply Zb (ZV 2);kernel_rfl;(iterate 4 exact Z))|(apply Zg Za;exact Z)|(apply Zh Za;exact Z)|(apply Zs Za;exact Z)|refine Z7 ?_|refine Zo Z Z Z Qt ?_|refine Zj Z Qt Z Z ?_|refine Ze Z Qt ?_)
       all_goals(apply Jo (rfl) [0];(apply Zc Za;exact Z);(iterate 4 exact Z))
       all_goals rfl
      ·have hs:=Oh (2,n,o) b p2 (m-1) hb q2 hn
       rw[q1]at hs
       unfold WS
       rw[if_neg (by simp),if_neg (by simp)]
       cases ht:Jv (2,n,o) r with
       | error e=>
        rw[ht]at hs
        dsimp only at hs ⊢
        refine Zl Tryz.func170 rfl Tryz.ntmps170 rfl rfl ?_
        repeat'(first|rw[dd]|rw[dm]|rw[em]|(apply ZC [0] (hhd.q rfl);kernel_rfl;(iterate 7 exact Z))|(apply Zb (ZV 3);kernel_rfl;(iterate 4 exact Z))|(apply Zb (ZV 9);kernel_rfl;(iterate 4 exact Z))|(apply Zb (ZV 2);kernel_rfl;(iterate 4 exact Z))|(apply Yd [0] (hs.x rfl);kernel_rfl;(iterate 6 exact Z);intro bx2 fr2 hle2)|(apply Zg Za;exact Z)|(apply Zh Za;exact Z)|(apply Zs Za;exact Z)|refine Z7 ?_|refine Zd Z Z Z Qt ?_|refine Zo Z Z Z Qt ?_|refine Zj Z Qt Z Z ?_|refine Zi Z Qt Z Z ?_|refine Zf Z Qt ?_)
        all_goals(apply VC;exact Z;(first|exact Nat.zero_le _|exact Nat.le_trans (Nat.le_of_ble_eq_true rfl) (by assumption));exact Z)
       | ok y=>
        obtain⟨c,r2⟩:=y
        rw[ht]at hs
        dsimp only at hs ⊢
        refine Zl Tryz.func170 rfl Tryz.ntmps170 rfl rfl ?_
        repeat'(first|rw[dd]|rw[dm]|rw[em]|(apply ZC [0] (hhd.q rfl);kernel_rfl;(iterate 7 exact Z))|(apply Zb (ZV 3);kernel_rfl;(iterate 4 exact Z))|(apply Zb (ZV 9);kernel_rfl;(iterate 4 exact Z))|(apply Zb (ZV 2);kernel_rfl;(iterate 4 exact Z))|(apply ZC [0] (hs.q rfl);kernel_rfl;(iterate 7 exact Z))|(apply Zg Za;exact Z)|(apply Zh Za;exact Z)|refine Z7 ?_|refine Zd Z Z Z Qt ?_|refine Zo Z Z Z Qt ?_|refine Zj Z Qt Z Z ?_|refine Zi Z Qt Z Z ?_|refine Zf Z Qt ?_)
        all_goals(apply Jo (rfl) [0];(apply Zc Za;exact Z);(iterate 4 exact Z))
        all_goals rfl
      ·have hs:=Oh (3,n,o) b p2 (m-1) hb q2 hn
       rw[q1]at hs
       unfold WS
       rw[if_neg (by simp),if_neg (by simp)]
       cases ht:Jv (3,n,o) r with
       | error e=>
        rw[ht]at hs
        dsimp only at hs ⊢
        refine Zl Tryz.func170 rfl Tryz.ntmps170 rfl rfl ?_
        repeat'(first|rw[dd]|rw[dm]|rw[em]|(apply ZC [0] (hhd.q rfl);kernel_rfl;(iterate 7 exact Z))|(apply Zb (ZV 3);kernel_rfl;(iterate 4 exact Z))|(apply Zb (ZV 9);kernel_rfl;(iterate 4 exact Z))|(apply Zb (ZV 2);kernel_rfl;(iterate 4 exact Z))|(apply Yd [0] (hs.x rfl);kernel_rfl;(iterate 6 exact Z);intro bx2 fr2 hle2)|(apply Zg Za;exact Z)|(apply Zh Za;exact Z)|(apply Zs Za;exact Z)|refine Z7 ?_|refine Zd Z Z Z Qt ?_|refine Zo Z Z Z Qt ?_|refine Zj Z Qt Z Z ?_|refine Zi Z Qt Z Z ?_|refine Zf Z Qt ?_)
        all_goals(apply VC;exact Z;(first|exact Nat.zero_le _|exact Nat.le_trans (Nat.le_of_ble_eq_true rfl) (by assumption));exact Z)
       | ok y=>
        obtain⟨c,r2⟩:=y
        rw[ht]at hs
        dsimp only at hs ⊢
        refine Zl Tryz.func170 rfl Tryz.ntmps170 rfl rfl ?_
        repeat'(first|rw[dd]|rw[dm]|rw[em]|(apply ZC [0] (hhd.q rfl);kernel_rfl;(iterate 7 exact Z))|(apply Zb (ZV 3);kernel_rfl;(iterate 4 exact Z))|(apply Zb (ZV 9);kernel_rfl;(iterate 4 exact Z))|(apply Zb (ZV 2);kernel_rfl;(iterate 4 exact Z))|(apply ZC [0] (hs.q rfl);kernel_rfl;(iterate 7 exact Z))|(apply Zg Za;exact Z)|(apply Zh Za;exact Z)|refine Z7 ?_|refine Zd Z Z Z Qt ?_|refine Zo Z Z Z Qt ?_|refine Zj Z Qt Z Z ?_|refine Zi Z Qt Z Z ?_|refine Zf Z Qt ?_)
        all_goals(apply Jo (rfl) [0];(apply Zc Za;exact Z);(iterate 4 exact Z))
        all_goals rfl
      ·have hs:=N4 d deep (by omega) b hb (fun p m hp hm=>I8 b hb d (deep+1) (by omega) p m hp hm) n o p2 (m-1) q2 (by omega) hn
       rw[q1]at hs
       unfold WS
       rw[if_neg (by simp),if_pos rfl]
       cases ht:X8 (Yc d) (4,n,o) (m-1) r with
       | error e=>
        rw[ht]at hs
        dsimp only at hs ⊢
        refine Zl Tryz.func170 rfl Tryz.ntmps170 rfl rfl ?_
        repeat'(first|rw[dd]|rw[dm]|rw[em]|(apply ZC [0] (hhd.q rfl);kernel_rfl;(iterate 7 exact Z))|(apply Zb (ZV 3);kernel_rfl;(iterate 4 exact Z))|(apply Zb (ZV 9);kernel_rfl;(iterate 4 exact Z))|(apply Zb (ZV 2);kernel_rfl;(iterate 4 exact Z))|(apply Yd [0] (hs.x rfl);kernel_rfl;(iterate 6 exact Z);intro bx2 fr2 hle2)|(apply Zg Za;exact Z)|(apply Zh Za;exact Z)|(apply Zs Za;exact Z)|refine Z7 ?_|refine Zd Z Z Z Qt ?_|refine Zi Z Qt Z Z ?_|refine Ze Z Qt ?_|refine Zf Z Qt ?_)
        all_goals(apply VC;exact Z;(first|exact Nat.zero_le _|exact Nat.le_trans (Nat.le_of_ble_eq_true rfl) (by assumption));exact Z)
       | ok y=>
        obtain⟨l,r2,m2⟩:=y
        rw[ht]at hs
        dsimp only at hs ⊢
        refine Zl Tryz.func170 rfl Tryz.ntmps170 rfl rfl ?_
        repeat'(first|rw[dd]|rw[dm]|rw[em]|(apply ZC [0] (hhd.q rfl);kernel_rfl;(iterate 7 exact Z))|(apply Zb (ZV 3);kernel_rfl;(iterate 4 exact Z))|(apply Zb (ZV 9);kernel_rfl;(iterate 4 exact Z))|(apply Zb (ZV 2);kernel_rfl;(iterate 4 exact Z))|(apply ZC [0] (hs.q rfl);kernel_rfl;(iterate 7 exact Z))|(apply Zg Za;exact Z)|(apply Zh Za;exact Z)|(apply Zs Za;exact Z)|refine Z7 ?_|refine Zd Z Z Z Qt ?_|refine Zi Z Qt Z Z ?_|refine Ze Z Qt ?_|refine Zf Z Qt ?_)
        all_goals(apply Jo (rfl) [0];(apply Zc Za;exact Z);(iterate 4 exact Z))
        all_goals rfl
 termination_by d=>d
abbrev zIt:List D:=[.int .i64 0,.int .u64 0,.sl .nil [],.sl .nil []]
def H6:Code->Code
 | .seq _ (.seq _ (.seq _ r))=>r
 | c=>c
abbrev Bj (b:List UInt8)(p:Nat):List (Nat × D):=[(17,.fn 169 [.ptr 0 0,.ptr 1 0,.ptr 2 0]),(0,byE b),(1,.int .i64 (p:Int)),(4,.ptr 0 0),(5,.ptr 1 0),(6,.ptr 2 0)]
theorem Bk [Known][KnownU8][Dfr](b:List UInt8)(p p2 m1:Nat)(k:Int)(n:Nat)(bb:List UInt8)(l:List It)(hit:AR Tryz.prog 170 [.ptr 0 0,.int .i64 ((1:Nat):Int)] [rdC b p 256] (.ok (itD (.mk k n bb l),[rdC b p2 m1]))) :
  AW Tryz.prog (H6 (Tryz.f146.body.getD .skip)) ⟨29,Bj b p,[zIt,[.int .i64 0],[.int .i64 0]],[],(3,0)⟩
   (fun X S=>X=.ret/\S.n=29/\S.bx=[itC k n bb l,[.int .i64 (p2:Int)],[.int .i64 0],rdC b p2 m1]/\S.fr=[]/\Av.look S.tm 4=.ptr 0 0/\Av.look S.tm 5=.ptr 1 0/\Av.look S.tm 6=.ptr 2 0):=by
 conv=>enter [4];whnf
 repeat'(first|(apply ZC [3] (hit.q rfl);kernel_rfl;(iterate 7 exact Z))|(apply Zg Za;exact Z)|(apply Zh Za;exact Z)|(apply Zm 6 ZG;decide +kernel;kernel_rfl;kernel_rfl;kernel_rfl;exact Z;exact Z)|(apply Zq;(iterate 4 exact Z))|exact AE.nil _ _ _ _|(apply Zv;exact Z)|(apply O1;exact Z)|(apply ZA;exact Z;exact Z;decide +kernel;exact Z)|(apply ZB;exact Z)|(apply HV;exact Z)|exact AO.nil _ _ _|(apply Zp;(decide +kernel))|exact AOs.nil|exact ZJ rfl rfl|exact O2 rfl)
 all_goals exact⟨rfl,rfl,rfl,rfl,rfl,rfl,rfl⟩
theorem Sa [Known][KnownU8][Dfr](b:List UInt8)(p e:Nat)(hit:AR Tryz.prog 170 [.ptr 0 0,.int .i64 ((1:Nat):Int)] [rdC b p 256] (.error (VV e))) :
  AW Tryz.prog (H6 (Tryz.f146.body.getD .skip)) ⟨29,Bj b p,[zIt,[.int .i64 0],[.int .i64 0]],[],(3,0)⟩
   (fun X S=>X=.pan (VV e)/\S.n=29/\S.bx.take 3=[zIt,[.int .i64 0],[.int .i64 0]]/\Av.look S.tm 4=.ptr 0 0/\Av.look S.tm 5=.ptr 1 0/\Av.look S.tm 6=.ptr 2 0):=by
 conv=>enter [4];whnf
 repeat'(first|(apply TF [3] (hit.x rfl);kernel_rfl;(iterate 6 exact Z);intro bx2 fr2 hle2)|(apply Zh Za;exact Z)|(apply Zs Za;exact Z))
 all_goals
  obtain⟨c,t,rfl⟩:∃ c t,bx2=c::t:=by
   cases bx2 with
   | nil=>simp at hle2
   | cons c t=>exact⟨c,t,rfl⟩
  exact⟨rfl,rfl,rfl,rfl,rfl,rfl⟩
theorem Sb [Known](k:Int)(n:Nat)(bb:List UInt8)(l:List It)(p2:Nat):∀(g:G) (w:World) (vs:List Value),Mem g [itC k n bb l,[.int .i64 (p2:Int)],[.int .i64 0]] [] w->vs.length=([.ptr 0 0,.ptr 1 0,.ptr 2 0]:List D).length->(∀(j:Nat) (d:D) (v:Value),([.ptr 0 0,.ptr 1 0,.ptr 2 0]:List D)[j]?=some d->vs[j]?=some v->V w g [] d v) ->
  CallsD Tryz.prog 169 vs.toArray .returning w fun e u2 w'=>(∃ v,e=.returned v)/\u2=.returning/\∃ g',Mem g' [itC k n bb l,[.int .i64 (p2:Int)],[.int .i64 0]] [] w'/\Evo ⟨g,[],w⟩ ⟨g',[],w'⟩:=fun g w vs hm hl hv=>by
 refine(Rk (dv:=.nili) (u':=.returning) (post:=fun S=>S.bx=[itC k n bb l,[.int .i64 (p2:Int)],[.int .i64 0],[.int .i64 0]]/\S.fr=[]) Tryz.func169 rfl Tryz.ntmps169 rfl rfl rfl rfl rfl (fun ρ=>by simp[execOp,resolve,invoke,Sem.run_bind];rfl) hm hl hv (fun c₀ cs hc=>by simp[recoverD,hc]) ?_).mono ?_
 ·repeat'(first|(apply R6 Za (cs:=[.int .i64 0]);(iterate 3 exact Z);kernel_rfl;exact Z)|refine⟨rfl,?_⟩ | (apply Zg Za;exact Z)|(apply Zh Za;exact Z)|refine Zf Z Qt ?_)
  all_goals rfl
 ·rintro e u2 w' ⟨he,hu,S,g',hm',hev,hbx,hfr⟩
  have hok:YM [0,1,2] S.bx.length:=Yw (by rw[hbx];rfl)
  refine⟨he,hu,g'.sel [0,1,2] [],?_,?_⟩
  ·have:=hm'.sel (bs:=[0,1,2]) (ts:=[]) hok (ZH _)
   rw[hbx]at this;exact this
  ·exact hev.sel hm' (bs:=[0,1,2]) (ts:=[]) hok (ZH _) (fun i hi=>by
    have hi:i<g.ρ.length:=hi
    have h3:g.ρ.length=3:=hm.bl
    obtain rfl|rfl|rfl:i=0\/i=1\/i=2:=by omega
    all_goals rfl) (fun i hi=>by simp at hi)
abbrev Kf (e:Nat):Value:=.iface 268 (.agg #[.int .i64 (e:Int)])
theorem TO {w:World}{g:G}{fr:List Fr}{e:Nat}{v:Value}(h:V w g fr (VV e) v):v=Kf e:=by
 cases h with
 | iface _ _ u hu=>
  obtain⟨vs,rfl,hl,hvs⟩:=QC hu
  match vs,hl with
  | [x],_=>have:=(hvs 0 _ x rfl rfl).int_inv;subst this;rfl
theorem LB (w:World)(g:G)(fr:List Fr)(e:Nat):V w g fr (VV e) (Kf e):=
 .iface _ _ _ (.agg _ [.int .i64 (e:Int)] rfl fun j d v hd hv=>by
  match j with
  | 0=>simp at hd hv;subst hd hv;exact .int _ _
  | j+1=>simp at hd)
theorem Sc [Known](e0:Nat):∀(g:G) (w:World) (vs:List Value),Mem g [zIt,[.int .i64 0],[.int .i64 0]] [] w->vs.length=([.ptr 0 0,.ptr 1 0,.ptr 2 0]:List D).length->(∀(j:Nat) (d:D) (v:Value),([.ptr 0 0,.ptr 1 0,.ptr 2 0]:List D)[j]?=some d->vs[j]?=some v->V w g [] d v) ->
  CallsD Tryz.prog 169 vs.toArray (.panicking [{ v:=Kf e0,recovered:=false }]) w fun e u2 w'=>(∃ v,e=.returned v)/\u2=.panicking [{ v:=Kf e0,recovered:=true }]/\∃ g',Mem g' [zIt,[.int .i64 0],[.int .i64 (e0:Int)]] [] w'/\Evo ⟨g,[],w⟩ ⟨g',[],w'⟩:=fun g w vs hm hl hv=>by
 refine(Rk (dv:=VV e0) (u':=.panicking [{ v:=Kf e0,recovered:=true }]) (post:=fun S=>S.bx=[zIt,[.int .i64 0],[.int .i64 (e0:Int)],[.int .i64 (e0:Int)]]/\S.fr=[]) Tryz.func169 rfl Tryz.ntmps169 rfl rfl rfl rfl rfl (fun ρ=>by simp[execOp,resolve,invoke,Sem.run_bind];rfl) hm hl hv (fun c₀ cs hc=>by simp only[recoverD,hc];exact⟨LB _ _ _ _,trivial⟩) ?_).mono ?_
 ·repeat'(first|refine R5 Za Z Z Z Z ?_|refine⟨rfl,?_⟩ | (apply Zg Za;exact Z)|(apply Zh Za;exact Z)|refine Ze Z Qt ?_|(apply Zm 5 ZG;decide +kernel;kernel_rfl;kernel_rfl;kernel_rfl;exact Z;exact Z)|(apply Zq;(iterate 4 exact Z))|exact AE.nil _ _ _ _|(apply Zv;exact Z)|(apply O1;exact Z)|(apply ZA;exact Z;exact Z;decide +kernel;exact Z)|(apply ZB;exact Z)|(apply HV;exact Z)|exact AO.nil _ _ _|(apply Zp;(decide +kernel))|exact AOs.nil|exact ZJ rfl rfl|exact O2 rfl)
  all_goals rfl
 ·rintro e u2 w' ⟨he,hu,S,g',hm',hev,hbx,hfr⟩
  have hok:YM [0,1,2] S.bx.length:=Yw (by rw[hbx];rfl)
  refine⟨he,hu,g'.sel [0,1,2] [],?_,?_⟩
  ·have:=hm'.sel (bs:=[0,1,2]) (ts:=[]) hok (ZH _)
   rw[hbx]at this;exact this
  ·exact hev.sel hm' (bs:=[0,1,2]) (ts:=[]) hok (ZH _) (fun i hi=>by
    have hi:i<g.ρ.length:=hi
    have h3:g.ρ.length=3:=hm.bl
    obtain rfl|rfl|rfl:i=0\/i=1\/i=2:=by omega
    all_goals rfl) (fun i hi=>by simp at hi)
theorem tm3 {w:World}{g:G}{bx:List (List D)}{fr:List Fr}{tm:List (Nat × D)}{T:Nat->Value}[Known](hm:Mem g bx fr w)(hok:YM [0,1,2] bx.length)(h:∀ t,V w g fr (Av.look tm t) (T t))(h4:Av.look tm 4=.ptr 0 0)(h5:Av.look tm 5=.ptr 1 0)(h6:Av.look tm 6=.ptr 2 0) :
  ∀ t,V w (g.sel [0,1,2] []) [] (Av.look [(4,.ptr 0 0),(5,.ptr 1 0),(6,.ptr 2 0)] t) (T t):=fun t=>by
 have k:=fun(i:Nat) (d:D) (hd:Av.look tm i=d)=>(hd ▸ h i:V w g fr d (T i)).sel hm hok (ZH _)
 by_cases e4:t=4
 ·subst e4;exact k 4 _ h4
 by_cases e5:t=5
 ·subst e5;exact k 5 _ h5
 by_cases e6:t=6
 ·subst e6;exact k 6 _ h6
 ·have:Av.look [(4,D.ptr 0 0),(5,.ptr 1 0),(6,.ptr 2 0)] t=.junk:=by
   have b:∀ x:Nat,t ≠ x->Nat.beq x t=false:=fun x hx=>by
    cases hb:Nat.beq x t with
    | false=>rfl
    | true=>exact(hx (Nat.eq_of_beq_eq_true hb).symm).elim
   simp only[Av.look,b 4 e4,b 5 e5,b 6 e6]
  rw[this]
  exact .junk _
abbrev rdI (r:It × Nat × Nat):D:=.tup [itD r.1,.int .i64 (r.2.1:Int),.int .i64 (r.2.2:Int)]
theorem Kg [Known][KnownU8](b:List UInt8)(p:Int)(hb:b.length<=140737488351232):AP Tryz.prog 146 [byE b,.int .i64 p] (rdI (YI b p)) []:=by
 by_cases hout:p<0\/(b.length:Int)<p
 ·have e:YI b p=(.mk 0 0 [] [],0,1):=by rw[YI,if_pos hout]
  rw[e]
  rcases Int.lt_or_le p 0 with hp|hp
  ·have d0:decide (p<0)=true:=decide_eq_true hp
   refine AP.ofA (Zl Tryz.func146 Z Tryz.ntmps146 Z Z ?_)
   repeat'(first|(apply Zg Za;exact Z)|(apply Zh Za;exact Z)|(apply Zs Za;exact Z)|refine Zo Z Z Z Qt ?_|refine Zj Z Qt Z Z ?_|refine Ze Z Qt ?_)
   all_goals exact Qe
  ·have d0:decide (p<0)=false:=decide_eq_false (by omega)
   have d1:decide (p>((b.map E.byte).length:Int))=true:=decide_eq_true (by rw[List.length_map];omega)
   refine AP.ofA (Zl Tryz.func146 Z Tryz.ntmps146 Z Z ?_)
   repeat'(first|(apply Zg Za;exact Z)|(apply Zh Za;exact Z)|(apply Zs Za;exact Z)|refine Zd Z Z Z Qt ?_|refine Zi Z Qt Z Z ?_|refine Ze Z Qt ?_|refine Zn Za Z Z Z Z ?_)
   all_goals exact Qe
 ·obtain⟨q,rfl⟩:∃ q:Nat,p=(q:Int):=⟨p.toNat,by omega⟩
  have hq:q<=b.length:=by omega
  have d0:decide ((q:Int)<0)=false:=decide_eq_false (by omega)
  have d1:decide ((q:Int)>((b.map E.byte).length:Int))=false:=decide_eq_false (by rw[List.length_map];omega)
  have hit:=I8 b hb 6 1 rfl q 256 hq (Nat.le_refl _)
  have e:YI b (q:Int)=match Yc 6 256 (b.drop q) with
   | .error e=>(.mk 0 0 [] [],0,e)
   | .ok (x,r,_)=>(x,b.length-r.length,0):=by rw[YI,if_neg hout,Int.toNat_natCast];rfl
  rw[e]
  unfold itR at hit
  refine⟨fun g w vs hm hlen hv=>?_⟩
  have hρ:g.ρ=[]:=List.length_eq_zero_iff.1 hm.bl
  refine calls_of_wp_defers Tryz.func146 rfl ?_
  have hi:=K7 (n:=29) (Nat.le_of_ble_eq_true rfl) hm hlen hv
  refine K8 29 [(0,byE b),(1,.int .i64 (q:Int)),(4,.ptr 0 0),(5,.ptr 1 0),(6,.ptr 2 0)] [zIt,[.int .i64 0],[.int .i64 0]] [] (0,0) hi ?_ fun g1 a1 w1 hi1=>?_
  ·repeat'(first|(apply Zh Za;exact Z))
   all_goals exact⟨rfl,rfl,rfl,rfl,rfl,.cons rfl (.cons rfl (.cons rfl (.cons rfl (.cons rfl .nil))))⟩
  refine K8 29 [(0,byE b),(1,.int .i64 (q:Int)),(4,.ptr 0 0),(5,.ptr 1 0),(6,.ptr 2 0)] [zIt,[.int .i64 0],[.int .i64 0]] [] (0,0) hi1 ?_ fun g2 a2 w2 hi2=>?_
  ·repeat'(first|(apply Zg Za;exact Z)|(apply Zh Za;exact Z)|(apply Zs Za;exact Z)|refine Zd Z Z Z Qt ?_|refine Zi Z Qt Z Z ?_|refine Zf Z Qt ?_|refine Zn Za Z Z Z Z ?_)
   all_goals exact⟨rfl,rfl,rfl,rfl,rfl,.cons rfl (.cons rfl (.cons rfl (.cons rfl (.cons rfl .nil))))⟩
  refine TE hi2 rfl rfl fun cvs a3 hcl hcv hi3=>?_
  have ev2:Evo ⟨g,[],w⟩ ⟨g2,[],w2⟩:=hi2.evo
  have hi4:=@Inv.rebase _ ⟨[{ target:=.fn (.func 169) cvs.toArray,args := #[] }]⟩ _ _ _ _ _ _ _ _ _ hi3 3 0 rfl rfl
  have hfd:QP Tryz.prog 169=true:=by kernel_rfl
  cases hx:Yc 6 256 (b.drop q) with
  | error e0=>
   rw[hx]at hit
   dsimp only at hit ⊢
   refine H0 [{ target:=.fn (.func 169) cvs.toArray,args := #[] }] (@Sa _ _ ⟨[{ target:=.fn (.func 169) cvs.toArray,args := #[] }]⟩ b q e0 hit) hi4 (fun S g a w _ _ h=>by cases h.1) (fun S g4 a4 w4 v d hi5 hdl hv h=>?_) (fun S h=>by cases h.1) (fun S i h=>by cases h.1) (fun S i h=>by cases h.1)
   obtain⟨hp,hn,hbx,h4,h5,h6⟩:=h
   injection hp with hp
   subst hp
   obtain rfl:=TO hv
   obtain⟨_,hm5,htm5,hev5⟩:=@Inv.parts _ ⟨[{ target:=.fn (.func 169) cvs.toArray,args := #[] }]⟩ _ _ _ _ _ hi5
   obtain⟨x0,x1,x2,xs,hS⟩:∃ x0 x1 x2 xs,S.bx=x0::x1::x2::xs:=by
    match hS:S.bx,hbx with
    | x0::x1::x2::xs,_=>exact⟨x0,x1,x2,xs,rfl⟩
    | [],h=>simp at h
    | [_],h=>simp at h
    | [_,_],h=>simp at h
   rw[hS]at hbx
   simp only[List.take_succ_cons,List.take_zero,List.cons.injEq,and_true]at hbx
   obtain⟨rfl,rfl,rfl⟩:=hbx
   have hok:YM [0,1,2] S.bx.length:=Yw (by rw[hS];rfl)
   show Leaves Tryz.prog _ a4.tmps _ a4.defers _ w4
   rw[hdl]
   refine X2 (rs:=[.cell 4 230,.cell 5 3,.cell 6 28]) rfl (b:=⟨g,[],w⟩) hρ rfl (@Inv.base _ ⟨[{ target:=.fn (.func 169) cvs.toArray,args := #[] }]⟩ _ _ _ _ _ _ hi5 ev2 hρ rfl) hok rfl hfd hcl (fun j d v hd hv=>(hcv j d v hd hv).evo hev5) (by simp) rfl (by rw[hS];rfl) (Sc e0) (tm3 hm5 hok htm5 h4 h5 h6) (ds:=[.agg zIt,.int .i64 0,.int .i64 (e0:Int)]) ?_ (fun g' w' v hev hm' hv'=>?_)
   ·(apply Zc Za;exact Z)
   ·exact⟨g',[],[],.ret (D.wk _),hev,hm',⟨v,rfl,hv'.wk⟩,rfl,rfl,rfl⟩
  | ok y=>
   obtain⟨⟨k1,n1,b1,l1⟩,r,m1⟩:=y
   rw[hx]at hit
   dsimp only at hit ⊢
   refine H0 [{ target:=.fn (.func 169) cvs.toArray,args := #[] }] (@Bk _ _ ⟨[{ target:=.fn (.func 169) cvs.toArray,args := #[] }]⟩ b q (b.length-r.length) m1 k1 n1 b1 l1 hit) hi4 (fun S g4 a4 w4 hi5 hdl h=>?_) (fun S g a w v d _ _ _ h=>by cases h.1) (fun S h=>by cases h.1) (fun S i h=>by cases h.1) (fun S i h=>by cases h.1)
   obtain⟨_,hn,hbx,hfr,h4,h5,h6⟩:=h
   obtain⟨_,hm5,htm5,hev5⟩:=@Inv.parts _ ⟨[{ target:=.fn (.func 169) cvs.toArray,args := #[] }]⟩ _ _ _ _ _ hi5
   have hok:YM [0,1,2] S.bx.length:=Yw (by rw[hbx];rfl)
   show Leaves Tryz.prog _ a4.tmps _ a4.defers _ w4
   rw[hdl]
   refine X2 (rs:=[.cell 4 230,.cell 5 3,.cell 6 28]) rfl (b:=⟨g,[],w⟩) hρ rfl (@Inv.base _ ⟨[{ target:=.fn (.func 169) cvs.toArray,args := #[] }]⟩ _ _ _ _ _ _ hi5 ev2 hρ rfl) hok rfl hfd hcl (fun j d v hd hv=>(hcv j d v hd hv).evo hev5) (by simp) rfl (by rw[hbx];rfl) (Sb k1 n1 b1 l1 (b.length-r.length)) (tm3 hm5 hok htm5 h4 h5 h6) (ds:=[.agg (itC k1 n1 b1 l1),.int .i64 ((b.length-r.length:Nat):Int),.int .i64 0]) ?_ (fun g' w' v hev hm' hv'=>?_)
   ·(apply Zc Za;exact Z)
   ·exact⟨g',[],[],.ret (D.wk _),hev,hm',⟨v,rfl,hv'.wk⟩,rfl,rfl,rfl⟩
end Go.Proofs.YtchlgagdbflkmaaGreatDoor
end

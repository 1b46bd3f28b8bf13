/- The reader of items: an item. -/
import Derived.Test.YtmljabhmajehnaaGreatDoorW24
import Derived.Test.YtmljabhmajehnaaGreatDoorW26
import Derived.Test.YtmljabhmajehnaaGreatDoorW12
import Derived.Test.YtmljabhmajehnaaGreatDoorW17
import Derived.Test.YtmljabhmajehnaaGreatDoorW23
import Derived.Test.YtmljabhmajehnaaGreatDoorW15
set_option linter.unusedVariables false
set_option linter.unusedSimpArgs false
section
open Go.RowKit Go.Pl Go.Av
namespace Go.Proofs.YtmljabhmajehnaaGreatDoor
set_option maxHeartbeats 4000000
theorem HC {k:Int}(h:okK k=false):(k==0)=false/\(k==2)=false/\(k==3)=false/\(k==4)=false:=by
 simpa[okK]using h
theorem IP [Known][KnownU8](b:List UInt8)(hb:b.length<=1099511627776):∀(d deep:Nat),deep+d=7->∀ p m,p<=b.length->m<=256->AR Tryz.prog 110 [.ptr 0 0,.int .i64 (deep:Int)] [rdC b p m] (itR b d p m)
 | d,deep=>fun hdd p m hp hm=>by
  have hhd:=IL b p m hb hp
  unfold itR
  cases hr:rdS (b.drop p) with
  | error e=>
   rw[hr]at hhd
   have hi:ZI d m (b.drop p)=.error e:=by cases d<;>rw[ZI,hr]
   rw[hi]
   dsimp only at hhd ⊢
   refine Zl Tryz.func110 rfl Tryz.ntmps110 rfl rfl ?_
   repeat'(first|(apply Z9 [0] (hhd.x rfl);kernel_rfl;(iterate 6 exact Z);intro bx2 fr2 hle2)|(apply Zf Za;exact Z)|(apply Zp Za;exact Z))
   all_goals(apply Vs;exact Z;(first|exact Nat.zero_le _|exact Nat.le_trans (Nat.le_of_ble_eq_true rfl) (by assumption));exact Z)
  | ok y=>
   obtain⟨⟨k,n,o⟩,r⟩:=y
   rw[hr]at hhd
   dsimp only at hhd
   obtain⟨_,hn,pre,hpre,_,hpos⟩:=JF hr
   dsimp only at hn
   obtain⟨q1,q2,q3⟩:=Y1 hp hpre
   generalize hp2:b.length-r.length=p2 at q1 q2 q3 hhd
   replace hhd:AR Tryz.prog _ _ _ (.ok (.agg [.int .i64 k,.int .u64 (n:Int),.bool o],[rdC b p2 m])):=hhd
   cases hk:okK k with
   | false=>
    have hi:ZI d m (b.drop p)=.error 3:=by cases d<;>rw[ZI,hr]<;>dsimp only<;>rw[hk]<;>rfl
    rw[hi]
    dsimp only
    obtain⟨k0,k2,k3,k4⟩:=HC hk
    refine Zl Tryz.func110 rfl Tryz.ntmps110 rfl rfl ?_
    repeat'(first|rw[k4]|(apply ZC [0] (hhd.q rfl);kernel_rfl;(iterate 7 exact Z))|(apply Z9 [] (WX 3);kernel_rfl;(iterate 6 exact Z);intro bx2 fr2 hle2)|(apply Zi Za;exact Z)|(apply Zf Za;exact Z)|(apply Zp Za;exact Z)|refine Z2 ?_|refine Ze Z Z Z Qt ?_|refine Zh Z Qt Z Z ?_)
    all_goals(apply Vs;exact Z;(first|exact Nat.zero_le _|exact Nat.le_trans (Nat.le_of_ble_eq_true rfl) (by assumption));exact Z)
   | true=>
    have hk':=JH hk
    cases d with
    | zero=>
     have hi:ZI 0 m (b.drop p)=.error 9:=by rw[ZI,hr];dsimp only;rw[hk];rfl
     rw[hi]
     dsimp only
     obtain rfl:deep=7:=by omega
     rcases hk' with rfl|rfl|rfl|rfl
     all_goals
      refine Zl Tryz.func110 rfl Tryz.ntmps110 rfl rfl ?_
      repeat'(first|(apply ZC [0] (hhd.q rfl);kernel_rfl;(iterate 7 exact Z))|(apply Zb (ZV 3);kernel_rfl;(iterate 4 exact Z))|(apply Z9 [] (WX 9);kernel_rfl;(iterate 6 exact Z);intro bx2 fr2 hle2)|(apply Zi Za;exact Z)|(apply Zf Za;exact Z)|(apply Zp Za;exact Z)|refine Z2 ?_|refine Ze Z Z Z Qt ?_|refine Zn Z Z Z Qt ?_|refine Zj Z Qt Z Z ?_|refine Zh Z Qt Z Z ?_)
      all_goals(apply Vs;exact Z;(first|exact Nat.zero_le _|exact Nat.le_trans (Nat.le_of_ble_eq_true rfl) (by assumption));exact Z)
    | succ d=>
     have dd:decide ((deep:Int)<=6)=true:=by simp;omega
     by_cases hm0:m=0
     ·have hi:ZI (d+1) m (b.drop p)=.error 2:=by rw[ZI,hr];dsimp only;rw[hk,if_neg (by simp),if_pos hm0]
      rw[hi]
      dsimp only
      subst hm0
      rcases hk' with rfl|rfl|rfl|rfl
      all_goals
       refine Zl Tryz.func110 rfl Tryz.ntmps110 rfl rfl ?_
       repeat'(first|rw[dd]|(apply ZC [0] (hhd.q rfl);kernel_rfl;(iterate 7 exact Z))|(apply Zb (ZV 3);kernel_rfl;(iterate 4 exact Z))|(apply Zb (ZV 9);kernel_rfl;(iterate 4 exact Z))|(apply Z9 [] (WX 2);kernel_rfl;(iterate 6 exact Z);intro bx2 fr2 hle2)|(apply Zi Za;exact Z)|(apply Zf Za;exact Z)|(apply Zp Za;exact Z)|refine Z2 ?_|refine Ze Z Z Z Qt ?_|refine Zn Z Z Z Qt ?_|refine Zj Z Qt Z Z ?_|refine Zh Z Qt Z Z ?_)
       all_goals(apply Vs;exact Z;(first|exact Nat.zero_le _|exact Nat.le_trans (Nat.le_of_ble_eq_true rfl) (by assumption));exact Z)
     ·have hi:ZI (d+1) m (b.drop p)=Wh (ZI d) (k,n,o) (m-1) r:=by rw[ZI,hr];dsimp only;rw[hk,if_neg (by simp),if_neg hm0]
      rw[hi]
      have dm:decide ((m:Int)>0)=true:=by simp;omega
      have em:IntKind.i64.wrap ((m:Int)-1)=((m-1:Nat):Int):=by rw[IntWalk.i64_in _ (by omega)];omega
      rcases hk' with rfl|rfl|rfl|rfl
      ·unfold Wh
       rw[if_pos rfl]
       dsimp only
       rw[hp2]
       refine Zl Tryz.func110 rfl Tryz.ntmps110 rfl rfl ?_
       repeat'(first|rw[dd]|rw[dm]|rw[em]|(apply ZC [0] (hhd.q rfl);kernel_rfl;(iterate 7 exact Z))|(apply Zb (ZV 3);kernel_rfl;(iterate 4 exact Z))|(apply Zb (ZV 9);kernel_rfl;(iterate 4 exact Z))|(apply Zb (ZV 2);kernel_rfl;(iterate 4 exact Z))|(apply Zi Za;exact Z)|(apply Zf Za;exact Z)|(apply Zp Za;exact Z)|refine Z2 ?_|refine Zn Z Z Z Qt ?_|refine Zj Z Qt Z Z ?_|refine Zd Z Qt ?_)
       all_goals(apply Q9 (rfl) [0];(apply Zc Za;exact Z);(iterate 4 exact Z))
       all_goals rfl
      ·have hs:=KX (2,n,o) b p2 (m-1) hb q2 hn
       rw[q1]at hs
       unfold Wh
       rw[if_neg (by simp),if_neg (by simp)]
       cases ht:Uq (2,n,o) r with
       | error e=>
        rw[ht]at hs
        dsimp only at hs ⊢
        refine Zl Tryz.func110 rfl Tryz.ntmps110 rfl rfl ?_
        repeat'(first|rw[dd]|rw[dm]|rw[em]|(apply ZC [0] (hhd.q rfl);kernel_rfl;(iterate 7 exact Z))|(apply Zb (ZV 3);kernel_rfl;(iterate 4 exact Z))|(apply Zb (ZV 9);kernel_rfl;(iterate 4 exact Z))|(apply Zb (ZV 2);kernel_rfl;(iterate 4 exact Z))|(apply Z9 [0] (hs.x rfl);kernel_rfl;(iterate 6 exact Z);intro bx2 fr2 hle2)|(apply Zi Za;exact Z)|(apply Zf Za;exact Z)|(apply Zp Za;exact Z)|refine Z2 ?_|refine Ze Z Z Z Qt ?_|refine Zn Z Z Z Qt ?_|refine Zj Z Qt Z Z ?_|refine Zh Z Qt Z Z ?_|refine Zg Z Qt ?_)
        all_goals(apply Vs;exact Z;(first|exact Nat.zero_le _|exact Nat.le_trans (Nat.le_of_ble_eq_true rfl) (by assumption));exact Z)
       | ok y=>
        obtain⟨c,r2⟩:=y
        rw[ht]at hs
        dsimp only at hs ⊢
        refine Zl Tryz.func110 rfl Tryz.ntmps110 rfl rfl ?_
        repeat'(first|rw[dd]|rw[dm]|rw[em]|(apply ZC [0] (hhd.q rfl);kernel_rfl;(iterate 7 exact Z))|(apply Zb (ZV 3);kernel_rfl;(iterate 4 exact Z))|(apply Zb (ZV 9);kernel_rfl;(iterate 4 exact Z))|(apply Zb (ZV 2);kernel_rfl;(iterate 4 exact Z))|(apply ZC [0] (hs.q rfl);kernel_rfl;(iterate 7 exact Z))|(apply Zi Za;exact Z)|(apply Zf Za;exact Z)|refine Z2 ?_|refine Ze Z Z Z Qt ?_|refine Zn Z Z Z Qt ?_|refine Zj Z Qt Z Z ?_|refine Zh Z Qt Z Z ?_|refine Zg Z Qt ?_)
        all_goals(apply Q9 (rfl) [0];(apply Zc Za;exact Z);(iterate 4 exact Z))
        all_goals rfl
      ·have hs:=KX (3,n,o) b p2 (m-1) hb q2 hn
       rw[q1]at hs
       unfold Wh
       rw[if_neg (by simp),if_neg (by simp)]
       cases ht:Uq (3,n,o) r with
       | error e=>
        rw[ht]at hs
        dsimp only at hs ⊢
        refine Zl Tryz.func110 rfl Tryz.ntmps110 rfl rfl ?_
        repeat'(first|rw[dd]|rw[dm]|rw[em]|(apply ZC [0] (hhd.q rfl);kernel_rfl;(iterate 7 exact Z))|(apply Zb (ZV 3);kernel_rfl;(iterate 4 exact Z))|(apply Zb (ZV 9);kernel_rfl;(iterate 4 exact Z))|(apply Zb (ZV 2);kernel_rfl;(iterate 4 exact Z))|(apply Z9 [0] (hs.x rfl);kernel_rfl;(iterate 6 exact Z);intro bx2 fr2 hle2)|(apply Zi Za;exact Z)|(apply Zf Za;exact Z)|(apply Zp Za;exact Z)|refine Z2 ?_|refine Ze Z Z Z Qt ?_|refine Zn Z Z Z Qt ?_|refine Zj Z Qt Z Z ?_|refine Zh Z Qt Z Z ?_|refine Zg Z Qt ?_)
        all_goals(apply Vs;exact Z;(first|exact Nat.zero_le _|exact Nat.le_trans (Nat.le_of_ble_eq_true rfl) (by assumption));exact Z)
       | ok y=>
        obtain⟨c,r2⟩:=y
        rw[ht]at hs
        dsimp only at hs ⊢
        refine Zl Tryz.func110 rfl Tryz.ntmps110 rfl rfl ?_
        repeat'(first|rw[dd]|rw[dm]|rw[em]|(apply ZC [0] (hhd.q rfl);kernel_rfl;(iterate 7 exact Z))|(apply Zb (ZV 3);kernel_rfl;(iterate 4 exact Z))|(apply Zb (ZV 9);kernel_rfl;(iterate 4 exact Z))|(apply Zb (ZV 2);kernel_rfl;(iterate 4 exact Z))|(apply ZC [0] (hs.q rfl);kernel_rfl;(iterate 7 exact Z))|(apply Zi Za;exact Z)|(apply Zf Za;exact Z)|refine Z2 ?_|refine Ze Z Z Z Qt ?_|refine Zn Z Z Z Qt ?_|refine Zj Z Qt Z Z ?_|refine Zh Z Qt Z Z ?_|refine Zg Z Qt ?_)
        all_goals(apply Q9 (rfl) [0];(apply Zc Za;exact Z);(iterate 4 exact Z))
        all_goals rfl
      ·have hs:=NQ d deep (by omega) b hb (fun p m hp hm=>IP b hb d (deep+1) (by omega) p m hp hm) n o p2 (m-1) q2 (by omega) hn
       rw[q1]at hs
       unfold Wh
       rw[if_neg (by simp),if_pos rfl]
       cases ht:QJ (ZI d) (4,n,o) (m-1) r with
       | error e=>
        rw[ht]at hs
        dsimp only at hs ⊢
        refine Zl Tryz.func110 rfl Tryz.ntmps110 rfl rfl ?_
        repeat'(first|rw[dd]|rw[dm]|rw[em]|(apply ZC [0] (hhd.q rfl);kernel_rfl;(iterate 7 exact Z))|(apply Zb (ZV 3);kernel_rfl;(iterate 4 exact Z))|(apply Zb (ZV 9);kernel_rfl;(iterate 4 exact Z))|(apply Zb (ZV 2);kernel_rfl;(iterate 4 exact Z))|(apply Z9 [0] (hs.x rfl);kernel_rfl;(iterate 6 exact Z);intro bx2 fr2 hle2)|(apply Zi Za;exact Z)|(apply Zf Za;exact Z)|(apply Zp Za;exact Z)|refine Z2 ?_|refine Ze Z Z Z Qt ?_|refine Zh Z Qt Z Z ?_|refine Zd Z Qt ?_|refine Zg Z Qt ?_)
        all_goals(apply Vs;exact Z;(first|exact Nat.zero_le _|exact Nat.le_trans (Nat.le_of_ble_eq_true rfl) (by assumption));exact Z)
       | ok y=>
        obtain⟨l,r2,m2⟩:=y
        rw[ht]at hs
        dsimp only at hs ⊢
        refine Zl Tryz.func110 rfl Tryz.ntmps110 rfl rfl ?_
        repeat'(first|rw[dd]|rw[dm]|rw[em]|(apply ZC [0] (hhd.q rfl);kernel_rfl;(iterate 7 exact Z))|(apply Zb (ZV 3);kernel_rfl;(iterate 4 exact Z))|(apply Zb (ZV 9);kernel_rfl;(iterate 4 exact Z))|(apply Zb (ZV 2);kernel_rfl;(iterate 4 exact Z))|(apply ZC [0] (hs.q rfl);kernel_rfl;(iterate 7 exact Z))|(apply Zi Za;exact Z)|(apply Zf Za;exact Z)|(apply Zp Za;exact Z)|refine Z2 ?_|refine Ze Z Z Z Qt ?_|refine Zh Z Qt Z Z ?_|refine Zd Z Qt ?_|refine Zg Z Qt ?_)
        all_goals(apply Q9 (rfl) [0];(apply Zc Za;exact Z);(iterate 4 exact Z))
        all_goals rfl
 termination_by d=>d
abbrev zIt:List D:=[.int .i64 0,.int .u64 0,.sl .nil [],.sl .nil []]
def HE:Code->Code
 | .seq _ (.seq _ (.seq _ r))=>r
 | c=>c
abbrev RX (b:List UInt8)(p:Nat):List (Nat × D):=[(17,.fn 109 [.ptr 0 0,.ptr 1 0,.ptr 2 0]),(0,byE b),(1,.int .i64 (p:Int)),(4,.ptr 0 0),(5,.ptr 1 0),(6,.ptr 2 0)]
theorem RY [Known][KnownU8][Dfr](b:List UInt8)(p p2 m1:Nat)(k:Int)(n:Nat)(bb:List UInt8)(l:List It)(hit:AR Tryz.prog 110 [.ptr 0 0,.int .i64 ((1:Nat):Int)] [rdC b p 256] (.ok (itD (.mk k n bb l),[rdC b p2 m1]))) :
  AW Tryz.prog (HE (Tryz.f58.body.getD .skip)) ⟨29,RX b p,[zIt,[.int .i64 0],[.int .i64 0]],[],(3,0)⟩
   (fun X S=>X=.ret/\S.n=29/\S.bx=[itC k n bb l,[.int .i64 (p2:Int)],[.int .i64 0],rdC b p2 m1]/\S.fr=[]/\Av.look S.tm 4=.ptr 0 0/\Av.look S.tm 5=.ptr 1 0/\Av.look S.tm 6=.ptr 2 0):=by
 conv=>enter [4];whnf
 repeat'(first|(apply ZC [3] (hit.q rfl);kernel_rfl;(iterate 7 exact Z))|(apply Zi Za;exact Z)|(apply Zf Za;exact Z)|(apply Zo 6 ZD;decide +kernel;kernel_rfl;kernel_rfl;kernel_rfl;exact Z;exact Z)|(apply Zs;(iterate 4 exact Z))|exact AE.nil _ _ _ _|(apply Zw;exact Z)|(apply Oq;exact Z)|(apply Zz;exact Z;exact Z;decide +kernel;exact Z)|(apply ZA;exact Z)|(apply Hc;exact Z)|exact AO.nil _ _ _|(apply Zr;(decide +kernel))|exact AOs.nil|exact ZF rfl rfl|exact Ot rfl)
 all_goals exact⟨rfl,rfl,rfl,rfl,rfl,rfl,rfl⟩
theorem L7 [Known][KnownU8][Dfr](b:List UInt8)(p e:Nat)(hit:AR Tryz.prog 110 [.ptr 0 0,.int .i64 ((1:Nat):Int)] [rdC b p 256] (.error (VO e))) :
  AW Tryz.prog (HE (Tryz.f58.body.getD .skip)) ⟨29,RX b p,[zIt,[.int .i64 0],[.int .i64 0]],[],(3,0)⟩
   (fun X S=>X=.pan (VO e)/\S.n=29/\S.bx.take 3=[zIt,[.int .i64 0],[.int .i64 0]]/\Av.look S.tm 4=.ptr 0 0/\Av.look S.tm 5=.ptr 1 0/\Av.look S.tm 6=.ptr 2 0):=by
 conv=>enter [4];whnf
 repeat'(first|(apply Ta [3] (hit.x rfl);kernel_rfl;(iterate 6 exact Z);intro bx2 fr2 hle2)|(apply Zf Za;exact Z)|(apply Zp Za;exact Z))
 all_goals
  obtain⟨c,t,rfl⟩:∃ c t,bx2=c::t:=by
   cases bx2 with
   | nil=>simp at hle2
   | cons c t=>exact⟨c,t,rfl⟩
  exact⟨rfl,rfl,rfl,rfl,rfl,rfl⟩
theorem L8 [Known](k:Int)(n:Nat)(bb:List UInt8)(l:List It)(p2:Nat):∀(g:G) (w:World) (vs:List Value),Mem g [itC k n bb l,[.int .i64 (p2:Int)],[.int .i64 0]] [] w->vs.length=([.ptr 0 0,.ptr 1 0,.ptr 2 0]:List D).length->(∀(j:Nat) (d:D) (v:Value),([.ptr 0 0,.ptr 1 0,.ptr 2 0]:List D)[j]?=some d->vs[j]?=some v->V w g [] d v) ->
  CallsD Tryz.prog 109 vs.toArray .returning w fun e u2 w'=>(∃ v,e=.returned v)/\u2=.returning/\∃ g',Mem g' [itC k n bb l,[.int .i64 (p2:Int)],[.int .i64 0]] [] w'/\Evo ⟨g,[],w⟩ ⟨g',[],w'⟩:=fun g w vs hm hl hv=>by
 refine(Ln (dv:=.nili) (u':=.returning) (post:=fun S=>S.bx=[itC k n bb l,[.int .i64 (p2:Int)],[.int .i64 0],[.int .i64 0]]/\S.fr=[]) Tryz.func109 rfl Tryz.ntmps109 rfl rfl rfl rfl rfl (fun ρ=>by simp[execOp,resolve,invoke,Sem.run_bind];rfl) hm hl hv (fun c₀ cs hc=>by simp[recoverD,hc]) ?_).mono ?_
 ·repeat'(first|(apply LN Za (cs:=[.int .i64 0]);(iterate 3 exact Z);kernel_rfl;exact Z)|refine⟨rfl,?_⟩ | (apply Zi Za;exact Z)|(apply Zf Za;exact Z)|refine Zg Z Qt ?_)
  all_goals rfl
 ·rintro e u2 w' ⟨he,hu,S,g',hm',hev,hbx,hfr⟩
  have hok:YV [0,1,2] S.bx.length:=Y0 (by rw[hbx];rfl)
  refine⟨he,hu,g'.sel [0,1,2] [],?_,?_⟩
  ·have:=hm'.sel (bs:=[0,1,2]) (ts:=[]) hok (ZB _)
   rw[hbx]at this;exact this
  ·exact hev.sel hm' (bs:=[0,1,2]) (ts:=[]) hok (ZB _) (fun i hi=>by
    have hi:i<g.ρ.length:=hi
    have h3:g.ρ.length=3:=hm.bl
    obtain rfl|rfl|rfl:i=0\/i=1\/i=2:=by omega
    all_goals rfl) (fun i hi=>by simp at hi)
abbrev X0 (e:Nat):Value:=.iface 175 (.agg #[.int .i64 (e:Int)])
theorem Tq {w:World}{g:G}{fr:List Fr}{e:Nat}{v:Value}(h:V w g fr (VO e) v):v=X0 e:=by
 cases h with
 | iface _ _ u hu=>
  obtain⟨vs,rfl,hl,hvs⟩:=U6 hu
  match vs,hl with
  | [x],_=>have:=(hvs 0 _ x rfl rfl).int_inv;subst this;rfl
theorem M3 (w:World)(g:G)(fr:List Fr)(e:Nat):V w g fr (VO e) (X0 e):=
 .iface _ _ _ (.agg _ [.int .i64 (e:Int)] rfl fun j d v hd hv=>by
  match j with
  | 0=>simp at hd hv;subst hd hv;exact .int _ _
  | j+1=>simp at hd)
theorem L9 [Known](e0:Nat):∀(g:G) (w:World) (vs:List Value),Mem g [zIt,[.int .i64 0],[.int .i64 0]] [] w->vs.length=([.ptr 0 0,.ptr 1 0,.ptr 2 0]:List D).length->(∀(j:Nat) (d:D) (v:Value),([.ptr 0 0,.ptr 1 0,.ptr 2 0]:List D)[j]?=some d->vs[j]?=some v->V w g [] d v) ->
  CallsD Tryz.prog 109 vs.toArray (.panicking [{ v:=X0 e0,recovered:=false }]) w fun e u2 w'=>(∃ v,e=.returned v)/\u2=.panicking [{ v:=X0 e0,recovered:=true }]/\∃ g',Mem g' [zIt,[.int .i64 0],[.int .i64 (e0:Int)]] [] w'/\Evo ⟨g,[],w⟩ ⟨g',[],w'⟩:=fun g w vs hm hl hv=>by
 refine(Ln (dv:=VO e0) (u':=.panicking [{ v:=X0 e0,recovered:=true }]) (post:=fun S=>S.bx=[zIt,[.int .i64 0],[.int .i64 (e0:Int)],[.int .i64 (e0:Int)]]/\S.fr=[]) Tryz.func109 rfl Tryz.ntmps109 rfl rfl rfl rfl rfl (fun ρ=>by simp[execOp,resolve,invoke,Sem.run_bind];rfl) hm hl hv (fun c₀ cs hc=>by simp only[recoverD,hc];exact⟨M3 _ _ _ _,trivial⟩) ?_).mono ?_
 ·repeat'(first|refine LM Za Z Z Z Z ?_|refine⟨rfl,?_⟩ | (apply Zi Za;exact Z)|(apply Zf Za;exact Z)|refine Zd Z Qt ?_|(apply Zo 5 ZD;decide +kernel;kernel_rfl;kernel_rfl;kernel_rfl;exact Z;exact Z)|(apply Zs;(iterate 4 exact Z))|exact AE.nil _ _ _ _|(apply Zw;exact Z)|(apply Oq;exact Z)|(apply Zz;exact Z;exact Z;decide +kernel;exact Z)|(apply ZA;exact Z)|(apply Hc;exact Z)|exact AO.nil _ _ _|(apply Zr;(decide +kernel))|exact AOs.nil|exact ZF rfl rfl|exact Ot rfl)
  all_goals rfl
 ·rintro e u2 w' ⟨he,hu,S,g',hm',hev,hbx,hfr⟩
  have hok:YV [0,1,2] S.bx.length:=Y0 (by rw[hbx];rfl)
  refine⟨he,hu,g'.sel [0,1,2] [],?_,?_⟩
  ·have:=hm'.sel (bs:=[0,1,2]) (ts:=[]) hok (ZB _)
   rw[hbx]at this;exact this
  ·exact hev.sel hm' (bs:=[0,1,2]) (ts:=[]) hok (ZB _) (fun i hi=>by
    have hi:i<g.ρ.length:=hi
    have h3:g.ρ.length=3:=hm.bl
    obtain rfl|rfl|rfl:i=0\/i=1\/i=2:=by omega
    all_goals rfl) (fun i hi=>by simp at hi)
theorem tm3 {w:World}{g:G}{bx:List (List D)}{fr:List Fr}{tm:List (Nat × D)}{T:Nat->Value}[Known](hm:Mem g bx fr w)(hok:YV [0,1,2] bx.length)(h:∀ t,V w g fr (Av.look tm t) (T t))(h4:Av.look tm 4=.ptr 0 0)(h5:Av.look tm 5=.ptr 1 0)(h6:Av.look tm 6=.ptr 2 0) :
  ∀ t,V w (g.sel [0,1,2] []) [] (Av.look [(4,.ptr 0 0),(5,.ptr 1 0),(6,.ptr 2 0)] t) (T t):=fun t=>by
 have k:=fun(i:Nat) (d:D) (hd:Av.look tm i=d)=>(hd ▸ h i:V w g fr d (T i)).sel hm hok (ZB _)
 by_cases e4:t=4
 ·subst e4;exact k 4 _ h4
 by_cases e5:t=5
 ·subst e5;exact k 5 _ h5
 by_cases e6:t=6
 ·subst e6;exact k 6 _ h6
 ·have:Av.look [(4,D.ptr 0 0),(5,.ptr 1 0),(6,.ptr 2 0)] t=.junk:=by
   have b:∀ x:Nat,t ≠ x->Nat.beq x t=false:=fun x hx=>by
    cases hb:Nat.beq x t with
    | false=>rfl
    | true=>exact(hx (Nat.eq_of_beq_eq_true hb).symm).elim
   simp only[Av.look,b 4 e4,b 5 e5,b 6 e6]
  rw[this]
  exact .junk _
abbrev rdI (r:It × Nat × Nat):D:=.tup [itD r.1,.int .i64 (r.2.1:Int),.int .i64 (r.2.2:Int)]
theorem X1 [Known][KnownU8](b:List UInt8)(p:Int)(hb:b.length<=1099511627776):AP Tryz.prog 58 [byE b,.int .i64 p] (rdI (Yg b p)) []:=by
 by_cases hout:p<0\/(b.length:Int)<p
 ·have e:Yg b p=(.mk 0 0 [] [],0,1):=by rw[Yg,if_pos hout]
  rw[e]
  rcases Int.lt_or_le p 0 with hp|hp
  ·have d0:decide (p<0)=true:=decide_eq_true hp
   refine AP.ofA (Zl Tryz.func58 Z Tryz.ntmps58 Z Z ?_)
   repeat'(first|(apply Zi Za;exact Z)|(apply Zf Za;exact Z)|(apply Zp Za;exact Z)|refine Zn Z Z Z Qt ?_|refine Zj Z Qt Z Z ?_|refine Zd Z Qt ?_)
   all_goals exact Qe
  ·have d0:decide (p<0)=false:=decide_eq_false (by omega)
   have d1:decide (p>((b.map E.byte).length:Int))=true:=decide_eq_true (by rw[List.length_map];omega)
   refine AP.ofA (Zl Tryz.func58 Z Tryz.ntmps58 Z Z ?_)
   repeat'(first|(apply Zi Za;exact Z)|(apply Zf Za;exact Z)|(apply Zp Za;exact Z)|refine Ze Z Z Z Qt ?_|refine Zh Z Qt Z Z ?_|refine Zd Z Qt ?_|refine Zm Za Z Z Z Z ?_)
   all_goals exact Qe
 ·obtain⟨q,rfl⟩:∃ q:Nat,p=(q:Int):=⟨p.toNat,by omega⟩
  have hq:q<=b.length:=by omega
  have d0:decide ((q:Int)<0)=false:=decide_eq_false (by omega)
  have d1:decide ((q:Int)>((b.map E.byte).length:Int))=false:=decide_eq_false (by rw[List.length_map];omega)
  have hit:=IP b hb 6 1 rfl q 256 hq (Nat.le_refl _)
  have e:Yg b (q:Int)=match ZI 6 256 (b.drop q) with
   | .error e=>(.mk 0 0 [] [],0,e)
   | .ok (x,r,_)=>(x,b.length-r.length,0):=by rw[Yg,if_neg hout,Int.toNat_natCast];rfl
  rw[e]
  unfold itR at hit
  refine⟨fun g w vs hm hlen hv=>?_⟩
  have hρ:g.ρ=[]:=List.length_eq_zero_iff.1 hm.bl
  refine calls_of_wp_defers Tryz.func58 rfl ?_
  have hi:=KF (n:=29) (Nat.le_of_ble_eq_true rfl) hm hlen hv
  refine KG 29 [(0,byE b),(1,.int .i64 (q:Int)),(4,.ptr 0 0),(5,.ptr 1 0),(6,.ptr 2 0)] [zIt,[.int .i64 0],[.int .i64 0]] [] (0,0) hi ?_ fun g1 a1 w1 hi1=>?_
  ·repeat'(first|(apply Zf Za;exact Z))
   all_goals exact⟨rfl,rfl,rfl,rfl,rfl,.cons rfl (.cons rfl (.cons rfl (.cons rfl (.cons rfl .nil))))⟩
  refine KG 29 [(0,byE b),(1,.int .i64 (q:Int)),(4,.ptr 0 0),(5,.ptr 1 0),(6,.ptr 2 0)] [zIt,[.int .i64 0],[.int .i64 0]] [] (0,0) hi1 ?_ fun g2 a2 w2 hi2=>?_
  ·repeat'(first|(apply Zi Za;exact Z)|(apply Zf Za;exact Z)|(apply Zp Za;exact Z)|refine Ze Z Z Z Qt ?_|refine Zh Z Qt Z Z ?_|refine Zg Z Qt ?_|refine Zm Za Z Z Z Z ?_)
   all_goals exact⟨rfl,rfl,rfl,rfl,rfl,.cons rfl (.cons rfl (.cons rfl (.cons rfl (.cons rfl .nil))))⟩
  refine H9 hi2 rfl rfl fun cvs a3 hcl hcv hi3=>?_
  have ev2:Evo ⟨g,[],w⟩ ⟨g2,[],w2⟩:=hi2.evo
  have hi4:=@Inv.rebase _ ⟨[{ target:=.fn (.func 109) cvs.toArray,args := #[] }]⟩ _ _ _ _ _ _ _ _ _ hi3 3 0 rfl rfl
  have hfd:QX Tryz.prog 109=true:=by kernel_rfl
  cases hx:ZI 6 256 (b.drop q) with
  | error e0=>
   rw[hx]at hit
   dsimp only at hit ⊢
   refine Hl [{ target:=.fn (.func 109) cvs.toArray,args := #[] }] (@L7 _ _ ⟨[{ target:=.fn (.func 109) cvs.toArray,args := #[] }]⟩ b q e0 hit) hi4 (fun S g a w _ _ h=>by cases h.1) (fun S g4 a4 w4 v d hi5 hdl hv h=>?_) (fun S h=>by cases h.1) (fun S i h=>by cases h.1) (fun S i h=>by cases h.1)
   obtain⟨hp,hn,hbx,h4,h5,h6⟩:=h
   injection hp with hp
   subst hp
   obtain rfl:=Tq hv
   obtain⟨_,hm5,htm5,hev5⟩:=@Inv.parts _ ⟨[{ target:=.fn (.func 109) cvs.toArray,args := #[] }]⟩ _ _ _ _ _ hi5
   obtain⟨x0,x1,x2,xs,hS⟩:∃ x0 x1 x2 xs,S.bx=x0::x1::x2::xs:=by
    match hS:S.bx,hbx with
    | x0::x1::x2::xs,_=>exact⟨x0,x1,x2,xs,rfl⟩
    | [],h=>simp at h
    | [_],h=>simp at h
    | [_,_],h=>simp at h
   rw[hS]at hbx
   simp only[List.take_succ_cons,List.take_zero,List.cons.injEq,and_true]at hbx
   obtain⟨rfl,rfl,rfl⟩:=hbx
   have hok:YV [0,1,2] S.bx.length:=Y0 (by rw[hS];rfl)
   show Leaves Tryz.prog _ a4.tmps _ a4.defers _ w4
   rw[hdl]
   refine XH (rs:=[.cell 4 115,.cell 5 3,.cell 6 36]) rfl (b:=⟨g,[],w⟩) hρ rfl (@Inv.base _ ⟨[{ target:=.fn (.func 109) cvs.toArray,args := #[] }]⟩ _ _ _ _ _ _ hi5 ev2 hρ rfl) hok rfl hfd hcl (fun j d v hd hv=>(hcv j d v hd hv).evo hev5) (by simp) rfl (by rw[hS];rfl) (L9 e0) (tm3 hm5 hok htm5 h4 h5 h6) (ds:=[.agg zIt,.int .i64 0,.int .i64 (e0:Int)]) ?_ (fun g' w' v hev hm' hv'=>?_)
   ·(apply Zc Za;exact Z)
   ·exact⟨g',[],[],.ret (D.wk _),hev,hm',⟨v,rfl,hv'.wk⟩,rfl,rfl,rfl⟩
  | ok y=>
   obtain⟨⟨k1,n1,b1,l1⟩,r,m1⟩:=y
   rw[hx]at hit
   dsimp only at hit ⊢
   refine Hl [{ target:=.fn (.func 109) cvs.toArray,args := #[] }] (@RY _ _ ⟨[{ target:=.fn (.func 109) cvs.toArray,args := #[] }]⟩ b q (b.length-r.length) m1 k1 n1 b1 l1 hit) hi4 (fun S g4 a4 w4 hi5 hdl h=>?_) (fun S g a w v d _ _ _ h=>by cases h.1) (fun S h=>by cases h.1) (fun S i h=>by cases h.1) (fun S i h=>by cases h.1)
   obtain⟨_,hn,hbx,hfr,h4,h5,h6⟩:=h
   obtain⟨_,hm5,htm5,hev5⟩:=@Inv.parts _ ⟨[{ target:=.fn (.func 109) cvs.toArray,args := #[] }]⟩ _ _ _ _ _ hi5
   have hok:YV [0,1,2] S.bx.length:=Y0 (by rw[hbx];rfl)
   show Leaves Tryz.prog _ a4.tmps _ a4.defers _ w4
   rw[hdl]
   refine XH (rs:=[.cell 4 115,.cell 5 3,.cell 6 36]) rfl (b:=⟨g,[],w⟩) hρ rfl (@Inv.base _ ⟨[{ target:=.fn (.func 109) cvs.toArray,args := #[] }]⟩ _ _ _ _ _ _ hi5 ev2 hρ rfl) hok rfl hfd hcl (fun j d v hd hv=>(hcv j d v hd hv).evo hev5) (by simp) rfl (by rw[hbx];rfl) (L8 k1 n1 b1 l1 (b.length-r.length)) (tm3 hm5 hok htm5 h4 h5 h6) (ds:=[.agg (itC k1 n1 b1 l1),.int .i64 ((b.length-r.length:Nat):Int),.int .i64 0]) ?_ (fun g' w' v hev hm' hv'=>?_)
   ·(apply Zc Za;exact Z)
   ·exact⟨g',[],[],.ret (D.wk _),hev,hm',⟨v,rfl,hv'.wk⟩,rfl,rfl,rfl⟩
theorem Ra {s:List UInt8}{e:Nat}(h:rdS s=.error e):e ≠ 0:=by
 cases s with
 | nil=>simp only[rdS,Except.error.injEq]at h;omega
 | cons c r=>
  simp only[rdS]at h
  repeat' split at h
  all_goals(cases h;try omega)
theorem KY {p:Hd}{s:List UInt8}{e:Nat}(h:YQ p s=.error e):e ≠ 0:=by
 simp only[YQ]at h
 repeat' split at h
 all_goals(cases h;try omega)
theorem HF (m:Int):∀(f:Nat) (acc s:List UInt8) (e:Nat),Jd m f acc s=.error e->e ≠ 0
 | 0,_,_,e,h=>by simp only[Jd,Except.error.injEq]at h;omega
 | f+1,acc,s,e,h=>by
  rw[Jd]at h
  cases hb:V9 s<;>rw[hb]at h
  ·cases hr:rdS s with
   | error c=>rw[hr]at h;dsimp only at h;simp only[Except.error.injEq]at h;exact h ▸ Ra hr
   | ok y=>
    obtain⟨p,r⟩:=y
    rw[hr]at h;dsimp only at h
    split at h
    ·cases hp:YQ p r with
     | error c=>rw[hp]at h;dsimp only at h;simp only[Except.error.injEq]at h;exact h ▸ KY hp
     | ok z=>rw[hp]at h;exact HF m f _ _ e h
    ·simp only[Except.error.injEq]at h;omega
  ·exact nomatch h
theorem IQ {it:Nat->List UInt8->Res (It × List UInt8 × Nat)}(hi:∀ m s e,it m s=.error e->e ≠ 0):∀(f:Nat) (acc:List It) (m:Nat) (s:List UInt8) (e:Nat),Ua it f acc m s=.error e->e ≠ 0
 | 0,_,_,_,_,h=>nomatch h
 | f+1,acc,m,s,e,h=>by
  rw[Ua]at h
  cases hr:it m s with
  | error c=>rw[hr]at h;dsimp only at h;simp only[Except.error.injEq]at h;exact h ▸ hi _ _ _ hr
  | ok y=>obtain⟨x,r,m'⟩:=y;rw[hr]at h;exact IQ hi f _ _ _ e h
theorem IR {it:Nat->List UInt8->Res (It × List UInt8 × Nat)}(hi:∀ m s e,it m s=.error e->e ≠ 0):∀(f:Nat) (acc:List It) (m:Nat) (s:List UInt8) (e:Nat),Je it f acc m s=.error e->e ≠ 0
 | 0,_,_,_,e,h=>by simp only[Je,Except.error.injEq]at h;omega
 | f+1,acc,m,s,e,h=>by
  rw[Je]at h
  cases hb:V9 s<;>rw[hb]at h
  ·cases hr:it m s with
   | error c=>rw[hr]at h;dsimp only at h;simp only[Except.error.injEq]at h;exact h ▸ hi _ _ _ hr
   | ok y=>obtain⟨x,r,m'⟩:=y;rw[hr]at h;exact IR hi f _ _ _ e h
  ·exact nomatch h
theorem NR {it:Nat->List UInt8->Res (It × List UInt8 × Nat)}(hi:∀ m s e,it m s=.error e->e ≠ 0){p:Hd}{m:Nat}{r:List UInt8}{e:Nat}(h:Wh it p m r=.error e):e ≠ 0:=by
 have h1:∀ e,Uq p r=.error e->e ≠ 0:=by
  intro e h;simp only[Uq]at h
  split at h
  ·exact HF _ _ _ _ _ h
  ·exact KY h
 have h2:∀ e,QJ it p m r=.error e->e ≠ 0:=by
  intro e h;simp only[QJ]at h
  split at h
  ·exact IR hi _ _ _ _ _ h
  ·split at h
   ·exact IQ hi _ _ _ _ _ h
   ·cases h;omega
 simp only[Wh]at h
 repeat' split at h
 all_goals first
  | (cases h;done)
  | (rename_i hq;cases h;exact h1 _ hq)
  | (rename_i hq;cases h;exact h2 _ hq)
theorem VP:∀(d m:Nat) (s:List UInt8) (e:Nat),ZI d m s=.error e->e ≠ 0
 | 0,m,s,e,h=>by
  rw[ZI]at h
  cases hr:rdS s with
  | error c=>rw[hr]at h;dsimp only at h;simp only[Except.error.injEq]at h;exact h ▸ Ra hr
  | ok y=>
   obtain⟨p,r⟩:=y
   rw[hr]at h;dsimp only at h
   split at h<;>(simp only[Except.error.injEq]at h;omega)
 | d+1,m,s,e,h=>by
  rw[ZI]at h
  cases hr:rdS s with
  | error c=>rw[hr]at h;dsimp only at h;simp only[Except.error.injEq]at h;exact h ▸ Ra hr
  | ok y=>
   obtain⟨p,r⟩:=y
   rw[hr]at h;dsimp only at h
   split at h
   ·simp only[Except.error.injEq]at h;omega
   ·split at h
    ·simp only[Except.error.injEq]at h;omega
    ·exact NR (VP d) h
theorem OB [Known][KnownU8](b:List UInt8)(hb:b.length<4294967296):AP Tryz.prog 132 [byE b] (.bool (YL b)) []:=by
 have hR:=X1 b 0 (by omega)
 have e:Yg b 0=match ZI 6 256 b with
   | .error e=>(.mk 0 0 [] [],0,e)
   | .ok (x,r,_)=>(x,b.length-r.length,0):=by rw[Yg,if_neg (by omega)];rfl
 rw[e]at hR
 unfold YL
 cases hx:ZI 6 256 b with
 | error c=>
  rw[hx]at hR
  dsimp only
  have hc:((c:Int)==0)=false:=by
   have h0:=VP _ _ _ _ hx
   rw[<- Bool.not_eq_true,beq_iff_eq];omega
  replace hR:AP Tryz.prog _ _ (.tup [itD (.mk 0 0 [] []),.int .i64 0,.int .i64 (c:Int)]) []:=hR
  refine AP.ofA (Zl Tryz.func132 Z Tryz.ntmps132 Z Z ?_)
  repeat'(first|rw[hc]|(apply Zb (hR);kernel_rfl;(iterate 4 exact Z))|(apply Zi Za;exact Z)|(apply Zf Za;exact Z)|refine Zt Z Z Z Qt ?_|refine Zh Z Qt Z Z ?_)
  all_goals exact Qe
 | ok y=>
  obtain⟨⟨k1,n1,b1,l1⟩,r,m1⟩:=y
  rw[hx]at hR
  replace hR:AP Tryz.prog _ _ (.tup [itD (.mk k1 n1 b1 l1),.int .i64 ((b.length-r.length:Nat):Int),.int .i64 0]) []:=hR
  obtain⟨hwk,hwf,pre,hpre,_,hlen⟩:=Qh 6 (Nat.le_refl _) _ _ _ _ _ hx (by omega)
  have hle:=hlen ⟨Nat.le_refl _,hb⟩
  have hpl:=congrArg List.length hpre
  rw[List.length_append]at hpl
  have hP:=Ov (.mk k1 n1 b1 l1) hwf (XN hwk) (by omega)
  have hB:=Gr (ZH (.mk k1 n1 b1 l1)) b
  have hn:(((b.length-r.length:Nat):Int)==((b.map E.byte).length:Int))=r.isEmpty:=by
   rw[List.length_map]
   cases r with
   | nil=>simp
   | cons c r=>simp at hpl ⊢;omega
  dsimp only
  cases hr:r.isEmpty
  all_goals
   rw[hr]at hn
   refine AP.ofA (Zl Tryz.func132 Z Tryz.ntmps132 Z Z ?_)
   repeat'(first|rw[hn]|(apply Zb (hR);kernel_rfl;(iterate 4 exact Z))|(apply Ya [] [] (hP);kernel_rfl;(iterate 10 exact Z))|(apply Zb (hB);kernel_rfl;(iterate 4 exact Z))|(apply Zi Za;exact Z)|(apply Zf Za;exact Z)|refine Ze Z Z Z Qt ?_|refine Zt Z Z Z Qt ?_|refine Zj Z Qt Z Z ?_|refine Zh Z Qt Z Z ?_|refine Zm Za Z Z Z Z ?_)
   all_goals exact Qe
theorem Tr [Known][KnownU8](x:It)(hw:wfI x)(hr:ZN x=true)(hlim:(ZH x).length<=1099511627776):AT Tryz.prog 63 [itD x] [] [] (.tup [.sl (.own 0) ((ZH x).map E.byte),.int .i64 0]) [] [⟨(ZH x).length,1,5⟩]:=by
 have hR:=Wt x hw
 rw[hr]at hR
 have hp:=Ov x hw (KJ hr) hlim
 obtain⟨k,n,b,l⟩:=x
 refine Zl Tryz.func63 rfl Tryz.ntmps63 rfl rfl ?_
 repeat'(first|(apply Zb (hR);kernel_rfl;(iterate 4 exact Z))|(apply Ya [] [] (hp);kernel_rfl;(iterate 10 exact Z))|(apply Zi Za;exact Z)|(apply Zf Za;exact Z)|(apply Zp Za;exact Z)|refine Zg Z Qt ?_)
 all_goals(apply QG [] [0];(apply Zc Za;exact Z);(iterate 7 exact Z))
 all_goals rfl
theorem IS {x:It}(hw:wfI x)(hr:ZN x=true)(r:List UInt8):ZI 6 256 (ZH x++r)=.ok (x,r,((Y3 x 1 256).getD 0)):=by
 unfold ZN at hr
 cases h:Y3 x 1 256 with
 | none=>rw[h]at hr;cases hr
 | some m=>exact XC x 6 256 m r hw (Nat.le_refl _) h
theorem Ts {x:It}(hw:wfI x)(hr:ZN x=true)(r:List UInt8):Yg (ZH x++r) 0=(x,(ZH x).length,0):=by
 rw[Yg,if_neg (by omega),show(0:Int).toNat=0 from rfl,List.drop_zero,IS hw hr]
 dsimp only
 rw[List.length_append,Nat.add_sub_cancel]
theorem Xa [Known][KnownU8](x:It)(hw:wfI x)(hlim:(ZH x).length<=1099511627776)(hr:ZN x=true):AP Tryz.prog 63 [itD x] (.tup [byE (ZH x),.int .i64 0]) []:=by
 have h:=KK x hw hlim (Wt x hw)
 rw[hr]at h
 exact h
theorem GG (x:It)(hw:wfI x)(hr:ZN x=true):∃ c t,ZH x=c::t:=by
 cases hp:ZH x with
 | cons c t=>exact⟨c,t,rfl⟩
 | nil=>
  have h:=IS hw hr []
  rw[hp]at h
  have e:ZI 6 256 []=.error 8:=rfl
  rw[List.append_nil,e]at h
  cases h
theorem QS {x:It}(hw:wfI x)(hr:ZN x=true):Yg (ZH x) 0=(x,(ZH x).length,0):=by
 have h:=Ts hw hr []
 rw[List.append_nil]at h
 exact h
theorem VC (b:List UInt8)(hb:b.length<4294967296):(∃ e:Nat,e ≠ 0/\Yg b 0=(.mk 0 0 [] [],0,e)/\YL b=false)\/(∃(y:It) (n:Nat),Yg b 0=(y,n,0)/\wfI y/\ZN y=true/\(ZH y).length<=n/\n<=b.length):=by
 have e:Yg b 0=match ZI 6 256 b with
   | .error e=>(.mk 0 0 [] [],0,e)
   | .ok (x,r,_)=>(x,b.length-r.length,0):=by rw[Yg,if_neg (by omega)];rfl
 unfold YL
 rw[e]
 cases hx:ZI 6 256 b with
 | error c=>exact .inl ⟨c,VP _ _ _ _ hx,rfl,rfl⟩
 | ok y=>
  obtain⟨y,r,m1⟩:=y
  obtain⟨hwk,hwf,pre,hpre,_,hlen⟩:=Qh 6 (Nat.le_refl _) _ _ _ _ _ hx (by omega)
  have hle:=hlen ⟨Nat.le_refl _,hb⟩
  have hpl:=congrArg List.length hpre
  rw[List.length_append]at hpl
  refine .inr ⟨y,b.length-r.length,rfl,hwf,?_,by omega,by omega⟩
  have hwk:Y3 y 1 256=some m1:=hwk
  unfold ZN;rw[hwk];rfl
end Go.Proofs.YtmljabhmajehnaaGreatDoor
end

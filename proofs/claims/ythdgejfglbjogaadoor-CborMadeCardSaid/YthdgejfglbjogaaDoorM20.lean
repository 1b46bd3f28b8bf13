/- The reader of items: an item. -/
import Derived.Test.YthdgejfglbjogaaDoorM12
import Derived.Test.YthdgejfglbjogaaDoorM19
import Derived.Test.YthdgejfglbjogaaDoorM13
set_option linter.unusedVariables false
set_option linter.unusedSimpArgs false
section
open Go.RowKit Go.Pl Go.Av
namespace Go.Proofs.YthdgejfglbjogaaDoor
set_option maxHeartbeats 4000000
theorem OE {k:Int}(h:okK k=false):(k==0)=false/\(k==2)=false/\(k==3)=false/\(k==4)=false:=by
 simpa[okK]using h
theorem Jp [Known][KnownU8](b:List UInt8)(hb:b.length<=140737488351232):∀(d deep:Nat),deep+d=7->∀ p m,p<=b.length->m<=256->AR Tryd.prog 17 [.ptr 0 0,.int .i64 (deep:Int)] [rdC b p m] (itR b d p m)
 | d,deep=>fun hdd p m hp hm=>by
  have hhd:=Jn b p m hb hp
  unfold itR
  cases hr:rdS (b.drop p) with
  | error e=>
   rw[hr]at hhd
   have hi:ZS d m (b.drop p)=.error e:=by cases d<;>rw[ZS,hr]
   rw[hi]
   dsimp only at hhd ⊢
   refine Zs Tryd.func17 rfl Tryd.ntmps17 rfl rfl ?_
   repeat'(first|(apply ZM [0] (hhd.x rfl);kernel_rfl;(iterate 6 exact Z);intro bx2 fr2 hle2)|(apply Zd Za;exact Z)|(apply Zv Za;exact Z))
   all_goals(apply Wf;exact Z;(first|exact Nat.zero_le _|exact Nat.le_trans (Nat.le_of_ble_eq_true rfl) (by assumption));exact Z)
  | ok y=>
   obtain⟨⟨k,n,o⟩,r⟩:=y
   rw[hr]at hhd
   dsimp only at hhd
   obtain⟨_,hn,pre,hpre,_,hpos⟩:=Qy hr
   dsimp only at hn
   obtain⟨q1,q2,q3⟩:=Wo hp hpre
   generalize hp2:b.length-r.length=p2 at q1 q2 q3 hhd
   replace hhd:AR Tryd.prog _ _ _ (.ok (.agg [.int .i64 k,.int .u64 (n:Int),.bool o],[rdC b p2 m])):=hhd
   cases hk:okK k with
   | false=>
    have hi:ZS d m (b.drop p)=.error 3:=by cases d<;>rw[ZS,hr]<;>dsimp only<;>rw[hk]<;>rfl
    rw[hi]
    dsimp only
    obtain⟨k0,k2,k3,k4⟩:=OE hk
    refine Zs Tryd.func17 rfl Tryd.ntmps17 rfl rfl ?_
    repeat'(first|rw[k4]|(apply Zj [0] (hhd.q rfl);kernel_rfl;(iterate 7 exact Z))|(apply ZM [] (YR 3);kernel_rfl;(iterate 6 exact Z);intro bx2 fr2 hle2)|(apply Zh Za;exact Z)|(apply Zd Za;exact Z)|(apply Zv Za;exact Z)|refine ZT ?_|refine Zg Z Z Z Qt ?_|refine Zl Z Qt Z Z ?_)
    all_goals(apply Wf;exact Z;(first|exact Nat.zero_le _|exact Nat.le_trans (Nat.le_of_ble_eq_true rfl) (by assumption));exact Z)
   | true=>
    have hk':=U1 hk
    cases d with
    | zero=>
     have hi:ZS 0 m (b.drop p)=.error 9:=by rw[ZS,hr];dsimp only;rw[hk];rfl
     rw[hi]
     dsimp only
     obtain rfl:deep=7:=by omega
     rcases hk' with rfl|rfl|rfl|rfl
     all_goals
      refine Zs Tryd.func17 rfl Tryd.ntmps17 rfl rfl ?_
      repeat'(first|(apply Zj [0] (hhd.q rfl);kernel_rfl;(iterate 7 exact Z))|(apply Zb (Zz 3);kernel_rfl;(iterate 4 exact Z))|(apply ZM [] (YR 9);kernel_rfl;(iterate 6 exact Z);intro bx2 fr2 hle2)|(apply Zh Za;exact Z)|(apply Zd Za;exact Z)|(apply Zv Za;exact Z)|refine ZT ?_|refine Zg Z Z Z Qt ?_|refine Zq Z Z Z Qt ?_|refine Zk Z Qt Z Z ?_|refine Zl Z Qt Z Z ?_)
      all_goals(apply Wf;exact Z;(first|exact Nat.zero_le _|exact Nat.le_trans (Nat.le_of_ble_eq_true rfl) (by assumption));exact Z)
    | succ d=>
     have dd:decide ((deep:Int)<=6)=true:=by simp;omega
     by_cases hm0:m=0
     ·have hi:ZS (d+1) m (b.drop p)=.error 2:=by rw[ZS,hr];dsimp only;rw[hk,if_neg (by simp),if_pos hm0]
      rw[hi]
      dsimp only
      subst hm0
      rcases hk' with rfl|rfl|rfl|rfl
      all_goals
       refine Zs Tryd.func17 rfl Tryd.ntmps17 rfl rfl ?_
       repeat'(first|rw[dd]|(apply Zj [0] (hhd.q rfl);kernel_rfl;(iterate 7 exact Z))|(apply Zb (Zz 3);kernel_rfl;(iterate 4 exact Z))|(apply Zb (Zz 9);kernel_rfl;(iterate 4 exact Z))|(apply ZM [] (YR 2);kernel_rfl;(iterate 6 exact Z);intro bx2 fr2 hle2)|(apply Zh Za;exact Z)|(apply Zd Za;exact Z)|(apply Zv Za;exact Z)|refine ZT ?_|refine Zg Z Z Z Qt ?_|refine Zq Z Z Z Qt ?_|refine Zk Z Qt Z Z ?_|refine Zl Z Qt Z Z ?_)
       all_goals(apply Wf;exact Z;(first|exact Nat.zero_le _|exact Nat.le_trans (Nat.le_of_ble_eq_true rfl) (by assumption));exact Z)
     ·have hi:ZS (d+1) m (b.drop p)=YJ (ZS d) (k,n,o) (m-1) r:=by rw[ZS,hr];dsimp only;rw[hk,if_neg (by simp),if_neg hm0]
      rw[hi]
      have dm:decide ((m:Int)>0)=true:=by simp;omega
      have em:IntKind.i64.wrap ((m:Int)-1)=((m-1:Nat):Int):=by rw[IntWalk.i64_in _ (by omega)];omega
      rcases hk' with rfl|rfl|rfl|rfl
      ·unfold YJ
       rw[if_pos rfl]
       dsimp only
       rw[hp2]
       refine Zs Tryd.func17 rfl Tryd.ntmps17 rfl rfl ?_
       repeat'(first|rw[dd]|rw[dm]|rw[em]|(apply Zj [0] (hhd.q rfl);kernel_rfl;(iterate 7 exact Z))|(apply Zb (Zz 3);kernel_rfl;(iterate 4 exact Z))|(apply Zb (Zz 9);kernel_rfl;(iterate 4 exact Z))|(apply Zb (Zz 2);kernel_rfl;(iterate 4 exact Z))|(apply Zh Za;exact Z)|(apply Zd Za;exact Z)|(apply Zv Za;exact Z)|refine ZT ?_|refine Zq Z Z Z Qt ?_|refine Zk Z Qt Z Z ?_|refine Zc Z Qt ?_)
       all_goals(apply Vz (rfl) [0];(apply Zf Za;exact Z);(iterate 4 exact Z))
       all_goals rfl
      ·have hs:=Qf (2,n,o) b p2 (m-1) hb q2 hn
       rw[q1]at hs
       unfold YJ
       rw[if_neg (by simp),if_neg (by simp)]
       cases ht:VC (2,n,o) r with
       | error e=>
        rw[ht]at hs
        dsimp only at hs ⊢
        refine Zs Tryd.func17 rfl Tryd.ntmps17 rfl rfl ?_
        repeat'(first|rw[dd]|rw[dm]|rw[em]|(apply Zj [0] (hhd.q rfl);kernel_rfl;(iterate 7 exact Z))|(apply Zb (Zz 3);kernel_rfl;(iterate 4 exact Z))|(apply Zb (Zz 9);kernel_rfl;(iterate 4 exact Z))|(apply Zb (Zz 2);kernel_rfl;(iterate 4 exact Z))|(apply ZM [0] (hs.x rfl);kernel_rfl;(iterate 6 exact Z);intro bx2 fr2 hle2)|(apply Zh Za;exact Z)|(apply Zd Za;exact Z)|(apply Zv Za;exact Z)|refine ZT ?_|refine Zg Z Z Z Qt ?_|refine Zq Z Z Z Qt ?_|refine Zk Z Qt Z Z ?_|refine Zl Z Qt Z Z ?_|refine Ze Z Qt ?_)
        all_goals(apply Wf;exact Z;(first|exact Nat.zero_le _|exact Nat.le_trans (Nat.le_of_ble_eq_true rfl) (by assumption));exact Z)
       | ok y=>
        obtain⟨c,r2⟩:=y
        rw[ht]at hs
        dsimp only at hs ⊢
        refine Zs Tryd.func17 rfl Tryd.ntmps17 rfl rfl ?_
        repeat'(first|rw[dd]|rw[dm]|rw[em]|(apply Zj [0] (hhd.q rfl);kernel_rfl;(iterate 7 exact Z))|(apply Zb (Zz 3);kernel_rfl;(iterate 4 exact Z))|(apply Zb (Zz 9);kernel_rfl;(iterate 4 exact Z))|(apply Zb (Zz 2);kernel_rfl;(iterate 4 exact Z))|(apply Zj [0] (hs.q rfl);kernel_rfl;(iterate 7 exact Z))|(apply Zh Za;exact Z)|(apply Zd Za;exact Z)|refine ZT ?_|refine Zg Z Z Z Qt ?_|refine Zq Z Z Z Qt ?_|refine Zk Z Qt Z Z ?_|refine Zl Z Qt Z Z ?_|refine Ze Z Qt ?_)
        all_goals(apply Vz (rfl) [0];(apply Zf Za;exact Z);(iterate 4 exact Z))
        all_goals rfl
      ·have hs:=Qf (3,n,o) b p2 (m-1) hb q2 hn
       rw[q1]at hs
       unfold YJ
       rw[if_neg (by simp),if_neg (by simp)]
       cases ht:VC (3,n,o) r with
       | error e=>
        rw[ht]at hs
        dsimp only at hs ⊢
        refine Zs Tryd.func17 rfl Tryd.ntmps17 rfl rfl ?_
        repeat'(first|rw[dd]|rw[dm]|rw[em]|(apply Zj [0] (hhd.q rfl);kernel_rfl;(iterate 7 exact Z))|(apply Zb (Zz 3);kernel_rfl;(iterate 4 exact Z))|(apply Zb (Zz 9);kernel_rfl;(iterate 4 exact Z))|(apply Zb (Zz 2);kernel_rfl;(iterate 4 exact Z))|(apply ZM [0] (hs.x rfl);kernel_rfl;(iterate 6 exact Z);intro bx2 fr2 hle2)|(apply Zh Za;exact Z)|(apply Zd Za;exact Z)|(apply Zv Za;exact Z)|refine ZT ?_|refine Zg Z Z Z Qt ?_|refine Zq Z Z Z Qt ?_|refine Zk Z Qt Z Z ?_|refine Zl Z Qt Z Z ?_|refine Ze Z Qt ?_)
        all_goals(apply Wf;exact Z;(first|exact Nat.zero_le _|exact Nat.le_trans (Nat.le_of_ble_eq_true rfl) (by assumption));exact Z)
       | ok y=>
        obtain⟨c,r2⟩:=y
        rw[ht]at hs
        dsimp only at hs ⊢
        refine Zs Tryd.func17 rfl Tryd.ntmps17 rfl rfl ?_
        repeat'(first|rw[dd]|rw[dm]|rw[em]|(apply Zj [0] (hhd.q rfl);kernel_rfl;(iterate 7 exact Z))|(apply Zb (Zz 3);kernel_rfl;(iterate 4 exact Z))|(apply Zb (Zz 9);kernel_rfl;(iterate 4 exact Z))|(apply Zb (Zz 2);kernel_rfl;(iterate 4 exact Z))|(apply Zj [0] (hs.q rfl);kernel_rfl;(iterate 7 exact Z))|(apply Zh Za;exact Z)|(apply Zd Za;exact Z)|refine ZT ?_|refine Zg Z Z Z Qt ?_|refine Zq Z Z Z Qt ?_|refine Zk Z Qt Z Z ?_|refine Zl Z Qt Z Z ?_|refine Ze Z Qt ?_)
        all_goals(apply Vz (rfl) [0];(apply Zf Za;exact Z);(iterate 4 exact Z))
        all_goals rfl
      ·have hs:=KV d deep (by omega) b hb (fun p m hp hm=>Jp b hb d (deep+1) (by omega) p m hp hm) n o p2 (m-1) q2 (by omega) hn
       rw[q1]at hs
       unfold YJ
       rw[if_neg (by simp),if_pos rfl]
       cases ht:Uy (ZS d) (4,n,o) (m-1) r with
       | error e=>
        rw[ht]at hs
        dsimp only at hs ⊢
        refine Zs Tryd.func17 rfl Tryd.ntmps17 rfl rfl ?_
        repeat'(first|rw[dd]|rw[dm]|rw[em]|(apply Zj [0] (hhd.q rfl);kernel_rfl;(iterate 7 exact Z))|(apply Zb (Zz 3);kernel_rfl;(iterate 4 exact Z))|(apply Zb (Zz 9);kernel_rfl;(iterate 4 exact Z))|(apply Zb (Zz 2);kernel_rfl;(iterate 4 exact Z))|(apply ZM [0] (hs.x rfl);kernel_rfl;(iterate 6 exact Z);intro bx2 fr2 hle2)|(apply Zh Za;exact Z)|(apply Zd Za;exact Z)|(apply Zv Za;exact Z)|refine ZT ?_|refine Zg Z Z Z Qt ?_|refine Zl Z Qt Z Z ?_|refine Zc Z Qt ?_|refine Ze Z Qt ?_)
        all_goals(apply Wf;exact Z;(first|exact Nat.zero_le _|exact Nat.le_trans (Nat.le_of_ble_eq_true rfl) (by assumption));exact Z)
       | ok y=>
        obtain⟨l,r2,m2⟩:=y
        rw[ht]at hs
        dsimp only at hs ⊢
        refine Zs Tryd.func17 rfl Tryd.ntmps17 rfl rfl ?_
        repeat'(first|rw[dd]|rw[dm]|rw[em]|(apply Zj [0] (hhd.q rfl);kernel_rfl;(iterate 7 exact Z))|(apply Zb (Zz 3);kernel_rfl;(iterate 4 exact Z))|(apply Zb (Zz 9);kernel_rfl;(iterate 4 exact Z))|(apply Zb (Zz 2);kernel_rfl;(iterate 4 exact Z))|(apply Zj [0] (hs.q rfl);kernel_rfl;(iterate 7 exact Z))|(apply Zh Za;exact Z)|(apply Zd Za;exact Z)|(apply Zv Za;exact Z)|refine ZT ?_|refine Zg Z Z Z Qt ?_|refine Zl Z Qt Z Z ?_|refine Zc Z Qt ?_|refine Ze Z Qt ?_)
        all_goals(apply Vz (rfl) [0];(apply Zf Za;exact Z);(iterate 4 exact Z))
        all_goals rfl
 termination_by d=>d
abbrev zIt:List D:=[.int .i64 0,.int .u64 0,.sl .nil [],.sl .nil []]
def Xr:Code->Code
 | .seq _ (.seq _ (.seq _ r))=>r
 | c=>c
abbrev IG (b:List UInt8)(p:Nat):List (Nat × D):=[(17,.fn 16 [.ptr 0 0,.ptr 1 0,.ptr 2 0]),(0,byE b),(1,.int .i64 (p:Int)),(4,.ptr 0 0),(5,.ptr 1 0),(6,.ptr 2 0)]
theorem II [Known][KnownU8][Dfr](b:List UInt8)(p p2 m1:Nat)(k:Int)(n:Nat)(bb:List UInt8)(l:List It)(hit:AR Tryd.prog 17 [.ptr 0 0,.int .i64 ((1:Nat):Int)] [rdC b p 256] (.ok (itD (.mk k n bb l),[rdC b p2 m1]))) :
  AW Tryd.prog (Xr (Tryd.f10.body.getD .skip)) ⟨29,IG b p,[zIt,[.int .i64 0],[.int .i64 0]],[],(3,0)⟩
   (fun X S=>X=.ret/\S.n=29/\S.bx=[itC k n bb l,[.int .i64 (p2:Int)],[.int .i64 0],rdC b p2 m1]/\S.fr=[]/\Av.look S.tm 4=.ptr 0 0/\Av.look S.tm 5=.ptr 1 0/\Av.look S.tm 6=.ptr 2 0):=by
 conv=>enter [4];whnf
 repeat'(first|(apply Zj [3] (hit.q rfl);kernel_rfl;(iterate 7 exact Z))|(apply Zh Za;exact Z)|(apply Zd Za;exact Z)|(apply Zr 6 ZJ;decide +kernel;kernel_rfl;kernel_rfl;kernel_rfl;exact Z;exact Z)|(apply Zu;(iterate 4 exact Z))|exact AE.nil _ _ _ _|(apply ZD;exact Z)|(apply Qs;exact Z)|(apply ZP;exact Z;exact Z;decide +kernel;exact Z)|(apply ZQ;exact Z)|(apply Xf;exact Z)|exact AO.nil _ _ _|(apply Zt;(decide +kernel))|exact AOs.nil|exact Z1 rfl rfl|exact Qu rfl)
 all_goals exact⟨rfl,rfl,rfl,rfl,rfl,rfl,rfl⟩
theorem Ij [Known][KnownU8][Dfr](b:List UInt8)(p e:Nat)(hit:AR Tryd.prog 17 [.ptr 0 0,.int .i64 ((1:Nat):Int)] [rdC b p 256] (.error (Wn e))) :
  AW Tryd.prog (Xr (Tryd.f10.body.getD .skip)) ⟨29,IG b p,[zIt,[.int .i64 0],[.int .i64 0]],[],(3,0)⟩
   (fun X S=>X=.pan (Wn e)/\S.n=29/\S.bx.take 3=[zIt,[.int .i64 0],[.int .i64 0]]/\Av.look S.tm 4=.ptr 0 0/\Av.look S.tm 5=.ptr 1 0/\Av.look S.tm 6=.ptr 2 0):=by
 conv=>enter [4];whnf
 repeat'(first|(apply XT [3] (hit.x rfl);kernel_rfl;(iterate 6 exact Z);intro bx2 fr2 hle2)|(apply Zd Za;exact Z)|(apply Zv Za;exact Z))
 all_goals
  obtain⟨c,t,rfl⟩:∃ c t,bx2=c::t:=by
   cases bx2 with
   | nil=>simp at hle2
   | cons c t=>exact⟨c,t,rfl⟩
  exact⟨rfl,rfl,rfl,rfl,rfl,rfl⟩
theorem Ik [Known](k:Int)(n:Nat)(bb:List UInt8)(l:List It)(p2:Nat):∀(g:G) (w:World) (vs:List Value),Mem g [itC k n bb l,[.int .i64 (p2:Int)],[.int .i64 0]] [] w->vs.length=([.ptr 0 0,.ptr 1 0,.ptr 2 0]:List D).length->(∀(j:Nat) (d:D) (v:Value),([.ptr 0 0,.ptr 1 0,.ptr 2 0]:List D)[j]?=some d->vs[j]?=some v->V w g [] d v) ->
  CallsD Tryd.prog 16 vs.toArray .returning w fun e u2 w'=>(∃ v,e=.returned v)/\u2=.returning/\∃ g',Mem g' [itC k n bb l,[.int .i64 (p2:Int)],[.int .i64 0]] [] w'/\Evo ⟨g,[],w⟩ ⟨g',[],w'⟩:=fun g w vs hm hl hv=>by
 refine(OQ (dv:=.nili) (u':=.returning) (post:=fun S=>S.bx=[itC k n bb l,[.int .i64 (p2:Int)],[.int .i64 0],[.int .i64 0]]/\S.fr=[]) Tryd.func16 rfl Tryd.ntmps16 rfl rfl rfl rfl rfl (fun ρ=>by simp[execOp,resolve,invoke,Sem.run_bind];rfl) hm hl hv (fun c₀ cs hc=>by simp[recoverD,hc]) ?_).mono ?_
 ·repeat'(first|(apply Go.Av.Id Za (cs:=[.int .i64 0]);(iterate 3 exact Z);kernel_rfl;exact Z)|refine⟨rfl,?_⟩ | (apply Zh Za;exact Z)|(apply Zd Za;exact Z)|refine Ze Z Qt ?_)
  all_goals rfl
 ·rintro e u2 w' ⟨he,hu,S,g',hm',hev,hbx,hfr⟩
  have hok:Yg [0,1,2] S.bx.length:=Yf (by rw[hbx];rfl)
  refine⟨he,hu,g'.sel [0,1,2] [],?_,?_⟩
  ·have:=hm'.sel (bs:=[0,1,2]) (ts:=[]) hok (Zo _)
   rw[hbx]at this;exact this
  ·exact hev.sel hm' (bs:=[0,1,2]) (ts:=[]) hok (Zo _) (fun i hi=>by
    have hi:i<g.ρ.length:=hi
    have h3:g.ρ.length=3:=hm.bl
    obtain rfl|rfl|rfl:i=0\/i=1\/i=2:=by omega
    all_goals rfl) (fun i hi=>by simp at hi)
abbrev UF (e:Nat):Value:=.iface 44 (.agg #[.int .i64 (e:Int)])
theorem X1 {w:World}{g:G}{fr:List Fr}{e:Nat}{v:Value}(h:V w g fr (Wn e) v):v=UF e:=by
 cases h with
 | iface _ _ u hu=>
  obtain⟨vs,rfl,hl,hvs⟩:=W0 hu
  match vs,hl with
  | [x],_=>have:=(hvs 0 _ x rfl rfl).int_inv;subst this;rfl
theorem OF (w:World)(g:G)(fr:List Fr)(e:Nat):V w g fr (Wn e) (UF e):=
 .iface _ _ _ (.agg _ [.int .i64 (e:Int)] rfl fun j d v hd hv=>by
  match j with
  | 0=>simp at hd hv;subst hd hv;exact .int _ _
  | j+1=>simp at hd)
theorem Il [Known](e0:Nat):∀(g:G) (w:World) (vs:List Value),Mem g [zIt,[.int .i64 0],[.int .i64 0]] [] w->vs.length=([.ptr 0 0,.ptr 1 0,.ptr 2 0]:List D).length->(∀(j:Nat) (d:D) (v:Value),([.ptr 0 0,.ptr 1 0,.ptr 2 0]:List D)[j]?=some d->vs[j]?=some v->V w g [] d v) ->
  CallsD Tryd.prog 16 vs.toArray (.panicking [{ v:=UF e0,recovered:=false }]) w fun e u2 w'=>(∃ v,e=.returned v)/\u2=.panicking [{ v:=UF e0,recovered:=true }]/\∃ g',Mem g' [zIt,[.int .i64 0],[.int .i64 (e0:Int)]] [] w'/\Evo ⟨g,[],w⟩ ⟨g',[],w'⟩:=fun g w vs hm hl hv=>by
 refine(OQ (dv:=Wn e0) (u':=.panicking [{ v:=UF e0,recovered:=true }]) (post:=fun S=>S.bx=[zIt,[.int .i64 0],[.int .i64 (e0:Int)],[.int .i64 (e0:Int)]]/\S.fr=[]) Tryd.func16 rfl Tryd.ntmps16 rfl rfl rfl rfl rfl (fun ρ=>by simp[execOp,resolve,invoke,Sem.run_bind];rfl) hm hl hv (fun c₀ cs hc=>by simp only[recoverD,hc];exact⟨OF _ _ _ _,trivial⟩) ?_).mono ?_
 ·repeat'(first|refine Ic Za Z Z Z Z ?_|refine⟨rfl,?_⟩ | (apply Zh Za;exact Z)|(apply Zd Za;exact Z)|refine Zc Z Qt ?_|(apply Zr 5 ZJ;decide +kernel;kernel_rfl;kernel_rfl;kernel_rfl;exact Z;exact Z)|(apply Zu;(iterate 4 exact Z))|exact AE.nil _ _ _ _|(apply ZD;exact Z)|(apply Qs;exact Z)|(apply ZP;exact Z;exact Z;decide +kernel;exact Z)|(apply ZQ;exact Z)|(apply Xf;exact Z)|exact AO.nil _ _ _|(apply Zt;(decide +kernel))|exact AOs.nil|exact Z1 rfl rfl|exact Qu rfl)
  all_goals rfl
 ·rintro e u2 w' ⟨he,hu,S,g',hm',hev,hbx,hfr⟩
  have hok:Yg [0,1,2] S.bx.length:=Yf (by rw[hbx];rfl)
  refine⟨he,hu,g'.sel [0,1,2] [],?_,?_⟩
  ·have:=hm'.sel (bs:=[0,1,2]) (ts:=[]) hok (Zo _)
   rw[hbx]at this;exact this
  ·exact hev.sel hm' (bs:=[0,1,2]) (ts:=[]) hok (Zo _) (fun i hi=>by
    have hi:i<g.ρ.length:=hi
    have h3:g.ρ.length=3:=hm.bl
    obtain rfl|rfl|rfl:i=0\/i=1\/i=2:=by omega
    all_goals rfl) (fun i hi=>by simp at hi)
theorem tm3 {w:World}{g:G}{bx:List (List D)}{fr:List Fr}{tm:List (Nat × D)}{T:Nat->Value}[Known](hm:Mem g bx fr w)(hok:Yg [0,1,2] bx.length)(h:∀ t,V w g fr (Av.look tm t) (T t))(h4:Av.look tm 4=.ptr 0 0)(h5:Av.look tm 5=.ptr 1 0)(h6:Av.look tm 6=.ptr 2 0) :
  ∀ t,V w (g.sel [0,1,2] []) [] (Av.look [(4,.ptr 0 0),(5,.ptr 1 0),(6,.ptr 2 0)] t) (T t):=fun t=>by
 have k:=fun(i:Nat) (d:D) (hd:Av.look tm i=d)=>(hd ▸ h i:V w g fr d (T i)).sel hm hok (Zo _)
 by_cases e4:t=4
 ·subst e4;exact k 4 _ h4
 by_cases e5:t=5
 ·subst e5;exact k 5 _ h5
 by_cases e6:t=6
 ·subst e6;exact k 6 _ h6
 ·have:Av.look [(4,D.ptr 0 0),(5,.ptr 1 0),(6,.ptr 2 0)] t=.junk:=by
   have b:∀ x:Nat,t ≠ x->Nat.beq x t=false:=fun x hx=>by
    cases hb:Nat.beq x t with
    | false=>rfl
    | true=>exact(hx (Nat.eq_of_beq_eq_true hb).symm).elim
   simp only[Av.look,b 4 e4,b 5 e5,b 6 e6]
  rw[this]
  exact .junk _
abbrev rdI (r:It × Nat × Nat):D:=.tup [itD r.1,.int .i64 (r.2.1:Int),.int .i64 (r.2.2:Int)]
theorem VI [Known][KnownU8](b:List UInt8)(p:Int)(hb:b.length<=140737488351232):AP Tryd.prog 10 [byE b,.int .i64 p] (rdI (Vg b p)) []:=by
 by_cases hout:p<0\/(b.length:Int)<p
 ·have e:Vg b p=(.mk 0 0 [] [],0,1):=by rw[Vg,if_pos hout]
  rw[e]
  rcases Int.lt_or_le p 0 with hp|hp
  ·have d0:decide (p<0)=true:=decide_eq_true hp
   refine AP.ofA (Zs Tryd.func10 Z Tryd.ntmps10 Z Z ?_)
   repeat'(first|(apply Zh Za;exact Z)|(apply Zd Za;exact Z)|(apply Zv Za;exact Z)|refine Zq Z Z Z Qt ?_|refine Zk Z Qt Z Z ?_|refine Zc Z Qt ?_)
   all_goals exact Qe
  ·have d0:decide (p<0)=false:=decide_eq_false (by omega)
   have d1:decide (p>((b.map E.byte).length:Int))=true:=decide_eq_true (by rw[List.length_map];omega)
   refine AP.ofA (Zs Tryd.func10 Z Tryd.ntmps10 Z Z ?_)
   repeat'(first|(apply Zh Za;exact Z)|(apply Zd Za;exact Z)|(apply Zv Za;exact Z)|refine Zg Z Z Z Qt ?_|refine Zl Z Qt Z Z ?_|refine Zc Z Qt ?_|refine Zp Za Z Z Z Z ?_)
   all_goals exact Qe
 ·obtain⟨q,rfl⟩:∃ q:Nat,p=(q:Int):=⟨p.toNat,by omega⟩
  have hq:q<=b.length:=by omega
  have d0:decide ((q:Int)<0)=false:=decide_eq_false (by omega)
  have d1:decide ((q:Int)>((b.map E.byte).length:Int))=false:=decide_eq_false (by rw[List.length_map];omega)
  have hit:=Jp b hb 6 1 rfl q 256 hq (Nat.le_refl _)
  have e:Vg b (q:Int)=match ZS 6 256 (b.drop q) with
   | .error e=>(.mk 0 0 [] [],0,e)
   | .ok (x,r,_)=>(x,b.length-r.length,0):=by rw[Vg,if_neg hout,Int.toNat_natCast];rfl
  rw[e]
  unfold itR at hit
  refine⟨fun g w vs hm hlen hv=>?_⟩
  have hρ:g.ρ=[]:=List.length_eq_zero_iff.1 hm.bl
  refine calls_of_wp_defers Tryd.func10 rfl ?_
  have hi:=U5 (n:=29) (Nat.le_of_ble_eq_true rfl) hm hlen hv
  refine U6 29 [(0,byE b),(1,.int .i64 (q:Int)),(4,.ptr 0 0),(5,.ptr 1 0),(6,.ptr 2 0)] [zIt,[.int .i64 0],[.int .i64 0]] [] (0,0) hi ?_ fun g1 a1 w1 hi1=>?_
  ·repeat'(first|(apply Zd Za;exact Z))
   all_goals exact⟨rfl,rfl,rfl,rfl,rfl,.cons rfl (.cons rfl (.cons rfl (.cons rfl (.cons rfl .nil))))⟩
  refine U6 29 [(0,byE b),(1,.int .i64 (q:Int)),(4,.ptr 0 0),(5,.ptr 1 0),(6,.ptr 2 0)] [zIt,[.int .i64 0],[.int .i64 0]] [] (0,0) hi1 ?_ fun g2 a2 w2 hi2=>?_
  ·repeat'(first|(apply Zh Za;exact Z)|(apply Zd Za;exact Z)|(apply Zv Za;exact Z)|refine Zg Z Z Z Qt ?_|refine Zl Z Qt Z Z ?_|refine Ze Z Qt ?_|refine Zp Za Z Z Z Z ?_)
   all_goals exact⟨rfl,rfl,rfl,rfl,rfl,.cons rfl (.cons rfl (.cons rfl (.cons rfl (.cons rfl .nil))))⟩
  refine XS hi2 rfl rfl fun cvs a3 hcl hcv hi3=>?_
  have ev2:Evo ⟨g,[],w⟩ ⟨g2,[],w2⟩:=hi2.evo
  have hi4:=@Inv.rebase _ ⟨[{ target:=.fn (.func 16) cvs.toArray,args := #[] }]⟩ _ _ _ _ _ _ _ _ _ hi3 3 0 rfl rfl
  have hfd:Uc Tryd.prog 16=true:=by kernel_rfl
  cases hx:ZS 6 256 (b.drop q) with
  | error e0=>
   rw[hx]at hit
   dsimp only at hit ⊢
   refine Xo [{ target:=.fn (.func 16) cvs.toArray,args := #[] }] (@Ij _ _ ⟨[{ target:=.fn (.func 16) cvs.toArray,args := #[] }]⟩ b q e0 hit) hi4 (fun S g a w _ _ h=>by cases h.1) (fun S g4 a4 w4 v d hi5 hdl hv h=>?_) (fun S h=>by cases h.1) (fun S i h=>by cases h.1) (fun S i h=>by cases h.1)
   obtain⟨hp,hn,hbx,h4,h5,h6⟩:=h
   injection hp with hp
   subst hp
   obtain rfl:=X1 hv
   obtain⟨_,hm5,htm5,hev5⟩:=@Inv.parts _ ⟨[{ target:=.fn (.func 16) cvs.toArray,args := #[] }]⟩ _ _ _ _ _ hi5
   obtain⟨x0,x1,x2,xs,hS⟩:∃ x0 x1 x2 xs,S.bx=x0::x1::x2::xs:=by
    match hS:S.bx,hbx with
    | x0::x1::x2::xs,_=>exact⟨x0,x1,x2,xs,rfl⟩
    | [],h=>simp at h
    | [_],h=>simp at h
    | [_,_],h=>simp at h
   rw[hS]at hbx
   simp only[List.take_succ_cons,List.take_zero,List.cons.injEq,and_true]at hbx
   obtain⟨rfl,rfl,rfl⟩:=hbx
   have hok:Yg [0,1,2] S.bx.length:=Yf (by rw[hS];rfl)
   show Leaves Tryd.prog _ a4.tmps _ a4.defers _ w4
   rw[hdl]
   refine UC (rs:=[.cell 4 27,.cell 5 3,.cell 6 33]) rfl (b:=⟨g,[],w⟩) hρ rfl (@Inv.base _ ⟨[{ target:=.fn (.func 16) cvs.toArray,args := #[] }]⟩ _ _ _ _ _ _ hi5 ev2 hρ rfl) hok rfl hfd hcl (fun j d v hd hv=>(hcv j d v hd hv).evo hev5) (by simp) rfl (by rw[hS];rfl) (Il e0) (tm3 hm5 hok htm5 h4 h5 h6) (ds:=[.agg zIt,.int .i64 0,.int .i64 (e0:Int)]) ?_ (fun g' w' v hev hm' hv'=>?_)
   ·(apply Zf Za;exact Z)
   ·exact⟨g',[],[],.ret (D.wk _),hev,hm',⟨v,rfl,hv'.wk⟩,rfl,rfl,rfl⟩
  | ok y=>
   obtain⟨⟨k1,n1,b1,l1⟩,r,m1⟩:=y
   rw[hx]at hit
   dsimp only at hit ⊢
   refine Xo [{ target:=.fn (.func 16) cvs.toArray,args := #[] }] (@II _ _ ⟨[{ target:=.fn (.func 16) cvs.toArray,args := #[] }]⟩ b q (b.length-r.length) m1 k1 n1 b1 l1 hit) hi4 (fun S g4 a4 w4 hi5 hdl h=>?_) (fun S g a w v d _ _ _ h=>by cases h.1) (fun S h=>by cases h.1) (fun S i h=>by cases h.1) (fun S i h=>by cases h.1)
   obtain⟨_,hn,hbx,hfr,h4,h5,h6⟩:=h
   obtain⟨_,hm5,htm5,hev5⟩:=@Inv.parts _ ⟨[{ target:=.fn (.func 16) cvs.toArray,args := #[] }]⟩ _ _ _ _ _ hi5
   have hok:Yg [0,1,2] S.bx.length:=Yf (by rw[hbx];rfl)
   show Leaves Tryd.prog _ a4.tmps _ a4.defers _ w4
   rw[hdl]
   refine UC (rs:=[.cell 4 27,.cell 5 3,.cell 6 33]) rfl (b:=⟨g,[],w⟩) hρ rfl (@Inv.base _ ⟨[{ target:=.fn (.func 16) cvs.toArray,args := #[] }]⟩ _ _ _ _ _ _ hi5 ev2 hρ rfl) hok rfl hfd hcl (fun j d v hd hv=>(hcv j d v hd hv).evo hev5) (by simp) rfl (by rw[hbx];rfl) (Ik k1 n1 b1 l1 (b.length-r.length)) (tm3 hm5 hok htm5 h4 h5 h6) (ds:=[.agg (itC k1 n1 b1 l1),.int .i64 ((b.length-r.length:Nat):Int),.int .i64 0]) ?_ (fun g' w' v hev hm' hv'=>?_)
   ·(apply Zf Za;exact Z)
   ·exact⟨g',[],[],.ret (D.wk _),hev,hm',⟨v,rfl,hv'.wk⟩,rfl,rfl,rfl⟩
end Go.Proofs.YthdgejfglbjogaaDoor
end

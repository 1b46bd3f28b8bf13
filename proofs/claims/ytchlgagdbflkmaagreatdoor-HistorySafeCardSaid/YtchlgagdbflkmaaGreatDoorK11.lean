/- A run of operations that only compute, or make and lay variables, and the control between them, as one function: where it stops, and with what. -/
import Derived.Test.YtchlgagdbflkmaaGreatDoorK10
set_option linter.unusedSimpArgs false
set_option linter.unusedVariables false
section
open Go.RowKit Go.Pl
namespace Go.Av
def NO (T:Tab)(tm:List (Nat × D))(op:BinOp)(xt:Nat)(x y:Operand):Option D:=
 match ev tm x,ev tm y with
 | .int k m,.int k2 q=>match decide (k=k2),(match op with | .quo | .rem | .shl | .shr=>false|_=>true) with
  | true,true=>nf (Nq op k m q)
  | _,_=>none
 | .str p,.str q=>match op with
  | .eql | .neq | .lss | .leq | .gtr | .geq=>nf (GO op p q)
  | _=>none
 | .bool p,.bool q=>match tl T xt with
  | some ti=>match ti.kd with
   | .bool=>match op with
    | .eql=>some (.bool (p==q))
    | .neq=>some (.bool (!(p==q)))
    | _=>none
   | _=>none
  | none=>none
 | d,.nilp=>match RO d,tl T xt with
  | some p,some ti=>match ti.kd with
   | .ptr _=>match op with
    | .eql=>some (.bool p)
    | .neq=>some (.bool (!p))
    | _=>none
   | _=>none
  | _,_=>none
 | _,_=>none
def Ri (bx:List (List D))(ti:Ti):D->Option D
 | .ptr b o=>match bx[b]? with
  | some cs=>match ti.kd.agg with
   | false=>cs[o]?
   | true=>match Nat.ble (o+ti.size) cs.length,nfs ((cs.drop o).take ti.size) with
    | true,some cs'=>some (.agg cs')
    | _,_=>none
  | none=>none
 | .eptr cs o=>match ti.kd.agg with
  | false=>match cs[o]? with
   | some e=>nf (.ofE e)
   | none=>none
  | true=>match Nat.ble (o+ti.size) cs.length,nfs (((cs.drop o).take ti.size).map .ofE) with
   | true,some cs'=>some (.agg cs')
   | _,_=>none
 | _=>none
def Lk (T:Tab)(st f:Nat):Option Fd:=
 match tl T st with
 | some ti=>match ti.kd with
  | .struct fs=>match fs[f]? with
   | some fd=>match Nat.beq fd.size 0 with
    | false=>some fd
    | true=>none
   | none=>none
  | _=>none
 | none=>none
def NP (T:Tab)(tm:List (Nat × D))(bx:List (List D)):Op->Option D
 | .move x=>nf (ev tm x)
 | .assign x=>nf (ev tm x)
 | .binOp op xt x y _=>NO T tm op xt x y
 | .unOp .not _ x=>match ev tm x with
  | .bool b=>some (.bool (!b))
  | _=>none
 | .convert src dst x=>match ev tm x with
  | .int _ q=>match tl T src,tl T dst with
   | some _,some td=>match td.kd with
    | .int k'=>some (.int k' (k'.wrap q))
    | _=>none
   | _,_=>none
  | _=>none
 | .load lt x=>match tl T lt with
  | some ti=>Ri bx ti (ev tm x)
  | none=>none
 | .fieldAddr st x f=>match Lk T st f with
  | some fd=>match ev tm x with
   | .ptr b o=>match Qc (List.replicate (o+fd.off) ()) with
    | some o'=>some (.ptr b o')
    | none=>none
   | .eptr cs o=>match Qc (List.replicate (o+fd.off) ()) with
    | some o'=>some (.eptr cs o')
    | none=>none
   | _=>none
  | none=>none
 | .nilCheck x=>match ev tm x with
  | .ptr b o=>some (.ptr b o)
  | .eptr cs o=>some (.eptr cs o)
  | _=>none
 | .extract x i=>match ev tm x with
  | .tup l=>l[i]?
  | _=>none
 | .field st x f=>match Lk T st f with
  | some fd=>match tl T fd.ty with
   | some ti'=>match ti'.kd.agg with
    | false=>match ev tm x with
     | .agg l=>l[fd.off]?
     | _=>none
    | true=>none
   | none=>none
  | none=>none
 | .build st parts=>match tl T st with
  | some ti=>match ti.kd with
   | .struct fs=>match JN fs (ti.zero.map ZK.d) (parts.toList.map (fun p=>(p.1,ev tm p.2))) with
    | some cs=>match nfs cs with
     | some cs'=>some (.agg cs')
     | none=>none
    | none=>none
   | _=>none
  | none=>none
 | .makeFunc (.func f) ⟨[]⟩ caps=>match nfs (caps.toList.map (ev tm)) with
  | some ds=>some (.fn f ds)
  | none=>none
 | _=>none
abbrev Rs:=List (Nat × D) × List (List D)
def HX (T:Tab)(n:Nat)(tm:List (Nat × D))(bx:List (List D)):Oper->Option Rs
 | ⟨some t,.box _ x,_,_,_,none⟩=>match nf (ev tm x) with
  | some d=>match D.ones d.cellsOf,nfb (bx++[d.cellsOf]),Qc bx,Nat.blt t n with
   | true,some bx',some m,true=>some ((t,.ptr m 0)::tm,bx')
   | _,_,_,_=>none
  | none=>none
 | ⟨some t,.alloc e,_,_,_,none⟩=>match tl T e with
  | some ti=>match nfb (bx++[ti.zero.map ZK.d]),Qc bx,Nat.blt t n with
   | some bx',some m,true=>some ((t,.ptr m 0)::tm,bx')
   | _,_,_=>none
  | none=>none
 | ⟨none,.store lt x y,_,_,_,none⟩=>match ev tm x,nf (ev tm y),tl T lt with
  | .ptr b o,some d,some ti=>match D.ones d.cellsOf,Nat.beq d.cellsOf.length ti.size,bx[b]? with
   | true,true,some cs=>match Nat.ble (o+d.cellsOf.length) cs.length,nfb (bx.set b (WX cs o d.cellsOf)) with
    | true,some bx'=>some (tm,bx')
    | _,_=>none
   | _,_,_=>none
  | _,_,_=>none
 | ⟨some t,op,_,_,_,none⟩=>match NP T tm bx op,Nat.blt t n with
  | some d,true=>some ((t,d)::tm,bx)
  | _,_=>none
 | _=>none
def NQ (T:Tab)(n:Nat):List Oper->List (Nat × D)->List (List D)->List Oper × Rs
 | [],tm,bx=>([],tm,bx)
 | o::l,tm,bx=>match HX T n tm bx o with
  | some (tm',bx')=>NQ T n l tm' bx'
  | none=>(o::l,tm,bx)
inductive Fm where
 | seq (y:Code)
 | blk (id:Nat)
inductive Pos where
 | aw (c:Code)
 | al (ops:Array Oper) (l:List Oper)
 | x (x:X)
def goG (T:Tab)(n:Nat):Nat->Pos->List Fm->List (Nat × D)->List (List D)->Option (Pos × List Fm × Rs)
 | 0,p,ks,tm,bx=>some (p,ks,tm,bx)
 | f+1,.aw c,ks,tm,bx=>match c with
  | .seq a b=>goG T n f (.aw a) (.seq b::ks) tm bx
  | .block id a=>goG T n f (.aw a) (.blk id::ks) tm bx
  | .skip=>goG T n f (.x .norm) ks tm bx
  | .label _=>goG T n f (.x .norm) ks tm bx
  | .exit i=>goG T n f (.x (.exit i)) ks tm bx
  | .goto l=>goG T n f (.x (.goto l)) ks tm bx
  | .ret=>goG T n f (.x .ret) ks tm bx
  | .region _ ops false=>goG T n f (.al ops ops.toList) ks tm bx
  | .cond (.const (.bool true)) a _=>goG T n f (.aw a) ks tm bx
  | .cond (.const (.bool false)) _ b=>goG T n f (.aw b) ks tm bx
  | c=>some (.aw c,ks,tm,bx)
 | f+1,.al ops l,ks,tm,bx=>match NQ T n l tm bx with
  | ([],tm',bx')=>goG T n f (.x .norm) ks tm' bx'
  | (o::l',tm',bx')=>some (.al ops (o::l'),ks,tm',bx')
 | f+1,.x x,ks,tm,bx=>match ks with
  | []=>some (.x x,[],tm,bx)
  | k::ks=>match x with
   | .norm=>match k with
    | .seq b=>goG T n f (.aw b) ks tm bx
    | .blk _=>goG T n f (.x .norm) ks tm bx
   | .exit i=>match k with
    | .blk id=>match Nat.beq i id with
     | true=>goG T n f (.x .norm) ks tm bx
     | false=>goG T n f (.x (.exit i)) ks tm bx
    | .seq _=>goG T n f (.x (.exit i)) ks tm bx
   | .goto l=>goG T n f (.x (.goto l)) ks tm bx
   | .ret=>goG T n f (.x .ret) ks tm bx
   | .pan d=>goG T n f (.x (.pan d)) ks tm bx
def goA (T:Tab)(n:Nat)(c:Code)(tm:List (Nat × D))(bx:List (List D)):Option (Pos × List Fm × Rs):=
 match c with
 | .seq .. | .block .. | .skip | .label _ | .exit _ | .goto _ | .ret | .region _ _ false | .cond (.const (.bool _)) _ _=>goG T n 400 (.aw c) [] tm bx
 | _=>none
def goL (T:Tab)(n:Nat)(ops:Array Oper)(l:List Oper)(tm:List (Nat × D))(bx:List (List D)):Option (Pos × List Fm × Rs):=
 match l with
 | []=>some (.x .norm,[],tm,bx)
 | o::l=>match HX T n tm bx o with
  | some (tm',bx')=>goG T n 400 (.al ops l) [] tm' bx'
  | none=>none
def goK (T:Tab)(n:Nat)(x:X)(ks:List Fm)(tm:List (Nat × D))(bx:List (List D)):Option (Pos × List Fm × Rs):=
 match ks with
 | []=>none
 | k::ks=>goG T n 400 (.x x) (k::ks) tm bx
section
variable {P:Program} {Q:X->St->Prop} {n:Nat} {ee:Nat × Nat} {tm:List (Nat × D)} {bx:List (List D)} {fr:List Fr} {T:Tab}
variable {ops:Array Oper} {rest:List Oper} {t ty:Nat} {pos:String} {after:Array Edge}
def unK [Known][Dfr](P:Program)(Q:X->St->Prop):List Fm->X->St->Prop
 | []=>Q
 | .seq y::ks=>X.then (fun S=>AW P y S (unK P Q ks)) (unK P Q ks)
 | .blk id::ks=>X.inBlock id (unK P Q ks)
@[reducible] def J [Known][Dfr](P:Program) (n:Nat) (fr:List Fr) (ee:Nat × Nat) (Q:X->St->Prop):Pos × List Fm × Rs->Prop
 | (.aw c,[],tm,bx)=>AW P c ⟨n,tm,bx,fr,ee⟩ Q
 | (.al ops l,[],tm,bx)=>AL P ops l ⟨n,tm,bx,fr,ee⟩ Q
 | (.x x,[],tm,bx)=>Q x ⟨n,tm,bx,fr,ee⟩
 | (.aw c,k::ks,tm,bx)=>AW P c ⟨n,tm,bx,fr,ee⟩ (unK P Q (k::ks))
 | (.al ops l,k::ks,tm,bx)=>AL P ops l ⟨n,tm,bx,fr,ee⟩ (unK P Q (k::ks))
 | (.x x,k::ks,tm,bx)=>unK P Q (k::ks) x ⟨n,tm,bx,fr,ee⟩
theorem W2 [Known][Dfr](P:Program)(n:Nat)(fr:List Fr)(ee:Nat × Nat)(Q:X->St->Prop)(p:Pos)(ks:List Fm)(tm:List (Nat × D))(bx:List (List D)):J P n fr ee Q (p,ks,tm,bx)=match p with
  | .aw c=>AW P c ⟨n,tm,bx,fr,ee⟩ (unK P Q ks)
  | .al ops l=>AL P ops l ⟨n,tm,bx,fr,ee⟩ (unK P Q ks)
  | .x x=>unK P Q ks x ⟨n,tm,bx,fr,ee⟩:=by
 cases p<;>cases ks<;>rfl
theorem IJ {o o':Nat}(h:Qc (List.replicate o ())=some o'):o=o':=by
 have:=WL h
 simpa using this
theorem NR [Known][Dfr](hT:chk P T=true){op:BinOp}{xt yt:Nat}{x y:Operand}{d:D}(h:NO T tm op xt x y=some d)(ht:Nat.blt t n=true)
  (k:AL P ops rest ⟨n,(t,d)::tm,bx,fr,ee⟩ Q):AL P ops (⟨some t,.binOp op xt x y yt,ty,pos,after,none⟩::rest) ⟨n,tm,bx,fr,ee⟩ Q:=by
 unfold NO at h
 split at h
 ·rename_i k1 m k2 q hx hy
  split at h
  ·rename_i e1 e2
   have e1:=of_decide_eq_true e1
   subst e1
   exact GG hx hy e2 h ht k
  ·cases h
 ·rename_i p q hx hy
  cases op<;>simp only at h<;>first|cases h;done|exact RL hx hy rfl h ht k
 ·rename_i p q hx hy
  split at h
  ·rename_i ti hti
   split at h
   ·rename_i hk
    cases op<;>simp only at h<;>first|cases h;done|exact RN hT hx hy hti hk h ht k
   ·cases h
  ·cases h
 ·have hy:ev tm y=.nilp:=by assumption
  split at h
  ·rename_i p ti hp hti
   split at h
   ·rename_i e hk
    cases op<;>simp only at h<;>first|cases h;done|exact Lc hT hp hy hti hk h ht k
   ·cases h
  ·cases h
 ·cases h
theorem HY {st f:Nat}{fd:Fd}(h:Lk T st f=some fd):∃ ti fs,tl T st=some ti/\ti.kd=.struct fs/\fs[f]?=some fd/\Nat.beq fd.size 0=false:=by
 unfold Lk at h
 split at h
 ·rename_i ti hti
  split at h
  ·rename_i fs hk
   split at h
   ·rename_i fd' hf
    split at h
    ·rename_i hs
     cases h
     exact⟨ti,fs,hti,hk,hf,hs⟩
    ·cases h
   ·cases h
  ·cases h
 ·cases h
theorem NS [Known][Dfr](hT:chk P T=true){op:Op}{d:D}(h:NP T tm bx op=some d)(ht:Nat.blt t n=true)
  (k:AL P ops rest ⟨n,(t,d)::tm,bx,fr,ee⟩ Q):AL P ops (⟨some t,op,ty,pos,after,none⟩::rest) ⟨n,tm,bx,fr,ee⟩ Q:=by
 unfold NP at h
 split at h
 ·exact OV h ht k
 ·exact KT h ht k
 ·exact NR hT h ht k
 ·split at h
  ·rename_i hx;cases h;exact RI hx ht k
  ·cases h
 ·split at h
  ·rename_i hx
   split at h
   ·rename_i hs hd
    split at h
    ·rename_i hk;cases h;exact NA hT hx hs hd hk ht k
    ·cases h
   ·cases h
  ·cases h
 ·split at h
  ·rename_i ti hti
   unfold Ri at h
   split at h
   ·rename_i hx
    split at h
    ·rename_i cs hb
     split at h
     ·rename_i ha;exact XT hT hx hti ha hb h ht k
     ·rename_i ha
      split at h
      ·rename_i h1 h2;cases h;exact XU hT hx hti ha hb h1 h2 ht k
      ·cases h
    ·cases h
   ·rename_i hx
    split at h
    ·rename_i ha
     split at h
     ·rename_i he;exact Ts hT hx hti ha he h ht k
     ·cases h
    ·rename_i ha
     split at h
     ·rename_i h1 h2;cases h;exact JM hT hx hti ha h1 h2 ht k
     ·cases h
   ·cases h
  ·cases h
 ·split at h
  ·rename_i fd hfd
   obtain⟨ti,fs,h1,h2,h3,h4⟩:=HY hfd
   split at h
   ·rename_i hx
    split at h
    ·rename_i ho;cases h;exact YU hT hx h1 h2 h3 h4 (IJ ho) ht k
    ·cases h
   ·rename_i hx
    split at h
    ·rename_i ho;cases h;exact KL hT hx h1 h2 h3 h4 (IJ ho) ht k
    ·cases h
   ·cases h
  ·cases h
 ·split at h
  ·rename_i hx;cases h;exact Ix hx ht k
  ·rename_i hx;cases h;exact OY hx ht k
  ·cases h
 ·split at h
  ·rename_i hx;exact GM hx h ht k
  ·cases h
 ·split at h
  ·rename_i fd hfd
   obtain⟨ti,fs,h1,h2,h3,h4⟩:=HY hfd
   split at h
   ·rename_i ti' hti'
    split at h
    ·rename_i ha
     split at h
     ·rename_i hx;exact Tu hT hx h1 h2 h3 h4 hti' ha h ht k
     ·cases h
    ·cases h
   ·cases h
  ·cases h
 ·split at h
  ·rename_i ti hti
   split at h
   ·rename_i fs hk
    split at h
    ·rename_i cs hb
     split at h
     ·rename_i hn;cases h;exact Nx hT hti hk rfl hb hn ht k
     ·cases h
    ·cases h
   ·cases h
  ·cases h
 ·split at h
  ·rename_i hds;cases h;exact IC hds ht k
  ·cases h
 ·cases h
theorem IK [Known][Dfr](hT:chk P T=true){o:Oper}{r:Rs}(h:HX T n tm bx o=some r)
  (k:AL P ops rest ⟨n,r.1,r.2,fr,ee⟩ Q):AL P ops (o::rest) ⟨n,tm,bx,fr,ee⟩ Q:=by
 unfold HX at h
 split at h
 ·split at h
  ·rename_i hx
   split at h
   ·rename_i h1 h2 h3 h4;cases h;exact Lg hx h1 h2 h3 h4 k
   ·cases h
  ·cases h
 ·split at h
  ·rename_i hti
   split at h
   ·rename_i h2 h3 h4;cases h;exact JR hT hti h2 h3 h4 k
   ·cases h
  ·cases h
 ·split at h
  ·rename_i hx hy hti
   split at h
   ·rename_i h1 h2 h3
    split at h
    ·rename_i h4 h5;cases h;exact XV hT hx hy h1 hti h2 h3 h4 h5 k
    ·cases h
   ·cases h
  ·cases h
 ·split at h
  ·rename_i h1 h2;cases h;exact NS hT h1 h2 k
  ·cases h
 ·cases h
theorem O4 [Known][Dfr](hT:chk P T=true):∀(l:List Oper) (tm:List (Nat × D)) (bx:List (List D)) (l':List Oper) (r:Rs),NQ T n l tm bx=(l',r)->AL P ops l' ⟨n,r.1,r.2,fr,ee⟩ Q->AL P ops l ⟨n,tm,bx,fr,ee⟩ Q
 | [],tm,bx,l',r,h,k=>by unfold NQ at h;cases h;exact k
 | o::l,tm,bx,l',r,h,k=>by
  unfold NQ at h
  split at h
  ·rename_i tm' bx' hs
   exact IK hT hs (O4 hT l tm' bx' l' r h k)
  ·cases h;exact k
theorem YF [Known][Dfr](hT:chk P T=true):∀(f:Nat) (p:Pos) (ks:List Fm) (tm:List (Nat × D)) (bx:List (List D)) (o:Pos × List Fm × Rs),goG T n f p ks tm bx=some o->J P n fr ee Q o->J P n fr ee Q (p,ks,tm,bx)
 | 0,p,ks,tm,bx,o,h,k=>by unfold goG at h;cases h;exact k
 | f+1,.aw c,ks,tm,bx,o,h,k=>by
  unfold goG at h
  rw[W2]
  show AW P c ⟨n,tm,bx,fr,ee⟩ (unK P Q ks)
  split at h
  ·exact Xt (by have:=YF hT f _ _ _ _ _ h k;rwa [W2]at this)
  ·exact XP (by have:=YF hT f _ _ _ _ _ h k;rwa [W2]at this)
  ·exact OS (by have:=YF hT f _ _ _ _ _ h k;rwa [W2]at this)
  ·exact Np (by have:=YF hT f _ _ _ _ _ h k;rwa [W2]at this)
  ·exact M3 (by have:=YF hT f _ _ _ _ _ h k;rwa [W2]at this)
  ·exact M4 (by have:=YF hT f _ _ _ _ _ h k;rwa [W2]at this)
  ·exact RG (by have:=YF hT f _ _ _ _ _ h k;rwa [W2]at this)
  ·rename_i id ops
   have:=YF hT f _ _ _ _ _ h k;rw[W2]at this
   exact Qx (l:=ops.toList) (by simpa using this)
  ·exact TA (by have:=YF hT f _ _ _ _ _ h k;rwa [W2]at this)
  ·exact TB (by have:=YF hT f _ _ _ _ _ h k;rwa [W2]at this)
  ·cases h;rwa [W2]at k
 | f+1,.al ops l,ks,tm,bx,o,h,k=>by
  unfold goG at h
  rw[W2]
  show AL P ops l ⟨n,tm,bx,fr,ee⟩ (unK P Q ks)
  split at h
  ·rename_i tm' bx' hr
   exact O4 hT _ _ _ _ _ hr (XR (by have:=YF hT f _ _ _ _ _ h k;rwa [W2]at this))
  ·rename_i o l' tm' bx' hr
   cases h;rw[W2]at k;exact O4 hT _ _ _ _ _ hr k
 | f+1,.x x,ks,tm,bx,o,h,k=>by
  unfold goG at h
  rw[W2]
  show unK P Q ks x ⟨n,tm,bx,fr,ee⟩
  split at h
  ·cases h;rwa [W2]at k
  ·split at h
   ·split at h
    ·have:=YF hT f _ _ _ _ _ h k;rwa [W2]at this
    ·have:=YF hT f _ _ _ _ _ h k;rwa [W2]at this
   ·split at h
    ·split at h
     ·rename_i i _ id hb
      have:=YF hT f _ _ _ _ _ h k;rw[W2]at this
      obtain rfl:=Nat.eq_of_beq_eq_true hb
      exact Vr this
     ·rename_i i _ id hb
      exact M8 hb (by have:=YF hT f _ _ _ _ _ h k;rwa [W2]at this)
    ·exact WN (by have:=YF hT f _ _ _ _ _ h k;rwa [W2]at this)
   ·rename_i k0 _ _ _
    cases k0 with
    | seq y=>exact Tr (by have:=YF hT f _ _ _ _ _ h k;rwa [W2]at this)
    | blk id=>exact Ns (by have:=YF hT f _ _ _ _ _ h k;rwa [W2]at this)
   ·rename_i k0 _ _
    cases k0 with
    | seq y=>exact WI (by have:=YF hT f _ _ _ _ _ h k;rwa [W2]at this)
    | blk id=>exact M9 (by have:=YF hT f _ _ _ _ _ h k;rwa [W2]at this)
   ·rename_i k0 _ _ _
    cases k0 with
    | seq y=>exact Nr (by have:=YF hT f _ _ _ _ _ h k;rwa [W2]at this)
    | blk id=>exact La (by have:=YF hT f _ _ _ _ _ h k;rwa [W2]at this)
theorem Zh [Known][Dfr](hT:chk P T=true){c:Code}{o:Pos × List Fm × Rs}(h:goA T n c tm bx=some o)(k:J P n fr ee Q o):AW P c ⟨n,tm,bx,fr,ee⟩ Q:=by
 unfold goA at h
 split at h<;>first|cases h;done|skip
 all_goals exact YF hT _ _ _ _ _ _ h k
theorem Zg [Known][Dfr](hT:chk P T=true){o:Pos × List Fm × Rs}(h:goL T n ops rest tm bx=some o)(k:J P n fr ee Q o):AL P ops rest ⟨n,tm,bx,fr,ee⟩ Q:=by
 unfold goL at h
 split at h
 ·cases h;exact XR k
 ·split at h
  ·rename_i tm' bx' hs
   exact IK hT hs (YF hT _ _ _ _ _ _ h k)
  ·cases h
theorem Zs [Known][Dfr](hT:chk P T=true){x:X}{ks:List Fm}{o:Pos × List Fm × Rs}(h:goK T n x ks tm bx=some o)(k:J P n fr ee Q o):unK P Q ks x ⟨n,tm,bx,fr,ee⟩:=by
 unfold goK at h
 split at h
 ·cases h
 ·have:=YF hT _ _ _ _ _ _ h k;rwa [W2]at this
end
def RZ (T:Tab)(tm:List (Nat × D))(bx:List (List D)):ResultVar->Option D
 | .tmp t=>nf (look tm t)
 | .cell a t=>match look tm a,tl T t with
  | .ptr b o,some ti=>match bx[b]? with
   | some cs=>match ti.kd.agg with
    | false=>match cs[o]? with
     | some d=>nf d
     | none=>none
    | true=>match Nat.ble (o+ti.size) cs.length,nfs ((cs.drop o).take ti.size) with
     | true,some cs'=>some (.agg cs')
     | _,_=>none
   | none=>none
  | _,_=>none
def Ll (T:Tab)(tm:List (Nat × D))(bx:List (List D)):List ResultVar->Option (List D)
 | []=>some []
 | r::rs=>match RZ T tm bx r,Ll T tm bx rs with
  | some d,some ds=>some (d::ds)
  | _,_=>none
theorem Zc {P:Program}{T:Tab}(hT:chk P T=true){n:Nat}{ee:Nat × Nat}{tm:List (Nat × D)}{bx:List (List D)}{fr:List Fr}:∀ {rs:List ResultVar} {ds:List D},Ll T tm bx rs=some ds->ResL P ⟨n,tm,bx,fr,ee⟩ rs ds
 | [],ds,h=>by unfold Ll at h;cases h;exact .nil
 | r::rs,ds,h=>by
  unfold Ll at h
  split at h
  ·rename_i d ds' h1 h2
   cases h
   refine .cons _ _ _ _ ?_ (Zc hT h2)
   cases r with
   | tmp t=>
    unfold RZ at h1
    exact .tmp _ _ (YA h1)
   | cell a t=>
    simp only[RZ]at h1
    split at h1
    ·rename_i b o ti ha hti
     split at h1
     ·rename_i cs hb
      split at h1
      ·rename_i hag
       split at h1
       ·rename_i d' hd
        have hd':=YA h1
        subst hd'
        exact .cell1 a t b o cs _ ha (by rw[(ZP hT hti).tAgg,hag]) hb hd
       ·cases h1
      ·rename_i hag
       split at h1
       ·rename_i h3 h4
        cases h1
        exact .celln a t b o ti.size cs _ ha (by rw[(ZP hT hti).tAgg,hag]) (ZP hT hti).tSize hb h3 (by rw[Vs h4])
       ·cases h1
     ·cases h1
    ·cases h1
  ·cases h
end Go.Av
end

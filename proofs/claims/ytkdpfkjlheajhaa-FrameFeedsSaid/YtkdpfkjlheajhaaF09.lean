/- A run of operations that only compute, or make and lay variables, and the control between them, as one function: where it stops, and with what. -/
import Derived.Test.YtkdpfkjlheajhaaF08
import Derived.Test.YtkdpfkjlheajhaaF03
import Derived.Test.YtkdpfkjlheajhaaProg
import Derived.Lib.AppendZeros
import Derived.Test.YtkdpfkjlheajhaaF07
import Derived.Scope
set_option linter.unusedSimpArgs false
set_option linter.unusedVariables false
section
open Go.RowKit Go.Pl
namespace Go.Av
def QH (T:Tab)(tm:List (Nat × D))(op:BinOp)(xt:Nat)(x y:Operand):Option D:=
 match ev tm x,ev tm y with
 | .int k m,.int k2 q=>match decide (k=k2),(match op with | .quo | .rem | .shl | .shr=>false|_=>true) with
  | true,true=>nf (Qa op k m q)
  | _,_=>none
 | .str p,.str q=>match op with
  | .eql | .neq | .lss | .leq | .gtr | .geq=>nf (Un op p q)
  | _=>none
 | .bool p,.bool q=>match tl T xt with
  | some ti=>match ti.kd with
   | .bool=>match op with
    | .eql=>some (.bool (p==q))
    | .neq=>some (.bool (!(p==q)))
    | _=>none
   | _=>none
  | none=>none
 | d,.nilp=>match Ju d,tl T xt with
  | some p,some ti=>match ti.kd with
   | .ptr _=>match op with
    | .eql=>some (.bool p)
    | .neq=>some (.bool (!p))
    | _=>none
   | _=>none
  | _,_=>none
 | _,_=>none
def Jk (bx:List (List D))(ti:Ti):D->Option D
 | .ptr b o=>match bx[b]? with
  | some cs=>match ti.kd.agg with
   | false=>cs[o]?
   | true=>match Nat.ble (o+ti.size) cs.length,nfs ((cs.drop o).take ti.size) with
    | true,some cs'=>some (.agg cs')
    | _,_=>none
  | none=>none
 | .eptr cs o=>match ti.kd.agg with
  | false=>match cs[o]? with
   | some e=>nf (.ofE e)
   | none=>none
  | true=>match Nat.ble (o+ti.size) cs.length,nfs (((cs.drop o).take ti.size).map .ofE) with
   | true,some cs'=>some (.agg cs')
   | _,_=>none
 | _=>none
def Jc (T:Tab)(st f:Nat):Option Fd:=
 match tl T st with
 | some ti=>match ti.kd with
  | .struct fs=>match fs[f]? with
   | some fd=>match Nat.beq fd.size 0 with
    | false=>some fd
    | true=>none
   | none=>none
  | _=>none
 | none=>none
def QI (T:Tab)(tm:List (Nat × D))(bx:List (List D)):Op->Option D
 | .move x=>nf (ev tm x)
 | .assign x=>nf (ev tm x)
 | .binOp op xt x y _=>QH T tm op xt x y
 | .unOp .not _ x=>match ev tm x with
  | .bool b=>some (.bool (!b))
  | _=>none
 | .convert src dst x=>match ev tm x with
  | .int _ q=>match tl T src,tl T dst with
   | some _,some td=>match td.kd with
    | .int k'=>some (.int k' (k'.wrap q))
    | _=>none
   | _,_=>none
  | _=>none
 | .load lt x=>match tl T lt with
  | some ti=>Jk bx ti (ev tm x)
  | none=>none
 | .fieldAddr st x f=>match Jc T st f with
  | some fd=>match ev tm x with
   | .ptr b o=>match W9 (List.replicate (o+fd.off) ()) with
    | some o'=>some (.ptr b o')
    | none=>none
   | .eptr cs o=>match W9 (List.replicate (o+fd.off) ()) with
    | some o'=>some (.eptr cs o')
    | none=>none
   | _=>none
  | none=>none
 | .nilCheck x=>match ev tm x with
  | .ptr b o=>some (.ptr b o)
  | .eptr cs o=>some (.eptr cs o)
  | _=>none
 | .extract x i=>match ev tm x with
  | .tup l=>l[i]?
  | _=>none
 | .field st x f=>match Jc T st f with
  | some fd=>match tl T fd.ty with
   | some ti'=>match ti'.kd.agg with
    | false=>match ev tm x with
     | .agg l=>l[fd.off]?
     | _=>none
    | true=>none
   | none=>none
  | none=>none
 | .build st parts=>match tl T st with
  | some ti=>match ti.kd with
   | .struct fs=>match Wv fs (ti.zero.map ZK.d) (parts.toList.map (fun p=>(p.1,ev tm p.2))) with
    | some cs=>match nfs cs with
     | some cs'=>some (.agg cs')
     | none=>none
    | none=>none
   | _=>none
  | none=>none
 | .makeFunc (.func f) ⟨[]⟩ caps=>match nfs (caps.toList.map (ev tm)) with
  | some ds=>some (.fn f ds)
  | none=>none
 | _=>none
abbrev Rs:=List (Nat × D) × List (List D)
def UL (T:Tab)(n:Nat)(tm:List (Nat × D))(bx:List (List D)):Oper->Option Rs
 | ⟨some t,.box _ x,_,_,_,none⟩=>match nf (ev tm x) with
  | some d=>match D.ones d.cellsOf,nfb (bx++[d.cellsOf]),W9 bx,Nat.blt t n with
   | true,some bx',some m,true=>some ((t,.ptr m 0)::tm,bx')
   | _,_,_,_=>none
  | none=>none
 | ⟨some t,.alloc e,_,_,_,none⟩=>match tl T e with
  | some ti=>match nfb (bx++[ti.zero.map ZK.d]),W9 bx,Nat.blt t n with
   | some bx',some m,true=>some ((t,.ptr m 0)::tm,bx')
   | _,_,_=>none
  | none=>none
 | ⟨none,.store lt x y,_,_,_,none⟩=>match ev tm x,nf (ev tm y),tl T lt with
  | .ptr b o,some d,some ti=>match D.ones d.cellsOf,Nat.beq d.cellsOf.length ti.size,bx[b]? with
   | true,true,some cs=>match Nat.ble (o+d.cellsOf.length) cs.length,nfb (bx.set b (Z0 cs o d.cellsOf)) with
    | true,some bx'=>some (tm,bx')
    | _,_=>none
   | _,_,_=>none
  | _,_,_=>none
 | ⟨some t,op,_,_,_,none⟩=>match QI T tm bx op,Nat.blt t n with
  | some d,true=>some ((t,d)::tm,bx)
  | _,_=>none
 | _=>none
def QJ (T:Tab)(n:Nat):List Oper->List (Nat × D)->List (List D)->List Oper × Rs
 | [],tm,bx=>([],tm,bx)
 | o::l,tm,bx=>match UL T n tm bx o with
  | some (tm',bx')=>QJ T n l tm' bx'
  | none=>(o::l,tm,bx)
inductive Fm where
 | seq (y:Code)
 | blk (id:Nat)
inductive Pos where
 | aw (c:Code)
 | al (ops:Array Oper) (l:List Oper)
 | x (x:X)
def goG (T:Tab)(n:Nat):Nat->Pos->List Fm->List (Nat × D)->List (List D)->Option (Pos × List Fm × Rs)
 | 0,p,ks,tm,bx=>some (p,ks,tm,bx)
 | f+1,.aw c,ks,tm,bx=>match c with
  | .seq a b=>goG T n f (.aw a) (.seq b::ks) tm bx
  | .block id a=>goG T n f (.aw a) (.blk id::ks) tm bx
  | .skip=>goG T n f (.x .norm) ks tm bx
  | .label _=>goG T n f (.x .norm) ks tm bx
  | .exit i=>goG T n f (.x (.exit i)) ks tm bx
  | .goto l=>goG T n f (.x (.goto l)) ks tm bx
  | .ret=>goG T n f (.x .ret) ks tm bx
  | .region _ ops false=>goG T n f (.al ops ops.toList) ks tm bx
  | .cond (.const (.bool true)) a _=>goG T n f (.aw a) ks tm bx
  | .cond (.const (.bool false)) _ b=>goG T n f (.aw b) ks tm bx
  | c=>some (.aw c,ks,tm,bx)
 | f+1,.al ops l,ks,tm,bx=>match QJ T n l tm bx with
  | ([],tm',bx')=>goG T n f (.x .norm) ks tm' bx'
  | (o::l',tm',bx')=>some (.al ops (o::l'),ks,tm',bx')
 | f+1,.x x,ks,tm,bx=>match ks with
  | []=>some (.x x,[],tm,bx)
  | k::ks=>match x with
   | .norm=>match k with
    | .seq b=>goG T n f (.aw b) ks tm bx
    | .blk _=>goG T n f (.x .norm) ks tm bx
   | .exit i=>match k with
    | .blk id=>match Nat.beq i id with
     | true=>goG T n f (.x .norm) ks tm bx
     | false=>goG T n f (.x (.exit i)) ks tm bx
    | .seq _=>goG T n f (.x (.exit i)) ks tm bx
   | .goto l=>goG T n f (.x (.goto l)) ks tm bx
   | .ret=>goG T n f (.x .ret) ks tm bx
   | .pan d=>goG T n f (.x (.pan d)) ks tm bx
def goA (T:Tab)(n:Nat)(c:Code)(tm:List (Nat × D))(bx:List (List D)):Option (Pos × List Fm × Rs):=
 match c with
 | .seq .. | .block .. | .skip | .label _ | .exit _ | .goto _ | .ret | .region _ _ false | .cond (.const (.bool _)) _ _=>goG T n 400 (.aw c) [] tm bx
 | _=>none
def goL (T:Tab)(n:Nat)(ops:Array Oper)(l:List Oper)(tm:List (Nat × D))(bx:List (List D)):Option (Pos × List Fm × Rs):=
 match l with
 | []=>some (.x .norm,[],tm,bx)
 | o::l=>match UL T n tm bx o with
  | some (tm',bx')=>goG T n 400 (.al ops l) [] tm' bx'
  | none=>none
def goK (T:Tab)(n:Nat)(x:X)(ks:List Fm)(tm:List (Nat × D))(bx:List (List D)):Option (Pos × List Fm × Rs):=
 match ks with
 | []=>none
 | k::ks=>goG T n 400 (.x x) (k::ks) tm bx
section
variable {P:Program} {Q:X->St->Prop} {n:Nat} {ee:Nat × Nat} {tm:List (Nat × D)} {bx:List (List D)} {fr:List Fr} {T:Tab}
variable {ops:Array Oper} {rest:List Oper} {t ty:Nat} {pos:String} {after:Array Edge}
def unK [Known][Dfr](P:Program)(Q:X->St->Prop):List Fm->X->St->Prop
 | []=>Q
 | .seq y::ks=>X.then (fun S=>AW P y S (unK P Q ks)) (unK P Q ks)
 | .blk id::ks=>X.inBlock id (unK P Q ks)
@[reducible] def J [Known][Dfr](P:Program) (n:Nat) (fr:List Fr) (ee:Nat × Nat) (Q:X->St->Prop):Pos × List Fm × Rs->Prop
 | (.aw c,[],tm,bx)=>AW P c ⟨n,tm,bx,fr,ee⟩ Q
 | (.al ops l,[],tm,bx)=>AL P ops l ⟨n,tm,bx,fr,ee⟩ Q
 | (.x x,[],tm,bx)=>Q x ⟨n,tm,bx,fr,ee⟩
 | (.aw c,k::ks,tm,bx)=>AW P c ⟨n,tm,bx,fr,ee⟩ (unK P Q (k::ks))
 | (.al ops l,k::ks,tm,bx)=>AL P ops l ⟨n,tm,bx,fr,ee⟩ (unK P Q (k::ks))
 | (.x x,k::ks,tm,bx)=>unK P Q (k::ks) x ⟨n,tm,bx,fr,ee⟩
theorem Z4 [Known][Dfr](P:Program)(n:Nat)(fr:List Fr)(ee:Nat × Nat)(Q:X->St->Prop)(p:Pos)(ks:List Fm)(tm:List (Nat × D))(bx:List (List D)):J P n fr ee Q (p,ks,tm,bx)=match p with
  | .aw c=>AW P c ⟨n,tm,bx,fr,ee⟩ (unK P Q ks)
  | .al ops l=>AL P ops l ⟨n,tm,bx,fr,ee⟩ (unK P Q ks)
  | .x x=>unK P Q ks x ⟨n,tm,bx,fr,ee⟩:=by
 cases p<;>cases ks<;>rfl
theorem V2 {o o':Nat}(h:W9 (List.replicate o ())=some o'):o=o':=by
 have:=Wm h
 simpa using this
theorem QK [Known][Dfr](hT:chk P T=true){op:BinOp}{xt yt:Nat}{x y:Operand}{d:D}(h:QH T tm op xt x y=some d)(ht:Nat.blt t n=true)
  (k:AL P ops rest ⟨n,(t,d)::tm,bx,fr,ee⟩ Q):AL P ops (⟨some t,.binOp op xt x y yt,ty,pos,after,none⟩::rest) ⟨n,tm,bx,fr,ee⟩ Q:=by
 unfold QH at h
 split at h
 ·rename_i k1 m k2 q hx hy
  split at h
  ·rename_i e1 e2
   have e1:=of_decide_eq_true e1
   subst e1
   exact Uc hx hy e2 h ht k
  ·cases h
 ·rename_i p q hx hy
  cases op<;>simp only at h<;>first|cases h;done|exact Js hx hy rfl h ht k
 ·rename_i p q hx hy
  split at h
  ·rename_i ti hti
   split at h
   ·rename_i hk
    cases op<;>simp only at h<;>first|cases h;done|exact Jt hT hx hy hti hk h ht k
   ·cases h
  ·cases h
 ·have hy:ev tm y=.nilp:=by assumption
  split at h
  ·rename_i p ti hp hti
   split at h
   ·rename_i e hk
    cases op<;>simp only at h<;>first|cases h;done|exact Q5 hT hp hy hti hk h ht k
   ·cases h
  ·cases h
 ·cases h
theorem UM {st f:Nat}{fd:Fd}(h:Jc T st f=some fd):∃ ti fs,tl T st=some ti/\ti.kd=.struct fs/\fs[f]?=some fd/\Nat.beq fd.size 0=false:=by
 unfold Jc at h
 split at h
 ·rename_i ti hti
  split at h
  ·rename_i fs hk
   split at h
   ·rename_i fd' hf
    split at h
    ·rename_i hs
     cases h
     exact⟨ti,fs,hti,hk,hf,hs⟩
    ·cases h
   ·cases h
  ·cases h
 ·cases h
theorem QL [Known][Dfr](hT:chk P T=true){op:Op}{d:D}(h:QI T tm bx op=some d)(ht:Nat.blt t n=true)
  (k:AL P ops rest ⟨n,(t,d)::tm,bx,fr,ee⟩ Q):AL P ops (⟨some t,op,ty,pos,after,none⟩::rest) ⟨n,tm,bx,fr,ee⟩ Q:=by
 unfold QI at h
 split at h
 ·exact Vy h ht k
 ·exact Wr h ht k
 ·exact QK hT h ht k
 ·split at h
  ·rename_i hx;cases h;exact Jq hx ht k
  ·cases h
 ·split at h
  ·rename_i hx
   split at h
   ·rename_i hs hd
    split at h
    ·rename_i hk;cases h;exact Qu hT hx hs hd hk ht k
    ·cases h
   ·cases h
  ·cases h
 ·split at h
  ·rename_i ti hti
   unfold Jk at h
   split at h
   ·rename_i hx
    split at h
    ·rename_i cs hb
     split at h
     ·rename_i ha;exact WS hT hx hti ha hb h ht k
     ·rename_i ha
      split at h
      ·rename_i h1 h2;cases h;exact Qp hT hx hti ha hb h1 h2 ht k
      ·cases h
    ·cases h
   ·rename_i hx
    split at h
    ·rename_i ha
     split at h
     ·rename_i he;exact UT hT hx hti ha he h ht k
     ·cases h
    ·rename_i ha
     split at h
     ·rename_i h1 h2;cases h;exact UU hT hx hti ha h1 h2 ht k
     ·cases h
   ·cases h
  ·cases h
 ·split at h
  ·rename_i fd hfd
   obtain⟨ti,fs,h1,h2,h3,h4⟩:=UM hfd
   split at h
   ·rename_i hx
    split at h
    ·rename_i ho;cases h;exact YF hT hx h1 h2 h3 h4 (V2 ho) ht k
    ·cases h
   ·rename_i hx
    split at h
    ·rename_i ho;cases h;exact W7 hT hx h1 h2 h3 h4 (V2 ho) ht k
    ·cases h
   ·cases h
  ·cases h
 ·split at h
  ·rename_i hx;cases h;exact YP hx ht k
  ·rename_i hx;cases h;exact VA hx ht k
  ·cases h
 ·split at h
  ·rename_i hx;exact Uk hx h ht k
  ·cases h
 ·split at h
  ·rename_i fd hfd
   obtain⟨ti,fs,h1,h2,h3,h4⟩:=UM hfd
   split at h
   ·rename_i ti' hti'
    split at h
    ·rename_i ha
     split at h
     ·rename_i hx;exact UW hT hx h1 h2 h3 h4 hti' ha h ht k
     ·cases h
    ·cases h
   ·cases h
  ·cases h
 ·split at h
  ·rename_i ti hti
   split at h
   ·rename_i fs hk
    split at h
    ·rename_i cs hb
     split at h
     ·rename_i hn;cases h;exact Qs hT hti hk rfl hb hn ht k
     ·cases h
    ·cases h
   ·cases h
  ·cases h
 ·split at h
  ·rename_i hds;cases h;exact VR hds ht k
  ·cases h
 ·cases h
theorem V3 [Known][Dfr](hT:chk P T=true){o:Oper}{r:Rs}(h:UL T n tm bx o=some r)
  (k:AL P ops rest ⟨n,r.1,r.2,fr,ee⟩ Q):AL P ops (o::rest) ⟨n,tm,bx,fr,ee⟩ Q:=by
 unfold UL at h
 split at h
 ·split at h
  ·rename_i hx
   split at h
   ·rename_i h1 h2 h3 h4;cases h;exact Ja hx h1 h2 h3 h4 k
   ·cases h
  ·cases h
 ·split at h
  ·rename_i hti
   split at h
   ·rename_i h2 h3 h4;cases h;exact U3 hT hti h2 h3 h4 k
   ·cases h
  ·cases h
 ·split at h
  ·rename_i hx hy hti
   split at h
   ·rename_i h1 h2 h3
    split at h
    ·rename_i h4 h5;cases h;exact WT hT hx hy h1 hti h2 h3 h4 h5 k
    ·cases h
   ·cases h
  ·cases h
 ·split at h
  ·rename_i h1 h2;cases h;exact QL hT h1 h2 k
  ·cases h
 ·cases h
theorem VD [Known][Dfr](hT:chk P T=true):∀(l:List Oper) (tm:List (Nat × D)) (bx:List (List D)) (l':List Oper) (r:Rs),QJ T n l tm bx=(l',r)->AL P ops l' ⟨n,r.1,r.2,fr,ee⟩ Q->AL P ops l ⟨n,tm,bx,fr,ee⟩ Q
 | [],tm,bx,l',r,h,k=>by unfold QJ at h;cases h;exact k
 | o::l,tm,bx,l',r,h,k=>by
  unfold QJ at h
  split at h
  ·rename_i tm' bx' hs
   exact V3 hT hs (VD hT l tm' bx' l' r h k)
  ·cases h;exact k
theorem Zz [Known][Dfr](hT:chk P T=true):∀(f:Nat) (p:Pos) (ks:List Fm) (tm:List (Nat × D)) (bx:List (List D)) (o:Pos × List Fm × Rs),goG T n f p ks tm bx=some o->J P n fr ee Q o->J P n fr ee Q (p,ks,tm,bx)
 | 0,p,ks,tm,bx,o,h,k=>by unfold goG at h;cases h;exact k
 | f+1,.aw c,ks,tm,bx,o,h,k=>by
  unfold goG at h
  rw[Z4]
  show AW P c ⟨n,tm,bx,fr,ee⟩ (unK P Q ks)
  split at h
  ·exact WE (by have:=Zz hT f _ _ _ _ _ h k;rwa [Z4]at this)
  ·exact U9 (by have:=Zz hT f _ _ _ _ _ h k;rwa [Z4]at this)
  ·exact WD (by have:=Zz hT f _ _ _ _ _ h k;rwa [Z4]at this)
  ·exact WO (by have:=Zz hT f _ _ _ _ _ h k;rwa [Z4]at this)
  ·exact QV (by have:=Zz hT f _ _ _ _ _ h k;rwa [Z4]at this)
  ·exact QW (by have:=Zz hT f _ _ _ _ _ h k;rwa [Z4]at this)
  ·exact Jl (by have:=Zz hT f _ _ _ _ _ h k;rwa [Z4]at this)
  ·rename_i id ops
   have:=Zz hT f _ _ _ _ _ h k;rw[Z4]at this
   exact Wq (l:=ops.toList) (by simpa using this)
  ·exact U4 (by have:=Zz hT f _ _ _ _ _ h k;rwa [Z4]at this)
  ·exact U5 (by have:=Zz hT f _ _ _ _ _ h k;rwa [Z4]at this)
  ·cases h;rwa [Z4]at k
 | f+1,.al ops l,ks,tm,bx,o,h,k=>by
  unfold goG at h
  rw[Z4]
  show AL P ops l ⟨n,tm,bx,fr,ee⟩ (unK P Q ks)
  split at h
  ·rename_i tm' bx' hr
   exact VD hT _ _ _ _ _ hr (Vx (by have:=Zz hT f _ _ _ _ _ h k;rwa [Z4]at this))
  ·rename_i o l' tm' bx' hr
   cases h;rw[Z4]at k;exact VD hT _ _ _ _ _ hr k
 | f+1,.x x,ks,tm,bx,o,h,k=>by
  unfold goG at h
  rw[Z4]
  show unK P Q ks x ⟨n,tm,bx,fr,ee⟩
  split at h
  ·cases h;rwa [Z4]at k
  ·split at h
   ·split at h
    ·have:=Zz hT f _ _ _ _ _ h k;rwa [Z4]at this
    ·have:=Zz hT f _ _ _ _ _ h k;rwa [Z4]at this
   ·split at h
    ·split at h
     ·rename_i i _ id hb
      have:=Zz hT f _ _ _ _ _ h k;rw[Z4]at this
      obtain rfl:=Nat.eq_of_beq_eq_true hb
      exact Qh this
     ·rename_i i _ id hb
      exact Q0 hb (by have:=Zz hT f _ _ _ _ _ h k;rwa [Z4]at this)
    ·exact UR (by have:=Zz hT f _ _ _ _ _ h k;rwa [Z4]at this)
   ·rename_i k0 _ _ _
    cases k0 with
    | seq y=>exact US (by have:=Zz hT f _ _ _ _ _ h k;rwa [Z4]at this)
    | blk id=>exact Qi (by have:=Zz hT f _ _ _ _ _ h k;rwa [Z4]at this)
   ·rename_i k0 _ _
    cases k0 with
    | seq y=>exact Qf (by have:=Zz hT f _ _ _ _ _ h k;rwa [Z4]at this)
    | blk id=>exact Q1 (by have:=Zz hT f _ _ _ _ _ h k;rwa [Z4]at this)
   ·rename_i k0 _ _ _
    cases k0 with
    | seq y=>exact Qg (by have:=Zz hT f _ _ _ _ _ h k;rwa [Z4]at this)
    | blk id=>exact Q3 (by have:=Zz hT f _ _ _ _ _ h k;rwa [Z4]at this)
theorem Zf [Known][Dfr](hT:chk P T=true){c:Code}{o:Pos × List Fm × Rs}(h:goA T n c tm bx=some o)(k:J P n fr ee Q o):AW P c ⟨n,tm,bx,fr,ee⟩ Q:=by
 unfold goA at h
 split at h<;>first|cases h;done|skip
 all_goals exact Zz hT _ _ _ _ _ _ h k
theorem Zj [Known][Dfr](hT:chk P T=true){o:Pos × List Fm × Rs}(h:goL T n ops rest tm bx=some o)(k:J P n fr ee Q o):AL P ops rest ⟨n,tm,bx,fr,ee⟩ Q:=by
 unfold goL at h
 split at h
 ·cases h;exact Vx k
 ·split at h
  ·rename_i tm' bx' hs
   exact V3 hT hs (Zz hT _ _ _ _ _ _ h k)
  ·cases h
theorem Zv [Known][Dfr](hT:chk P T=true){x:X}{ks:List Fm}{o:Pos × List Fm × Rs}(h:goK T n x ks tm bx=some o)(k:J P n fr ee Q o):unK P Q ks x ⟨n,tm,bx,fr,ee⟩:=by
 unfold goK at h
 split at h
 ·cases h
 ·have:=Zz hT _ _ _ _ _ _ h k;rwa [Z4]at this
end
def JC (T:Tab)(tm:List (Nat × D))(bx:List (List D)):ResultVar->Option D
 | .tmp t=>nf (look tm t)
 | .cell a t=>match look tm a,tl T t with
  | .ptr b o,some ti=>match bx[b]? with
   | some cs=>match ti.kd.agg with
    | false=>match cs[o]? with
     | some d=>nf d
     | none=>none
    | true=>match Nat.ble (o+ti.size) cs.length,nfs ((cs.drop o).take ti.size) with
     | true,some cs'=>some (.agg cs')
     | _,_=>none
   | none=>none
  | _,_=>none
def Jd (T:Tab)(tm:List (Nat × D))(bx:List (List D)):List ResultVar->Option (List D)
 | []=>some []
 | r::rs=>match JC T tm bx r,Jd T tm bx rs with
  | some d,some ds=>some (d::ds)
  | _,_=>none
theorem Zg {P:Program}{T:Tab}(hT:chk P T=true){n:Nat}{ee:Nat × Nat}{tm:List (Nat × D)}{bx:List (List D)}{fr:List Fr}:∀ {rs:List ResultVar} {ds:List D},Jd T tm bx rs=some ds->ResL P ⟨n,tm,bx,fr,ee⟩ rs ds
 | [],ds,h=>by unfold Jd at h;cases h;exact .nil
 | r::rs,ds,h=>by
  unfold Jd at h
  split at h
  ·rename_i d ds' h1 h2
   cases h
   refine .cons _ _ _ _ ?_ (Zg hT h2)
   cases r with
   | tmp t=>
    unfold JC at h1
    exact .tmp _ _ (ZP h1)
   | cell a t=>
    simp only[JC]at h1
    split at h1
    ·rename_i b o ti ha hti
     split at h1
     ·rename_i cs hb
      split at h1
      ·rename_i hag
       split at h1
       ·rename_i d' hd
        have hd':=ZP h1
        subst hd'
        exact .cell1 a t b o cs _ ha (by rw[(Zn hT hti).tAgg,hag]) hb hd
       ·cases h1
      ·rename_i hag
       split at h1
       ·rename_i h3 h4
        cases h1
        exact .celln a t b o ti.size cs _ ha (by rw[(Zn hT hti).tAgg,hag]) (Zn hT hti).tSize hb h3 (by rw[Yi h4])
       ·cases h1
     ·cases h1
    ·cases h1
  ·cases h
end Go.Av
end
section
open Go.RowKit Go.Pl Go.Av
namespace Go.Proofs.Ytkdpfkjlheajhaa
def tt:Tab:=[(1,Ti.mk Kd.func 1 8 [ZK.f]),
 (2,Ti.mk (Kd.int IntKind.i64) 1 8 [ZK.i IntKind.i64]),
 (3,Ti.mk (Kd.int IntKind.i64) 1 8 [ZK.i IntKind.i64]),
 (4,Ti.mk Kd.bool 1 1 [ZK.b]),
 (5,Ti.mk (Kd.int IntKind.u8) 1 1 [ZK.i IntKind.u8]),
 (6,Ti.mk (Kd.int IntKind.u8) 1 1 [ZK.i IntKind.u8]),
 (7,Ti.mk (Kd.struct [Av.Fd.mk 0 1 Bool.false 2,Av.Fd.mk 1 1 Bool.false 3,Av.Fd.mk 2 1 Bool.false 4,Av.Fd.mk 3 1 Bool.false 6]) 4 24 [ZK.i IntKind.i64,ZK.i IntKind.i64,ZK.b,ZK.i IntKind.u8]),
 (8,Ti.mk (Kd.struct [Av.Fd.mk 0 1 Bool.false 2,Av.Fd.mk 1 1 Bool.false 3,Av.Fd.mk 2 1 Bool.false 4,Av.Fd.mk 3 1 Bool.false 6]) 4 24 [ZK.i IntKind.i64,ZK.i IntKind.i64,ZK.b,ZK.i IntKind.u8]),
 (9,Ti.mk Kd.str 1 16 [ZK.s]),
 (10,Ti.mk Kd.str 1 16 [ZK.s]),
 (11,Ti.mk Kd.str 1 16 [ZK.s]),
 (12,Ti.mk (Kd.int IntKind.u64) 1 8 [ZK.i IntKind.u64]),
 (13,Ti.mk (Kd.struct [Av.Fd.mk 0 1 Bool.false 9,Av.Fd.mk 1 1 Bool.false 12]) 2 24 [ZK.s,ZK.i IntKind.u64]),
 (14,Ti.mk (Kd.struct [Av.Fd.mk 0 1 Bool.false 9,Av.Fd.mk 1 1 Bool.false 12]) 2 24 [ZK.s,ZK.i IntKind.u64]),
 (15,Ti.mk (Kd.ptr 72) 1 8 [ZK.p]),
 (16,Ti.mk (Kd.ptr 75) 1 8 [ZK.p]),
 (17,Ti.mk (Kd.ptr 84) 1 8 [ZK.p]),
 (18,Ti.mk (Kd.struct [Av.Fd.mk 0 1 Bool.false 17]) 1 8 [ZK.p]),
 (19,Ti.mk (Kd.struct [Av.Fd.mk 0 1 Bool.false 17]) 1 8 [ZK.p]),
 (20,Ti.mk Kd.iface 1 16 [ZK.n]),
 (21,Ti.mk (Kd.int IntKind.i32) 1 4 [ZK.i IntKind.i32]),
 (22,Ti.mk (Kd.slice 33) 1 24 [ZK.l]),
 (23,Ti.mk (Kd.ptr 47) 1 8 [ZK.p]),
 (24,Ti.mk Kd.func 1 8 [ZK.f]),
 (25,Ti.mk (Kd.ptr 28) 1 8 [ZK.p]),
 (26,Ti.mk (Kd.slice 43) 1 24 [ZK.l]),
 (27,Ti.mk (Kd.struct [Av.Fd.mk 0 1 Bool.false 26]) 1 24 [ZK.l]),
 (28,Ti.mk (Kd.struct [Av.Fd.mk 0 1 Bool.false 26]) 1 24 [ZK.l]),
 (29,Ti.mk (Kd.slice 5) 1 24 [ZK.l]),
 (30,Ti.mk (Kd.struct [Av.Fd.mk 0 1 Bool.false 3,Av.Fd.mk 1 1 Bool.false 29,Av.Fd.mk 2 1 Bool.false 3]) 3 40 [ZK.i IntKind.i64,ZK.l,ZK.i IntKind.i64]),
 (31,Ti.mk (Kd.struct [Av.Fd.mk 0 1 Bool.false 3,Av.Fd.mk 1 1 Bool.false 29,Av.Fd.mk 2 1 Bool.false 3]) 3 40 [ZK.i IntKind.i64,ZK.l,ZK.i IntKind.i64]),
 (32,Ti.mk (Kd.struct [Av.Fd.mk 0 1 Bool.false 3,Av.Fd.mk 1 1 Bool.false 3,Av.Fd.mk 2 3 Bool.true 31]) 5 56 [ZK.i IntKind.i64,ZK.i IntKind.i64,ZK.i IntKind.i64,ZK.l,ZK.i IntKind.i64]),
 (33,Ti.mk (Kd.struct [Av.Fd.mk 0 1 Bool.false 3,Av.Fd.mk 1 1 Bool.false 3,Av.Fd.mk 2 3 Bool.true 31]) 5 56 [ZK.i IntKind.i64,ZK.i IntKind.i64,ZK.i IntKind.i64,ZK.l,ZK.i IntKind.i64]),
 (34,Ti.mk Kd.func 1 8 [ZK.f]),
 (35,Ti.mk (Kd.int IntKind.i64) 1 8 [ZK.i IntKind.i64]),
 (36,Ti.mk Kd.func 1 8 [ZK.f]),
 (37,Ti.mk Kd.func 1 8 [ZK.f]),
 (38,Ti.mk (Kd.slice 31) 1 24 [ZK.l]),
 (39,Ti.mk Kd.func 1 8 [ZK.f]),
 (40,Ti.mk (Kd.slice 3) 1 24 [ZK.l]),
 (41,Ti.mk Kd.func 1 8 [ZK.f]),
 (42,Ti.mk (Kd.struct [Av.Fd.mk 0 1 Bool.false 3,Av.Fd.mk 1 1 Bool.false 9,Av.Fd.mk 2 1 Bool.false 3,Av.Fd.mk 3 1 Bool.false 4]) 4 40 [ZK.i IntKind.i64,ZK.s,ZK.i IntKind.i64,ZK.b]),
 (43,Ti.mk (Kd.struct [Av.Fd.mk 0 1 Bool.false 3,Av.Fd.mk 1 1 Bool.false 9,Av.Fd.mk 2 1 Bool.false 3,Av.Fd.mk 3 1 Bool.false 4]) 4 40 [ZK.i IntKind.i64,ZK.s,ZK.i IntKind.i64,ZK.b]),
 (44,Ti.mk Kd.func 1 8 [ZK.f]),
 (45,Ti.mk Kd.func 1 8 [ZK.f]),
 (46,Ti.mk (Kd.struct [Av.Fd.mk 0 1 Bool.false 4,Av.Fd.mk 1 1 Bool.false 38]) 2 32 [ZK.b,ZK.l]),
 (47,Ti.mk (Kd.struct [Av.Fd.mk 0 1 Bool.false 4,Av.Fd.mk 1 1 Bool.false 38]) 2 32 [ZK.b,ZK.l]),
 (48,Ti.mk Kd.func 1 8 [ZK.f]),
 (49,Ti.mk (Kd.slice 29) 1 24 [ZK.l]),
 (50,Ti.mk (Kd.ptr 59) 1 8 [ZK.p]),
 (51,Ti.mk Kd.func 1 8 [ZK.f]),
 (52,Ti.mk Kd.func 1 8 [ZK.f]),
 (54,Ti.mk Kd.func 1 8 [ZK.f]),
 (56,Ti.mk Kd.func 1 8 [ZK.f]),
 (57,Ti.mk Kd.func 1 8 [ZK.f]),
 (58,Ti.mk (Kd.struct [Av.Fd.mk 0 1 Bool.false 4,Av.Fd.mk 1 1 Bool.false 29,Av.Fd.mk 2 1 Bool.false 35]) 3 40 [ZK.b,ZK.l,ZK.i IntKind.i64]),
 (59,Ti.mk (Kd.struct [Av.Fd.mk 0 1 Bool.false 4,Av.Fd.mk 1 1 Bool.false 29,Av.Fd.mk 2 1 Bool.false 35]) 3 40 [ZK.b,ZK.l,ZK.i IntKind.i64]),
 (61,Ti.mk Kd.func 1 8 [ZK.f]),
 (62,Ti.mk Kd.func 1 8 [ZK.f]),
 (63,Ti.mk Kd.func 1 8 [ZK.f]),
 (64,Ti.mk Kd.func 1 8 [ZK.f]),
 (65,Ti.mk Kd.func 1 8 [ZK.f]),
 (66,Ti.mk Kd.func 1 8 [ZK.f]),
 (67,Ti.mk (Kd.int IntKind.u64) 1 8 [ZK.i IntKind.u64]),
 (68,Ti.mk Kd.func 1 8 [ZK.f]),
 (69,Ti.mk Kd.func 1 8 [ZK.f]),
 (70,Ti.mk Kd.func 1 8 [ZK.f]),
 (71,Ti.mk (Kd.struct [Av.Fd.mk 0 1 Bool.false 17,Av.Fd.mk 1 1 Bool.false 17,Av.Fd.mk 2 1 Bool.false 17,Av.Fd.mk 3 1 Bool.false 9]) 4 40 [ZK.p,ZK.p,ZK.p,ZK.s]),
 (72,Ti.mk (Kd.struct [Av.Fd.mk 0 1 Bool.false 17,Av.Fd.mk 1 1 Bool.false 17,Av.Fd.mk 2 1 Bool.false 17,Av.Fd.mk 3 1 Bool.false 9]) 4 40 [ZK.p,ZK.p,ZK.p,ZK.s]),
 (73,Ti.mk (Kd.array 0 16) 0 0 []),
 (74,Ti.mk (Kd.struct [Av.Fd.mk 0 0 Bool.true 73]) 0 0 []),
 (75,Ti.mk (Kd.struct [Av.Fd.mk 0 0 Bool.true 73]) 0 0 []),
 (76,Ti.mk (Kd.int IntKind.u32) 1 4 [ZK.i IntKind.u32]),
 (77,Ti.mk (Kd.int IntKind.u8) 1 1 [ZK.i IntKind.u8]),
 (78,Ti.mk (Kd.int IntKind.u8) 1 1 [ZK.i IntKind.u8]),
 (79,Ti.mk Kd.func 1 8 [ZK.f]),
 (80,Ti.mk (Kd.ptr 5) 1 8 [ZK.p]),
 (81,Ti.mk (Kd.int IntKind.i32) 1 4 [ZK.i IntKind.i32]),
 (82,Ti.mk (Kd.int IntKind.i32) 1 4 [ZK.i IntKind.i32]),
 (83,Ti.mk (Kd.struct [Av.Fd.mk 0 1 Bool.false 12,Av.Fd.mk 1 1 Bool.false 12,Av.Fd.mk 2 1 Bool.false 76,Av.Fd.mk 3 1 Bool.false 77,Av.Fd.mk 4 1 Bool.false 5,Av.Fd.mk 5 1 Bool.false 5,Av.Fd.mk 6 1 Bool.false 78,Av.Fd.mk 7 1 Bool.false 79,Av.Fd.mk 8 1 Bool.false 80,Av.Fd.mk 9 1 Bool.false 81,Av.Fd.mk 10 1 Bool.false 82]) 11 48 [ZK.i IntKind.u64,ZK.i IntKind.u64,ZK.i IntKind.u32,ZK.i IntKind.u8,ZK.i IntKind.u8,ZK.i IntKind.u8,ZK.i IntKind.u8,ZK.f,ZK.p,ZK.i IntKind.i32,ZK.i IntKind.i32]),
 (84,Ti.mk (Kd.struct [Av.Fd.mk 0 1 Bool.false 12,Av.Fd.mk 1 1 Bool.false 12,Av.Fd.mk 2 1 Bool.false 76,Av.Fd.mk 3 1 Bool.false 77,Av.Fd.mk 4 1 Bool.false 5,Av.Fd.mk 5 1 Bool.false 5,Av.Fd.mk 6 1 Bool.false 78,Av.Fd.mk 7 1 Bool.false 79,Av.Fd.mk 8 1 Bool.false 80,Av.Fd.mk 9 1 Bool.false 81,Av.Fd.mk 10 1 Bool.false 82]) 11 48 [ZK.i IntKind.u64,ZK.i IntKind.u64,ZK.i IntKind.u32,ZK.i IntKind.u8,ZK.i IntKind.u8,ZK.i IntKind.u8,ZK.i IntKind.u8,ZK.f,ZK.p,ZK.i IntKind.i32,ZK.i IntKind.i32])]
theorem Za:chk Try.prog tt=true:=by kernel_rfl
theorem Yj:Try.prog.follows .mixedOrders=true:=by kernel_rfl
abbrev byE (l:List UInt8):D:=.sl .ext (l.map E.byte)
theorem ZD (l:List UInt8):Uni 1 (l.map E.byte):=Uni.map (f:=E.byte) (fun _=>rfl) l
abbrev E.bys (l:List UInt8):E:=.sl (l.map E.byte)
abbrev ZN (l:List (List UInt8)):D:=.sl .ext (l.map E.bys)
theorem Z5 (l:List (List UInt8)):Uni 1 (l.map E.bys):=Uni.map (f:=E.bys) (fun _=>rfl) l
theorem JY {W:World}{v:Value}{l:List (List UInt8)}(hs:Sl (Rep.slice Rep.byte (by decide)) W (· < W.heap.size) v l):V W (g0 W) [] (ZN l) v:=
 V.ofE (e:=.sl (l.map E.bys)) ((ToE.byte.slice (by decide)).sl (C:=(g0 W).C) (fun k hk o=>hk) hs)
end Go.Proofs.Ytkdpfkjlheajhaa
end
section
open Go.RowKit Go.Pl
namespace Go.Av
section
variable {P:Program} {Q:X->St->Prop} {n:Nat} {ee:Nat × Nat} {tm tm':List (Nat × D)} {bx bx':List (List D)} {fr fr':List Fr} {b0:Bs} {g:G} {w:World} {a:Act}
def qx (p:D)(bx:List (List D)):X->St->Prop
 | .pan d,S=>d=p/\bx.length<=S.bx.length
 | _,_=>False
inductive ADX [Known][Dfr](P:Program) (l:List Oper) (n:Nat) (bx:List (List D)) (fr:List Fr) (j:Nat) (p:D):Nat->List Oper->List (Nat × D)->Prop
 | nil (i:Nat) (tm:List (Nat × D)):ADX P l n bx fr j p i [] tm
 | pu (i:Nat) (o:Oper) (rest:List Oper) (t:Nat) (d:D) (tm:List (Nat × D)) (hd:o.dst=some t) (ht:Nat.blt t n=true) (hne:Nat.beq i j=false) (h:AL P l.toArray [o] ⟨n,ZI l o tm,bx,fr,(bx.length,fr.length)⟩ (qp t d bx fr)) (k:ADX P l n bx fr j p (i+1) rest ((t,d)::tm)):ADX P l n bx fr j p i (o::rest) tm
 | dead (i:Nat) (o:Oper) (rest:List Oper) (t:Nat) (tm:List (Nat × D)) (hd:o.dst=some t) (hu:up (ZE [] l) i j=true) (k:ADX P l n bx fr j p (i+1) rest ((t,.junk)::tm)):ADX P l n bx fr j p i (o::rest) tm
 | pan (o:Oper) (rest:List Oper) (t:Nat) (tm:List (Nat × D)) (hd:o.dst=some t) (h:AL P l.toArray [o] ⟨n,ZI l o tm,bx,fr,(bx.length,fr.length)⟩ (qx p bx)) (k:ADX P l n bx fr j p (j+1) rest ((t,.junk)::tm)):ADX P l n bx fr j p j (o::rest) tm
end
end Go.Av
end
section
open Go.RowKit Go.Pl Go.Av
namespace Go.Proofs.Ytkdpfkjlheajhaa
set_option maxHeartbeats 4000000
theorem Y1 [Known](b:List UInt8)(hb:b.length<=140737488351232):AP Try.prog 25 [byE b] (byE b) []:=by
 have hU:=ZD b
 cases b with
 | nil=>
  refine AP.ofA (ZG Try.func25 Z Try.ntmps25 Z Z ?_)
  repeat'(first|(apply UI Za;(iterate 5 exact Z);intro b hbn)|(apply Zj Za;exact Z)|(apply Zf Za;exact Z)|(apply Zv Za;exact Z)|(apply Qj;exact Z;all_goals intro hb)|refine YK Za Z Z Z Z Z Z Z Z Z Z Z Z ?_|refine Zw Za Z Z Z Z Z Z ?_)
  all_goals(apply Yh [];(apply Zg Za;exact Z);(iterate 4 exact Z))
  all_goals rfl
 | cons c b=>
  refine AP.ofA (ZG Try.func25 Z Try.ntmps25 Z Z ?_)
  repeat'(first|(apply UI Za;(iterate 5 exact Z);intro b hbn;(have hbn2:=hbn (List.cons_ne_nil _ _));subst hbn2;clear hbn)|(apply Zj Za;exact Z)|(apply Zf Za;exact Z)|(apply Zv Za;exact Z)|(apply Ze;exact Z;(first|with_reducible assumption|(solve|simp only[bn])))|refine YK Za Z Z Z Z Z Z Z Z Z Z Z Z ?_|(apply ZM Za;(iterate 6 exact Z);(first|with_reducible assumption|exact Z|rotate_left);exact Z;exact Z;(first|exact Zc rfl|with_reducible assumption|rotate_left);(first|exact Zc rfl|with_reducible assumption|rotate_left);(first|exact Qb|rotate_left);(first|exact Qb|rotate_left);(first|exact Qb|rotate_left);exact Z;exact Z))
  all_goals first|(apply Yh [];(apply Zg Za;exact Z);(iterate 4 exact Z))|skip
  all_goals first|rfl|(simp at hb ⊢;(try unfold maxLen);omega)
theorem QM (n:Nat)(w:World)(h0:0<n)(hn:n<=140737488355328) :
  Calls Try.prog 31 #[.slice none 0 0,.int .i64 (n:Int)] w fun e w'=>e=.returned (.slice (some ⟨w.heap.size,0,none⟩) 0 (grownCap w n 0 5)) /\
   w'=w.drew.alloc (.cells (Builtin.zeroCells #[.int .u8 0] n++Builtin.zeroCells #[.int .u8 0] (grownCap w n 0 5-n)) 5):=by
 have h1:¬ ((n:Int)<0):=by omega
 have h2:wrap64 ((n:Int)-0)=(n:Int):=by unfold wrap64;omega
 have h3:((n:Int)>0):=by omega
 go_enter Try.func31,Try.ntmps31
 have tb:Try.t5.bytes=1:=rfl
 have h4:¬ (281474976710656<(n:Int)*(Try.t5.bytes:Int)):=by rw[tb];omega
 have h5:¬ (281474976710656<Builtin.nextslicecap n 0*Try.t5.bytes):=by rw[tb,nextslicecap_zero h0];omega
 rw[tb]at h4 h5
 simp only[Nat.mul_one]at h5
 go_wp2
 go_ret
 exact⟨rfl,rfl⟩
theorem QN [Known]:AP Try.prog 31 [.sl .nil [],.int .i64 0] (.sl .nil []) []:=by
 refine⟨fun g w vs hm hl hv=>?_⟩
 obtain⟨v0,v1,rfl⟩:∃ v0 v1,vs=[v0,v1]:=by
  match vs,hl with
  | [v0,v1],_=>exact⟨v0,v1,rfl⟩
 have h0:=hv 0 _ _ rfl rfl
 have h1:=(hv 1 _ _ rfl rfl).int_inv
 subst h1
 obtain⟨a1,a2⟩:=Z1 h0
 have a2:v0=.slice none 0 0:=a2
 subst a2
 refine((show Calls Try.prog 31 #[.slice none 0 0,.int .i64 0] w fun e w'=>e=.returned (.slice none 0 0)/\w'=w from ?_).mono fun e w' ⟨he,hw⟩=>?_)
 ·go_enter Try.func31,Try.ntmps31
  go_wp2
  go_ret
  exact⟨rfl,rfl⟩
 ·subst he hw
  exact⟨g,[],[],.ret (.sl .nil []),Evo.refl _,hm,⟨_,rfl,h0⟩,rfl,rfl,rfl⟩
theorem V4 [Known](n:Nat)(h0:0<n)(hn:n<=140737488351232):AP Try.prog 31 [.sl .nil [],.int .i64 (n:Int)] (.sl (.own 0) []) [⟨0,1,5⟩]:=by
 refine⟨fun g w vs hm hl hv=>?_⟩
 obtain⟨v0,v1,rfl⟩:∃ v0 v1,vs=[v0,v1]:=by
  match vs,hl with
  | [v0,v1],_=>exact⟨v0,v1,rfl⟩
 have k0:=hv 0 _ _ rfl rfl
 have h1:=(hv 1 _ _ rfl rfl).int_inv
 subst h1
 obtain⟨a1,a2⟩:=Z1 k0
 have a2:v0=.slice none 0 0:=a2
 subst a2
 refine(QM n w h0 (by omega)).mono fun e w' ⟨he,hw⟩=>?_
 subst he hw
 have hd:Mem g [] [] w.drew:=hm.drew
 have hge:=grownCap_ge w n 0 5
 have hcm:=grownCap_le_maxLen w n 0 5 (by simp only[maxLen];omega)
 obtain⟨k1,k2,k3⟩:=hd.row (Builtin.zeroCells #[.int .u8 0] n++Builtin.zeroCells #[.int .u8 0] (grownCap w n 0 5-n)).toList [] (grownCap w n 0 5) 1 5 (by decide) (by
  rw[Array.length_toList,Array.size_append,size_zeroCells,size_zeroCells];simp;omega) (Nat.zero_le _) hcm (fun e h=>by simp at h) (fun j x u hx=>by simp at hx)
 exact⟨_,[],_,.ret (.sl (.own 0) []),Evo.drew.trans k1,k2,⟨_,rfl,k3⟩,rfl,rfl,rfl⟩
theorem Wn (ls:List (List UInt8)){i:Nat}{x:List UInt8}(h:ls[i]?=some x):(ls.take (i+1)).flatten=(ls.take i).flatten++x:=by
 rw[List.take_add_one,h];simp
theorem W2 (ls:List (List UInt8))(i:Nat):(ls.take i).flatten.length<=ls.flatten.length:=by
 conv=>rhs;rw[<- List.take_append_drop i ls,List.flatten_append,List.length_append]
 omega
theorem U6 [Known](ls:List (List UInt8))(hl:ls.flatten.length<=1099511627776)(hn:ls.length<=1099511627776):AP Try.prog 29 [ZN ls] (byE ls.flatten) []:=by
 refine AP.weak (ZG Try.func29 Z Try.ntmps29 Z Z ?_)
 have hU:=Z5 ls
 repeat'(first|(apply Zj Za;exact Z)|(apply Zf Za;exact Z)|refine Zk Za Z Z Z Z ?_)
 refine ZT (fun k tm bx fr=>∃ i,k+i=ls.length/\tm=[(0,ZN ls),(3,.int .i64 (((ls.take i).flatten.length:Nat):Int)),(9,ZN ls),(10,.int .i64 (((ls.map E.bys).length:Nat):Int)),(11,.int .i64 (i:Int))]/\bx=[]/\fr=[]) (ls.length+1) (Lands.mk' (m:=ls.length) (Nat.lt_succ_self _) ⟨0,rfl,rfl,rfl,rfl⟩ ?_ rfl rfl rfl rfl rfl rfl) ?_
 ·exact .cons rfl (.cons rfl (.cons rfl (.cons rfl (.cons rfl .nil))))
 rintro k tm bx fr ⟨i,hk,rfl,rfl,rfl⟩
 rcases Nat.lt_or_ge i ls.length with hlt|hge
 ·have hd:decide ((i:Int)<(((ls.map E.bys).length:Nat):Int))=true:=by simp;omega
  obtain⟨x,hx⟩:∃ x,ls[i]?=some x:=⟨_,List.getElem?_eq_getElem hlt⟩
  have hv:(ls.map E.bys)[((i:Nat):Int).toNat]?=some (E.bys x):=by simp[hx]
  have hf:=Wn ls hx
  have hle:=W2 ls (i+1)
  have e1:IntKind.i64.wrap ((((ls.take i).flatten.length:Nat):Int)+(((x.map E.byte).length:Nat):Int))=(((ls.take (i+1)).flatten.length:Nat):Int):=by
   rw[hf]at hle ⊢
   rw[List.length_append]at hle ⊢
   rw[List.length_map,IntWalk.i64_in _ (by omega)];omega
  have e2:IntKind.i64.wrap ((i:Int)+1)=((i+1:Nat):Int):=by rw[IntWalk.i64_in _ (by omega)];omega
  have hd2:decide ((((ls.take (i+1)).flatten.length:Nat):Int)<0)=false:=decide_eq_false (by omega)
  repeat'(first|rw[e1]|rw[e2]|(apply Zj Za;exact Z)|(apply Zf Za;exact Z)|(apply Zd;exact Z;(first|with_reducible assumption|(solve|simp only[bn])))|(apply Ze;exact Z;(first|with_reducible assumption|(solve|simp only[bn])))|refine Zk Za Z Z Z Z ?_|(apply Zp Za;(iterate 6 exact Z);(first|exact Qb|rotate_left);(first|with_reducible assumption|exact Z);(first|exact Zc rfl|with_reducible assumption|rotate_left)))
  refine Lands.mk' (m:=k-1) (by omega) ⟨i+1,by omega,rfl,rfl,rfl⟩ ?_ rfl rfl rfl rfl rfl rfl
  exact .cons rfl (.cons rfl (.cons rfl (.cons rfl (.cons rfl .nil))))
 ·have hd:decide ((i:Int)<(((ls.map E.bys).length:Nat):Int))=false:=by simp;omega
  have hall:ls.take i=ls:=List.take_of_length_le (by omega)
  rw[hall]
  rcases Nat.eq_zero_or_pos ls.flatten.length with h0|h0
  ·rw[h0]
   have hnil:∀ x ∈ ls,x=[]:=by simpa using List.eq_nil_of_length_eq_zero h0
   repeat'(first|(apply YO QN;kernel_rfl;(iterate 4 exact Z))|(apply Zj Za;exact Z)|(apply Zf Za;exact Z)|(apply Ze;exact Z;(first|with_reducible assumption|(solve|simp only[bn])))|refine Zk Za Z Z Z Z ?_)
   refine ZT (fun k tm bx fr=>∃ i,k+i=ls.length/\tm=[(6,.sl .nil []),(25,ZN ls),(26,.int .i64 (((ls.map E.bys).length:Nat):Int)),(27,.int .i64 (i:Int))]/\bx=[]/\fr=[]) (ls.length+1) (Lands.mk' (m:=ls.length) (Nat.lt_succ_self _) ⟨0,rfl,rfl,rfl,rfl⟩ ?_ rfl rfl rfl rfl rfl rfl) ?_
   ·exact .cons rfl (.cons rfl (.cons rfl (.cons rfl .nil)))
   rintro k tm bx fr ⟨i,hk,rfl,rfl,rfl⟩
   rcases Nat.lt_or_ge i ls.length with hlt|hge
   ·have hd:decide ((i:Int)<(((ls.map E.bys).length:Nat):Int))=true:=by simp;omega
    obtain⟨x,hx⟩:∃ x,ls[i]?=some x:=⟨_,List.getElem?_eq_getElem hlt⟩
    obtain rfl:=hnil x (List.mem_of_getElem? hx)
    have hv:(ls.map E.bys)[((i:Nat):Int).toNat]?=some (E.bys []):=by simp[hx]
    have e2:IntKind.i64.wrap ((i:Int)+1)=((i+1:Nat):Int):=by rw[IntWalk.i64_in _ (by omega)];omega
    repeat'(first|rw[e2]|(apply Zj Za;exact Z)|(apply Zf Za;exact Z)|(apply Zd;exact Z;(first|with_reducible assumption|(solve|simp only[bn])))|refine Zw Za Z Z Z Z Z Z ?_|(apply Zp Za;(iterate 6 exact Z);(first|exact Qb|rotate_left);(first|with_reducible assumption|exact Z);(first|exact Zc rfl|with_reducible assumption|rotate_left)))
    refine Lands.mk' (m:=k-1) (by omega) ⟨i+1,by omega,rfl,rfl,rfl⟩ ?_ rfl rfl rfl rfl rfl rfl
    exact .cons rfl (.cons rfl (.cons rfl (.cons rfl .nil)))
   ·have hd:decide ((i:Int)<(((ls.map E.bys).length:Nat):Int))=false:=by simp;omega
    repeat'(first|(apply Zf Za;exact Z)|(apply Ze;exact Z;(first|with_reducible assumption|(solve|simp only[bn]))))
    (apply WZ;(apply Zg Za;exact Z);exact Z)
    rw[List.eq_nil_of_length_eq_zero h0];rfl
  ·repeat'(first|(apply YO (V4 ls.flatten.length h0 (by omega));kernel_rfl;(iterate 4 exact Z))|(apply Zj Za;exact Z)|(apply Zf Za;exact Z)|(apply Ze;exact Z;(first|with_reducible assumption|(solve|simp only[bn])))|refine Zk Za Z Z Z Z ?_)
   refine ZT (fun k tm bx fr=>∃ i c,k+i=ls.length/\c=((ls.take i).flatten.map E.byte).length/\tm=[(6,.sl (.own 0) ((ls.take i).flatten.map E.byte)),(25,ZN ls),(26,.int .i64 (((ls.map E.bys).length:Nat):Int)),(27,.int .i64 (i:Int))]/\bx=[]/\fr=[⟨c,1,5⟩]) (ls.length+1) (Lands.mk' (m:=ls.length) (Nat.lt_succ_self _) ⟨0,0,rfl,rfl,rfl,rfl,rfl⟩ ?_ rfl rfl rfl rfl rfl rfl) ?_
   ·exact .cons rfl (.cons rfl (.cons rfl (.cons rfl .nil)))
   rintro k tm bx fr ⟨i,c,hk,hc,rfl,rfl,rfl⟩
   rcases Nat.lt_or_ge i ls.length with hlt|hge
   ·have hd:decide ((i:Int)<(((ls.map E.bys).length:Nat):Int))=true:=by simp;omega
    obtain⟨x,hx⟩:∃ x,ls[i]?=some x:=⟨_,List.getElem?_eq_getElem hlt⟩
    have hv:(ls.map E.bys)[((i:Nat):Int).toNat]?=some (E.bys x):=by simp[hx]
    have e2:IntKind.i64.wrap ((i:Int)+1)=((i+1:Nat):Int):=by rw[IntWalk.i64_in _ (by omega)];omega
    have hf:=Wn ls hx
    have hle:=W2 ls (i+1)
    have hm:(ls.take (i+1)).flatten.map E.byte=(ls.take i).flatten.map E.byte++x.map E.byte:=by rw[hf,List.map_append]
    have hU1:=ZD (ls.take i).flatten
    have hU2:=ZD x
    rcases List.eq_nil_or_concat x with rfl|⟨x',y,hxy⟩
    ·repeat'(first|rw[e2]|(apply Zj Za;exact Z)|(apply Zf Za;exact Z)|(apply Zd;exact Z;(first|with_reducible assumption|(solve|simp only[bn])))|refine Zw Za Z Z Z Z Z Z ?_|(apply Zp Za;(iterate 6 exact Z);(first|exact Qb|rotate_left);(first|with_reducible assumption|exact Z);(first|exact Zc rfl|with_reducible assumption|rotate_left)))
     refine Lands.mk' (m:=k-1) (by omega) ⟨i+1,c,by omega,by rw[hm,hc];simp,rfl,rfl,rfl⟩ ?_ rfl rfl rfl rfl rfl rfl
     exact .cons (by rw[hm,List.map_nil,List.append_nil];rfl) (.cons rfl (.cons rfl (.cons rfl .nil)))
    ·have hne:x.map E.byte ≠ []:=by rw[hxy];simp
     have hl3:((ls.take i).flatten.map E.byte).length+(x.map E.byte).length<=1099511627776:=by
      rw[<- List.length_append,<- hm,List.length_map];omega
     repeat'(first|rw[e2]|(apply Zj Za;exact Z)|(apply Zf Za;exact Z)|(apply Zd;exact Z;(first|with_reducible assumption|(solve|simp only[bn])))|(apply ZM Za;(iterate 6 exact Z);(first|with_reducible assumption|exact Z|rotate_left);exact Z;exact Z;(first|exact Zc rfl|with_reducible assumption|rotate_left);(first|exact Zc rfl|with_reducible assumption|rotate_left);(first|exact Qb|rotate_left);(first|exact Qb|rotate_left);(first|exact Qb|rotate_left);exact Z;exact Z)|(apply Zp Za;(iterate 6 exact Z);(first|exact Qb|rotate_left);(first|with_reducible assumption|exact Z);(first|exact Zc rfl|with_reducible assumption|rotate_left)))
     ·refine Lands.mk' (m:=k-1) (by omega) ⟨i+1,_,by omega,(by rw[hm,List.length_append]),rfl,rfl,rfl⟩ ?_ rfl rfl rfl rfl rfl rfl
      exact .cons (by rw[hm];rfl) (.cons rfl (.cons rfl (.cons rfl .nil)))
     ·simp only[maxLen];omega
     ·show _*1<=_
      omega
   ·have hd:decide ((i:Int)<(((ls.map E.bys).length:Nat):Int))=false:=by simp;omega
    repeat'(first|(apply Zf Za;exact Z)|(apply Ze;exact Z;(first|with_reducible assumption|(solve|simp only[bn]))))
    (apply WZ;(apply Zg Za;exact Z);exact Z)
    rw[List.take_of_length_le (by omega)]
abbrev Yk (m:Bool)(left:List UInt8)(e:Int):List (List D):=[[.bool m,byE left,.int .i64 e]]
theorem QO [Known]:AQ Try.prog 16 [] [] (.ptr 0 0) (Yk true [] 0):=by
 refine AQ.weak (ZG Try.func16 Z Try.ntmps16 Z Z ?_)
 repeat'(first|(apply Zf Za;exact Z))
 (apply Yh [0];(apply Zg Za;exact Z);(iterate 4 exact Z))
 all_goals rfl
theorem Vq [Known](m:Bool)(left:List UInt8)(e:Int):AQ Try.prog 18 [.ptr 0 0] (Yk m left e) (.int .i64 (if m then e else 6)) (Yk m left e):=by
 refine AQ.weak (ZG Try.func18 Z Try.ntmps18 Z Z ?_)
 cases m
 ·repeat'(first|(apply Zj Za;exact Z)|(apply Zf Za;exact Z)|(apply Zv Za;exact Z)|(apply Zo;(iterate 3 exact Z);(first|with_reducible assumption|(solve|simp only[bn])))|(apply Zt;exact Z;(first|with_reducible assumption|(solve|simp only[bn]));exact Z;exact Z)|(apply Zd;exact Z;(first|with_reducible assumption|(solve|simp only[bn]))))
  (apply Yh [0];(apply Zg Za;exact Z);(iterate 4 exact Z))
  all_goals rfl
 ·repeat'(first|(apply Zj Za;exact Z)|(apply Zf Za;exact Z)|(apply Zv Za;exact Z)|(apply Zo;(iterate 3 exact Z);(first|with_reducible assumption|(solve|simp only[bn])))|(apply Zt;exact Z;(first|with_reducible assumption|(solve|simp only[bn]));exact Z;exact Z)|(apply Ze;exact Z;(first|with_reducible assumption|(solve|simp only[bn]))))
  (apply Yh [0];(apply Zg Za;exact Z);(iterate 4 exact Z))
  all_goals rfl
theorem Zs [Known](left:List UInt8)(e:Int):AQ Try.prog 18 [.ptr 0 0] (Yk true left e) (.int .i64 e) (Yk true left e):=Vq true left e
theorem Us [Known](left:List UInt8)(e:Int):AQ Try.prog 18 [.ptr 0 0] (Yk false left e) (.int .i64 6) (Yk false left e):=Vq false left e
theorem Ut [Known]:AP Try.prog 18 [.nilp] (.int .i64 6) []:=by
 refine ZG Try.func18 rfl Try.ntmps18 rfl rfl ?_
 repeat'(first|(apply Zj Za;exact Z)|(apply Zf Za;exact Z)|(apply Zv Za;exact Z)|(apply YG;(iterate 3 exact Z);(first|with_reducible assumption|(solve|simp only[bn])))|(apply ZB;exact Z;(first|with_reducible assumption|(solve|simp only[bn]));exact Z;exact Z)|(apply Zd;exact Z;(first|with_reducible assumption|(solve|simp only[bn]))))
 (apply Qn (ts:=[]);(apply Zg Za;exact Z);exact Zx _;exact Z;rotate_left;exact Z)
 rfl
theorem Wo [Known](m:Bool)(left:List UInt8)(e f:Int):AQ Try.prog 30 [.ptr 0 0,.int .i64 f] (Yk m left e) (.tup []) (Yk m [] f):=by
 refine AQ.weak (ZG Try.func30 Z Try.ntmps30 Z Z ?_)
 repeat'(first|(apply Zf Za;exact Z))
 first|(apply Yh [0];(apply Zg Za;exact Z);(iterate 4 exact Z))|(apply JV [0];(apply Zg Za;exact Z);(iterate 4 exact Z))
 all_goals rfl
end Go.Proofs.Ytkdpfkjlheajhaa
end
section
open Go.RowKit Go.Pl
namespace Go.Av
theorem ZV [Known][Dfr]{P:Program}{Q:X->St->Prop}{x:X}{S:St}(h:Q x S):unK P Q [] x S:=h
section
variable {P:Program} {Q:X->St->Prop} {n:Nat} {ee:Nat × Nat} {tm:List (Nat × D)} {bx:List (List D)} {fr:List Fr} {T:Tab}
variable {ops:Array Oper} {rest:List Oper} {t ty:Nat} {pos:String} {after:Array Edge}
end
end Go.Av
end
section
open Go.RowKit Go.Pl Go.Av
namespace Go.Proofs.Ytkdpfkjlheajhaa
theorem Qe {p:Prop}(h:p:=by(apply Yh [];(apply Zg Za;exact Z);(iterate 4 exact Z));all_goals rfl):p:=h
end Go.Proofs.Ytkdpfkjlheajhaa
end

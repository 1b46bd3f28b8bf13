/- A run of operations that only compute, or make and lay variables, and the control between them, as one function: where it stops, and with what. -/
import Derived.Test.YtakblclkflnnpaaGreatDoorH10
import Derived.Test.YtakblclkflnnpaaGreatDoorH03
import Derived.Test.YtakblclkflnnpaaGreatDoorProg
set_option linter.unusedSimpArgs false
set_option linter.unusedVariables false
section
open Go.RowKit Go.Pl
namespace Go.Av
def Zqs (T:Tab)(tm:List (Nat × D))(op:BinOp)(xt:Nat)(x y:Operand):Option D:=
 match ev tm x,ev tm y with
 | .int k m,.int k2 q=>match decide (k=k2),(match op with | .quo | .rem | .shl | .shr=>false|_=>true) with
  | true,true=>nf (ZpH op k m q)
  | _,_=>none
 | .str p,.str q=>match op with
  | .eql | .neq | .lss | .leq | .gtr | .geq=>nf (Zmr op p q)
  | _=>none
 | .bool p,.bool q=>match tl T xt with
  | some ti=>match ti.kd with
   | .bool=>match op with
    | .eql=>some (.bool (p==q))
    | .neq=>some (.bool (!(p==q)))
    | _=>none
   | _=>none
  | none=>none
 | d,.nilp=>match ZsJ d,tl T xt with
  | some p,some ti=>match ti.kd with
   | .ptr _=>match op with
    | .eql=>some (.bool p)
    | .neq=>some (.bool (!p))
    | _=>none
   | _=>none
  | _,_=>none
 | _,_=>none
def ZrH (bx:List (List D))(ti:Ti):D->Option D
 | .ptr b o=>match bx[b]? with
  | some cs=>match ti.kd.agg with
   | false=>cs[o]?
   | true=>match Nat.ble (o+ti.size) cs.length,nfs ((cs.drop o).take ti.size) with
    | true,some cs'=>some (.agg cs')
    | _,_=>none
  | none=>none
 | .eptr cs o=>match ti.kd.agg with
  | false=>match cs[o]? with
   | some e=>nf (.ofE e)
   | none=>none
  | true=>match Nat.ble (o+ti.size) cs.length,nfs (((cs.drop o).take ti.size).map .ofE) with
   | true,some cs'=>some (.agg cs')
   | _,_=>none
 | _=>none
def ZsB (T:Tab)(st f:Nat):Option Fd:=
 match tl T st with
 | some ti=>match ti.kd with
  | .struct fs=>match fs[f]? with
   | some fd=>match Nat.beq fd.size 0 with
    | false=>some fd
    | true=>none
   | none=>none
  | _=>none
 | none=>none
def Zqt (T:Tab)(tm:List (Nat × D))(bx:List (List D)):Op->Option D
 | .move x=>nf (ev tm x)
 | .assign x=>nf (ev tm x)
 | .binOp op xt x y _=>Zqs T tm op xt x y
 | .unOp .not _ x=>match ev tm x with
  | .bool b=>some (.bool (!b))
  | _=>none
 | .convert src dst x=>match ev tm x with
  | .int _ q=>match tl T src,tl T dst with
   | some _,some td=>match td.kd with
    | .int k'=>some (.int k' (k'.wrap q))
    | _=>none
   | _,_=>none
  | _=>none
 | .load lt x=>match tl T lt with
  | some ti=>ZrH bx ti (ev tm x)
  | none=>none
 | .fieldAddr st x f=>match ZsB T st f with
  | some fd=>match ev tm x with
   | .ptr b o=>match Ziq (List.replicate (o+fd.off) ()) with
    | some o'=>some (.ptr b o')
    | none=>none
   | .eptr cs o=>match Ziq (List.replicate (o+fd.off) ()) with
    | some o'=>some (.eptr cs o')
    | none=>none
   | _=>none
  | none=>none
 | .nilCheck x=>match ev tm x with
  | .ptr b o=>some (.ptr b o)
  | .eptr cs o=>some (.eptr cs o)
  | _=>none
 | .extract x i=>match ev tm x with
  | .tup l=>l[i]?
  | _=>none
 | .field st x f=>match ZsB T st f with
  | some fd=>match tl T fd.ty with
   | some ti'=>match ti'.kd.agg with
    | false=>match ev tm x with
     | .agg l=>l[fd.off]?
     | _=>none
    | true=>none
   | none=>none
  | none=>none
 | .build st parts=>match tl T st with
  | some ti=>match ti.kd with
   | .struct fs=>match ZgY fs (ti.zero.map ZK.d) (parts.toList.map (fun p=>(p.1,ev tm p.2))) with
    | some cs=>match nfs cs with
     | some cs'=>some (.agg cs')
     | none=>none
    | none=>none
   | _=>none
  | none=>none
 | .makeFunc (.func f) ⟨[]⟩ caps=>match nfs (caps.toList.map (ev tm)) with
  | some ds=>some (.fn f ds)
  | none=>none
 | _=>none
abbrev Rs:=List (Nat × D) × List (List D)
def ZoH (T:Tab)(n:Nat)(tm:List (Nat × D))(bx:List (List D)):Oper->Option Rs
 | ⟨some t,.box _ x,_,_,_,none⟩=>match nf (ev tm x) with
  | some d=>match D.ones d.cellsOf,nfb (bx++[d.cellsOf]),Ziq bx,Nat.blt t n with
   | true,some bx',some m,true=>some ((t,.ptr m 0)::tm,bx')
   | _,_,_,_=>none
  | none=>none
 | ⟨some t,.alloc e,_,_,_,none⟩=>match tl T e with
  | some ti=>match nfb (bx++[ti.zero.map ZK.d]),Ziq bx,Nat.blt t n with
   | some bx',some m,true=>some ((t,.ptr m 0)::tm,bx')
   | _,_,_=>none
  | none=>none
 | ⟨none,.store lt x y,_,_,_,none⟩=>match ev tm x,nf (ev tm y),tl T lt with
  | .ptr b o,some d,some ti=>match D.ones d.cellsOf,Nat.beq d.cellsOf.length ti.size,bx[b]? with
   | true,true,some cs=>match Nat.ble (o+d.cellsOf.length) cs.length,nfb (bx.set b (Zc9 cs o d.cellsOf)) with
    | true,some bx'=>some (tm,bx')
    | _,_=>none
   | _,_,_=>none
  | _,_,_=>none
 | ⟨some t,op,_,_,_,none⟩=>match Zqt T tm bx op,Nat.blt t n with
  | some d,true=>some ((t,d)::tm,bx)
  | _,_=>none
 | _=>none
def ZrI (T:Tab)(n:Nat):List Oper->List (Nat × D)->List (List D)->List Oper × Rs
 | [],tm,bx=>([],tm,bx)
 | o::l,tm,bx=>match ZoH T n tm bx o with
  | some (tm',bx')=>ZrI T n l tm' bx'
  | none=>(o::l,tm,bx)
inductive Fm where
 | seq (y:Code)
 | blk (id:Nat)
inductive Pos where
 | aw (c:Code)
 | al (ops:Array Oper) (l:List Oper)
 | x (x:X)
def goG (T:Tab)(n:Nat):Nat->Pos->List Fm->List (Nat × D)->List (List D)->Option (Pos × List Fm × Rs)
 | 0,p,ks,tm,bx=>some (p,ks,tm,bx)
 | f+1,.aw c,ks,tm,bx=>match c with
  | .seq a b=>goG T n f (.aw a) (.seq b::ks) tm bx
  | .block id a=>goG T n f (.aw a) (.blk id::ks) tm bx
  | .skip=>goG T n f (.x .norm) ks tm bx
  | .label _=>goG T n f (.x .norm) ks tm bx
  | .exit i=>goG T n f (.x (.exit i)) ks tm bx
  | .goto l=>goG T n f (.x (.goto l)) ks tm bx
  | .ret=>goG T n f (.x .ret) ks tm bx
  | .region _ ops false=>goG T n f (.al ops ops.toList) ks tm bx
  | .cond (.const (.bool true)) a _=>goG T n f (.aw a) ks tm bx
  | .cond (.const (.bool false)) _ b=>goG T n f (.aw b) ks tm bx
  | c=>some (.aw c,ks,tm,bx)
 | f+1,.al ops l,ks,tm,bx=>match ZrI T n l tm bx with
  | ([],tm',bx')=>goG T n f (.x .norm) ks tm' bx'
  | (o::l',tm',bx')=>some (.al ops (o::l'),ks,tm',bx')
 | f+1,.x x,ks,tm,bx=>match ks with
  | []=>some (.x x,[],tm,bx)
  | k::ks=>match x with
   | .norm=>match k with
    | .seq b=>goG T n f (.aw b) ks tm bx
    | .blk _=>goG T n f (.x .norm) ks tm bx
   | .exit i=>match k with
    | .blk id=>match Nat.beq i id with
     | true=>goG T n f (.x .norm) ks tm bx
     | false=>goG T n f (.x (.exit i)) ks tm bx
    | .seq _=>goG T n f (.x (.exit i)) ks tm bx
   | .goto l=>goG T n f (.x (.goto l)) ks tm bx
   | .ret=>goG T n f (.x .ret) ks tm bx
   | .pan d=>goG T n f (.x (.pan d)) ks tm bx
def goA (T:Tab)(n:Nat)(c:Code)(tm:List (Nat × D))(bx:List (List D)):Option (Pos × List Fm × Rs):=
 match c with
 | .seq .. | .block .. | .skip | .label _ | .exit _ | .goto _ | .ret | .region _ _ false | .cond (.const (.bool _)) _ _=>goG T n 400 (.aw c) [] tm bx
 | _=>none
def goL (T:Tab)(n:Nat)(ops:Array Oper)(l:List Oper)(tm:List (Nat × D))(bx:List (List D)):Option (Pos × List Fm × Rs):=
 match l with
 | []=>some (.x .norm,[],tm,bx)
 | o::l=>match ZoH T n tm bx o with
  | some (tm',bx')=>goG T n 400 (.al ops l) [] tm' bx'
  | none=>none
def goK (T:Tab)(n:Nat)(x:X)(ks:List Fm)(tm:List (Nat × D))(bx:List (List D)):Option (Pos × List Fm × Rs):=
 match ks with
 | []=>none
 | k::ks=>goG T n 400 (.x x) (k::ks) tm bx
section
variable {P:Program} {Q:X->St->Prop} {n:Nat} {ee:Nat × Nat} {tm:List (Nat × D)} {bx:List (List D)} {fr:List Fr} {T:Tab}
variable {ops:Array Oper} {rest:List Oper} {t ty:Nat} {pos:String} {after:Array Edge}
def unK [Known][Dfr](P:Program)(Q:X->St->Prop):List Fm->X->St->Prop
 | []=>Q
 | .seq y::ks=>X.then (fun S=>AW P y S (unK P Q ks)) (unK P Q ks)
 | .blk id::ks=>X.inBlock id (unK P Q ks)
@[reducible] def J [Known][Dfr](P:Program) (n:Nat) (fr:List Fr) (ee:Nat × Nat) (Q:X->St->Prop):Pos × List Fm × Rs->Prop
 | (.aw c,[],tm,bx)=>AW P c ⟨n,tm,bx,fr,ee⟩ Q
 | (.al ops l,[],tm,bx)=>AL P ops l ⟨n,tm,bx,fr,ee⟩ Q
 | (.x x,[],tm,bx)=>Q x ⟨n,tm,bx,fr,ee⟩
 | (.aw c,k::ks,tm,bx)=>AW P c ⟨n,tm,bx,fr,ee⟩ (unK P Q (k::ks))
 | (.al ops l,k::ks,tm,bx)=>AL P ops l ⟨n,tm,bx,fr,ee⟩ (unK P Q (k::ks))
 | (.x x,k::ks,tm,bx)=>unK P Q (k::ks) x ⟨n,tm,bx,fr,ee⟩
theorem ZeL [Known][Dfr](P:Program)(n:Nat)(fr:List Fr)(ee:Nat × Nat)(Q:X->St->Prop)(p:Pos)(ks:List Fm)(tm:List (Nat × D))(bx:List (List D)):J P n fr ee Q (p,ks,tm,bx)=match p with
  | .aw c=>AW P c ⟨n,tm,bx,fr,ee⟩ (unK P Q ks)
  | .al ops l=>AL P ops l ⟨n,tm,bx,fr,ee⟩ (unK P Q ks)
  | .x x=>unK P Q ks x ⟨n,tm,bx,fr,ee⟩:=by
 cases p<;>cases ks<;>rfl
theorem Zkj {o o':Nat}(h:Ziq (List.replicate o ())=some o'):o=o':=by
 have:=ZcJ h
 simpa using this
theorem ZoI [Known][Dfr](hT:chk P T=true){op:BinOp}{xt yt:Nat}{x y:Operand}{d:D}(h:Zqs T tm op xt x y=some d)(ht:Nat.blt t n=true)
  (k:AL P ops rest ⟨n,(t,d)::tm,bx,fr,ee⟩ Q):AL P ops (⟨some t,.binOp op xt x y yt,ty,pos,after,none⟩::rest) ⟨n,tm,bx,fr,ee⟩ Q:=by
 unfold Zqs at h
 split at h
 ·rename_i k1 m k2 q hx hy
  split at h
  ·rename_i e1 e2
   have e1:=of_decide_eq_true e1
   subst e1
   exact Zrs hx hy e2 h ht k
  ·cases h
 ·rename_i p q hx hy
  cases op<;>simp only at h<;>first|cases h;done|exact Zrw hx hy rfl h ht k
 ·rename_i p q hx hy
  split at h
  ·rename_i ti hti
   split at h
   ·rename_i hk
    cases op<;>simp only at h<;>first|cases h;done|exact Zrx hT hx hy hti hk h ht k
   ·cases h
  ·cases h
 ·have hy:ev tm y=.nilp:=by assumption
  split at h
  ·rename_i p ti hp hti
   split at h
   ·rename_i e hk
    cases op<;>simp only at h<;>first|cases h;done|exact Zqi hT hp hy hti hk h ht k
   ·cases h
  ·cases h
 ·cases h
theorem ZmG {st f:Nat}{fd:Fd}(h:ZsB T st f=some fd):∃ ti fs,tl T st=some ti/\ti.kd=.struct fs/\fs[f]?=some fd/\Nat.beq fd.size 0=false:=by
 unfold ZsB at h
 split at h
 ·rename_i ti hti
  split at h
  ·rename_i fs hk
   split at h
   ·rename_i fd' hf
    split at h
    ·rename_i hs
     cases h
     exact⟨ti,fs,hti,hk,hf,hs⟩
    ·cases h
   ·cases h
  ·cases h
 ·cases h
theorem ZoJ [Known][Dfr](hT:chk P T=true){op:Op}{d:D}(h:Zqt T tm bx op=some d)(ht:Nat.blt t n=true)
  (k:AL P ops rest ⟨n,(t,d)::tm,bx,fr,ee⟩ Q):AL P ops (⟨some t,op,ty,pos,after,none⟩::rest) ⟨n,tm,bx,fr,ee⟩ Q:=by
 unfold Zqt at h
 split at h
 ·exact Zp6 h ht k
 ·exact Zmc h ht k
 ·exact ZoI hT h ht k
 ·split at h
  ·rename_i hx;cases h;exact Zrt hx ht k
  ·cases h
 ·split at h
  ·rename_i hx
   split at h
   ·rename_i hs hd
    split at h
    ·rename_i hk;cases h;exact Zox hT hx hs hd hk ht k
    ·cases h
   ·cases h
  ·cases h
 ·split at h
  ·rename_i ti hti
   unfold ZrH at h
   split at h
   ·rename_i hx
    split at h
    ·rename_i cs hb
     split at h
     ·rename_i ha;exact Zor hT hx hti ha hb h ht k
     ·rename_i ha
      split at h
      ·rename_i h1 h2;cases h;exact Zos hT hx hti ha hb h1 h2 ht k
      ·cases h
    ·cases h
   ·rename_i hx
    split at h
    ·rename_i ha
     split at h
     ·rename_i he;exact Zmi hT hx hti ha he h ht k
     ·cases h
    ·rename_i ha
     split at h
     ·rename_i h1 h2;cases h;exact Zmj hT hx hti ha h1 h2 ht k
     ·cases h
   ·cases h
  ·cases h
 ·split at h
  ·rename_i fd hfd
   obtain⟨ti,fs,h1,h2,h3,h4⟩:=ZmG hfd
   split at h
   ·rename_i hx
    split at h
    ·rename_i ho;cases h;exact Zid hT hx h1 h2 h3 h4 (Zkj ho) ht k
    ·cases h
   ·rename_i hx
    split at h
    ·rename_i ho;cases h;exact Zhu hT hx h1 h2 h3 h4 (Zkj ho) ht k
    ·cases h
   ·cases h
  ·cases h
 ·split at h
  ·rename_i hx;cases h;exact Zjp hx ht k
  ·rename_i hx;cases h;exact Zie hx ht k
  ·cases h
 ·split at h
  ·rename_i hx;exact Zlm hx h ht k
  ·cases h
 ·split at h
  ·rename_i fd hfd
   obtain⟨ti,fs,h1,h2,h3,h4⟩:=ZmG hfd
   split at h
   ·rename_i ti' hti'
    split at h
    ·rename_i ha
     split at h
     ·rename_i hx;exact Zmm hT hx h1 h2 h3 h4 hti' ha h ht k
     ·cases h
    ·cases h
   ·cases h
  ·cases h
 ·split at h
  ·rename_i ti hti
   split at h
   ·rename_i fs hk
    split at h
    ·rename_i cs hb
     split at h
     ·rename_i hn;cases h;exact Zov hT hti hk rfl hb hn ht k
     ·cases h
    ·cases h
   ·cases h
  ·cases h
 ·split at h
  ·rename_i hds;cases h;exact Zjq hds ht k
  ·cases h
 ·cases h
theorem Zkk [Known][Dfr](hT:chk P T=true){o:Oper}{r:Rs}(h:ZoH T n tm bx o=some r)
  (k:AL P ops rest ⟨n,r.1,r.2,fr,ee⟩ Q):AL P ops (o::rest) ⟨n,tm,bx,fr,ee⟩ Q:=by
 unfold ZoH at h
 split at h
 ·split at h
  ·rename_i hx
   split at h
   ·rename_i h1 h2 h3 h4;cases h;exact Zqn hx h1 h2 h3 h4 k
   ·cases h
  ·cases h
 ·split at h
  ·rename_i hti
   split at h
   ·rename_i h2 h3 h4;cases h;exact ZmB hT hti h2 h3 h4 k
   ·cases h
  ·cases h
 ·split at h
  ·rename_i hx hy hti
   split at h
   ·rename_i h1 h2 h3
    split at h
    ·rename_i h4 h5;cases h;exact Zou hT hx hy h1 hti h2 h3 h4 h5 k
    ·cases h
   ·cases h
  ·cases h
 ·split at h
  ·rename_i h1 h2;cases h;exact ZoJ hT h1 h2 k
  ·cases h
 ·cases h
theorem Zjt [Known][Dfr](hT:chk P T=true):∀(l:List Oper) (tm:List (Nat × D)) (bx:List (List D)) (l':List Oper) (r:Rs),ZrI T n l tm bx=(l',r)->AL P ops l' ⟨n,r.1,r.2,fr,ee⟩ Q->AL P ops l ⟨n,tm,bx,fr,ee⟩ Q
 | [],tm,bx,l',r,h,k=>by unfold ZrI at h;cases h;exact k
 | o::l,tm,bx,l',r,h,k=>by
  unfold ZrI at h
  split at h
  ·rename_i tm' bx' hs
   exact Zkk hT hs (Zjt hT l tm' bx' l' r h k)
  ·cases h;exact k
theorem ZbP [Known][Dfr](hT:chk P T=true):∀(f:Nat) (p:Pos) (ks:List Fm) (tm:List (Nat × D)) (bx:List (List D)) (o:Pos × List Fm × Rs),goG T n f p ks tm bx=some o->J P n fr ee Q o->J P n fr ee Q (p,ks,tm,bx)
 | 0,p,ks,tm,bx,o,h,k=>by unfold goG at h;cases h;exact k
 | f+1,.aw c,ks,tm,bx,o,h,k=>by
  unfold goG at h
  rw[ZeL]
  show AW P c ⟨n,tm,bx,fr,ee⟩ (unK P Q ks)
  split at h
  ·exact Zme (by have:=ZbP hT f _ _ _ _ _ h k;rwa [ZeL]at this)
  ·exact Zol (by have:=ZbP hT f _ _ _ _ _ h k;rwa [ZeL]at this)
  ·exact Zp3 (by have:=ZbP hT f _ _ _ _ _ h k;rwa [ZeL]at this)
  ·exact Zok (by have:=ZbP hT f _ _ _ _ _ h k;rwa [ZeL]at this)
  ·exact Zp4 (by have:=ZbP hT f _ _ _ _ _ h k;rwa [ZeL]at this)
  ·exact Zp5 (by have:=ZbP hT f _ _ _ _ _ h k;rwa [ZeL]at this)
  ·exact Zrq (by have:=ZbP hT f _ _ _ _ _ h k;rwa [ZeL]at this)
  ·rename_i id ops
   have:=ZbP hT f _ _ _ _ _ h k;rw[ZeL]at this
   exact Zma (l:=ops.toList) (by simpa using this)
  ·exact ZmC (by have:=ZbP hT f _ _ _ _ _ h k;rwa [ZeL]at this)
  ·exact ZmD (by have:=ZbP hT f _ _ _ _ _ h k;rwa [ZeL]at this)
  ·cases h;rwa [ZeL]at k
 | f+1,.al ops l,ks,tm,bx,o,h,k=>by
  unfold goG at h
  rw[ZeL]
  show AL P ops l ⟨n,tm,bx,fr,ee⟩ (unK P Q ks)
  split at h
  ·rename_i tm' bx' hr
   exact Zjt hT _ _ _ _ _ hr (ZpG (by have:=ZbP hT f _ _ _ _ _ h k;rwa [ZeL]at this))
  ·rename_i o l' tm' bx' hr
   cases h;rw[ZeL]at k;exact Zjt hT _ _ _ _ _ hr k
 | f+1,.x x,ks,tm,bx,o,h,k=>by
  unfold goG at h
  rw[ZeL]
  show unK P Q ks x ⟨n,tm,bx,fr,ee⟩
  split at h
  ·cases h;rwa [ZeL]at k
  ·split at h
   ·split at h
    ·have:=ZbP hT f _ _ _ _ _ h k;rwa [ZeL]at this
    ·have:=ZbP hT f _ _ _ _ _ h k;rwa [ZeL]at this
   ·split at h
    ·split at h
     ·rename_i i _ id hb
      have:=ZbP hT f _ _ _ _ _ h k;rw[ZeL]at this
      obtain rfl:=Nat.eq_of_beq_eq_true hb
      exact Zon this
     ·rename_i i _ id hb
      exact Zqc hb (by have:=ZbP hT f _ _ _ _ _ h k;rwa [ZeL]at this)
    ·exact Zmf (by have:=ZbP hT f _ _ _ _ _ h k;rwa [ZeL]at this)
   ·rename_i k0 _ _ _
    cases k0 with
    | seq y=>exact Zmg (by have:=ZbP hT f _ _ _ _ _ h k;rwa [ZeL]at this)
    | blk id=>exact Zoo (by have:=ZbP hT f _ _ _ _ _ h k;rwa [ZeL]at this)
   ·rename_i k0 _ _
    cases k0 with
    | seq y=>exact Za2 (by have:=ZbP hT f _ _ _ _ _ h k;rwa [ZeL]at this)
    | blk id=>exact Zqd (by have:=ZbP hT f _ _ _ _ _ h k;rwa [ZeL]at this)
   ·rename_i k0 _ _ _
    cases k0 with
    | seq y=>exact Zom (by have:=ZbP hT f _ _ _ _ _ h k;rwa [ZeL]at this)
    | blk id=>exact Zqe (by have:=ZbP hT f _ _ _ _ _ h k;rwa [ZeL]at this)
theorem Zag [Known][Dfr](hT:chk P T=true){c:Code}{o:Pos × List Fm × Rs}(h:goA T n c tm bx=some o)(k:J P n fr ee Q o):AW P c ⟨n,tm,bx,fr,ee⟩ Q:=by
 unfold goA at h
 split at h<;>first|cases h;done|skip
 all_goals exact ZbP hT _ _ _ _ _ _ h k
theorem Zai [Known][Dfr](hT:chk P T=true){o:Pos × List Fm × Rs}(h:goL T n ops rest tm bx=some o)(k:J P n fr ee Q o):AL P ops rest ⟨n,tm,bx,fr,ee⟩ Q:=by
 unfold goL at h
 split at h
 ·cases h;exact ZpG k
 ·split at h
  ·rename_i tm' bx' hs
   exact Zkk hT hs (ZbP hT _ _ _ _ _ _ h k)
  ·cases h
theorem Zau [Known][Dfr](hT:chk P T=true){x:X}{ks:List Fm}{o:Pos × List Fm × Rs}(h:goK T n x ks tm bx=some o)(k:J P n fr ee Q o):unK P Q ks x ⟨n,tm,bx,fr,ee⟩:=by
 unfold goK at h
 split at h
 ·cases h
 ·have:=ZbP hT _ _ _ _ _ _ h k;rwa [ZeL]at this
end
def ZsP (T:Tab)(tm:List (Nat × D))(bx:List (List D)):ResultVar->Option D
 | .tmp t=>nf (look tm t)
 | .cell a t=>match look tm a,tl T t with
  | .ptr b o,some ti=>match bx[b]? with
   | some cs=>match ti.kd.agg with
    | false=>match cs[o]? with
     | some d=>nf d
     | none=>none
    | true=>match Nat.ble (o+ti.size) cs.length,nfs ((cs.drop o).take ti.size) with
     | true,some cs'=>some (.agg cs')
     | _,_=>none
   | none=>none
  | _,_=>none
def ZsC (T:Tab)(tm:List (Nat × D))(bx:List (List D)):List ResultVar->Option (List D)
 | []=>some []
 | r::rs=>match ZsP T tm bx r,ZsC T tm bx rs with
  | some d,some ds=>some (d::ds)
  | _,_=>none
theorem Zac {P:Program}{T:Tab}(hT:chk P T=true){n:Nat}{ee:Nat × Nat}{tm:List (Nat × D)}{bx:List (List D)}{fr:List Fr}:∀ {rs:List ResultVar} {ds:List D},ZsC T tm bx rs=some ds->ResL P ⟨n,tm,bx,fr,ee⟩ rs ds
 | [],ds,h=>by unfold ZsC at h;cases h;exact .nil
 | r::rs,ds,h=>by
  unfold ZsC at h
  split at h
  ·rename_i d ds' h1 h2
   cases h
   refine .cons _ _ _ _ ?_ (Zac hT h2)
   cases r with
   | tmp t=>
    unfold ZsP at h1
    exact .tmp _ _ (Zci h1)
   | cell a t=>
    simp only[ZsP]at h1
    split at h1
    ·rename_i b o ti ha hti
     split at h1
     ·rename_i cs hb
      split at h1
      ·rename_i hag
       split at h1
       ·rename_i d' hd
        have hd':=Zci h1
        subst hd'
        exact .cell1 a t b o cs _ ha (by rw[(Zbc hT hti).tAgg,hag]) hb hd
       ·cases h1
      ·rename_i hag
       split at h1
       ·rename_i h3 h4
        cases h1
        exact .celln a t b o ti.size cs _ ha (by rw[(Zbc hT hti).tAgg,hag]) (Zbc hT hti).tSize hb h3 (by rw[ZdP h4])
       ·cases h1
     ·cases h1
    ·cases h1
  ·cases h
end Go.Av
end
section
open Go.RowKit Go.Pl Go.Av
namespace Go.Proofs.YtakblclkflnnpaaGreatDoor
def tt:Tab:=[(1,Ti.mk Kd.func 1 8 [ZK.f]),
 (2,Ti.mk (Kd.int IntKind.i64) 1 8 [ZK.i IntKind.i64]),
 (3,Ti.mk (Kd.int IntKind.i64) 1 8 [ZK.i IntKind.i64]),
 (4,Ti.mk Kd.bool 1 1 [ZK.b]),
 (5,Ti.mk (Kd.int IntKind.u8) 1 1 [ZK.i IntKind.u8]),
 (6,Ti.mk (Kd.int IntKind.u8) 1 1 [ZK.i IntKind.u8]),
 (7,Ti.mk (Kd.struct [Av.Fd.mk 0 1 Bool.false 2,Av.Fd.mk 1 1 Bool.false 3,Av.Fd.mk 2 1 Bool.false 4,Av.Fd.mk 3 1 Bool.false 6]) 4 24 [ZK.i IntKind.i64,ZK.i IntKind.i64,ZK.b,ZK.i IntKind.u8]),
 (8,Ti.mk (Kd.struct [Av.Fd.mk 0 1 Bool.false 2,Av.Fd.mk 1 1 Bool.false 3,Av.Fd.mk 2 1 Bool.false 4,Av.Fd.mk 3 1 Bool.false 6]) 4 24 [ZK.i IntKind.i64,ZK.i IntKind.i64,ZK.b,ZK.i IntKind.u8]),
 (9,Ti.mk Kd.str 1 16 [ZK.s]),
 (10,Ti.mk Kd.str 1 16 [ZK.s]),
 (11,Ti.mk Kd.str 1 16 [ZK.s]),
 (12,Ti.mk (Kd.int IntKind.u64) 1 8 [ZK.i IntKind.u64]),
 (13,Ti.mk (Kd.struct [Av.Fd.mk 0 1 Bool.false 9,Av.Fd.mk 1 1 Bool.false 12]) 2 24 [ZK.s,ZK.i IntKind.u64]),
 (14,Ti.mk (Kd.struct [Av.Fd.mk 0 1 Bool.false 9,Av.Fd.mk 1 1 Bool.false 12]) 2 24 [ZK.s,ZK.i IntKind.u64]),
 (15,Ti.mk (Kd.ptr 299) 1 8 [ZK.p]),
 (16,Ti.mk (Kd.ptr 302) 1 8 [ZK.p]),
 (17,Ti.mk (Kd.ptr 311) 1 8 [ZK.p]),
 (18,Ti.mk (Kd.struct [Av.Fd.mk 0 1 Bool.false 17]) 1 8 [ZK.p]),
 (19,Ti.mk (Kd.struct [Av.Fd.mk 0 1 Bool.false 17]) 1 8 [ZK.p]),
 (20,Ti.mk Kd.iface 1 16 [ZK.n]),
 (21,Ti.mk (Kd.int IntKind.i32) 1 4 [ZK.i IntKind.i32]),
 (22,Ti.mk (Kd.int IntKind.u64) 1 8 [ZK.i IntKind.u64]),
 (23,Ti.mk (Kd.struct [Av.Fd.mk 0 1 Bool.false 4,Av.Fd.mk 1 1 Bool.false 22,Av.Fd.mk 2 1 Bool.false 22,Av.Fd.mk 3 1 Bool.false 9,Av.Fd.mk 4 1 Bool.false 9]) 5 56 [ZK.b,ZK.i IntKind.u64,ZK.i IntKind.u64,ZK.s,ZK.s]),
 (24,Ti.mk (Kd.struct [Av.Fd.mk 0 1 Bool.false 4,Av.Fd.mk 1 1 Bool.false 22,Av.Fd.mk 2 1 Bool.false 22,Av.Fd.mk 3 1 Bool.false 9,Av.Fd.mk 4 1 Bool.false 9]) 5 56 [ZK.b,ZK.i IntKind.u64,ZK.i IntKind.u64,ZK.s,ZK.s]),
 (25,Ti.mk (Kd.struct [Av.Fd.mk 0 5 Bool.true 24,Av.Fd.mk 5 1 Bool.false 22,Av.Fd.mk 6 1 Bool.false 22]) 7 72 [ZK.b,ZK.i IntKind.u64,ZK.i IntKind.u64,ZK.s,ZK.s,ZK.i IntKind.u64,ZK.i IntKind.u64]),
 (26,Ti.mk (Kd.struct [Av.Fd.mk 0 5 Bool.true 24,Av.Fd.mk 5 1 Bool.false 22,Av.Fd.mk 6 1 Bool.false 22]) 7 72 [ZK.b,ZK.i IntKind.u64,ZK.i IntKind.u64,ZK.s,ZK.s,ZK.i IntKind.u64,ZK.i IntKind.u64]),
 (27,Ti.mk (Kd.struct [Av.Fd.mk 0 1 Bool.false 22,Av.Fd.mk 1 1 Bool.false 3,Av.Fd.mk 2 5 Bool.true 24,Av.Fd.mk 7 5 Bool.true 24,Av.Fd.mk 12 7 Bool.true 26,Av.Fd.mk 19 1 Bool.false 22]) 20 208 [ZK.i IntKind.u64,ZK.i IntKind.i64,ZK.b,ZK.i IntKind.u64,ZK.i IntKind.u64,ZK.s,ZK.s,ZK.b,ZK.i IntKind.u64,ZK.i IntKind.u64,ZK.s,ZK.s,ZK.b,ZK.i IntKind.u64,ZK.i IntKind.u64,ZK.s,ZK.s,ZK.i IntKind.u64,ZK.i IntKind.u64,ZK.i IntKind.u64]),
 (28,Ti.mk (Kd.struct [Av.Fd.mk 0 1 Bool.false 22,Av.Fd.mk 1 1 Bool.false 3,Av.Fd.mk 2 5 Bool.true 24,Av.Fd.mk 7 5 Bool.true 24,Av.Fd.mk 12 7 Bool.true 26,Av.Fd.mk 19 1 Bool.false 22]) 20 208 [ZK.i IntKind.u64,ZK.i IntKind.i64,ZK.b,ZK.i IntKind.u64,ZK.i IntKind.u64,ZK.s,ZK.s,ZK.b,ZK.i IntKind.u64,ZK.i IntKind.u64,ZK.s,ZK.s,ZK.b,ZK.i IntKind.u64,ZK.i IntKind.u64,ZK.s,ZK.s,ZK.i IntKind.u64,ZK.i IntKind.u64,ZK.i IntKind.u64]),
 (29,Ti.mk (Kd.slice 5) 1 24 [ZK.l]),
 (30,Ti.mk (Kd.slice 32) 1 24 [ZK.l]),
 (31,Ti.mk (Kd.struct [Av.Fd.mk 0 1 Bool.false 3,Av.Fd.mk 1 1 Bool.false 22,Av.Fd.mk 2 1 Bool.false 29,Av.Fd.mk 3 1 Bool.false 30]) 4 64 [ZK.i IntKind.i64,ZK.i IntKind.u64,ZK.l,ZK.l]),
 (32,Ti.mk (Kd.struct [Av.Fd.mk 0 1 Bool.false 3,Av.Fd.mk 1 1 Bool.false 22,Av.Fd.mk 2 1 Bool.false 29,Av.Fd.mk 3 1 Bool.false 30]) 4 64 [ZK.i IntKind.i64,ZK.i IntKind.u64,ZK.l,ZK.l]),
 (33,Ti.mk Kd.func 1 8 [ZK.f]),
 (34,Ti.mk Kd.func 1 8 [ZK.f]),
 (35,Ti.mk Kd.func 1 8 [ZK.f]),
 (36,Ti.mk (Kd.struct [Av.Fd.mk 0 1 Bool.false 4,Av.Fd.mk 1 1 Bool.false 22,Av.Fd.mk 2 1 Bool.false 22,Av.Fd.mk 3 1 Bool.false 9,Av.Fd.mk 4 1 Bool.false 9]) 5 56 [ZK.b,ZK.i IntKind.u64,ZK.i IntKind.u64,ZK.s,ZK.s]),
 (37,Ti.mk (Kd.struct [Av.Fd.mk 0 5 Bool.true 36,Av.Fd.mk 5 1 Bool.false 22,Av.Fd.mk 6 1 Bool.false 22]) 7 72 [ZK.b,ZK.i IntKind.u64,ZK.i IntKind.u64,ZK.s,ZK.s,ZK.i IntKind.u64,ZK.i IntKind.u64]),
 (38,Ti.mk (Kd.struct [Av.Fd.mk 0 5 Bool.true 36,Av.Fd.mk 5 1 Bool.false 22,Av.Fd.mk 6 1 Bool.false 22]) 7 72 [ZK.b,ZK.i IntKind.u64,ZK.i IntKind.u64,ZK.s,ZK.s,ZK.i IntKind.u64,ZK.i IntKind.u64]),
 (39,Ti.mk (Kd.struct [Av.Fd.mk 0 1 Bool.false 22,Av.Fd.mk 1 1 Bool.false 3,Av.Fd.mk 2 5 Bool.true 36,Av.Fd.mk 7 5 Bool.true 36,Av.Fd.mk 12 7 Bool.true 38,Av.Fd.mk 19 1 Bool.false 22]) 20 208 [ZK.i IntKind.u64,ZK.i IntKind.i64,ZK.b,ZK.i IntKind.u64,ZK.i IntKind.u64,ZK.s,ZK.s,ZK.b,ZK.i IntKind.u64,ZK.i IntKind.u64,ZK.s,ZK.s,ZK.b,ZK.i IntKind.u64,ZK.i IntKind.u64,ZK.s,ZK.s,ZK.i IntKind.u64,ZK.i IntKind.u64,ZK.i IntKind.u64]),
 (40,Ti.mk (Kd.struct [Av.Fd.mk 0 1 Bool.false 22,Av.Fd.mk 1 1 Bool.false 3,Av.Fd.mk 2 5 Bool.true 36,Av.Fd.mk 7 5 Bool.true 36,Av.Fd.mk 12 7 Bool.true 38,Av.Fd.mk 19 1 Bool.false 22]) 20 208 [ZK.i IntKind.u64,ZK.i IntKind.i64,ZK.b,ZK.i IntKind.u64,ZK.i IntKind.u64,ZK.s,ZK.s,ZK.b,ZK.i IntKind.u64,ZK.i IntKind.u64,ZK.s,ZK.s,ZK.b,ZK.i IntKind.u64,ZK.i IntKind.u64,ZK.s,ZK.s,ZK.i IntKind.u64,ZK.i IntKind.u64,ZK.i IntKind.u64]),
 (41,Ti.mk Kd.func 1 8 [ZK.f]),
 (42,Ti.mk (Kd.int IntKind.i64) 1 8 [ZK.i IntKind.i64]),
 (44,Ti.mk Kd.func 1 8 [ZK.f]),
 (46,Ti.mk Kd.func 1 8 [ZK.f]),
 (48,Ti.mk Kd.func 1 8 [ZK.f]),
 (49,Ti.mk (Kd.slice 51) 1 24 [ZK.l]),
 (50,Ti.mk (Kd.struct [Av.Fd.mk 0 1 Bool.false 3,Av.Fd.mk 1 1 Bool.false 22,Av.Fd.mk 2 1 Bool.false 29,Av.Fd.mk 3 1 Bool.false 49]) 4 64 [ZK.i IntKind.i64,ZK.i IntKind.u64,ZK.l,ZK.l]),
 (51,Ti.mk (Kd.struct [Av.Fd.mk 0 1 Bool.false 3,Av.Fd.mk 1 1 Bool.false 22,Av.Fd.mk 2 1 Bool.false 29,Av.Fd.mk 3 1 Bool.false 49]) 4 64 [ZK.i IntKind.i64,ZK.i IntKind.u64,ZK.l,ZK.l]),
 (52,Ti.mk Kd.func 1 8 [ZK.f]),
 (53,Ti.mk Kd.func 1 8 [ZK.f]),
 (54,Ti.mk Kd.func 1 8 [ZK.f]),
 (55,Ti.mk Kd.func 1 8 [ZK.f]),
 (56,Ti.mk Kd.func 1 8 [ZK.f]),
 (57,Ti.mk (Kd.struct [Av.Fd.mk 0 1 Bool.false 22,Av.Fd.mk 1 1 Bool.false 22,Av.Fd.mk 2 1 Bool.false 22,Av.Fd.mk 3 1 Bool.false 3,Av.Fd.mk 4 1 Bool.false 29]) 5 56 [ZK.i IntKind.u64,ZK.i IntKind.u64,ZK.i IntKind.u64,ZK.i IntKind.i64,ZK.l]),
 (58,Ti.mk (Kd.struct [Av.Fd.mk 0 1 Bool.false 22,Av.Fd.mk 1 1 Bool.false 22,Av.Fd.mk 2 1 Bool.false 22,Av.Fd.mk 3 1 Bool.false 3,Av.Fd.mk 4 1 Bool.false 29]) 5 56 [ZK.i IntKind.u64,ZK.i IntKind.u64,ZK.i IntKind.u64,ZK.i IntKind.i64,ZK.l]),
 (59,Ti.mk (Kd.struct [Av.Fd.mk 0 1 Bool.false 22,Av.Fd.mk 1 1 Bool.false 22,Av.Fd.mk 2 1 Bool.false 22,Av.Fd.mk 3 1 Bool.false 3,Av.Fd.mk 4 1 Bool.false 29]) 5 56 [ZK.i IntKind.u64,ZK.i IntKind.u64,ZK.i IntKind.u64,ZK.i IntKind.i64,ZK.l]),
 (60,Ti.mk Kd.func 1 8 [ZK.f]),
 (61,Ti.mk Kd.func 1 8 [ZK.f]),
 (63,Ti.mk Kd.func 1 8 [ZK.f]),
 (65,Ti.mk Kd.func 1 8 [ZK.f]),
 (66,Ti.mk Kd.func 1 8 [ZK.f]),
 (67,Ti.mk Kd.func 1 8 [ZK.f]),
 (68,Ti.mk Kd.func 1 8 [ZK.f]),
 (69,Ti.mk Kd.func 1 8 [ZK.f]),
 (70,Ti.mk Kd.func 1 8 [ZK.f]),
 (71,Ti.mk Kd.func 1 8 [ZK.f]),
 (73,Ti.mk Kd.func 1 8 [ZK.f]),
 (75,Ti.mk Kd.func 1 8 [ZK.f]),
 (77,Ti.mk Kd.func 1 8 [ZK.f]),
 (78,Ti.mk Kd.func 1 8 [ZK.f]),
 (80,Ti.mk Kd.func 1 8 [ZK.f]),
 (82,Ti.mk Kd.func 1 8 [ZK.f]),
 (84,Ti.mk Kd.func 1 8 [ZK.f]),
 (85,Ti.mk Kd.func 1 8 [ZK.f]),
 (86,Ti.mk Kd.func 1 8 [ZK.f]),
 (87,Ti.mk Kd.func 1 8 [ZK.f]),
 (88,Ti.mk Kd.func 1 8 [ZK.f]),
 (89,Ti.mk Kd.func 1 8 [ZK.f]),
 (91,Ti.mk Kd.func 1 8 [ZK.f]),
 (92,Ti.mk Kd.func 1 8 [ZK.f]),
 (93,Ti.mk Kd.func 1 8 [ZK.f]),
 (94,Ti.mk (Kd.struct [Av.Fd.mk 0 1 Bool.false 4,Av.Fd.mk 1 1 Bool.false 4,Av.Fd.mk 2 1 Bool.false 4,Av.Fd.mk 3 1 Bool.false 22,Av.Fd.mk 4 1 Bool.false 22,Av.Fd.mk 5 7 Bool.true 26]) 12 96 [ZK.b,ZK.b,ZK.b,ZK.i IntKind.u64,ZK.i IntKind.u64,ZK.b,ZK.i IntKind.u64,ZK.i IntKind.u64,ZK.s,ZK.s,ZK.i IntKind.u64,ZK.i IntKind.u64]),
 (95,Ti.mk (Kd.struct [Av.Fd.mk 0 1 Bool.false 4,Av.Fd.mk 1 1 Bool.false 4,Av.Fd.mk 2 1 Bool.false 4,Av.Fd.mk 3 1 Bool.false 22,Av.Fd.mk 4 1 Bool.false 22,Av.Fd.mk 5 7 Bool.true 26]) 12 96 [ZK.b,ZK.b,ZK.b,ZK.i IntKind.u64,ZK.i IntKind.u64,ZK.b,ZK.i IntKind.u64,ZK.i IntKind.u64,ZK.s,ZK.s,ZK.i IntKind.u64,ZK.i IntKind.u64]),
 (96,Ti.mk Kd.func 1 8 [ZK.f]),
 (97,Ti.mk (Kd.struct [Av.Fd.mk 0 1 Bool.false 4,Av.Fd.mk 1 1 Bool.false 4,Av.Fd.mk 2 1 Bool.false 4,Av.Fd.mk 3 1 Bool.false 22,Av.Fd.mk 4 1 Bool.false 22,Av.Fd.mk 5 7 Bool.true 38]) 12 96 [ZK.b,ZK.b,ZK.b,ZK.i IntKind.u64,ZK.i IntKind.u64,ZK.b,ZK.i IntKind.u64,ZK.i IntKind.u64,ZK.s,ZK.s,ZK.i IntKind.u64,ZK.i IntKind.u64]),
 (98,Ti.mk (Kd.struct [Av.Fd.mk 0 1 Bool.false 4,Av.Fd.mk 1 1 Bool.false 4,Av.Fd.mk 2 1 Bool.false 4,Av.Fd.mk 3 1 Bool.false 22,Av.Fd.mk 4 1 Bool.false 22,Av.Fd.mk 5 7 Bool.true 38]) 12 96 [ZK.b,ZK.b,ZK.b,ZK.i IntKind.u64,ZK.i IntKind.u64,ZK.b,ZK.i IntKind.u64,ZK.i IntKind.u64,ZK.s,ZK.s,ZK.i IntKind.u64,ZK.i IntKind.u64]),
 (99,Ti.mk Kd.func 1 8 [ZK.f]),
 (101,Ti.mk Kd.func 1 8 [ZK.f]),
 (103,Ti.mk Kd.func 1 8 [ZK.f]),
 (105,Ti.mk Kd.func 1 8 [ZK.f]),
 (106,Ti.mk Kd.func 1 8 [ZK.f]),
 (107,Ti.mk Kd.func 1 8 [ZK.f]),
 (108,Ti.mk Kd.func 1 8 [ZK.f]),
 (109,Ti.mk Kd.func 1 8 [ZK.f]),
 (110,Ti.mk (Kd.slice 58) 1 24 [ZK.l]),
 (111,Ti.mk (Kd.struct [Av.Fd.mk 0 20 Bool.true 28,Av.Fd.mk 20 1 Bool.false 110]) 21 232 [ZK.i IntKind.u64,ZK.i IntKind.i64,ZK.b,ZK.i IntKind.u64,ZK.i IntKind.u64,ZK.s,ZK.s,ZK.b,ZK.i IntKind.u64,ZK.i IntKind.u64,ZK.s,ZK.s,ZK.b,ZK.i IntKind.u64,ZK.i IntKind.u64,ZK.s,ZK.s,ZK.i IntKind.u64,ZK.i IntKind.u64,ZK.i IntKind.u64,ZK.l]),
 (112,Ti.mk (Kd.struct [Av.Fd.mk 0 20 Bool.true 28,Av.Fd.mk 20 1 Bool.false 110]) 21 232 [ZK.i IntKind.u64,ZK.i IntKind.i64,ZK.b,ZK.i IntKind.u64,ZK.i IntKind.u64,ZK.s,ZK.s,ZK.b,ZK.i IntKind.u64,ZK.i IntKind.u64,ZK.s,ZK.s,ZK.b,ZK.i IntKind.u64,ZK.i IntKind.u64,ZK.s,ZK.s,ZK.i IntKind.u64,ZK.i IntKind.u64,ZK.i IntKind.u64,ZK.l]),
 (113,Ti.mk Kd.func 1 8 [ZK.f]),
 (114,Ti.mk Kd.func 1 8 [ZK.f]),
 (115,Ti.mk (Kd.slice 59) 1 24 [ZK.l]),
 (116,Ti.mk (Kd.struct [Av.Fd.mk 0 20 Bool.true 40,Av.Fd.mk 20 1 Bool.false 115]) 21 232 [ZK.i IntKind.u64,ZK.i IntKind.i64,ZK.b,ZK.i IntKind.u64,ZK.i IntKind.u64,ZK.s,ZK.s,ZK.b,ZK.i IntKind.u64,ZK.i IntKind.u64,ZK.s,ZK.s,ZK.b,ZK.i IntKind.u64,ZK.i IntKind.u64,ZK.s,ZK.s,ZK.i IntKind.u64,ZK.i IntKind.u64,ZK.i IntKind.u64,ZK.l]),
 (117,Ti.mk (Kd.struct [Av.Fd.mk 0 20 Bool.true 40,Av.Fd.mk 20 1 Bool.false 115]) 21 232 [ZK.i IntKind.u64,ZK.i IntKind.i64,ZK.b,ZK.i IntKind.u64,ZK.i IntKind.u64,ZK.s,ZK.s,ZK.b,ZK.i IntKind.u64,ZK.i IntKind.u64,ZK.s,ZK.s,ZK.b,ZK.i IntKind.u64,ZK.i IntKind.u64,ZK.s,ZK.s,ZK.i IntKind.u64,ZK.i IntKind.u64,ZK.i IntKind.u64,ZK.l]),
 (119,Ti.mk Kd.func 1 8 [ZK.f]),
 (121,Ti.mk Kd.func 1 8 [ZK.f]),
 (122,Ti.mk Kd.func 1 8 [ZK.f]),
 (123,Ti.mk Kd.func 1 8 [ZK.f]),
 (124,Ti.mk Kd.func 1 8 [ZK.f]),
 (126,Ti.mk Kd.func 1 8 [ZK.f]),
 (127,Ti.mk Kd.func 1 8 [ZK.f]),
 (128,Ti.mk Kd.func 1 8 [ZK.f]),
 (130,Ti.mk Kd.func 1 8 [ZK.f]),
 (131,Ti.mk Kd.func 1 8 [ZK.f]),
 (132,Ti.mk Kd.func 1 8 [ZK.f]),
 (133,Ti.mk Kd.func 1 8 [ZK.f]),
 (134,Ti.mk Kd.func 1 8 [ZK.f]),
 (135,Ti.mk Kd.func 1 8 [ZK.f]),
 (136,Ti.mk Kd.func 1 8 [ZK.f]),
 (138,Ti.mk Kd.func 1 8 [ZK.f]),
 (139,Ti.mk Kd.func 1 8 [ZK.f]),
 (140,Ti.mk Kd.func 1 8 [ZK.f]),
 (141,Ti.mk Kd.func 1 8 [ZK.f]),
 (142,Ti.mk Kd.func 1 8 [ZK.f]),
 (144,Ti.mk Kd.func 1 8 [ZK.f]),
 (145,Ti.mk Kd.func 1 8 [ZK.f]),
 (146,Ti.mk Kd.func 1 8 [ZK.f]),
 (147,Ti.mk Kd.func 1 8 [ZK.f]),
 (148,Ti.mk Kd.func 1 8 [ZK.f]),
 (149,Ti.mk Kd.func 1 8 [ZK.f]),
 (151,Ti.mk Kd.func 1 8 [ZK.f]),
 (152,Ti.mk Kd.func 1 8 [ZK.f]),
 (154,Ti.mk Kd.func 1 8 [ZK.f]),
 (155,Ti.mk Kd.func 1 8 [ZK.f]),
 (156,Ti.mk Kd.func 1 8 [ZK.f]),
 (158,Ti.mk Kd.func 1 8 [ZK.f]),
 (159,Ti.mk Kd.func 1 8 [ZK.f]),
 (160,Ti.mk Kd.func 1 8 [ZK.f]),
 (161,Ti.mk (Kd.slice 22) 1 24 [ZK.l]),
 (162,Ti.mk Kd.func 1 8 [ZK.f]),
 (163,Ti.mk Kd.func 1 8 [ZK.f]),
 (165,Ti.mk Kd.func 1 8 [ZK.f]),
 (166,Ti.mk Kd.func 1 8 [ZK.f]),
 (167,Ti.mk Kd.func 1 8 [ZK.f]),
 (168,Ti.mk Kd.func 1 8 [ZK.f]),
 (169,Ti.mk Kd.func 1 8 [ZK.f]),
 (170,Ti.mk Kd.func 1 8 [ZK.f]),
 (171,Ti.mk Kd.func 1 8 [ZK.f]),
 (172,Ti.mk Kd.func 1 8 [ZK.f]),
 (174,Ti.mk Kd.func 1 8 [ZK.f]),
 (175,Ti.mk Kd.func 1 8 [ZK.f]),
 (176,Ti.mk Kd.func 1 8 [ZK.f]),
 (177,Ti.mk Kd.func 1 8 [ZK.f]),
 (178,Ti.mk Kd.func 1 8 [ZK.f]),
 (179,Ti.mk Kd.func 1 8 [ZK.f]),
 (180,Ti.mk Kd.func 1 8 [ZK.f]),
 (181,Ti.mk Kd.func 1 8 [ZK.f]),
 (182,Ti.mk Kd.func 1 8 [ZK.f]),
 (184,Ti.mk Kd.func 1 8 [ZK.f]),
 (186,Ti.mk Kd.func 1 8 [ZK.f]),
 (187,Ti.mk Kd.func 1 8 [ZK.f]),
 (188,Ti.mk Kd.func 1 8 [ZK.f]),
 (189,Ti.mk Kd.func 1 8 [ZK.f]),
 (190,Ti.mk Kd.func 1 8 [ZK.f]),
 (191,Ti.mk Kd.func 1 8 [ZK.f]),
 (192,Ti.mk Kd.func 1 8 [ZK.f]),
 (193,Ti.mk Kd.func 1 8 [ZK.f]),
 (194,Ti.mk Kd.func 1 8 [ZK.f]),
 (195,Ti.mk Kd.func 1 8 [ZK.f]),
 (196,Ti.mk Kd.func 1 8 [ZK.f]),
 (197,Ti.mk Kd.func 1 8 [ZK.f]),
 (198,Ti.mk Kd.func 1 8 [ZK.f]),
 (199,Ti.mk Kd.func 1 8 [ZK.f]),
 (200,Ti.mk Kd.func 1 8 [ZK.f]),
 (201,Ti.mk Kd.func 1 8 [ZK.f]),
 (202,Ti.mk Kd.func 1 8 [ZK.f]),
 (203,Ti.mk Kd.func 1 8 [ZK.f]),
 (204,Ti.mk Kd.func 1 8 [ZK.f]),
 (205,Ti.mk Kd.func 1 8 [ZK.f]),
 (206,Ti.mk Kd.func 1 8 [ZK.f]),
 (207,Ti.mk Kd.func 1 8 [ZK.f]),
 (208,Ti.mk Kd.func 1 8 [ZK.f]),
 (209,Ti.mk Kd.func 1 8 [ZK.f]),
 (211,Ti.mk Kd.func 1 8 [ZK.f]),
 (212,Ti.mk Kd.func 1 8 [ZK.f]),
 (213,Ti.mk Kd.func 1 8 [ZK.f]),
 (214,Ti.mk Kd.func 1 8 [ZK.f]),
 (215,Ti.mk Kd.func 1 8 [ZK.f]),
 (216,Ti.mk Kd.func 1 8 [ZK.f]),
 (217,Ti.mk Kd.func 1 8 [ZK.f]),
 (218,Ti.mk Kd.func 1 8 [ZK.f]),
 (219,Ti.mk (Kd.int IntKind.u32) 1 4 [ZK.i IntKind.u32]),
 (220,Ti.mk (Kd.int IntKind.u16) 1 2 [ZK.i IntKind.u16]),
 (221,Ti.mk Kd.func 1 8 [ZK.f]),
 (222,Ti.mk Kd.func 1 8 [ZK.f]),
 (223,Ti.mk Kd.func 1 8 [ZK.f]),
 (224,Ti.mk Kd.func 1 8 [ZK.f]),
 (226,Ti.mk Kd.func 1 8 [ZK.f]),
 (228,Ti.mk Kd.func 1 8 [ZK.f]),
 (229,Ti.mk (Kd.struct [Av.Fd.mk 0 1 Bool.false 3,Av.Fd.mk 1 1 Bool.false 22,Av.Fd.mk 2 1 Bool.false 4]) 3 24 [ZK.i IntKind.i64,ZK.i IntKind.u64,ZK.b]),
 (230,Ti.mk (Kd.struct [Av.Fd.mk 0 1 Bool.false 3,Av.Fd.mk 1 1 Bool.false 22,Av.Fd.mk 2 1 Bool.false 4]) 3 24 [ZK.i IntKind.i64,ZK.i IntKind.u64,ZK.b]),
 (231,Ti.mk Kd.func 1 8 [ZK.f]),
 (232,Ti.mk Kd.func 1 8 [ZK.f]),
 (233,Ti.mk (Kd.slice 4) 1 24 [ZK.l]),
 (234,Ti.mk (Kd.struct [Av.Fd.mk 0 1 Bool.false 42]) 1 8 [ZK.i IntKind.i64]),
 (235,Ti.mk (Kd.struct [Av.Fd.mk 0 1 Bool.false 42]) 1 8 [ZK.i IntKind.i64]),
 (237,Ti.mk (Kd.ptr 239) 1 8 [ZK.p]),
 (238,Ti.mk (Kd.struct [Av.Fd.mk 0 1 Bool.false 29,Av.Fd.mk 1 1 Bool.false 3,Av.Fd.mk 2 1 Bool.false 3]) 3 40 [ZK.l,ZK.i IntKind.i64,ZK.i IntKind.i64]),
 (239,Ti.mk (Kd.struct [Av.Fd.mk 0 1 Bool.false 29,Av.Fd.mk 1 1 Bool.false 3,Av.Fd.mk 2 1 Bool.false 3]) 3 40 [ZK.l,ZK.i IntKind.i64,ZK.i IntKind.i64]),
 (240,Ti.mk Kd.func 1 8 [ZK.f]),
 (241,Ti.mk Kd.func 1 8 [ZK.f]),
 (242,Ti.mk Kd.func 1 8 [ZK.f]),
 (243,Ti.mk Kd.func 1 8 [ZK.f]),
 (244,Ti.mk Kd.func 1 8 [ZK.f]),
 (245,Ti.mk (Kd.int IntKind.u64) 1 8 [ZK.i IntKind.u64]),
 (247,Ti.mk Kd.func 1 8 [ZK.f]),
 (249,Ti.mk Kd.func 1 8 [ZK.f]),
 (250,Ti.mk Kd.func 1 8 [ZK.f]),
 (252,Ti.mk Kd.func 1 8 [ZK.f]),
 (253,Ti.mk Kd.func 1 8 [ZK.f]),
 (254,Ti.mk Kd.func 1 8 [ZK.f]),
 (255,Ti.mk Kd.func 1 8 [ZK.f]),
 (257,Ti.mk Kd.func 1 8 [ZK.f]),
 (258,Ti.mk Kd.func 1 8 [ZK.f]),
 (259,Ti.mk Kd.func 1 8 [ZK.f]),
 (260,Ti.mk Kd.func 1 8 [ZK.f]),
 (261,Ti.mk (Kd.struct [Av.Fd.mk 0 1 Bool.false 3,Av.Fd.mk 1 1 Bool.false 22,Av.Fd.mk 2 1 Bool.false 4]) 3 24 [ZK.i IntKind.i64,ZK.i IntKind.u64,ZK.b]),
 (262,Ti.mk Kd.func 1 8 [ZK.f]),
 (263,Ti.mk Kd.func 1 8 [ZK.f]),
 (264,Ti.mk Kd.func 1 8 [ZK.f]),
 (265,Ti.mk Kd.func 1 8 [ZK.f]),
 (266,Ti.mk Kd.func 1 8 [ZK.f]),
 (267,Ti.mk Kd.func 1 8 [ZK.f]),
 (269,Ti.mk Kd.func 1 8 [ZK.f]),
 (270,Ti.mk Kd.func 1 8 [ZK.f]),
 (271,Ti.mk Kd.func 1 8 [ZK.f]),
 (272,Ti.mk Kd.func 1 8 [ZK.f]),
 (273,Ti.mk Kd.func 1 8 [ZK.f]),
 (274,Ti.mk Kd.func 1 8 [ZK.f]),
 (276,Ti.mk Kd.func 1 8 [ZK.f]),
 (277,Ti.mk Kd.func 1 8 [ZK.f]),
 (278,Ti.mk Kd.func 1 8 [ZK.f]),
 (279,Ti.mk Kd.func 1 8 [ZK.f]),
 (280,Ti.mk Kd.func 1 8 [ZK.f]),
 (281,Ti.mk Kd.func 1 8 [ZK.f]),
 (282,Ti.mk Kd.func 1 8 [ZK.f]),
 (283,Ti.mk (Kd.slice 3) 1 24 [ZK.l]),
 (285,Ti.mk Kd.func 1 8 [ZK.f]),
 (286,Ti.mk Kd.func 1 8 [ZK.f]),
 (287,Ti.mk Kd.func 1 8 [ZK.f]),
 (288,Ti.mk (Kd.array 256 5) 256 256 [ZK.i IntKind.u8,ZK.i IntKind.u8,ZK.i IntKind.u8,ZK.i IntKind.u8,ZK.i IntKind.u8,ZK.i IntKind.u8,ZK.i IntKind.u8,ZK.i IntKind.u8,ZK.i IntKind.u8,ZK.i IntKind.u8,ZK.i IntKind.u8,ZK.i IntKind.u8,ZK.i IntKind.u8,ZK.i IntKind.u8,ZK.i IntKind.u8,ZK.i IntKind.u8,ZK.i IntKind.u8,ZK.i IntKind.u8,ZK.i IntKind.u8,ZK.i IntKind.u8,ZK.i IntKind.u8,ZK.i IntKind.u8,ZK.i IntKind.u8,ZK.i IntKind.u8,ZK.i IntKind.u8,ZK.i IntKind.u8,ZK.i IntKind.u8,ZK.i IntKind.u8,ZK.i IntKind.u8,ZK.i IntKind.u8,ZK.i IntKind.u8,ZK.i IntKind.u8,ZK.i IntKind.u8,ZK.i IntKind.u8,ZK.i IntKind.u8,ZK.i IntKind.u8,ZK.i IntKind.u8,ZK.i IntKind.u8,ZK.i IntKind.u8,ZK.i IntKind.u8,ZK.i IntKind.u8,ZK.i IntKind.u8,ZK.i IntKind.u8,ZK.i IntKind.u8,ZK.i IntKind.u8,ZK.i IntKind.u8,ZK.i IntKind.u8,ZK.i IntKind.u8,ZK.i IntKind.u8,ZK.i IntKind.u8,ZK.i IntKind.u8,ZK.i IntKind.u8,ZK.i IntKind.u8,ZK.i IntKind.u8,ZK.i IntKind.u8,ZK.i IntKind.u8,ZK.i IntKind.u8,ZK.i IntKind.u8,ZK.i IntKind.u8,ZK.i IntKind.u8,ZK.i IntKind.u8,ZK.i IntKind.u8,ZK.i IntKind.u8,ZK.i IntKind.u8,ZK.i IntKind.u8,ZK.i IntKind.u8,ZK.i IntKind.u8,ZK.i IntKind.u8,ZK.i IntKind.u8,ZK.i IntKind.u8,ZK.i IntKind.u8,ZK.i IntKind.u8,ZK.i IntKind.u8,ZK.i IntKind.u8,ZK.i IntKind.u8,ZK.i IntKind.u8,ZK.i IntKind.u8,ZK.i IntKind.u8,ZK.i IntKind.u8,ZK.i IntKind.u8,ZK.i IntKind.u8,ZK.i IntKind.u8,ZK.i IntKind.u8,ZK.i IntKind.u8,ZK.i IntKind.u8,ZK.i IntKind.u8,ZK.i IntKind.u8,ZK.i IntKind.u8,ZK.i IntKind.u8,ZK.i IntKind.u8,ZK.i IntKind.u8,ZK.i IntKind.u8,ZK.i IntKind.u8,ZK.i IntKind.u8,ZK.i IntKind.u8,ZK.i IntKind.u8,ZK.i IntKind.u8,ZK.i IntKind.u8,ZK.i IntKind.u8,ZK.i IntKind.u8,ZK.i IntKind.u8,ZK.i IntKind.u8,ZK.i IntKind.u8,ZK.i IntKind.u8,ZK.i IntKind.u8,ZK.i IntKind.u8,ZK.i IntKind.u8,ZK.i IntKind.u8,ZK.i IntKind.u8,ZK.i IntKind.u8,ZK.i IntKind.u8,ZK.i IntKind.u8,ZK.i IntKind.u8,ZK.i IntKind.u8,ZK.i IntKind.u8,ZK.i IntKind.u8,ZK.i IntKind.u8,ZK.i IntKind.u8,ZK.i IntKind.u8,ZK.i IntKind.u8,ZK.i IntKind.u8,ZK.i IntKind.u8,ZK.i IntKind.u8,ZK.i IntKind.u8,ZK.i IntKind.u8,ZK.i IntKind.u8,ZK.i IntKind.u8,ZK.i IntKind.u8,ZK.i IntKind.u8,ZK.i IntKind.u8,ZK.i IntKind.u8,ZK.i IntKind.u8,ZK.i IntKind.u8,ZK.i IntKind.u8,ZK.i IntKind.u8,ZK.i IntKind.u8,ZK.i IntKind.u8,ZK.i IntKind.u8,ZK.i IntKind.u8,ZK.i IntKind.u8,ZK.i IntKind.u8,ZK.i IntKind.u8,ZK.i IntKind.u8,ZK.i IntKind.u8,ZK.i IntKind.u8,ZK.i IntKind.u8,ZK.i IntKind.u8,ZK.i IntKind.u8,ZK.i IntKind.u8,ZK.i IntKind.u8,ZK.i IntKind.u8,ZK.i IntKind.u8,ZK.i IntKind.u8,ZK.i IntKind.u8,ZK.i IntKind.u8,ZK.i IntKind.u8,ZK.i IntKind.u8,ZK.i IntKind.u8,ZK.i IntKind.u8,ZK.i IntKind.u8,ZK.i IntKind.u8,ZK.i IntKind.u8,ZK.i IntKind.u8,ZK.i IntKind.u8,ZK.i IntKind.u8,ZK.i IntKind.u8,ZK.i IntKind.u8,ZK.i IntKind.u8,ZK.i IntKind.u8,ZK.i IntKind.u8,ZK.i IntKind.u8,ZK.i IntKind.u8,ZK.i IntKind.u8,ZK.i IntKind.u8,ZK.i IntKind.u8,ZK.i IntKind.u8,ZK.i IntKind.u8,ZK.i IntKind.u8,ZK.i IntKind.u8,ZK.i IntKind.u8,ZK.i IntKind.u8,ZK.i IntKind.u8,ZK.i IntKind.u8,ZK.i IntKind.u8,ZK.i IntKind.u8,ZK.i IntKind.u8,ZK.i IntKind.u8,ZK.i IntKind.u8,ZK.i IntKind.u8,ZK.i IntKind.u8,ZK.i IntKind.u8,ZK.i IntKind.u8,ZK.i IntKind.u8,ZK.i IntKind.u8,ZK.i IntKind.u8,ZK.i IntKind.u8,ZK.i IntKind.u8,ZK.i IntKind.u8,ZK.i IntKind.u8,ZK.i IntKind.u8,ZK.i IntKind.u8,ZK.i IntKind.u8,ZK.i IntKind.u8,ZK.i IntKind.u8,ZK.i IntKind.u8,ZK.i IntKind.u8,ZK.i IntKind.u8,ZK.i IntKind.u8,ZK.i IntKind.u8,ZK.i IntKind.u8,ZK.i IntKind.u8,ZK.i IntKind.u8,ZK.i IntKind.u8,ZK.i IntKind.u8,ZK.i IntKind.u8,ZK.i IntKind.u8,ZK.i IntKind.u8,ZK.i IntKind.u8,ZK.i IntKind.u8,ZK.i IntKind.u8,ZK.i IntKind.u8,ZK.i IntKind.u8,ZK.i IntKind.u8,ZK.i IntKind.u8,ZK.i IntKind.u8,ZK.i IntKind.u8,ZK.i IntKind.u8,ZK.i IntKind.u8,ZK.i IntKind.u8,ZK.i IntKind.u8,ZK.i IntKind.u8,ZK.i IntKind.u8,ZK.i IntKind.u8,ZK.i IntKind.u8,ZK.i IntKind.u8,ZK.i IntKind.u8,ZK.i IntKind.u8,ZK.i IntKind.u8,ZK.i IntKind.u8,ZK.i IntKind.u8,ZK.i IntKind.u8,ZK.i IntKind.u8,ZK.i IntKind.u8,ZK.i IntKind.u8,ZK.i IntKind.u8,ZK.i IntKind.u8,ZK.i IntKind.u8,ZK.i IntKind.u8,ZK.i IntKind.u8,ZK.i IntKind.u8,ZK.i IntKind.u8,ZK.i IntKind.u8,ZK.i IntKind.u8,ZK.i IntKind.u8,ZK.i IntKind.u8,ZK.i IntKind.u8]),
 (289,Ti.mk (Kd.struct [Av.Fd.mk 0 1 Bool.false 5,Av.Fd.mk 1 1 Bool.false 5]) 2 2 [ZK.i IntKind.u8,ZK.i IntKind.u8]),
 (290,Ti.mk (Kd.struct [Av.Fd.mk 0 1 Bool.false 5,Av.Fd.mk 1 1 Bool.false 5]) 2 2 [ZK.i IntKind.u8,ZK.i IntKind.u8]),
 (291,Ti.mk (Kd.array 16 290) 32 32 [ZK.i IntKind.u8,ZK.i IntKind.u8,ZK.i IntKind.u8,ZK.i IntKind.u8,ZK.i IntKind.u8,ZK.i IntKind.u8,ZK.i IntKind.u8,ZK.i IntKind.u8,ZK.i IntKind.u8,ZK.i IntKind.u8,ZK.i IntKind.u8,ZK.i IntKind.u8,ZK.i IntKind.u8,ZK.i IntKind.u8,ZK.i IntKind.u8,ZK.i IntKind.u8,ZK.i IntKind.u8,ZK.i IntKind.u8,ZK.i IntKind.u8,ZK.i IntKind.u8,ZK.i IntKind.u8,ZK.i IntKind.u8,ZK.i IntKind.u8,ZK.i IntKind.u8,ZK.i IntKind.u8,ZK.i IntKind.u8,ZK.i IntKind.u8,ZK.i IntKind.u8,ZK.i IntKind.u8,ZK.i IntKind.u8,ZK.i IntKind.u8,ZK.i IntKind.u8]),
 (292,Ti.mk Kd.func 1 8 [ZK.f]),
 (293,Ti.mk Kd.func 1 8 [ZK.f]),
 (294,Ti.mk Kd.func 1 8 [ZK.f]),
 (296,Ti.mk Kd.func 1 8 [ZK.f]),
 (297,Ti.mk Kd.func 1 8 [ZK.f]),
 (298,Ti.mk (Kd.struct [Av.Fd.mk 0 1 Bool.false 17,Av.Fd.mk 1 1 Bool.false 17,Av.Fd.mk 2 1 Bool.false 17,Av.Fd.mk 3 1 Bool.false 9]) 4 40 [ZK.p,ZK.p,ZK.p,ZK.s]),
 (299,Ti.mk (Kd.struct [Av.Fd.mk 0 1 Bool.false 17,Av.Fd.mk 1 1 Bool.false 17,Av.Fd.mk 2 1 Bool.false 17,Av.Fd.mk 3 1 Bool.false 9]) 4 40 [ZK.p,ZK.p,ZK.p,ZK.s]),
 (300,Ti.mk (Kd.array 0 16) 0 0 []),
 (301,Ti.mk (Kd.struct [Av.Fd.mk 0 0 Bool.true 300]) 0 0 []),
 (302,Ti.mk (Kd.struct [Av.Fd.mk 0 0 Bool.true 300]) 0 0 []),
 (303,Ti.mk Kd.func 1 8 [ZK.f]),
 (304,Ti.mk (Kd.int IntKind.u8) 1 1 [ZK.i IntKind.u8]),
 (305,Ti.mk (Kd.int IntKind.u8) 1 1 [ZK.i IntKind.u8]),
 (306,Ti.mk Kd.func 1 8 [ZK.f]),
 (307,Ti.mk (Kd.ptr 5) 1 8 [ZK.p]),
 (308,Ti.mk (Kd.int IntKind.i32) 1 4 [ZK.i IntKind.i32]),
 (309,Ti.mk (Kd.int IntKind.i32) 1 4 [ZK.i IntKind.i32]),
 (310,Ti.mk (Kd.struct [Av.Fd.mk 0 1 Bool.false 12,Av.Fd.mk 1 1 Bool.false 12,Av.Fd.mk 2 1 Bool.false 219,Av.Fd.mk 3 1 Bool.false 304,Av.Fd.mk 4 1 Bool.false 5,Av.Fd.mk 5 1 Bool.false 5,Av.Fd.mk 6 1 Bool.false 305,Av.Fd.mk 7 1 Bool.false 306,Av.Fd.mk 8 1 Bool.false 307,Av.Fd.mk 9 1 Bool.false 308,Av.Fd.mk 10 1 Bool.false 309]) 11 48 [ZK.i IntKind.u64,ZK.i IntKind.u64,ZK.i IntKind.u32,ZK.i IntKind.u8,ZK.i IntKind.u8,ZK.i IntKind.u8,ZK.i IntKind.u8,ZK.f,ZK.p,ZK.i IntKind.i32,ZK.i IntKind.i32]),
 (311,Ti.mk (Kd.struct [Av.Fd.mk 0 1 Bool.false 12,Av.Fd.mk 1 1 Bool.false 12,Av.Fd.mk 2 1 Bool.false 219,Av.Fd.mk 3 1 Bool.false 304,Av.Fd.mk 4 1 Bool.false 5,Av.Fd.mk 5 1 Bool.false 5,Av.Fd.mk 6 1 Bool.false 305,Av.Fd.mk 7 1 Bool.false 306,Av.Fd.mk 8 1 Bool.false 307,Av.Fd.mk 9 1 Bool.false 308,Av.Fd.mk 10 1 Bool.false 309]) 11 48 [ZK.i IntKind.u64,ZK.i IntKind.u64,ZK.i IntKind.u32,ZK.i IntKind.u8,ZK.i IntKind.u8,ZK.i IntKind.u8,ZK.i IntKind.u8,ZK.f,ZK.p,ZK.i IntKind.i32,ZK.i IntKind.i32])]
theorem Zab:chk Tryz.prog tt=true:=by kernel_rfl
theorem ZaQ:Tryz.prog.follows .mixedOrders=true:=by kernel_rfl
abbrev byE (l:List UInt8):D:=.sl .ext (l.map E.byte)
theorem Zbh (l:List UInt8):Uni 1 (l.map E.byte):=Uni.map (f:=E.byte) (fun _=>rfl) l
end Go.Proofs.YtakblclkflnnpaaGreatDoor
end
section
open Go.RowKit Go.Pl Go.Av
namespace Go.Proofs.YtakblclkflnnpaaGreatDoor
theorem Qe {p:Prop}(h:p:=by(apply Zav [];(apply Zac Zab;exact U);(iterate 4 exact U));all_goals rfl):p:=h
end Go.Proofs.YtakblclkflnnpaaGreatDoor
end

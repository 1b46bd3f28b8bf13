/- A run of operations that only compute, or make and lay variables, and the control between them, as one function: where it stops, and with what. -/
import Derived.Test.YtmljabhmajehnaaGreatDoorT09
import Derived.Test.YtmljabhmajehnaaGreatDoorT03
import Derived.Test.YtmljabhmajehnaaGreatDoorProg
set_option linter.unusedSimpArgs false
set_option linter.unusedVariables false
section
open Go.RowKit Go.Pl
namespace Go.Av
def Tt (T:Tab)(tm:List (Nat × D))(op:BinOp)(xt:Nat)(x y:Operand):Option D:=
 match ev tm x,ev tm y with
 | .int k m,.int k2 q=>match decide (k=k2),(match op with | .quo | .rem | .shl | .shr=>false|_=>true) with
  | true,true=>nf (H2 op k m q)
  | _,_=>none
 | .str p,.str q=>match op with
  | .eql | .neq | .lss | .leq | .gtr | .geq=>nf (IB op p q)
  | _=>none
 | .bool p,.bool q=>match tl T xt with
  | some ti=>match ti.kd with
   | .bool=>match op with
    | .eql=>some (.bool (p==q))
    | .neq=>some (.bool (!(p==q)))
    | _=>none
   | _=>none
  | none=>none
 | d,.nilp=>match M1 d,tl T xt with
  | some p,some ti=>match ti.kd with
   | .ptr _=>match op with
    | .eql=>some (.bool p)
    | .neq=>some (.bool (!p))
    | _=>none
   | _=>none
  | _,_=>none
 | _,_=>none
def MM (bx:List (List D))(ti:Ti):D->Option D
 | .ptr b o=>match bx[b]? with
  | some cs=>match ti.kd.agg with
   | false=>cs[o]?
   | true=>match Nat.ble (o+ti.size) cs.length,nfs ((cs.drop o).take ti.size) with
    | true,some cs'=>some (.agg cs')
    | _,_=>none
  | none=>none
 | .eptr cs o=>match ti.kd.agg with
  | false=>match cs[o]? with
   | some e=>nf (.ofE e)
   | none=>none
  | true=>match Nat.ble (o+ti.size) cs.length,nfs (((cs.drop o).take ti.size).map .ofE) with
   | true,some cs'=>some (.agg cs')
   | _,_=>none
 | _=>none
def NZ (T:Tab)(st f:Nat):Option Fd:=
 match tl T st with
 | some ti=>match ti.kd with
  | .struct fs=>match fs[f]? with
   | some fd=>match Nat.beq fd.size 0 with
    | false=>some fd
    | true=>none
   | none=>none
  | _=>none
 | none=>none
def Tu (T:Tab)(tm:List (Nat × D))(bx:List (List D)):Op->Option D
 | .move x=>nf (ev tm x)
 | .assign x=>nf (ev tm x)
 | .binOp op xt x y _=>Tt T tm op xt x y
 | .unOp .not _ x=>match ev tm x with
  | .bool b=>some (.bool (!b))
  | _=>none
 | .convert src dst x=>match ev tm x with
  | .int _ q=>match tl T src,tl T dst with
   | some _,some td=>match td.kd with
    | .int k'=>some (.int k' (k'.wrap q))
    | _=>none
   | _,_=>none
  | _=>none
 | .load lt x=>match tl T lt with
  | some ti=>MM bx ti (ev tm x)
  | none=>none
 | .fieldAddr st x f=>match NZ T st f with
  | some fd=>match ev tm x with
   | .ptr b o=>match UC (List.replicate (o+fd.off) ()) with
    | some o'=>some (.ptr b o')
    | none=>none
   | .eptr cs o=>match UC (List.replicate (o+fd.off) ()) with
    | some o'=>some (.eptr cs o')
    | none=>none
   | _=>none
  | none=>none
 | .nilCheck x=>match ev tm x with
  | .ptr b o=>some (.ptr b o)
  | .eptr cs o=>some (.eptr cs o)
  | _=>none
 | .extract x i=>match ev tm x with
  | .tup l=>l[i]?
  | _=>none
 | .field st x f=>match NZ T st f with
  | some fd=>match tl T fd.ty with
   | some ti'=>match ti'.kd.agg with
    | false=>match ev tm x with
     | .agg l=>l[fd.off]?
     | _=>none
    | true=>none
   | none=>none
  | none=>none
 | .build st parts=>match tl T st with
  | some ti=>match ti.kd with
   | .struct fs=>match Jc fs (ti.zero.map ZK.d) (parts.toList.map (fun p=>(p.1,ev tm p.2))) with
    | some cs=>match nfs cs with
     | some cs'=>some (.agg cs')
     | none=>none
    | none=>none
   | _=>none
  | none=>none
 | .makeFunc (.func f) ⟨[]⟩ caps=>match nfs (caps.toList.map (ev tm)) with
  | some ds=>some (.fn f ds)
  | none=>none
 | _=>none
abbrev Rs:=List (Nat × D) × List (List D)
def Gs (T:Tab)(n:Nat)(tm:List (Nat × D))(bx:List (List D)):Oper->Option Rs
 | ⟨some t,.box _ x,_,_,_,none⟩=>match nf (ev tm x) with
  | some d=>match D.ones d.cellsOf,nfb (bx++[d.cellsOf]),UC bx,Nat.blt t n with
   | true,some bx',some m,true=>some ((t,.ptr m 0)::tm,bx')
   | _,_,_,_=>none
  | none=>none
 | ⟨some t,.alloc e,_,_,_,none⟩=>match tl T e with
  | some ti=>match nfb (bx++[ti.zero.map ZK.d]),UC bx,Nat.blt t n with
   | some bx',some m,true=>some ((t,.ptr m 0)::tm,bx')
   | _,_,_=>none
  | none=>none
 | ⟨none,.store lt x y,_,_,_,none⟩=>match ev tm x,nf (ev tm y),tl T lt with
  | .ptr b o,some d,some ti=>match D.ones d.cellsOf,Nat.beq d.cellsOf.length ti.size,bx[b]? with
   | true,true,some cs=>match Nat.ble (o+d.cellsOf.length) cs.length,nfb (bx.set b (Ww cs o d.cellsOf)) with
    | true,some bx'=>some (tm,bx')
    | _,_=>none
   | _,_,_=>none
  | _,_,_=>none
 | ⟨some t,op,_,_,_,none⟩=>match Tu T tm bx op,Nat.blt t n with
  | some d,true=>some ((t,d)::tm,bx)
  | _,_=>none
 | _=>none
def Tv (T:Tab)(n:Nat):List Oper->List (Nat × D)->List (List D)->List Oper × Rs
 | [],tm,bx=>([],tm,bx)
 | o::l,tm,bx=>match Gs T n tm bx o with
  | some (tm',bx')=>Tv T n l tm' bx'
  | none=>(o::l,tm,bx)
inductive Fm where
 | seq (y:Code)
 | blk (id:Nat)
inductive Pos where
 | aw (c:Code)
 | al (ops:Array Oper) (l:List Oper)
 | x (x:X)
def goG (T:Tab)(n:Nat):Nat->Pos->List Fm->List (Nat × D)->List (List D)->Option (Pos × List Fm × Rs)
 | 0,p,ks,tm,bx=>some (p,ks,tm,bx)
 | f+1,.aw c,ks,tm,bx=>match c with
  | .seq a b=>goG T n f (.aw a) (.seq b::ks) tm bx
  | .block id a=>goG T n f (.aw a) (.blk id::ks) tm bx
  | .skip=>goG T n f (.x .norm) ks tm bx
  | .label _=>goG T n f (.x .norm) ks tm bx
  | .exit i=>goG T n f (.x (.exit i)) ks tm bx
  | .goto l=>goG T n f (.x (.goto l)) ks tm bx
  | .ret=>goG T n f (.x .ret) ks tm bx
  | .region _ ops false=>goG T n f (.al ops ops.toList) ks tm bx
  | .cond (.const (.bool true)) a _=>goG T n f (.aw a) ks tm bx
  | .cond (.const (.bool false)) _ b=>goG T n f (.aw b) ks tm bx
  | c=>some (.aw c,ks,tm,bx)
 | f+1,.al ops l,ks,tm,bx=>match Tv T n l tm bx with
  | ([],tm',bx')=>goG T n f (.x .norm) ks tm' bx'
  | (o::l',tm',bx')=>some (.al ops (o::l'),ks,tm',bx')
 | f+1,.x x,ks,tm,bx=>match ks with
  | []=>some (.x x,[],tm,bx)
  | k::ks=>match x with
   | .norm=>match k with
    | .seq b=>goG T n f (.aw b) ks tm bx
    | .blk _=>goG T n f (.x .norm) ks tm bx
   | .exit i=>match k with
    | .blk id=>match Nat.beq i id with
     | true=>goG T n f (.x .norm) ks tm bx
     | false=>goG T n f (.x (.exit i)) ks tm bx
    | .seq _=>goG T n f (.x (.exit i)) ks tm bx
   | .goto l=>goG T n f (.x (.goto l)) ks tm bx
   | .ret=>goG T n f (.x .ret) ks tm bx
   | .pan d=>goG T n f (.x (.pan d)) ks tm bx
def goA (T:Tab)(n:Nat)(c:Code)(tm:List (Nat × D))(bx:List (List D)):Option (Pos × List Fm × Rs):=
 match c with
 | .seq .. | .block .. | .skip | .label _ | .exit _ | .goto _ | .ret | .region _ _ false | .cond (.const (.bool _)) _ _=>goG T n 400 (.aw c) [] tm bx
 | _=>none
def goL (T:Tab)(n:Nat)(ops:Array Oper)(l:List Oper)(tm:List (Nat × D))(bx:List (List D)):Option (Pos × List Fm × Rs):=
 match l with
 | []=>some (.x .norm,[],tm,bx)
 | o::l=>match Gs T n tm bx o with
  | some (tm',bx')=>goG T n 400 (.al ops l) [] tm' bx'
  | none=>none
def goK (T:Tab)(n:Nat)(x:X)(ks:List Fm)(tm:List (Nat × D))(bx:List (List D)):Option (Pos × List Fm × Rs):=
 match ks with
 | []=>none
 | k::ks=>goG T n 400 (.x x) (k::ks) tm bx
section
variable {P:Program} {Q:X->St->Prop} {n:Nat} {ee:Nat × Nat} {tm:List (Nat × D)} {bx:List (List D)} {fr:List Fr} {T:Tab}
variable {ops:Array Oper} {rest:List Oper} {t ty:Nat} {pos:String} {after:Array Edge}
def unK [Known][Dfr](P:Program)(Q:X->St->Prop):List Fm->X->St->Prop
 | []=>Q
 | .seq y::ks=>X.then (fun S=>AW P y S (unK P Q ks)) (unK P Q ks)
 | .blk id::ks=>X.inBlock id (unK P Q ks)
@[reducible] def J [Known][Dfr](P:Program) (n:Nat) (fr:List Fr) (ee:Nat × Nat) (Q:X->St->Prop):Pos × List Fm × Rs->Prop
 | (.aw c,[],tm,bx)=>AW P c ⟨n,tm,bx,fr,ee⟩ Q
 | (.al ops l,[],tm,bx)=>AL P ops l ⟨n,tm,bx,fr,ee⟩ Q
 | (.x x,[],tm,bx)=>Q x ⟨n,tm,bx,fr,ee⟩
 | (.aw c,k::ks,tm,bx)=>AW P c ⟨n,tm,bx,fr,ee⟩ (unK P Q (k::ks))
 | (.al ops l,k::ks,tm,bx)=>AL P ops l ⟨n,tm,bx,fr,ee⟩ (unK P Q (k::ks))
 | (.x x,k::ks,tm,bx)=>unK P Q (k::ks) x ⟨n,tm,bx,fr,ee⟩
theorem WA [Known][Dfr](P:Program)(n:Nat)(fr:List Fr)(ee:Nat × Nat)(Q:X->St->Prop)(p:Pos)(ks:List Fm)(tm:List (Nat × D))(bx:List (List D)):J P n fr ee Q (p,ks,tm,bx)=match p with
  | .aw c=>AW P c ⟨n,tm,bx,fr,ee⟩ (unK P Q ks)
  | .al ops l=>AL P ops l ⟨n,tm,bx,fr,ee⟩ (unK P Q ks)
  | .x x=>unK P Q ks x ⟨n,tm,bx,fr,ee⟩:=by
 cases p<;>cases ks<;>rfl
theorem OC {o o':Nat}(h:UC (List.replicate o ())=some o'):o=o':=by
 have:=Wm h
 simpa using this
theorem Tw [Known][Dfr](hT:chk P T=true){op:BinOp}{xt yt:Nat}{x y:Operand}{d:D}(h:Tt T tm op xt x y=some d)(ht:Nat.blt t n=true)
  (k:AL P ops rest ⟨n,(t,d)::tm,bx,fr,ee⟩ Q):AL P ops (⟨some t,.binOp op xt x y yt,ty,pos,after,none⟩::rest) ⟨n,tm,bx,fr,ee⟩ Q:=by
 unfold Tt at h
 split at h
 ·rename_i k1 m k2 q hx hy
  split at h
  ·rename_i e1 e2
   have e1:=of_decide_eq_true e1
   subst e1
   exact MV hx hy e2 h ht k
  ·cases h
 ·rename_i p q hx hy
  cases op<;>simp only at h<;>first|cases h;done|exact MY hx hy rfl h ht k
 ·rename_i p q hx hy
  split at h
  ·rename_i ti hti
   split at h
   ·rename_i hk
    cases op<;>simp only at h<;>first|cases h;done|exact M0 hT hx hy hti hk h ht k
   ·cases h
  ·cases h
 ·have hy:ev tm y=.nilp:=by assumption
  split at h
  ·rename_i p ti hp hti
   split at h
   ·rename_i e hk
    cases op<;>simp only at h<;>first|cases h;done|exact NQ hT hp hy hti hk h ht k
   ·cases h
  ·cases h
 ·cases h
theorem Gt {st f:Nat}{fd:Fd}(h:NZ T st f=some fd):∃ ti fs,tl T st=some ti/\ti.kd=.struct fs/\fs[f]?=some fd/\Nat.beq fd.size 0=false:=by
 unfold NZ at h
 split at h
 ·rename_i ti hti
  split at h
  ·rename_i fs hk
   split at h
   ·rename_i fd' hf
    split at h
    ·rename_i hs
     cases h
     exact⟨ti,fs,hti,hk,hf,hs⟩
    ·cases h
   ·cases h
  ·cases h
 ·cases h
theorem Tx [Known][Dfr](hT:chk P T=true){op:Op}{d:D}(h:Tu T tm bx op=some d)(ht:Nat.blt t n=true)
  (k:AL P ops rest ⟨n,(t,d)::tm,bx,fr,ee⟩ Q):AL P ops (⟨some t,op,ty,pos,after,none⟩::rest) ⟨n,tm,bx,fr,ee⟩ Q:=by
 unfold Tu at h
 split at h
 ·exact NF h ht k
 ·exact GW h ht k
 ·exact Tw hT h ht k
 ·split at h
  ·rename_i hx;cases h;exact MW hx ht k
  ·cases h
 ·split at h
  ·rename_i hx
   split at h
   ·rename_i hs hd
    split at h
    ·rename_i hk;cases h;exact Th hT hx hs hd hk ht k
    ·cases h
   ·cases h
  ·cases h
 ·split at h
  ·rename_i ti hti
   unfold MM at h
   split at h
   ·rename_i hx
    split at h
    ·rename_i cs hb
     split at h
     ·rename_i ha;exact Ta hT hx hti ha hb h ht k
     ·rename_i ha
      split at h
      ·rename_i h1 h2;cases h;exact Tb hT hx hti ha hb h1 h2 ht k
      ·cases h
    ·cases h
   ·rename_i hx
    split at h
    ·rename_i ha
     split at h
     ·rename_i he;exact GZ hT hx hti ha he h ht k
     ·cases h
    ·rename_i ha
     split at h
     ·rename_i h1 h2;cases h;exact G0 hT hx hti ha h1 h2 ht k
     ·cases h
   ·cases h
  ·cases h
 ·split at h
  ·rename_i fd hfd
   obtain⟨ti,fs,h1,h2,h3,h4⟩:=Gt hfd
   split at h
   ·rename_i hx
    split at h
    ·rename_i ho;cases h;exact KL hT hx h1 h2 h3 h4 (OC ho) ht k
    ·cases h
   ·rename_i hx
    split at h
    ·rename_i ho;cases h;exact XI hT hx h1 h2 h3 h4 (OC ho) ht k
    ·cases h
   ·cases h
  ·cases h
 ·split at h
  ·rename_i hx;cases h;exact Oi hx ht k
  ·rename_i hx;cases h;exact KM hx ht k
  ·cases h
 ·split at h
  ·rename_i hx;exact IA hx h ht k
  ·cases h
 ·split at h
  ·rename_i fd hfd
   obtain⟨ti,fs,h1,h2,h3,h4⟩:=Gt hfd
   split at h
   ·rename_i ti' hti'
    split at h
    ·rename_i ha
     split at h
     ·rename_i hx;exact G2 hT hx h1 h2 h3 h4 hti' ha h ht k
     ·cases h
    ·cases h
   ·cases h
  ·cases h
 ·split at h
  ·rename_i ti hti
   split at h
   ·rename_i fs hk
    split at h
    ·rename_i cs hb
     split at h
     ·rename_i hn;cases h;exact Tf hT hti hk rfl hb hn ht k
     ·cases h
    ·cases h
   ·cases h
  ·cases h
 ·split at h
  ·rename_i hds;cases h;exact Oq hds ht k
  ·cases h
 ·cases h
theorem OD [Known][Dfr](hT:chk P T=true){o:Oper}{r:Rs}(h:Gs T n tm bx o=some r)
  (k:AL P ops rest ⟨n,r.1,r.2,fr,ee⟩ Q):AL P ops (o::rest) ⟨n,tm,bx,fr,ee⟩ Q:=by
 unfold Gs at h
 split at h
 ·split at h
  ·rename_i hx
   split at h
   ·rename_i h1 h2 h3 h4;cases h;exact NV hx h1 h2 h3 h4 k
   ·cases h
  ·cases h
 ·split at h
  ·rename_i hti
   split at h
   ·rename_i h2 h3 h4;cases h;exact G6 hT hti h2 h3 h4 k
   ·cases h
  ·cases h
 ·split at h
  ·rename_i hx hy hti
   split at h
   ·rename_i h1 h2 h3
    split at h
    ·rename_i h4 h5;cases h;exact Td hT hx hy h1 hti h2 h3 h4 h5 k
    ·cases h
   ·cases h
  ·cases h
 ·split at h
  ·rename_i h1 h2;cases h;exact Tx hT h1 h2 k
  ·cases h
 ·cases h
theorem KU [Known][Dfr](hT:chk P T=true):∀(l:List Oper) (tm:List (Nat × D)) (bx:List (List D)) (l':List Oper) (r:Rs),Tv T n l tm bx=(l',r)->AL P ops l' ⟨n,r.1,r.2,fr,ee⟩ Q->AL P ops l ⟨n,tm,bx,fr,ee⟩ Q
 | [],tm,bx,l',r,h,k=>by unfold Tv at h;cases h;exact k
 | o::l,tm,bx,l',r,h,k=>by
  unfold Tv at h
  split at h
  ·rename_i tm' bx' hs
   exact OD hT hs (KU hT l tm' bx' l' r h k)
  ·cases h;exact k
theorem Yv [Known][Dfr](hT:chk P T=true):∀(f:Nat) (p:Pos) (ks:List Fm) (tm:List (Nat × D)) (bx:List (List D)) (o:Pos × List Fm × Rs),goG T n f p ks tm bx=some o->J P n fr ee Q o->J P n fr ee Q (p,ks,tm,bx)
 | 0,p,ks,tm,bx,o,h,k=>by unfold goG at h;cases h;exact k
 | f+1,.aw c,ks,tm,bx,o,h,k=>by
  unfold goG at h
  rw[WA]
  show AW P c ⟨n,tm,bx,fr,ee⟩ (unK P Q ks)
  split at h
  ·exact NJ (by have:=Yv hT f _ _ _ _ _ h k;rwa [WA]at this)
  ·exact H0 (by have:=Yv hT f _ _ _ _ _ h k;rwa [WA]at this)
  ·exact NC (by have:=Yv hT f _ _ _ _ _ h k;rwa [WA]at this)
  ·exact HZ (by have:=Yv hT f _ _ _ _ _ h k;rwa [WA]at this)
  ·exact ND (by have:=Yv hT f _ _ _ _ _ h k;rwa [WA]at this)
  ·exact NE (by have:=Yv hT f _ _ _ _ _ h k;rwa [WA]at this)
  ·exact MT (by have:=Yv hT f _ _ _ _ _ h k;rwa [WA]at this)
  ·rename_i id ops
   have:=Yv hT f _ _ _ _ _ h k;rw[WA]at this
   exact GV (l:=ops.toList) (by simpa using this)
  ·exact G8 (by have:=Yv hT f _ _ _ _ _ h k;rwa [WA]at this)
  ·exact G9 (by have:=Yv hT f _ _ _ _ _ h k;rwa [WA]at this)
  ·cases h;rwa [WA]at k
 | f+1,.al ops l,ks,tm,bx,o,h,k=>by
  unfold goG at h
  rw[WA]
  show AL P ops l ⟨n,tm,bx,fr,ee⟩ (unK P Q ks)
  split at h
  ·rename_i tm' bx' hr
   exact KU hT _ _ _ _ _ hr (H1 (by have:=Yv hT f _ _ _ _ _ h k;rwa [WA]at this))
  ·rename_i o l' tm' bx' hr
   cases h;rw[WA]at k;exact KU hT _ _ _ _ _ hr k
 | f+1,.x x,ks,tm,bx,o,h,k=>by
  unfold goG at h
  rw[WA]
  show unK P Q ks x ⟨n,tm,bx,fr,ee⟩
  split at h
  ·cases h;rwa [WA]at k
  ·split at h
   ·split at h
    ·have:=Yv hT f _ _ _ _ _ h k;rwa [WA]at this
    ·have:=Yv hT f _ _ _ _ _ h k;rwa [WA]at this
   ·split at h
    ·split at h
     ·rename_i i _ id hb
      have:=Yv hT f _ _ _ _ _ h k;rw[WA]at this
      obtain rfl:=Nat.eq_of_beq_eq_true hb
      exact H5 this
     ·rename_i i _ id hb
      exact NK hb (by have:=Yv hT f _ _ _ _ _ h k;rwa [WA]at this)
    ·exact GX (by have:=Yv hT f _ _ _ _ _ h k;rwa [WA]at this)
   ·rename_i k0 _ _ _
    cases k0 with
    | seq y=>exact GY (by have:=Yv hT f _ _ _ _ _ h k;rwa [WA]at this)
    | blk id=>exact H6 (by have:=Yv hT f _ _ _ _ _ h k;rwa [WA]at this)
   ·rename_i k0 _ _
    cases k0 with
    | seq y=>exact Vo (by have:=Yv hT f _ _ _ _ _ h k;rwa [WA]at this)
    | blk id=>exact NL (by have:=Yv hT f _ _ _ _ _ h k;rwa [WA]at this)
   ·rename_i k0 _ _ _
    cases k0 with
    | seq y=>exact H4 (by have:=Yv hT f _ _ _ _ _ h k;rwa [WA]at this)
    | blk id=>exact NM (by have:=Yv hT f _ _ _ _ _ h k;rwa [WA]at this)
theorem Ze [Known][Dfr](hT:chk P T=true){c:Code}{o:Pos × List Fm × Rs}(h:goA T n c tm bx=some o)(k:J P n fr ee Q o):AW P c ⟨n,tm,bx,fr,ee⟩ Q:=by
 unfold goA at h
 split at h<;>first|cases h;done|skip
 all_goals exact Yv hT _ _ _ _ _ _ h k
theorem Zh [Known][Dfr](hT:chk P T=true){o:Pos × List Fm × Rs}(h:goL T n ops rest tm bx=some o)(k:J P n fr ee Q o):AL P ops rest ⟨n,tm,bx,fr,ee⟩ Q:=by
 unfold goL at h
 split at h
 ·cases h;exact H1 k
 ·split at h
  ·rename_i tm' bx' hs
   exact OD hT hs (Yv hT _ _ _ _ _ _ h k)
  ·cases h
theorem Zq [Known][Dfr](hT:chk P T=true){x:X}{ks:List Fm}{o:Pos × List Fm × Rs}(h:goK T n x ks tm bx=some o)(k:J P n fr ee Q o):unK P Q ks x ⟨n,tm,bx,fr,ee⟩:=by
 unfold goK at h
 split at h
 ·cases h
 ·have:=Yv hT _ _ _ _ _ _ h k;rwa [WA]at this
end
def La (T:Tab)(tm:List (Nat × D))(bx:List (List D)):ResultVar->Option D
 | .tmp t=>nf (look tm t)
 | .cell a t=>match look tm a,tl T t with
  | .ptr b o,some ti=>match bx[b]? with
   | some cs=>match ti.kd.agg with
    | false=>match cs[o]? with
     | some d=>nf d
     | none=>none
    | true=>match Nat.ble (o+ti.size) cs.length,nfs ((cs.drop o).take ti.size) with
     | true,some cs'=>some (.agg cs')
     | _,_=>none
   | none=>none
  | _,_=>none
def N1 (T:Tab)(tm:List (Nat × D))(bx:List (List D)):List ResultVar->Option (List D)
 | []=>some []
 | r::rs=>match La T tm bx r,N1 T tm bx rs with
  | some d,some ds=>some (d::ds)
  | _,_=>none
theorem Zc {P:Program}{T:Tab}(hT:chk P T=true){n:Nat}{ee:Nat × Nat}{tm:List (Nat × D)}{bx:List (List D)}{fr:List Fr}:∀ {rs:List ResultVar} {ds:List D},N1 T tm bx rs=some ds->ResL P ⟨n,tm,bx,fr,ee⟩ rs ds
 | [],ds,h=>by unfold N1 at h;cases h;exact .nil
 | r::rs,ds,h=>by
  unfold N1 at h
  split at h
  ·rename_i d ds' h1 h2
   cases h
   refine .cons _ _ _ _ ?_ (Zc hT h2)
   cases r with
   | tmp t=>
    unfold La at h1
    exact .tmp _ _ (YE h1)
   | cell a t=>
    simp only[La]at h1
    split at h1
    ·rename_i b o ti ha hti
     split at h1
     ·rename_i cs hb
      split at h1
      ·rename_i hag
       split at h1
       ·rename_i d' hd
        have hd':=YE h1
        subst hd'
        exact .cell1 a t b o cs _ ha (by rw[(ZR hT hti).tAgg,hag]) hb hd
       ·cases h1
      ·rename_i hag
       split at h1
       ·rename_i h3 h4
        cases h1
        exact .celln a t b o ti.size cs _ ha (by rw[(ZR hT hti).tAgg,hag]) (ZR hT hti).tSize hb h3 (by rw[Vn h4])
       ·cases h1
     ·cases h1
    ·cases h1
  ·cases h
end Go.Av
end
section
open Go.RowKit Go.Pl Go.Av
namespace Go.Proofs.YtmljabhmajehnaaGreatDoor
def tt:Tab:=[(1,Ti.mk Kd.func 1 8 [ZK.f]),
 (2,Ti.mk (Kd.int IntKind.i64) 1 8 [ZK.i IntKind.i64]),
 (3,Ti.mk (Kd.int IntKind.i64) 1 8 [ZK.i IntKind.i64]),
 (4,Ti.mk Kd.bool 1 1 [ZK.b]),
 (5,Ti.mk (Kd.int IntKind.u8) 1 1 [ZK.i IntKind.u8]),
 (6,Ti.mk (Kd.int IntKind.u8) 1 1 [ZK.i IntKind.u8]),
 (7,Ti.mk (Kd.struct [Av.Fd.mk 0 1 Bool.false 2,Av.Fd.mk 1 1 Bool.false 3,Av.Fd.mk 2 1 Bool.false 4,Av.Fd.mk 3 1 Bool.false 6]) 4 24 [ZK.i IntKind.i64,ZK.i IntKind.i64,ZK.b,ZK.i IntKind.u8]),
 (8,Ti.mk (Kd.struct [Av.Fd.mk 0 1 Bool.false 2,Av.Fd.mk 1 1 Bool.false 3,Av.Fd.mk 2 1 Bool.false 4,Av.Fd.mk 3 1 Bool.false 6]) 4 24 [ZK.i IntKind.i64,ZK.i IntKind.i64,ZK.b,ZK.i IntKind.u8]),
 (9,Ti.mk Kd.str 1 16 [ZK.s]),
 (10,Ti.mk Kd.str 1 16 [ZK.s]),
 (11,Ti.mk Kd.str 1 16 [ZK.s]),
 (12,Ti.mk (Kd.int IntKind.u64) 1 8 [ZK.i IntKind.u64]),
 (13,Ti.mk (Kd.struct [Av.Fd.mk 0 1 Bool.false 9,Av.Fd.mk 1 1 Bool.false 12]) 2 24 [ZK.s,ZK.i IntKind.u64]),
 (14,Ti.mk (Kd.struct [Av.Fd.mk 0 1 Bool.false 9,Av.Fd.mk 1 1 Bool.false 12]) 2 24 [ZK.s,ZK.i IntKind.u64]),
 (15,Ti.mk (Kd.ptr 286) 1 8 [ZK.p]),
 (16,Ti.mk (Kd.ptr 289) 1 8 [ZK.p]),
 (17,Ti.mk (Kd.ptr 298) 1 8 [ZK.p]),
 (18,Ti.mk (Kd.struct [Av.Fd.mk 0 1 Bool.false 17]) 1 8 [ZK.p]),
 (19,Ti.mk (Kd.struct [Av.Fd.mk 0 1 Bool.false 17]) 1 8 [ZK.p]),
 (20,Ti.mk Kd.iface 1 16 [ZK.n]),
 (21,Ti.mk (Kd.int IntKind.i32) 1 4 [ZK.i IntKind.i32]),
 (22,Ti.mk (Kd.int IntKind.u64) 1 8 [ZK.i IntKind.u64]),
 (23,Ti.mk (Kd.struct [Av.Fd.mk 0 1 Bool.false 4,Av.Fd.mk 1 1 Bool.false 22,Av.Fd.mk 2 1 Bool.false 22,Av.Fd.mk 3 1 Bool.false 9,Av.Fd.mk 4 1 Bool.false 9]) 5 56 [ZK.b,ZK.i IntKind.u64,ZK.i IntKind.u64,ZK.s,ZK.s]),
 (24,Ti.mk (Kd.struct [Av.Fd.mk 0 1 Bool.false 4,Av.Fd.mk 1 1 Bool.false 22,Av.Fd.mk 2 1 Bool.false 22,Av.Fd.mk 3 1 Bool.false 9,Av.Fd.mk 4 1 Bool.false 9]) 5 56 [ZK.b,ZK.i IntKind.u64,ZK.i IntKind.u64,ZK.s,ZK.s]),
 (25,Ti.mk (Kd.struct [Av.Fd.mk 0 5 Bool.true 24,Av.Fd.mk 5 1 Bool.false 22,Av.Fd.mk 6 1 Bool.false 22]) 7 72 [ZK.b,ZK.i IntKind.u64,ZK.i IntKind.u64,ZK.s,ZK.s,ZK.i IntKind.u64,ZK.i IntKind.u64]),
 (26,Ti.mk (Kd.struct [Av.Fd.mk 0 5 Bool.true 24,Av.Fd.mk 5 1 Bool.false 22,Av.Fd.mk 6 1 Bool.false 22]) 7 72 [ZK.b,ZK.i IntKind.u64,ZK.i IntKind.u64,ZK.s,ZK.s,ZK.i IntKind.u64,ZK.i IntKind.u64]),
 (27,Ti.mk (Kd.struct [Av.Fd.mk 0 1 Bool.false 22,Av.Fd.mk 1 1 Bool.false 3,Av.Fd.mk 2 5 Bool.true 24,Av.Fd.mk 7 5 Bool.true 24,Av.Fd.mk 12 7 Bool.true 26,Av.Fd.mk 19 1 Bool.false 22]) 20 208 [ZK.i IntKind.u64,ZK.i IntKind.i64,ZK.b,ZK.i IntKind.u64,ZK.i IntKind.u64,ZK.s,ZK.s,ZK.b,ZK.i IntKind.u64,ZK.i IntKind.u64,ZK.s,ZK.s,ZK.b,ZK.i IntKind.u64,ZK.i IntKind.u64,ZK.s,ZK.s,ZK.i IntKind.u64,ZK.i IntKind.u64,ZK.i IntKind.u64]),
 (28,Ti.mk (Kd.struct [Av.Fd.mk 0 1 Bool.false 22,Av.Fd.mk 1 1 Bool.false 3,Av.Fd.mk 2 5 Bool.true 24,Av.Fd.mk 7 5 Bool.true 24,Av.Fd.mk 12 7 Bool.true 26,Av.Fd.mk 19 1 Bool.false 22]) 20 208 [ZK.i IntKind.u64,ZK.i IntKind.i64,ZK.b,ZK.i IntKind.u64,ZK.i IntKind.u64,ZK.s,ZK.s,ZK.b,ZK.i IntKind.u64,ZK.i IntKind.u64,ZK.s,ZK.s,ZK.b,ZK.i IntKind.u64,ZK.i IntKind.u64,ZK.s,ZK.s,ZK.i IntKind.u64,ZK.i IntKind.u64,ZK.i IntKind.u64]),
 (29,Ti.mk (Kd.slice 40) 1 24 [ZK.l]),
 (30,Ti.mk (Kd.struct [Av.Fd.mk 0 20 Bool.true 28,Av.Fd.mk 20 1 Bool.false 29]) 21 232 [ZK.i IntKind.u64,ZK.i IntKind.i64,ZK.b,ZK.i IntKind.u64,ZK.i IntKind.u64,ZK.s,ZK.s,ZK.b,ZK.i IntKind.u64,ZK.i IntKind.u64,ZK.s,ZK.s,ZK.b,ZK.i IntKind.u64,ZK.i IntKind.u64,ZK.s,ZK.s,ZK.i IntKind.u64,ZK.i IntKind.u64,ZK.i IntKind.u64,ZK.l]),
 (31,Ti.mk (Kd.struct [Av.Fd.mk 0 20 Bool.true 28,Av.Fd.mk 20 1 Bool.false 29]) 21 232 [ZK.i IntKind.u64,ZK.i IntKind.i64,ZK.b,ZK.i IntKind.u64,ZK.i IntKind.u64,ZK.s,ZK.s,ZK.b,ZK.i IntKind.u64,ZK.i IntKind.u64,ZK.s,ZK.s,ZK.b,ZK.i IntKind.u64,ZK.i IntKind.u64,ZK.s,ZK.s,ZK.i IntKind.u64,ZK.i IntKind.u64,ZK.i IntKind.u64,ZK.l]),
 (32,Ti.mk (Kd.slice 5) 1 24 [ZK.l]),
 (33,Ti.mk Kd.func 1 8 [ZK.f]),
 (34,Ti.mk Kd.func 1 8 [ZK.f]),
 (35,Ti.mk Kd.func 1 8 [ZK.f]),
 (36,Ti.mk (Kd.int IntKind.i64) 1 8 [ZK.i IntKind.i64]),
 (38,Ti.mk Kd.func 1 8 [ZK.f]),
 (39,Ti.mk (Kd.struct [Av.Fd.mk 0 1 Bool.false 22,Av.Fd.mk 1 1 Bool.false 22,Av.Fd.mk 2 1 Bool.false 22,Av.Fd.mk 3 1 Bool.false 3,Av.Fd.mk 4 1 Bool.false 32]) 5 56 [ZK.i IntKind.u64,ZK.i IntKind.u64,ZK.i IntKind.u64,ZK.i IntKind.i64,ZK.l]),
 (40,Ti.mk (Kd.struct [Av.Fd.mk 0 1 Bool.false 22,Av.Fd.mk 1 1 Bool.false 22,Av.Fd.mk 2 1 Bool.false 22,Av.Fd.mk 3 1 Bool.false 3,Av.Fd.mk 4 1 Bool.false 32]) 5 56 [ZK.i IntKind.u64,ZK.i IntKind.u64,ZK.i IntKind.u64,ZK.i IntKind.i64,ZK.l]),
 (42,Ti.mk Kd.func 1 8 [ZK.f]),
 (44,Ti.mk Kd.func 1 8 [ZK.f]),
 (46,Ti.mk Kd.func 1 8 [ZK.f]),
 (48,Ti.mk Kd.func 1 8 [ZK.f]),
 (49,Ti.mk Kd.func 1 8 [ZK.f]),
 (51,Ti.mk Kd.func 1 8 [ZK.f]),
 (52,Ti.mk Kd.func 1 8 [ZK.f]),
 (53,Ti.mk (Kd.struct [Av.Fd.mk 0 1 Bool.false 4,Av.Fd.mk 1 1 Bool.false 4,Av.Fd.mk 2 1 Bool.false 4,Av.Fd.mk 3 1 Bool.false 22,Av.Fd.mk 4 1 Bool.false 22,Av.Fd.mk 5 7 Bool.true 26]) 12 96 [ZK.b,ZK.b,ZK.b,ZK.i IntKind.u64,ZK.i IntKind.u64,ZK.b,ZK.i IntKind.u64,ZK.i IntKind.u64,ZK.s,ZK.s,ZK.i IntKind.u64,ZK.i IntKind.u64]),
 (54,Ti.mk (Kd.struct [Av.Fd.mk 0 1 Bool.false 4,Av.Fd.mk 1 1 Bool.false 4,Av.Fd.mk 2 1 Bool.false 4,Av.Fd.mk 3 1 Bool.false 22,Av.Fd.mk 4 1 Bool.false 22,Av.Fd.mk 5 7 Bool.true 26]) 12 96 [ZK.b,ZK.b,ZK.b,ZK.i IntKind.u64,ZK.i IntKind.u64,ZK.b,ZK.i IntKind.u64,ZK.i IntKind.u64,ZK.s,ZK.s,ZK.i IntKind.u64,ZK.i IntKind.u64]),
 (55,Ti.mk Kd.func 1 8 [ZK.f]),
 (56,Ti.mk (Kd.struct [Av.Fd.mk 0 1 Bool.false 4,Av.Fd.mk 1 1 Bool.false 22,Av.Fd.mk 2 1 Bool.false 22,Av.Fd.mk 3 1 Bool.false 9,Av.Fd.mk 4 1 Bool.false 9]) 5 56 [ZK.b,ZK.i IntKind.u64,ZK.i IntKind.u64,ZK.s,ZK.s]),
 (57,Ti.mk (Kd.struct [Av.Fd.mk 0 5 Bool.true 56,Av.Fd.mk 5 1 Bool.false 22,Av.Fd.mk 6 1 Bool.false 22]) 7 72 [ZK.b,ZK.i IntKind.u64,ZK.i IntKind.u64,ZK.s,ZK.s,ZK.i IntKind.u64,ZK.i IntKind.u64]),
 (58,Ti.mk (Kd.struct [Av.Fd.mk 0 5 Bool.true 56,Av.Fd.mk 5 1 Bool.false 22,Av.Fd.mk 6 1 Bool.false 22]) 7 72 [ZK.b,ZK.i IntKind.u64,ZK.i IntKind.u64,ZK.s,ZK.s,ZK.i IntKind.u64,ZK.i IntKind.u64]),
 (59,Ti.mk (Kd.struct [Av.Fd.mk 0 1 Bool.false 4,Av.Fd.mk 1 1 Bool.false 4,Av.Fd.mk 2 1 Bool.false 4,Av.Fd.mk 3 1 Bool.false 22,Av.Fd.mk 4 1 Bool.false 22,Av.Fd.mk 5 7 Bool.true 58]) 12 96 [ZK.b,ZK.b,ZK.b,ZK.i IntKind.u64,ZK.i IntKind.u64,ZK.b,ZK.i IntKind.u64,ZK.i IntKind.u64,ZK.s,ZK.s,ZK.i IntKind.u64,ZK.i IntKind.u64]),
 (60,Ti.mk (Kd.struct [Av.Fd.mk 0 1 Bool.false 4,Av.Fd.mk 1 1 Bool.false 4,Av.Fd.mk 2 1 Bool.false 4,Av.Fd.mk 3 1 Bool.false 22,Av.Fd.mk 4 1 Bool.false 22,Av.Fd.mk 5 7 Bool.true 58]) 12 96 [ZK.b,ZK.b,ZK.b,ZK.i IntKind.u64,ZK.i IntKind.u64,ZK.b,ZK.i IntKind.u64,ZK.i IntKind.u64,ZK.s,ZK.s,ZK.i IntKind.u64,ZK.i IntKind.u64]),
 (61,Ti.mk Kd.func 1 8 [ZK.f]),
 (62,Ti.mk Kd.func 1 8 [ZK.f]),
 (64,Ti.mk Kd.func 1 8 [ZK.f]),
 (66,Ti.mk Kd.func 1 8 [ZK.f]),
 (67,Ti.mk Kd.func 1 8 [ZK.f]),
 (68,Ti.mk Kd.func 1 8 [ZK.f]),
 (69,Ti.mk Kd.func 1 8 [ZK.f]),
 (70,Ti.mk Kd.func 1 8 [ZK.f]),
 (71,Ti.mk Kd.func 1 8 [ZK.f]),
 (72,Ti.mk Kd.func 1 8 [ZK.f]),
 (73,Ti.mk (Kd.struct [Av.Fd.mk 0 1 Bool.false 22,Av.Fd.mk 1 1 Bool.false 3,Av.Fd.mk 2 5 Bool.true 56,Av.Fd.mk 7 5 Bool.true 56,Av.Fd.mk 12 7 Bool.true 58,Av.Fd.mk 19 1 Bool.false 22]) 20 208 [ZK.i IntKind.u64,ZK.i IntKind.i64,ZK.b,ZK.i IntKind.u64,ZK.i IntKind.u64,ZK.s,ZK.s,ZK.b,ZK.i IntKind.u64,ZK.i IntKind.u64,ZK.s,ZK.s,ZK.b,ZK.i IntKind.u64,ZK.i IntKind.u64,ZK.s,ZK.s,ZK.i IntKind.u64,ZK.i IntKind.u64,ZK.i IntKind.u64]),
 (74,Ti.mk (Kd.struct [Av.Fd.mk 0 1 Bool.false 22,Av.Fd.mk 1 1 Bool.false 3,Av.Fd.mk 2 5 Bool.true 56,Av.Fd.mk 7 5 Bool.true 56,Av.Fd.mk 12 7 Bool.true 58,Av.Fd.mk 19 1 Bool.false 22]) 20 208 [ZK.i IntKind.u64,ZK.i IntKind.i64,ZK.b,ZK.i IntKind.u64,ZK.i IntKind.u64,ZK.s,ZK.s,ZK.b,ZK.i IntKind.u64,ZK.i IntKind.u64,ZK.s,ZK.s,ZK.b,ZK.i IntKind.u64,ZK.i IntKind.u64,ZK.s,ZK.s,ZK.i IntKind.u64,ZK.i IntKind.u64,ZK.i IntKind.u64]),
 (75,Ti.mk (Kd.slice 88) 1 24 [ZK.l]),
 (76,Ti.mk (Kd.struct [Av.Fd.mk 0 20 Bool.true 74,Av.Fd.mk 20 1 Bool.false 75]) 21 232 [ZK.i IntKind.u64,ZK.i IntKind.i64,ZK.b,ZK.i IntKind.u64,ZK.i IntKind.u64,ZK.s,ZK.s,ZK.b,ZK.i IntKind.u64,ZK.i IntKind.u64,ZK.s,ZK.s,ZK.b,ZK.i IntKind.u64,ZK.i IntKind.u64,ZK.s,ZK.s,ZK.i IntKind.u64,ZK.i IntKind.u64,ZK.i IntKind.u64,ZK.l]),
 (77,Ti.mk (Kd.struct [Av.Fd.mk 0 20 Bool.true 74,Av.Fd.mk 20 1 Bool.false 75]) 21 232 [ZK.i IntKind.u64,ZK.i IntKind.i64,ZK.b,ZK.i IntKind.u64,ZK.i IntKind.u64,ZK.s,ZK.s,ZK.b,ZK.i IntKind.u64,ZK.i IntKind.u64,ZK.s,ZK.s,ZK.b,ZK.i IntKind.u64,ZK.i IntKind.u64,ZK.s,ZK.s,ZK.i IntKind.u64,ZK.i IntKind.u64,ZK.i IntKind.u64,ZK.l]),
 (79,Ti.mk Kd.func 1 8 [ZK.f]),
 (80,Ti.mk Kd.func 1 8 [ZK.f]),
 (81,Ti.mk Kd.func 1 8 [ZK.f]),
 (82,Ti.mk Kd.func 1 8 [ZK.f]),
 (83,Ti.mk Kd.func 1 8 [ZK.f]),
 (85,Ti.mk Kd.func 1 8 [ZK.f]),
 (86,Ti.mk Kd.func 1 8 [ZK.f]),
 (87,Ti.mk Kd.func 1 8 [ZK.f]),
 (88,Ti.mk (Kd.struct [Av.Fd.mk 0 1 Bool.false 22,Av.Fd.mk 1 1 Bool.false 22,Av.Fd.mk 2 1 Bool.false 22,Av.Fd.mk 3 1 Bool.false 3,Av.Fd.mk 4 1 Bool.false 32]) 5 56 [ZK.i IntKind.u64,ZK.i IntKind.u64,ZK.i IntKind.u64,ZK.i IntKind.i64,ZK.l]),
 (89,Ti.mk Kd.func 1 8 [ZK.f]),
 (90,Ti.mk Kd.func 1 8 [ZK.f]),
 (91,Ti.mk Kd.func 1 8 [ZK.f]),
 (92,Ti.mk Kd.func 1 8 [ZK.f]),
 (94,Ti.mk Kd.func 1 8 [ZK.f]),
 (95,Ti.mk Kd.func 1 8 [ZK.f]),
 (96,Ti.mk Kd.func 1 8 [ZK.f]),
 (97,Ti.mk Kd.func 1 8 [ZK.f]),
 (99,Ti.mk Kd.func 1 8 [ZK.f]),
 (100,Ti.mk Kd.func 1 8 [ZK.f]),
 (101,Ti.mk Kd.func 1 8 [ZK.f]),
 (102,Ti.mk Kd.func 1 8 [ZK.f]),
 (104,Ti.mk Kd.func 1 8 [ZK.f]),
 (105,Ti.mk Kd.func 1 8 [ZK.f]),
 (106,Ti.mk Kd.func 1 8 [ZK.f]),
 (108,Ti.mk Kd.func 1 8 [ZK.f]),
 (109,Ti.mk Kd.func 1 8 [ZK.f]),
 (110,Ti.mk Kd.func 1 8 [ZK.f]),
 (111,Ti.mk Kd.func 1 8 [ZK.f]),
 (112,Ti.mk Kd.func 1 8 [ZK.f]),
 (113,Ti.mk (Kd.slice 115) 1 24 [ZK.l]),
 (114,Ti.mk (Kd.struct [Av.Fd.mk 0 1 Bool.false 3,Av.Fd.mk 1 1 Bool.false 22,Av.Fd.mk 2 1 Bool.false 32,Av.Fd.mk 3 1 Bool.false 113]) 4 64 [ZK.i IntKind.i64,ZK.i IntKind.u64,ZK.l,ZK.l]),
 (115,Ti.mk (Kd.struct [Av.Fd.mk 0 1 Bool.false 3,Av.Fd.mk 1 1 Bool.false 22,Av.Fd.mk 2 1 Bool.false 32,Av.Fd.mk 3 1 Bool.false 113]) 4 64 [ZK.i IntKind.i64,ZK.i IntKind.u64,ZK.l,ZK.l]),
 (117,Ti.mk Kd.func 1 8 [ZK.f]),
 (119,Ti.mk Kd.func 1 8 [ZK.f]),
 (120,Ti.mk Kd.func 1 8 [ZK.f]),
 (122,Ti.mk Kd.func 1 8 [ZK.f]),
 (124,Ti.mk Kd.func 1 8 [ZK.f]),
 (125,Ti.mk Kd.func 1 8 [ZK.f]),
 (126,Ti.mk Kd.func 1 8 [ZK.f]),
 (127,Ti.mk Kd.func 1 8 [ZK.f]),
 (128,Ti.mk Kd.func 1 8 [ZK.f]),
 (130,Ti.mk Kd.func 1 8 [ZK.f]),
 (131,Ti.mk Kd.func 1 8 [ZK.f]),
 (132,Ti.mk (Kd.slice 134) 1 24 [ZK.l]),
 (133,Ti.mk (Kd.struct [Av.Fd.mk 0 1 Bool.false 3,Av.Fd.mk 1 1 Bool.false 22,Av.Fd.mk 2 1 Bool.false 32,Av.Fd.mk 3 1 Bool.false 132]) 4 64 [ZK.i IntKind.i64,ZK.i IntKind.u64,ZK.l,ZK.l]),
 (134,Ti.mk (Kd.struct [Av.Fd.mk 0 1 Bool.false 3,Av.Fd.mk 1 1 Bool.false 22,Av.Fd.mk 2 1 Bool.false 32,Av.Fd.mk 3 1 Bool.false 132]) 4 64 [ZK.i IntKind.i64,ZK.i IntKind.u64,ZK.l,ZK.l]),
 (136,Ti.mk Kd.func 1 8 [ZK.f]),
 (138,Ti.mk Kd.func 1 8 [ZK.f]),
 (139,Ti.mk Kd.func 1 8 [ZK.f]),
 (140,Ti.mk Kd.func 1 8 [ZK.f]),
 (141,Ti.mk Kd.func 1 8 [ZK.f]),
 (142,Ti.mk Kd.func 1 8 [ZK.f]),
 (143,Ti.mk Kd.func 1 8 [ZK.f]),
 (144,Ti.mk Kd.func 1 8 [ZK.f]),
 (145,Ti.mk Kd.func 1 8 [ZK.f]),
 (146,Ti.mk Kd.func 1 8 [ZK.f]),
 (147,Ti.mk Kd.func 1 8 [ZK.f]),
 (148,Ti.mk Kd.func 1 8 [ZK.f]),
 (149,Ti.mk Kd.func 1 8 [ZK.f]),
 (150,Ti.mk Kd.func 1 8 [ZK.f]),
 (151,Ti.mk Kd.func 1 8 [ZK.f]),
 (152,Ti.mk Kd.func 1 8 [ZK.f]),
 (153,Ti.mk Kd.func 1 8 [ZK.f]),
 (154,Ti.mk Kd.func 1 8 [ZK.f]),
 (155,Ti.mk Kd.func 1 8 [ZK.f]),
 (156,Ti.mk Kd.func 1 8 [ZK.f]),
 (158,Ti.mk Kd.func 1 8 [ZK.f]),
 (159,Ti.mk Kd.func 1 8 [ZK.f]),
 (161,Ti.mk Kd.func 1 8 [ZK.f]),
 (162,Ti.mk Kd.func 1 8 [ZK.f]),
 (163,Ti.mk Kd.func 1 8 [ZK.f]),
 (164,Ti.mk Kd.func 1 8 [ZK.f]),
 (165,Ti.mk Kd.func 1 8 [ZK.f]),
 (166,Ti.mk Kd.func 1 8 [ZK.f]),
 (167,Ti.mk Kd.func 1 8 [ZK.f]),
 (168,Ti.mk Kd.func 1 8 [ZK.f]),
 (169,Ti.mk Kd.func 1 8 [ZK.f]),
 (170,Ti.mk Kd.func 1 8 [ZK.f]),
 (171,Ti.mk Kd.func 1 8 [ZK.f]),
 (172,Ti.mk Kd.func 1 8 [ZK.f]),
 (173,Ti.mk Kd.func 1 8 [ZK.f]),
 (174,Ti.mk (Kd.struct [Av.Fd.mk 0 1 Bool.false 36]) 1 8 [ZK.i IntKind.i64]),
 (175,Ti.mk (Kd.struct [Av.Fd.mk 0 1 Bool.false 36]) 1 8 [ZK.i IntKind.i64]),
 (177,Ti.mk (Kd.ptr 179) 1 8 [ZK.p]),
 (178,Ti.mk (Kd.struct [Av.Fd.mk 0 1 Bool.false 32,Av.Fd.mk 1 1 Bool.false 3,Av.Fd.mk 2 1 Bool.false 3]) 3 40 [ZK.l,ZK.i IntKind.i64,ZK.i IntKind.i64]),
 (179,Ti.mk (Kd.struct [Av.Fd.mk 0 1 Bool.false 32,Av.Fd.mk 1 1 Bool.false 3,Av.Fd.mk 2 1 Bool.false 3]) 3 40 [ZK.l,ZK.i IntKind.i64,ZK.i IntKind.i64]),
 (180,Ti.mk Kd.func 1 8 [ZK.f]),
 (182,Ti.mk Kd.func 1 8 [ZK.f]),
 (183,Ti.mk Kd.func 1 8 [ZK.f]),
 (184,Ti.mk Kd.func 1 8 [ZK.f]),
 (185,Ti.mk Kd.func 1 8 [ZK.f]),
 (186,Ti.mk Kd.func 1 8 [ZK.f]),
 (187,Ti.mk (Kd.slice 4) 1 24 [ZK.l]),
 (189,Ti.mk Kd.func 1 8 [ZK.f]),
 (191,Ti.mk Kd.func 1 8 [ZK.f]),
 (192,Ti.mk Kd.func 1 8 [ZK.f]),
 (193,Ti.mk Kd.func 1 8 [ZK.f]),
 (194,Ti.mk Kd.func 1 8 [ZK.f]),
 (195,Ti.mk (Kd.struct [Av.Fd.mk 0 1 Bool.false 3,Av.Fd.mk 1 1 Bool.false 22,Av.Fd.mk 2 1 Bool.false 4]) 3 24 [ZK.i IntKind.i64,ZK.i IntKind.u64,ZK.b]),
 (196,Ti.mk (Kd.struct [Av.Fd.mk 0 1 Bool.false 3,Av.Fd.mk 1 1 Bool.false 22,Av.Fd.mk 2 1 Bool.false 4]) 3 24 [ZK.i IntKind.i64,ZK.i IntKind.u64,ZK.b]),
 (197,Ti.mk Kd.func 1 8 [ZK.f]),
 (198,Ti.mk (Kd.slice 22) 1 24 [ZK.l]),
 (199,Ti.mk Kd.func 1 8 [ZK.f]),
 (200,Ti.mk Kd.func 1 8 [ZK.f]),
 (202,Ti.mk Kd.func 1 8 [ZK.f]),
 (203,Ti.mk Kd.func 1 8 [ZK.f]),
 (204,Ti.mk Kd.func 1 8 [ZK.f]),
 (205,Ti.mk Kd.func 1 8 [ZK.f]),
 (206,Ti.mk Kd.func 1 8 [ZK.f]),
 (207,Ti.mk Kd.func 1 8 [ZK.f]),
 (208,Ti.mk Kd.func 1 8 [ZK.f]),
 (209,Ti.mk Kd.func 1 8 [ZK.f]),
 (210,Ti.mk Kd.func 1 8 [ZK.f]),
 (211,Ti.mk Kd.func 1 8 [ZK.f]),
 (212,Ti.mk Kd.func 1 8 [ZK.f]),
 (213,Ti.mk Kd.func 1 8 [ZK.f]),
 (214,Ti.mk (Kd.struct [Av.Fd.mk 0 1 Bool.false 3,Av.Fd.mk 1 1 Bool.false 22,Av.Fd.mk 2 1 Bool.false 4]) 3 24 [ZK.i IntKind.i64,ZK.i IntKind.u64,ZK.b]),
 (215,Ti.mk Kd.func 1 8 [ZK.f]),
 (216,Ti.mk Kd.func 1 8 [ZK.f]),
 (217,Ti.mk Kd.func 1 8 [ZK.f]),
 (218,Ti.mk Kd.func 1 8 [ZK.f]),
 (219,Ti.mk Kd.func 1 8 [ZK.f]),
 (220,Ti.mk Kd.func 1 8 [ZK.f]),
 (221,Ti.mk Kd.func 1 8 [ZK.f]),
 (222,Ti.mk Kd.func 1 8 [ZK.f]),
 (224,Ti.mk Kd.func 1 8 [ZK.f]),
 (225,Ti.mk Kd.func 1 8 [ZK.f]),
 (226,Ti.mk Kd.func 1 8 [ZK.f]),
 (228,Ti.mk Kd.func 1 8 [ZK.f]),
 (229,Ti.mk Kd.func 1 8 [ZK.f]),
 (230,Ti.mk Kd.func 1 8 [ZK.f]),
 (231,Ti.mk Kd.func 1 8 [ZK.f]),
 (232,Ti.mk Kd.func 1 8 [ZK.f]),
 (233,Ti.mk Kd.func 1 8 [ZK.f]),
 (234,Ti.mk (Kd.int IntKind.u32) 1 4 [ZK.i IntKind.u32]),
 (235,Ti.mk (Kd.int IntKind.u16) 1 2 [ZK.i IntKind.u16]),
 (236,Ti.mk Kd.func 1 8 [ZK.f]),
 (237,Ti.mk Kd.func 1 8 [ZK.f]),
 (238,Ti.mk Kd.func 1 8 [ZK.f]),
 (239,Ti.mk Kd.func 1 8 [ZK.f]),
 (241,Ti.mk Kd.func 1 8 [ZK.f]),
 (242,Ti.mk Kd.func 1 8 [ZK.f]),
 (243,Ti.mk Kd.func 1 8 [ZK.f]),
 (244,Ti.mk (Kd.int IntKind.u64) 1 8 [ZK.i IntKind.u64]),
 (246,Ti.mk Kd.func 1 8 [ZK.f]),
 (248,Ti.mk Kd.func 1 8 [ZK.f]),
 (249,Ti.mk Kd.func 1 8 [ZK.f]),
 (250,Ti.mk Kd.func 1 8 [ZK.f]),
 (251,Ti.mk Kd.func 1 8 [ZK.f]),
 (253,Ti.mk Kd.func 1 8 [ZK.f]),
 (254,Ti.mk Kd.func 1 8 [ZK.f]),
 (255,Ti.mk Kd.func 1 8 [ZK.f]),
 (257,Ti.mk Kd.func 1 8 [ZK.f]),
 (258,Ti.mk Kd.func 1 8 [ZK.f]),
 (259,Ti.mk Kd.func 1 8 [ZK.f]),
 (260,Ti.mk Kd.func 1 8 [ZK.f]),
 (261,Ti.mk Kd.func 1 8 [ZK.f]),
 (262,Ti.mk Kd.func 1 8 [ZK.f]),
 (263,Ti.mk Kd.func 1 8 [ZK.f]),
 (264,Ti.mk Kd.func 1 8 [ZK.f]),
 (265,Ti.mk Kd.func 1 8 [ZK.f]),
 (266,Ti.mk (Kd.slice 3) 1 24 [ZK.l]),
 (268,Ti.mk Kd.func 1 8 [ZK.f]),
 (269,Ti.mk Kd.func 1 8 [ZK.f]),
 (270,Ti.mk Kd.func 1 8 [ZK.f]),
 (271,Ti.mk (Kd.array 256 5) 256 256 [ZK.i IntKind.u8,ZK.i IntKind.u8,ZK.i IntKind.u8,ZK.i IntKind.u8,ZK.i IntKind.u8,ZK.i IntKind.u8,ZK.i IntKind.u8,ZK.i IntKind.u8,ZK.i IntKind.u8,ZK.i IntKind.u8,ZK.i IntKind.u8,ZK.i IntKind.u8,ZK.i IntKind.u8,ZK.i IntKind.u8,ZK.i IntKind.u8,ZK.i IntKind.u8,ZK.i IntKind.u8,ZK.i IntKind.u8,ZK.i IntKind.u8,ZK.i IntKind.u8,ZK.i IntKind.u8,ZK.i IntKind.u8,ZK.i IntKind.u8,ZK.i IntKind.u8,ZK.i IntKind.u8,ZK.i IntKind.u8,ZK.i IntKind.u8,ZK.i IntKind.u8,ZK.i IntKind.u8,ZK.i IntKind.u8,ZK.i IntKind.u8,ZK.i IntKind.u8,ZK.i IntKind.u8,ZK.i IntKind.u8,ZK.i IntKind.u8,ZK.i IntKind.u8,ZK.i IntKind.u8,ZK.i IntKind.u8,ZK.i IntKind.u8,ZK.i IntKind.u8,ZK.i IntKind.u8,ZK.i IntKind.u8,ZK.i IntKind.u8,ZK.i IntKind.u8,ZK.i IntKind.u8,ZK.i IntKind.u8,ZK.i IntKind.u8,ZK.i IntKind.u8,ZK.i IntKind.u8,ZK.i IntKind.u8,ZK.i IntKind.u8,ZK.i IntKind.u8,ZK.i IntKind.u8,ZK.i IntKind.u8,ZK.i IntKind.u8,ZK.i IntKind.u8,ZK.i IntKind.u8,ZK.i IntKind.u8,ZK.i IntKind.u8,ZK.i IntKind.u8,ZK.i IntKind.u8,ZK.i IntKind.u8,ZK.i IntKind.u8,ZK.i IntKind.u8,ZK.i IntKind.u8,ZK.i IntKind.u8,ZK.i IntKind.u8,ZK.i IntKind.u8,ZK.i IntKind.u8,ZK.i IntKind.u8,ZK.i IntKind.u8,ZK.i IntKind.u8,ZK.i IntKind.u8,ZK.i IntKind.u8,ZK.i IntKind.u8,ZK.i IntKind.u8,ZK.i IntKind.u8,ZK.i IntKind.u8,ZK.i IntKind.u8,ZK.i IntKind.u8,ZK.i IntKind.u8,ZK.i IntKind.u8,ZK.i IntKind.u8,ZK.i IntKind.u8,ZK.i IntKind.u8,ZK.i IntKind.u8,ZK.i IntKind.u8,ZK.i IntKind.u8,ZK.i IntKind.u8,ZK.i IntKind.u8,ZK.i IntKind.u8,ZK.i IntKind.u8,ZK.i IntKind.u8,ZK.i IntKind.u8,ZK.i IntKind.u8,ZK.i IntKind.u8,ZK.i IntKind.u8,ZK.i IntKind.u8,ZK.i IntKind.u8,ZK.i IntKind.u8,ZK.i IntKind.u8,ZK.i IntKind.u8,ZK.i IntKind.u8,ZK.i IntKind.u8,ZK.i IntKind.u8,ZK.i IntKind.u8,ZK.i IntKind.u8,ZK.i IntKind.u8,ZK.i IntKind.u8,ZK.i IntKind.u8,ZK.i IntKind.u8,ZK.i IntKind.u8,ZK.i IntKind.u8,ZK.i IntKind.u8,ZK.i IntKind.u8,ZK.i IntKind.u8,ZK.i IntKind.u8,ZK.i IntKind.u8,ZK.i IntKind.u8,ZK.i IntKind.u8,ZK.i IntKind.u8,ZK.i IntKind.u8,ZK.i IntKind.u8,ZK.i IntKind.u8,ZK.i IntKind.u8,ZK.i IntKind.u8,ZK.i IntKind.u8,ZK.i IntKind.u8,ZK.i IntKind.u8,ZK.i IntKind.u8,ZK.i IntKind.u8,ZK.i IntKind.u8,ZK.i IntKind.u8,ZK.i IntKind.u8,ZK.i IntKind.u8,ZK.i IntKind.u8,ZK.i IntKind.u8,ZK.i IntKind.u8,ZK.i IntKind.u8,ZK.i IntKind.u8,ZK.i IntKind.u8,ZK.i IntKind.u8,ZK.i IntKind.u8,ZK.i IntKind.u8,ZK.i IntKind.u8,ZK.i IntKind.u8,ZK.i IntKind.u8,ZK.i IntKind.u8,ZK.i IntKind.u8,ZK.i IntKind.u8,ZK.i IntKind.u8,ZK.i IntKind.u8,ZK.i IntKind.u8,ZK.i IntKind.u8,ZK.i IntKind.u8,ZK.i IntKind.u8,ZK.i IntKind.u8,ZK.i IntKind.u8,ZK.i IntKind.u8,ZK.i IntKind.u8,ZK.i IntKind.u8,ZK.i IntKind.u8,ZK.i IntKind.u8,ZK.i IntKind.u8,ZK.i IntKind.u8,ZK.i IntKind.u8,ZK.i IntKind.u8,ZK.i IntKind.u8,ZK.i IntKind.u8,ZK.i IntKind.u8,ZK.i IntKind.u8,ZK.i IntKind.u8,ZK.i IntKind.u8,ZK.i IntKind.u8,ZK.i IntKind.u8,ZK.i IntKind.u8,ZK.i IntKind.u8,ZK.i IntKind.u8,ZK.i IntKind.u8,ZK.i IntKind.u8,ZK.i IntKind.u8,ZK.i IntKind.u8,ZK.i IntKind.u8,ZK.i IntKind.u8,ZK.i IntKind.u8,ZK.i IntKind.u8,ZK.i IntKind.u8,ZK.i IntKind.u8,ZK.i IntKind.u8,ZK.i IntKind.u8,ZK.i IntKind.u8,ZK.i IntKind.u8,ZK.i IntKind.u8,ZK.i IntKind.u8,ZK.i IntKind.u8,ZK.i IntKind.u8,ZK.i IntKind.u8,ZK.i IntKind.u8,ZK.i IntKind.u8,ZK.i IntKind.u8,ZK.i IntKind.u8,ZK.i IntKind.u8,ZK.i IntKind.u8,ZK.i IntKind.u8,ZK.i IntKind.u8,ZK.i IntKind.u8,ZK.i IntKind.u8,ZK.i IntKind.u8,ZK.i IntKind.u8,ZK.i IntKind.u8,ZK.i IntKind.u8,ZK.i IntKind.u8,ZK.i IntKind.u8,ZK.i IntKind.u8,ZK.i IntKind.u8,ZK.i IntKind.u8,ZK.i IntKind.u8,ZK.i IntKind.u8,ZK.i IntKind.u8,ZK.i IntKind.u8,ZK.i IntKind.u8,ZK.i IntKind.u8,ZK.i IntKind.u8,ZK.i IntKind.u8,ZK.i IntKind.u8,ZK.i IntKind.u8,ZK.i IntKind.u8,ZK.i IntKind.u8,ZK.i IntKind.u8,ZK.i IntKind.u8,ZK.i IntKind.u8,ZK.i IntKind.u8,ZK.i IntKind.u8,ZK.i IntKind.u8,ZK.i IntKind.u8,ZK.i IntKind.u8,ZK.i IntKind.u8,ZK.i IntKind.u8,ZK.i IntKind.u8,ZK.i IntKind.u8,ZK.i IntKind.u8,ZK.i IntKind.u8,ZK.i IntKind.u8,ZK.i IntKind.u8,ZK.i IntKind.u8,ZK.i IntKind.u8,ZK.i IntKind.u8,ZK.i IntKind.u8,ZK.i IntKind.u8,ZK.i IntKind.u8,ZK.i IntKind.u8,ZK.i IntKind.u8,ZK.i IntKind.u8,ZK.i IntKind.u8,ZK.i IntKind.u8,ZK.i IntKind.u8]),
 (272,Ti.mk (Kd.struct [Av.Fd.mk 0 1 Bool.false 5,Av.Fd.mk 1 1 Bool.false 5]) 2 2 [ZK.i IntKind.u8,ZK.i IntKind.u8]),
 (273,Ti.mk (Kd.struct [Av.Fd.mk 0 1 Bool.false 5,Av.Fd.mk 1 1 Bool.false 5]) 2 2 [ZK.i IntKind.u8,ZK.i IntKind.u8]),
 (274,Ti.mk (Kd.array 16 273) 32 32 [ZK.i IntKind.u8,ZK.i IntKind.u8,ZK.i IntKind.u8,ZK.i IntKind.u8,ZK.i IntKind.u8,ZK.i IntKind.u8,ZK.i IntKind.u8,ZK.i IntKind.u8,ZK.i IntKind.u8,ZK.i IntKind.u8,ZK.i IntKind.u8,ZK.i IntKind.u8,ZK.i IntKind.u8,ZK.i IntKind.u8,ZK.i IntKind.u8,ZK.i IntKind.u8,ZK.i IntKind.u8,ZK.i IntKind.u8,ZK.i IntKind.u8,ZK.i IntKind.u8,ZK.i IntKind.u8,ZK.i IntKind.u8,ZK.i IntKind.u8,ZK.i IntKind.u8,ZK.i IntKind.u8,ZK.i IntKind.u8,ZK.i IntKind.u8,ZK.i IntKind.u8,ZK.i IntKind.u8,ZK.i IntKind.u8,ZK.i IntKind.u8,ZK.i IntKind.u8]),
 (275,Ti.mk Kd.func 1 8 [ZK.f]),
 (276,Ti.mk Kd.func 1 8 [ZK.f]),
 (277,Ti.mk Kd.func 1 8 [ZK.f]),
 (278,Ti.mk Kd.func 1 8 [ZK.f]),
 (279,Ti.mk Kd.func 1 8 [ZK.f]),
 (280,Ti.mk Kd.func 1 8 [ZK.f]),
 (281,Ti.mk Kd.func 1 8 [ZK.f]),
 (283,Ti.mk Kd.func 1 8 [ZK.f]),
 (284,Ti.mk Kd.func 1 8 [ZK.f]),
 (285,Ti.mk (Kd.struct [Av.Fd.mk 0 1 Bool.false 17,Av.Fd.mk 1 1 Bool.false 17,Av.Fd.mk 2 1 Bool.false 17,Av.Fd.mk 3 1 Bool.false 9]) 4 40 [ZK.p,ZK.p,ZK.p,ZK.s]),
 (286,Ti.mk (Kd.struct [Av.Fd.mk 0 1 Bool.false 17,Av.Fd.mk 1 1 Bool.false 17,Av.Fd.mk 2 1 Bool.false 17,Av.Fd.mk 3 1 Bool.false 9]) 4 40 [ZK.p,ZK.p,ZK.p,ZK.s]),
 (287,Ti.mk (Kd.array 0 16) 0 0 []),
 (288,Ti.mk (Kd.struct [Av.Fd.mk 0 0 Bool.true 287]) 0 0 []),
 (289,Ti.mk (Kd.struct [Av.Fd.mk 0 0 Bool.true 287]) 0 0 []),
 (290,Ti.mk Kd.func 1 8 [ZK.f]),
 (291,Ti.mk (Kd.int IntKind.u8) 1 1 [ZK.i IntKind.u8]),
 (292,Ti.mk (Kd.int IntKind.u8) 1 1 [ZK.i IntKind.u8]),
 (293,Ti.mk Kd.func 1 8 [ZK.f]),
 (294,Ti.mk (Kd.ptr 5) 1 8 [ZK.p]),
 (295,Ti.mk (Kd.int IntKind.i32) 1 4 [ZK.i IntKind.i32]),
 (296,Ti.mk (Kd.int IntKind.i32) 1 4 [ZK.i IntKind.i32]),
 (297,Ti.mk (Kd.struct [Av.Fd.mk 0 1 Bool.false 12,Av.Fd.mk 1 1 Bool.false 12,Av.Fd.mk 2 1 Bool.false 234,Av.Fd.mk 3 1 Bool.false 291,Av.Fd.mk 4 1 Bool.false 5,Av.Fd.mk 5 1 Bool.false 5,Av.Fd.mk 6 1 Bool.false 292,Av.Fd.mk 7 1 Bool.false 293,Av.Fd.mk 8 1 Bool.false 294,Av.Fd.mk 9 1 Bool.false 295,Av.Fd.mk 10 1 Bool.false 296]) 11 48 [ZK.i IntKind.u64,ZK.i IntKind.u64,ZK.i IntKind.u32,ZK.i IntKind.u8,ZK.i IntKind.u8,ZK.i IntKind.u8,ZK.i IntKind.u8,ZK.f,ZK.p,ZK.i IntKind.i32,ZK.i IntKind.i32]),
 (298,Ti.mk (Kd.struct [Av.Fd.mk 0 1 Bool.false 12,Av.Fd.mk 1 1 Bool.false 12,Av.Fd.mk 2 1 Bool.false 234,Av.Fd.mk 3 1 Bool.false 291,Av.Fd.mk 4 1 Bool.false 5,Av.Fd.mk 5 1 Bool.false 5,Av.Fd.mk 6 1 Bool.false 292,Av.Fd.mk 7 1 Bool.false 293,Av.Fd.mk 8 1 Bool.false 294,Av.Fd.mk 9 1 Bool.false 295,Av.Fd.mk 10 1 Bool.false 296]) 11 48 [ZK.i IntKind.u64,ZK.i IntKind.u64,ZK.i IntKind.u32,ZK.i IntKind.u8,ZK.i IntKind.u8,ZK.i IntKind.u8,ZK.i IntKind.u8,ZK.f,ZK.p,ZK.i IntKind.i32,ZK.i IntKind.i32])]
theorem Za:chk Tryz.prog tt=true:=by kernel_rfl
theorem ZF:Tryz.prog.follows .mixedOrders=true:=by kernel_rfl
abbrev byE (l:List UInt8):D:=.sl .ext (l.map E.byte)
theorem YR (l:List UInt8):Uni 1 (l.map E.byte):=Uni.map (f:=E.byte) (fun _=>rfl) l
end Go.Proofs.YtmljabhmajehnaaGreatDoor
end
section
open Go.RowKit Go.Pl Go.Av
namespace Go.Proofs.YtmljabhmajehnaaGreatDoor
theorem Qe {p:Prop}(h:p:=by(apply Zo [];(apply Zc Za;exact Z);(iterate 4 exact Z));all_goals rfl):p:=h
end Go.Proofs.YtmljabhmajehnaaGreatDoor
end

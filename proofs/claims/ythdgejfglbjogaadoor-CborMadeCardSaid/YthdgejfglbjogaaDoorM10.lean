/- A run of operations that only compute, or make and lay variables, and the control between them, as one function: where it stops, and with what. -/
import Derived.Test.YthdgejfglbjogaaDoorM09
import Derived.Test.YthdgejfglbjogaaDoorM03
import Derived.Test.YthdgejfglbjogaaDoorProg
import Derived.Test.YthdgejfglbjogaaDoorM01
set_option linter.unusedSimpArgs false
set_option linter.unusedVariables false
section
open Go.RowKit Go.Pl
namespace Go.Av
def KA (T:Tab)(tm:List (Nat × D))(op:BinOp)(xt:Nat)(x y:Operand):Option D:=
 match ev tm x,ev tm y with
 | .int k m,.int k2 q=>match decide (k=k2),(match op with | .quo | .rem | .shl | .shr=>false|_=>true) with
  | true,true=>nf (X7 op k m q)
  | _,_=>none
 | .str p,.str q=>match op with
  | .eql | .neq | .lss | .leq | .gtr | .geq=>nf (JF op p q)
  | _=>none
 | .bool p,.bool q=>match tl T xt with
  | some ti=>match ti.kd with
   | .bool=>match op with
    | .eql=>some (.bool (p==q))
    | .neq=>some (.bool (!(p==q)))
    | _=>none
   | _=>none
  | none=>none
 | d,.nilp=>match OZ d,tl T xt with
  | some p,some ti=>match ti.kd with
   | .ptr _=>match op with
    | .eql=>some (.bool p)
    | .neq=>some (.bool (!p))
    | _=>none
   | _=>none
  | _,_=>none
 | _,_=>none
def OP (bx:List (List D))(ti:Ti):D->Option D
 | .ptr b o=>match bx[b]? with
  | some cs=>match ti.kd.agg with
   | false=>cs[o]?
   | true=>match Nat.ble (o+ti.size) cs.length,nfs ((cs.drop o).take ti.size) with
    | true,some cs'=>some (.agg cs')
    | _,_=>none
  | none=>none
 | .eptr cs o=>match ti.kd.agg with
  | false=>match cs[o]? with
   | some e=>nf (.ofE e)
   | none=>none
  | true=>match Nat.ble (o+ti.size) cs.length,nfs (((cs.drop o).take ti.size).map .ofE) with
   | true,some cs'=>some (.agg cs')
   | _,_=>none
 | _=>none
def Ok (T:Tab)(st f:Nat):Option Fd:=
 match tl T st with
 | some ti=>match ti.kd with
  | .struct fs=>match fs[f]? with
   | some fd=>match Nat.beq fd.size 0 with
    | false=>some fd
    | true=>none
   | none=>none
  | _=>none
 | none=>none
def KB (T:Tab)(tm:List (Nat × D))(bx:List (List D)):Op->Option D
 | .move x=>nf (ev tm x)
 | .assign x=>nf (ev tm x)
 | .binOp op xt x y _=>KA T tm op xt x y
 | .unOp .not _ x=>match ev tm x with
  | .bool b=>some (.bool (!b))
  | _=>none
 | .convert src dst x=>match ev tm x with
  | .int _ q=>match tl T src,tl T dst with
   | some _,some td=>match td.kd with
    | .int k'=>some (.int k' (k'.wrap q))
    | _=>none
   | _,_=>none
  | _=>none
 | .load lt x=>match tl T lt with
  | some ti=>OP bx ti (ev tm x)
  | none=>none
 | .fieldAddr st x f=>match Ok T st f with
  | some fd=>match ev tm x with
   | .ptr b o=>match WU (List.replicate (o+fd.off) ()) with
    | some o'=>some (.ptr b o')
    | none=>none
   | .eptr cs o=>match WU (List.replicate (o+fd.off) ()) with
    | some o'=>some (.eptr cs o')
    | none=>none
   | _=>none
  | none=>none
 | .nilCheck x=>match ev tm x with
  | .ptr b o=>some (.ptr b o)
  | .eptr cs o=>some (.eptr cs o)
  | _=>none
 | .extract x i=>match ev tm x with
  | .tup l=>l[i]?
  | _=>none
 | .field st x f=>match Ok T st f with
  | some fd=>match tl T fd.ty with
   | some ti'=>match ti'.kd.agg with
    | false=>match ev tm x with
     | .agg l=>l[fd.off]?
     | _=>none
    | true=>none
   | none=>none
  | none=>none
 | .build st parts=>match tl T st with
  | some ti=>match ti.kd with
   | .struct fs=>match VN fs (ti.zero.map ZK.d) (parts.toList.map (fun p=>(p.1,ev tm p.2))) with
    | some cs=>match nfs cs with
     | some cs'=>some (.agg cs')
     | none=>none
    | none=>none
   | _=>none
  | none=>none
 | .makeFunc (.func f) ⟨[]⟩ caps=>match nfs (caps.toList.map (ev tm)) with
  | some ds=>some (.fn f ds)
  | none=>none
 | _=>none
abbrev Rs:=List (Nat × D) × List (List D)
def Xh (T:Tab)(n:Nat)(tm:List (Nat × D))(bx:List (List D)):Oper->Option Rs
 | ⟨some t,.box _ x,_,_,_,none⟩=>match nf (ev tm x) with
  | some d=>match D.ones d.cellsOf,nfb (bx++[d.cellsOf]),WU bx,Nat.blt t n with
   | true,some bx',some m,true=>some ((t,.ptr m 0)::tm,bx')
   | _,_,_,_=>none
  | none=>none
 | ⟨some t,.alloc e,_,_,_,none⟩=>match tl T e with
  | some ti=>match nfb (bx++[ti.zero.map ZK.d]),WU bx,Nat.blt t n with
   | some bx',some m,true=>some ((t,.ptr m 0)::tm,bx')
   | _,_,_=>none
  | none=>none
 | ⟨none,.store lt x y,_,_,_,none⟩=>match ev tm x,nf (ev tm y),tl T lt with
  | .ptr b o,some d,some ti=>match D.ones d.cellsOf,Nat.beq d.cellsOf.length ti.size,bx[b]? with
   | true,true,some cs=>match Nat.ble (o+d.cellsOf.length) cs.length,nfb (bx.set b (YK cs o d.cellsOf)) with
    | true,some bx'=>some (tm,bx')
    | _,_=>none
   | _,_,_=>none
  | _,_,_=>none
 | ⟨some t,op,_,_,_,none⟩=>match KB T tm bx op,Nat.blt t n with
  | some d,true=>some ((t,d)::tm,bx)
  | _,_=>none
 | _=>none
def KC (T:Tab)(n:Nat):List Oper->List (Nat × D)->List (List D)->List Oper × Rs
 | [],tm,bx=>([],tm,bx)
 | o::l,tm,bx=>match Xh T n tm bx o with
  | some (tm',bx')=>KC T n l tm' bx'
  | none=>(o::l,tm,bx)
inductive Fm where
 | seq (y:Code)
 | blk (id:Nat)
inductive Pos where
 | aw (c:Code)
 | al (ops:Array Oper) (l:List Oper)
 | x (x:X)
def goG (T:Tab)(n:Nat):Nat->Pos->List Fm->List (Nat × D)->List (List D)->Option (Pos × List Fm × Rs)
 | 0,p,ks,tm,bx=>some (p,ks,tm,bx)
 | f+1,.aw c,ks,tm,bx=>match c with
  | .seq a b=>goG T n f (.aw a) (.seq b::ks) tm bx
  | .block id a=>goG T n f (.aw a) (.blk id::ks) tm bx
  | .skip=>goG T n f (.x .norm) ks tm bx
  | .label _=>goG T n f (.x .norm) ks tm bx
  | .exit i=>goG T n f (.x (.exit i)) ks tm bx
  | .goto l=>goG T n f (.x (.goto l)) ks tm bx
  | .ret=>goG T n f (.x .ret) ks tm bx
  | .region _ ops false=>goG T n f (.al ops ops.toList) ks tm bx
  | .cond (.const (.bool true)) a _=>goG T n f (.aw a) ks tm bx
  | .cond (.const (.bool false)) _ b=>goG T n f (.aw b) ks tm bx
  | c=>some (.aw c,ks,tm,bx)
 | f+1,.al ops l,ks,tm,bx=>match KC T n l tm bx with
  | ([],tm',bx')=>goG T n f (.x .norm) ks tm' bx'
  | (o::l',tm',bx')=>some (.al ops (o::l'),ks,tm',bx')
 | f+1,.x x,ks,tm,bx=>match ks with
  | []=>some (.x x,[],tm,bx)
  | k::ks=>match x with
   | .norm=>match k with
    | .seq b=>goG T n f (.aw b) ks tm bx
    | .blk _=>goG T n f (.x .norm) ks tm bx
   | .exit i=>match k with
    | .blk id=>match Nat.beq i id with
     | true=>goG T n f (.x .norm) ks tm bx
     | false=>goG T n f (.x (.exit i)) ks tm bx
    | .seq _=>goG T n f (.x (.exit i)) ks tm bx
   | .goto l=>goG T n f (.x (.goto l)) ks tm bx
   | .ret=>goG T n f (.x .ret) ks tm bx
   | .pan d=>goG T n f (.x (.pan d)) ks tm bx
def goA (T:Tab)(n:Nat)(c:Code)(tm:List (Nat × D))(bx:List (List D)):Option (Pos × List Fm × Rs):=
 match c with
 | .seq .. | .block .. | .skip | .label _ | .exit _ | .goto _ | .ret | .region _ _ false | .cond (.const (.bool _)) _ _=>goG T n 400 (.aw c) [] tm bx
 | _=>none
def goL (T:Tab)(n:Nat)(ops:Array Oper)(l:List Oper)(tm:List (Nat × D))(bx:List (List D)):Option (Pos × List Fm × Rs):=
 match l with
 | []=>some (.x .norm,[],tm,bx)
 | o::l=>match Xh T n tm bx o with
  | some (tm',bx')=>goG T n 400 (.al ops l) [] tm' bx'
  | none=>none
def goK (T:Tab)(n:Nat)(x:X)(ks:List Fm)(tm:List (Nat × D))(bx:List (List D)):Option (Pos × List Fm × Rs):=
 match ks with
 | []=>none
 | k::ks=>goG T n 400 (.x x) (k::ks) tm bx
section
variable {P:Program} {Q:X->St->Prop} {n:Nat} {ee:Nat × Nat} {tm:List (Nat × D)} {bx:List (List D)} {fr:List Fr} {T:Tab}
variable {ops:Array Oper} {rest:List Oper} {t ty:Nat} {pos:String} {after:Array Edge}
def unK [Known][Dfr](P:Program)(Q:X->St->Prop):List Fm->X->St->Prop
 | []=>Q
 | .seq y::ks=>X.then (fun S=>AW P y S (unK P Q ks)) (unK P Q ks)
 | .blk id::ks=>X.inBlock id (unK P Q ks)
@[reducible] def J [Known][Dfr](P:Program) (n:Nat) (fr:List Fr) (ee:Nat × Nat) (Q:X->St->Prop):Pos × List Fm × Rs->Prop
 | (.aw c,[],tm,bx)=>AW P c ⟨n,tm,bx,fr,ee⟩ Q
 | (.al ops l,[],tm,bx)=>AL P ops l ⟨n,tm,bx,fr,ee⟩ Q
 | (.x x,[],tm,bx)=>Q x ⟨n,tm,bx,fr,ee⟩
 | (.aw c,k::ks,tm,bx)=>AW P c ⟨n,tm,bx,fr,ee⟩ (unK P Q (k::ks))
 | (.al ops l,k::ks,tm,bx)=>AL P ops l ⟨n,tm,bx,fr,ee⟩ (unK P Q (k::ks))
 | (.x x,k::ks,tm,bx)=>unK P Q (k::ks) x ⟨n,tm,bx,fr,ee⟩
theorem YO [Known][Dfr](P:Program)(n:Nat)(fr:List Fr)(ee:Nat × Nat)(Q:X->St->Prop)(p:Pos)(ks:List Fm)(tm:List (Nat × D))(bx:List (List D)):J P n fr ee Q (p,ks,tm,bx)=match p with
  | .aw c=>AW P c ⟨n,tm,bx,fr,ee⟩ (unK P Q ks)
  | .al ops l=>AL P ops l ⟨n,tm,bx,fr,ee⟩ (unK P Q ks)
  | .x x=>unK P Q ks x ⟨n,tm,bx,fr,ee⟩:=by
 cases p<;>cases ks<;>rfl
theorem Q1 {o o':Nat}(h:WU (List.replicate o ())=some o'):o=o':=by
 have:=YE h
 simpa using this
theorem KD [Known][Dfr](hT:chk P T=true){op:BinOp}{xt yt:Nat}{x y:Operand}{d:D}(h:KA T tm op xt x y=some d)(ht:Nat.blt t n=true)
  (k:AL P ops rest ⟨n,(t,d)::tm,bx,fr,ee⟩ Q):AL P ops (⟨some t,.binOp op xt x y yt,ty,pos,after,none⟩::rest) ⟨n,tm,bx,fr,ee⟩ Q:=by
 unfold KA at h
 split at h
 ·rename_i k1 m k2 q hx hy
  split at h
  ·rename_i e1 e2
   have e1:=of_decide_eq_true e1
   subst e1
   exact OU hx hy e2 h ht k
  ·cases h
 ·rename_i p q hx hy
  cases op<;>simp only at h<;>first|cases h;done|exact OX hx hy rfl h ht k
 ·rename_i p q hx hy
  split at h
  ·rename_i ti hti
   split at h
   ·rename_i hk
    cases op<;>simp only at h<;>first|cases h;done|exact OY hT hx hy hti hk h ht k
   ·cases h
  ·cases h
 ·have hy:ev tm y=.nilp:=by assumption
  split at h
  ·rename_i p ti hp hti
   split at h
   ·rename_i e hk
    cases op<;>simp only at h<;>first|cases h;done|exact Oc hT hp hy hti hk h ht k
   ·cases h
  ·cases h
 ·cases h
theorem Xi {st f:Nat}{fd:Fd}(h:Ok T st f=some fd):∃ ti fs,tl T st=some ti/\ti.kd=.struct fs/\fs[f]?=some fd/\Nat.beq fd.size 0=false:=by
 unfold Ok at h
 split at h
 ·rename_i ti hti
  split at h
  ·rename_i fs hk
   split at h
   ·rename_i fd' hf
    split at h
    ·rename_i hs
     cases h
     exact⟨ti,fs,hti,hk,hf,hs⟩
    ·cases h
   ·cases h
  ·cases h
 ·cases h
theorem KE [Known][Dfr](hT:chk P T=true){op:Op}{d:D}(h:KB T tm bx op=some d)(ht:Nat.blt t n=true)
  (k:AL P ops rest ⟨n,(t,d)::tm,bx,fr,ee⟩ Q):AL P ops (⟨some t,op,ty,pos,after,none⟩::rest) ⟨n,tm,bx,fr,ee⟩ Q:=by
 unfold KB at h
 split at h
 ·exact K3 h ht k
 ·exact Xx h ht k
 ·exact KD hT h ht k
 ·split at h
  ·rename_i hx;cases h;exact OV hx ht k
  ·cases h
 ·split at h
  ·rename_i hx
   split at h
   ·rename_i hs hd
    split at h
    ·rename_i hk;cases h;exact Ko hT hx hs hd hk ht k
    ·cases h
   ·cases h
  ·cases h
 ·split at h
  ·rename_i ti hti
   unfold OP at h
   split at h
   ·rename_i hx
    split at h
    ·rename_i cs hb
     split at h
     ·rename_i ha;exact Kh hT hx hti ha hb h ht k
     ·rename_i ha
      split at h
      ·rename_i h1 h2;cases h;exact Ki hT hx hti ha hb h1 h2 ht k
      ·cases h
    ·cases h
   ·rename_i hx
    split at h
    ·rename_i ha
     split at h
     ·rename_i he;exact XA hT hx hti ha he h ht k
     ·cases h
    ·rename_i ha
     split at h
     ·rename_i h1 h2;cases h;exact XB hT hx hti ha h1 h2 ht k
     ·cases h
   ·cases h
  ·cases h
 ·split at h
  ·rename_i fd hfd
   obtain⟨ti,fs,h1,h2,h3,h4⟩:=Xi hfd
   split at h
   ·rename_i hx
    split at h
    ·rename_i ho;cases h;exact Qn hT hx h1 h2 h3 h4 (Q1 ho) ht k
    ·cases h
   ·rename_i hx
    split at h
    ·rename_i ho;cases h;exact UI hT hx h1 h2 h3 h4 (Q1 ho) ht k
    ·cases h
   ·cases h
  ·cases h
 ·split at h
  ·rename_i hx;cases h;exact QP hx ht k
  ·rename_i hx;cases h;exact Qo hx ht k
  ·cases h
 ·split at h
  ·rename_i hx;exact JD hx h ht k
  ·cases h
 ·split at h
  ·rename_i fd hfd
   obtain⟨ti,fs,h1,h2,h3,h4⟩:=Xi hfd
   split at h
   ·rename_i ti' hti'
    split at h
    ·rename_i ha
     split at h
     ·rename_i hx;exact XD hT hx h1 h2 h3 h4 hti' ha h ht k
     ·cases h
    ·cases h
   ·cases h
  ·cases h
 ·split at h
  ·rename_i ti hti
   split at h
   ·rename_i fs hk
    split at h
    ·rename_i cs hb
     split at h
     ·rename_i hn;cases h;exact Km hT hti hk rfl hb hn ht k
     ·cases h
    ·cases h
   ·cases h
  ·cases h
 ·split at h
  ·rename_i hds;cases h;exact QU hds ht k
  ·cases h
 ·cases h
theorem Q3 [Known][Dfr](hT:chk P T=true){o:Oper}{r:Rs}(h:Xh T n tm bx o=some r)
  (k:AL P ops rest ⟨n,r.1,r.2,fr,ee⟩ Q):AL P ops (o::rest) ⟨n,tm,bx,fr,ee⟩ Q:=by
 unfold Xh at h
 split at h
 ·split at h
  ·rename_i hx
   split at h
   ·rename_i h1 h2 h3 h4;cases h;exact Oh hx h1 h2 h3 h4 k
   ·cases h
  ·cases h
 ·split at h
  ·rename_i hti
   split at h
   ·rename_i h2 h3 h4;cases h;exact XI hT hti h2 h3 h4 k
   ·cases h
  ·cases h
 ·split at h
  ·rename_i hx hy hti
   split at h
   ·rename_i h1 h2 h3
    split at h
    ·rename_i h4 h5;cases h;exact Kk hT hx hy h1 hti h2 h3 h4 h5 k
    ·cases h
   ·cases h
  ·cases h
 ·split at h
  ·rename_i h1 h2;cases h;exact KE hT h1 h2 k
  ·cases h
 ·cases h
theorem Qw [Known][Dfr](hT:chk P T=true):∀(l:List Oper) (tm:List (Nat × D)) (bx:List (List D)) (l':List Oper) (r:Rs),KC T n l tm bx=(l',r)->AL P ops l' ⟨n,r.1,r.2,fr,ee⟩ Q->AL P ops l ⟨n,tm,bx,fr,ee⟩ Q
 | [],tm,bx,l',r,h,k=>by unfold KC at h;cases h;exact k
 | o::l,tm,bx,l',r,h,k=>by
  unfold KC at h
  split at h
  ·rename_i tm' bx' hs
   exact Q3 hT hs (Qw hT l tm' bx' l' r h k)
  ·cases h;exact k
theorem Z4 [Known][Dfr](hT:chk P T=true):∀(f:Nat) (p:Pos) (ks:List Fm) (tm:List (Nat × D)) (bx:List (List D)) (o:Pos × List Fm × Rs),goG T n f p ks tm bx=some o->J P n fr ee Q o->J P n fr ee Q (p,ks,tm,bx)
 | 0,p,ks,tm,bx,o,h,k=>by unfold goG at h;cases h;exact k
 | f+1,.aw c,ks,tm,bx,o,h,k=>by
  unfold goG at h
  rw[YO]
  show AW P c ⟨n,tm,bx,fr,ee⟩ (unK P Q ks)
  split at h
  ·exact K7 (by have:=Z4 hT f _ _ _ _ _ h k;rwa [YO]at this)
  ·exact X6 (by have:=Z4 hT f _ _ _ _ _ h k;rwa [YO]at this)
  ·exact K0 (by have:=Z4 hT f _ _ _ _ _ h k;rwa [YO]at this)
  ·exact X5 (by have:=Z4 hT f _ _ _ _ _ h k;rwa [YO]at this)
  ·exact K1 (by have:=Z4 hT f _ _ _ _ _ h k;rwa [YO]at this)
  ·exact K2 (by have:=Z4 hT f _ _ _ _ _ h k;rwa [YO]at this)
  ·exact OS (by have:=Z4 hT f _ _ _ _ _ h k;rwa [YO]at this)
  ·rename_i id ops
   have:=Z4 hT f _ _ _ _ _ h k;rw[YO]at this
   exact Xv (l:=ops.toList) (by simpa using this)
  ·exact XJ (by have:=Z4 hT f _ _ _ _ _ h k;rwa [YO]at this)
  ·exact XK (by have:=Z4 hT f _ _ _ _ _ h k;rwa [YO]at this)
  ·cases h;rwa [YO]at k
 | f+1,.al ops l,ks,tm,bx,o,h,k=>by
  unfold goG at h
  rw[YO]
  show AL P ops l ⟨n,tm,bx,fr,ee⟩ (unK P Q ks)
  split at h
  ·rename_i tm' bx' hr
   exact Qw hT _ _ _ _ _ hr (Jx (by have:=Z4 hT f _ _ _ _ _ h k;rwa [YO]at this))
  ·rename_i o l' tm' bx' hr
   cases h;rw[YO]at k;exact Qw hT _ _ _ _ _ hr k
 | f+1,.x x,ks,tm,bx,o,h,k=>by
  unfold goG at h
  rw[YO]
  show unK P Q ks x ⟨n,tm,bx,fr,ee⟩
  split at h
  ·cases h;rwa [YO]at k
  ·split at h
   ·split at h
    ·have:=Z4 hT f _ _ _ _ _ h k;rwa [YO]at this
    ·have:=Z4 hT f _ _ _ _ _ h k;rwa [YO]at this
   ·split at h
    ·split at h
     ·rename_i i _ id hb
      have:=Z4 hT f _ _ _ _ _ h k;rw[YO]at this
      obtain rfl:=Nat.eq_of_beq_eq_true hb
      exact Kb this
     ·rename_i i _ id hb
      exact K8 hb (by have:=Z4 hT f _ _ _ _ _ h k;rwa [YO]at this)
    ·exact Xy (by have:=Z4 hT f _ _ _ _ _ h k;rwa [YO]at this)
   ·rename_i k0 _ _ _
    cases k0 with
    | seq y=>exact Xz (by have:=Z4 hT f _ _ _ _ _ h k;rwa [YO]at this)
    | blk id=>exact Kc (by have:=Z4 hT f _ _ _ _ _ h k;rwa [YO]at this)
   ·rename_i k0 _ _
    cases k0 with
    | seq y=>exact X9 (by have:=Z4 hT f _ _ _ _ _ h k;rwa [YO]at this)
    | blk id=>exact K9 (by have:=Z4 hT f _ _ _ _ _ h k;rwa [YO]at this)
   ·rename_i k0 _ _ _
    cases k0 with
    | seq y=>exact Ka (by have:=Z4 hT f _ _ _ _ _ h k;rwa [YO]at this)
    | blk id=>exact Oa (by have:=Z4 hT f _ _ _ _ _ h k;rwa [YO]at this)
theorem Zd [Known][Dfr](hT:chk P T=true){c:Code}{o:Pos × List Fm × Rs}(h:goA T n c tm bx=some o)(k:J P n fr ee Q o):AW P c ⟨n,tm,bx,fr,ee⟩ Q:=by
 unfold goA at h
 split at h<;>first|cases h;done|skip
 all_goals exact Z4 hT _ _ _ _ _ _ h k
theorem Zh [Known][Dfr](hT:chk P T=true){o:Pos × List Fm × Rs}(h:goL T n ops rest tm bx=some o)(k:J P n fr ee Q o):AL P ops rest ⟨n,tm,bx,fr,ee⟩ Q:=by
 unfold goL at h
 split at h
 ·cases h;exact Jx k
 ·split at h
  ·rename_i tm' bx' hs
   exact Q3 hT hs (Z4 hT _ _ _ _ _ _ h k)
  ·cases h
theorem Zv [Known][Dfr](hT:chk P T=true){x:X}{ks:List Fm}{o:Pos × List Fm × Rs}(h:goK T n x ks tm bx=some o)(k:J P n fr ee Q o):unK P Q ks x ⟨n,tm,bx,fr,ee⟩:=by
 unfold goK at h
 split at h
 ·cases h
 ·have:=Z4 hT _ _ _ _ _ _ h k;rwa [YO]at this
end
def O9 (T:Tab)(tm:List (Nat × D))(bx:List (List D)):ResultVar->Option D
 | .tmp t=>nf (look tm t)
 | .cell a t=>match look tm a,tl T t with
  | .ptr b o,some ti=>match bx[b]? with
   | some cs=>match ti.kd.agg with
    | false=>match cs[o]? with
     | some d=>nf d
     | none=>none
    | true=>match Nat.ble (o+ti.size) cs.length,nfs ((cs.drop o).take ti.size) with
     | true,some cs'=>some (.agg cs')
     | _,_=>none
   | none=>none
  | _,_=>none
def Ol (T:Tab)(tm:List (Nat × D))(bx:List (List D)):List ResultVar->Option (List D)
 | []=>some []
 | r::rs=>match O9 T tm bx r,Ol T tm bx rs with
  | some d,some ds=>some (d::ds)
  | _,_=>none
theorem Zf {P:Program}{T:Tab}(hT:chk P T=true){n:Nat}{ee:Nat × Nat}{tm:List (Nat × D)}{bx:List (List D)}{fr:List Fr}:∀ {rs:List ResultVar} {ds:List D},Ol T tm bx rs=some ds->ResL P ⟨n,tm,bx,fr,ee⟩ rs ds
 | [],ds,h=>by unfold Ol at h;cases h;exact .nil
 | r::rs,ds,h=>by
  unfold Ol at h
  split at h
  ·rename_i d ds' h1 h2
   cases h
   refine .cons _ _ _ _ ?_ (Zf hT h2)
   cases r with
   | tmp t=>
    unfold O9 at h1
    exact .tmp _ _ (Yd h1)
   | cell a t=>
    simp only[O9]at h1
    split at h1
    ·rename_i b o ti ha hti
     split at h1
     ·rename_i cs hb
      split at h1
      ·rename_i hag
       split at h1
       ·rename_i d' hd
        have hd':=Yd h1
        subst hd'
        exact .cell1 a t b o cs _ ha (by rw[(Zx hT hti).tAgg,hag]) hb hd
       ·cases h1
      ·rename_i hag
       split at h1
       ·rename_i h3 h4
        cases h1
        exact .celln a t b o ti.size cs _ ha (by rw[(Zx hT hti).tAgg,hag]) (Zx hT hti).tSize hb h3 (by rw[Y9 h4])
       ·cases h1
     ·cases h1
    ·cases h1
  ·cases h
end Go.Av
end
section
open Go.RowKit Go.Pl Go.Av
namespace Go.Proofs.YthdgejfglbjogaaDoor
def tt:Tab:=[(1,Ti.mk Kd.func 1 8 [ZK.f]),
 (2,Ti.mk (Kd.int IntKind.i64) 1 8 [ZK.i IntKind.i64]),
 (3,Ti.mk (Kd.int IntKind.i64) 1 8 [ZK.i IntKind.i64]),
 (4,Ti.mk Kd.bool 1 1 [ZK.b]),
 (5,Ti.mk (Kd.int IntKind.u8) 1 1 [ZK.i IntKind.u8]),
 (6,Ti.mk (Kd.int IntKind.u8) 1 1 [ZK.i IntKind.u8]),
 (7,Ti.mk (Kd.struct [Av.Fd.mk 0 1 Bool.false 2,Av.Fd.mk 1 1 Bool.false 3,Av.Fd.mk 2 1 Bool.false 4,Av.Fd.mk 3 1 Bool.false 6]) 4 24 [ZK.i IntKind.i64,ZK.i IntKind.i64,ZK.b,ZK.i IntKind.u8]),
 (8,Ti.mk (Kd.struct [Av.Fd.mk 0 1 Bool.false 2,Av.Fd.mk 1 1 Bool.false 3,Av.Fd.mk 2 1 Bool.false 4,Av.Fd.mk 3 1 Bool.false 6]) 4 24 [ZK.i IntKind.i64,ZK.i IntKind.i64,ZK.b,ZK.i IntKind.u8]),
 (9,Ti.mk Kd.str 1 16 [ZK.s]),
 (10,Ti.mk Kd.str 1 16 [ZK.s]),
 (11,Ti.mk Kd.str 1 16 [ZK.s]),
 (12,Ti.mk (Kd.int IntKind.u64) 1 8 [ZK.i IntKind.u64]),
 (13,Ti.mk (Kd.struct [Av.Fd.mk 0 1 Bool.false 9,Av.Fd.mk 1 1 Bool.false 12]) 2 24 [ZK.s,ZK.i IntKind.u64]),
 (14,Ti.mk (Kd.struct [Av.Fd.mk 0 1 Bool.false 9,Av.Fd.mk 1 1 Bool.false 12]) 2 24 [ZK.s,ZK.i IntKind.u64]),
 (15,Ti.mk (Kd.ptr 74) 1 8 [ZK.p]),
 (16,Ti.mk (Kd.ptr 77) 1 8 [ZK.p]),
 (17,Ti.mk (Kd.ptr 87) 1 8 [ZK.p]),
 (18,Ti.mk (Kd.struct [Av.Fd.mk 0 1 Bool.false 17]) 1 8 [ZK.p]),
 (19,Ti.mk (Kd.struct [Av.Fd.mk 0 1 Bool.false 17]) 1 8 [ZK.p]),
 (20,Ti.mk Kd.iface 1 16 [ZK.n]),
 (21,Ti.mk (Kd.int IntKind.i32) 1 4 [ZK.i IntKind.i32]),
 (22,Ti.mk (Kd.int IntKind.u64) 1 8 [ZK.i IntKind.u64]),
 (23,Ti.mk (Kd.slice 5) 1 24 [ZK.l]),
 (24,Ti.mk Kd.func 1 8 [ZK.f]),
 (25,Ti.mk (Kd.slice 27) 1 24 [ZK.l]),
 (26,Ti.mk (Kd.struct [Av.Fd.mk 0 1 Bool.false 3,Av.Fd.mk 1 1 Bool.false 22,Av.Fd.mk 2 1 Bool.false 23,Av.Fd.mk 3 1 Bool.false 25]) 4 64 [ZK.i IntKind.i64,ZK.i IntKind.u64,ZK.l,ZK.l]),
 (27,Ti.mk (Kd.struct [Av.Fd.mk 0 1 Bool.false 3,Av.Fd.mk 1 1 Bool.false 22,Av.Fd.mk 2 1 Bool.false 23,Av.Fd.mk 3 1 Bool.false 25]) 4 64 [ZK.i IntKind.i64,ZK.i IntKind.u64,ZK.l,ZK.l]),
 (28,Ti.mk Kd.func 1 8 [ZK.f]),
 (29,Ti.mk Kd.func 1 8 [ZK.f]),
 (30,Ti.mk Kd.func 1 8 [ZK.f]),
 (31,Ti.mk Kd.func 1 8 [ZK.f]),
 (32,Ti.mk Kd.func 1 8 [ZK.f]),
 (33,Ti.mk (Kd.int IntKind.i64) 1 8 [ZK.i IntKind.i64]),
 (35,Ti.mk Kd.func 1 8 [ZK.f]),
 (37,Ti.mk Kd.func 1 8 [ZK.f]),
 (38,Ti.mk Kd.func 1 8 [ZK.f]),
 (39,Ti.mk Kd.func 1 8 [ZK.f]),
 (40,Ti.mk Kd.func 1 8 [ZK.f]),
 (41,Ti.mk Kd.func 1 8 [ZK.f]),
 (42,Ti.mk Kd.func 1 8 [ZK.f]),
 (43,Ti.mk (Kd.struct [Av.Fd.mk 0 1 Bool.false 33]) 1 8 [ZK.i IntKind.i64]),
 (44,Ti.mk (Kd.struct [Av.Fd.mk 0 1 Bool.false 33]) 1 8 [ZK.i IntKind.i64]),
 (46,Ti.mk (Kd.ptr 48) 1 8 [ZK.p]),
 (47,Ti.mk (Kd.struct [Av.Fd.mk 0 1 Bool.false 23,Av.Fd.mk 1 1 Bool.false 3,Av.Fd.mk 2 1 Bool.false 3]) 3 40 [ZK.l,ZK.i IntKind.i64,ZK.i IntKind.i64]),
 (48,Ti.mk (Kd.struct [Av.Fd.mk 0 1 Bool.false 23,Av.Fd.mk 1 1 Bool.false 3,Av.Fd.mk 2 1 Bool.false 3]) 3 40 [ZK.l,ZK.i IntKind.i64,ZK.i IntKind.i64]),
 (49,Ti.mk Kd.func 1 8 [ZK.f]),
 (50,Ti.mk Kd.func 1 8 [ZK.f]),
 (51,Ti.mk Kd.func 1 8 [ZK.f]),
 (52,Ti.mk Kd.func 1 8 [ZK.f]),
 (53,Ti.mk (Kd.struct [Av.Fd.mk 0 1 Bool.false 3,Av.Fd.mk 1 1 Bool.false 22,Av.Fd.mk 2 1 Bool.false 4]) 3 24 [ZK.i IntKind.i64,ZK.i IntKind.u64,ZK.b]),
 (54,Ti.mk (Kd.struct [Av.Fd.mk 0 1 Bool.false 3,Av.Fd.mk 1 1 Bool.false 22,Av.Fd.mk 2 1 Bool.false 4]) 3 24 [ZK.i IntKind.i64,ZK.i IntKind.u64,ZK.b]),
 (55,Ti.mk Kd.func 1 8 [ZK.f]),
 (56,Ti.mk Kd.func 1 8 [ZK.f]),
 (57,Ti.mk Kd.func 1 8 [ZK.f]),
 (58,Ti.mk Kd.func 1 8 [ZK.f]),
 (59,Ti.mk Kd.func 1 8 [ZK.f]),
 (60,Ti.mk (Kd.int IntKind.u64) 1 8 [ZK.i IntKind.u64]),
 (61,Ti.mk Kd.func 1 8 [ZK.f]),
 (62,Ti.mk Kd.func 1 8 [ZK.f]),
 (64,Ti.mk Kd.func 1 8 [ZK.f]),
 (65,Ti.mk Kd.func 1 8 [ZK.f]),
 (66,Ti.mk Kd.func 1 8 [ZK.f]),
 (67,Ti.mk Kd.func 1 8 [ZK.f]),
 (68,Ti.mk (Kd.array 256 5) 256 256 [ZK.i IntKind.u8,ZK.i IntKind.u8,ZK.i IntKind.u8,ZK.i IntKind.u8,ZK.i IntKind.u8,ZK.i IntKind.u8,ZK.i IntKind.u8,ZK.i IntKind.u8,ZK.i IntKind.u8,ZK.i IntKind.u8,ZK.i IntKind.u8,ZK.i IntKind.u8,ZK.i IntKind.u8,ZK.i IntKind.u8,ZK.i IntKind.u8,ZK.i IntKind.u8,ZK.i IntKind.u8,ZK.i IntKind.u8,ZK.i IntKind.u8,ZK.i IntKind.u8,ZK.i IntKind.u8,ZK.i IntKind.u8,ZK.i IntKind.u8,ZK.i IntKind.u8,ZK.i IntKind.u8,ZK.i IntKind.u8,ZK.i IntKind.u8,ZK.i IntKind.u8,ZK.i IntKind.u8,ZK.i IntKind.u8,ZK.i IntKind.u8,ZK.i IntKind.u8,ZK.i IntKind.u8,ZK.i IntKind.u8,ZK.i IntKind.u8,ZK.i IntKind.u8,ZK.i IntKind.u8,ZK.i IntKind.u8,ZK.i IntKind.u8,ZK.i IntKind.u8,ZK.i IntKind.u8,ZK.i IntKind.u8,ZK.i IntKind.u8,ZK.i IntKind.u8,ZK.i IntKind.u8,ZK.i IntKind.u8,ZK.i IntKind.u8,ZK.i IntKind.u8,ZK.i IntKind.u8,ZK.i IntKind.u8,ZK.i IntKind.u8,ZK.i IntKind.u8,ZK.i IntKind.u8,ZK.i IntKind.u8,ZK.i IntKind.u8,ZK.i IntKind.u8,ZK.i IntKind.u8,ZK.i IntKind.u8,ZK.i IntKind.u8,ZK.i IntKind.u8,ZK.i IntKind.u8,ZK.i IntKind.u8,ZK.i IntKind.u8,ZK.i IntKind.u8,ZK.i IntKind.u8,ZK.i IntKind.u8,ZK.i IntKind.u8,ZK.i IntKind.u8,ZK.i IntKind.u8,ZK.i IntKind.u8,ZK.i IntKind.u8,ZK.i IntKind.u8,ZK.i IntKind.u8,ZK.i IntKind.u8,ZK.i IntKind.u8,ZK.i IntKind.u8,ZK.i IntKind.u8,ZK.i IntKind.u8,ZK.i IntKind.u8,ZK.i IntKind.u8,ZK.i IntKind.u8,ZK.i IntKind.u8,ZK.i IntKind.u8,ZK.i IntKind.u8,ZK.i IntKind.u8,ZK.i IntKind.u8,ZK.i IntKind.u8,ZK.i IntKind.u8,ZK.i IntKind.u8,ZK.i IntKind.u8,ZK.i IntKind.u8,ZK.i IntKind.u8,ZK.i IntKind.u8,ZK.i IntKind.u8,ZK.i IntKind.u8,ZK.i IntKind.u8,ZK.i IntKind.u8,ZK.i IntKind.u8,ZK.i IntKind.u8,ZK.i IntKind.u8,ZK.i IntKind.u8,ZK.i IntKind.u8,ZK.i IntKind.u8,ZK.i IntKind.u8,ZK.i IntKind.u8,ZK.i IntKind.u8,ZK.i IntKind.u8,ZK.i IntKind.u8,ZK.i IntKind.u8,ZK.i IntKind.u8,ZK.i IntKind.u8,ZK.i IntKind.u8,ZK.i IntKind.u8,ZK.i IntKind.u8,ZK.i IntKind.u8,ZK.i IntKind.u8,ZK.i IntKind.u8,ZK.i IntKind.u8,ZK.i IntKind.u8,ZK.i IntKind.u8,ZK.i IntKind.u8,ZK.i IntKind.u8,ZK.i IntKind.u8,ZK.i IntKind.u8,ZK.i IntKind.u8,ZK.i IntKind.u8,ZK.i IntKind.u8,ZK.i IntKind.u8,ZK.i IntKind.u8,ZK.i IntKind.u8,ZK.i IntKind.u8,ZK.i IntKind.u8,ZK.i IntKind.u8,ZK.i IntKind.u8,ZK.i IntKind.u8,ZK.i IntKind.u8,ZK.i IntKind.u8,ZK.i IntKind.u8,ZK.i IntKind.u8,ZK.i IntKind.u8,ZK.i IntKind.u8,ZK.i IntKind.u8,ZK.i IntKind.u8,ZK.i IntKind.u8,ZK.i IntKind.u8,ZK.i IntKind.u8,ZK.i IntKind.u8,ZK.i IntKind.u8,ZK.i IntKind.u8,ZK.i IntKind.u8,ZK.i IntKind.u8,ZK.i IntKind.u8,ZK.i IntKind.u8,ZK.i IntKind.u8,ZK.i IntKind.u8,ZK.i IntKind.u8,ZK.i IntKind.u8,ZK.i IntKind.u8,ZK.i IntKind.u8,ZK.i IntKind.u8,ZK.i IntKind.u8,ZK.i IntKind.u8,ZK.i IntKind.u8,ZK.i IntKind.u8,ZK.i IntKind.u8,ZK.i IntKind.u8,ZK.i IntKind.u8,ZK.i IntKind.u8,ZK.i IntKind.u8,ZK.i IntKind.u8,ZK.i IntKind.u8,ZK.i IntKind.u8,ZK.i IntKind.u8,ZK.i IntKind.u8,ZK.i IntKind.u8,ZK.i IntKind.u8,ZK.i IntKind.u8,ZK.i IntKind.u8,ZK.i IntKind.u8,ZK.i IntKind.u8,ZK.i IntKind.u8,ZK.i IntKind.u8,ZK.i IntKind.u8,ZK.i IntKind.u8,ZK.i IntKind.u8,ZK.i IntKind.u8,ZK.i IntKind.u8,ZK.i IntKind.u8,ZK.i IntKind.u8,ZK.i IntKind.u8,ZK.i IntKind.u8,ZK.i IntKind.u8,ZK.i IntKind.u8,ZK.i IntKind.u8,ZK.i IntKind.u8,ZK.i IntKind.u8,ZK.i IntKind.u8,ZK.i IntKind.u8,ZK.i IntKind.u8,ZK.i IntKind.u8,ZK.i IntKind.u8,ZK.i IntKind.u8,ZK.i IntKind.u8,ZK.i IntKind.u8,ZK.i IntKind.u8,ZK.i IntKind.u8,ZK.i IntKind.u8,ZK.i IntKind.u8,ZK.i IntKind.u8,ZK.i IntKind.u8,ZK.i IntKind.u8,ZK.i IntKind.u8,ZK.i IntKind.u8,ZK.i IntKind.u8,ZK.i IntKind.u8,ZK.i IntKind.u8,ZK.i IntKind.u8,ZK.i IntKind.u8,ZK.i IntKind.u8,ZK.i IntKind.u8,ZK.i IntKind.u8,ZK.i IntKind.u8,ZK.i IntKind.u8,ZK.i IntKind.u8,ZK.i IntKind.u8,ZK.i IntKind.u8,ZK.i IntKind.u8,ZK.i IntKind.u8,ZK.i IntKind.u8,ZK.i IntKind.u8,ZK.i IntKind.u8,ZK.i IntKind.u8,ZK.i IntKind.u8,ZK.i IntKind.u8,ZK.i IntKind.u8,ZK.i IntKind.u8,ZK.i IntKind.u8,ZK.i IntKind.u8,ZK.i IntKind.u8,ZK.i IntKind.u8,ZK.i IntKind.u8,ZK.i IntKind.u8,ZK.i IntKind.u8,ZK.i IntKind.u8,ZK.i IntKind.u8,ZK.i IntKind.u8,ZK.i IntKind.u8,ZK.i IntKind.u8,ZK.i IntKind.u8,ZK.i IntKind.u8,ZK.i IntKind.u8,ZK.i IntKind.u8,ZK.i IntKind.u8,ZK.i IntKind.u8,ZK.i IntKind.u8,ZK.i IntKind.u8]),
 (69,Ti.mk (Kd.struct [Av.Fd.mk 0 1 Bool.false 5,Av.Fd.mk 1 1 Bool.false 5]) 2 2 [ZK.i IntKind.u8,ZK.i IntKind.u8]),
 (70,Ti.mk (Kd.struct [Av.Fd.mk 0 1 Bool.false 5,Av.Fd.mk 1 1 Bool.false 5]) 2 2 [ZK.i IntKind.u8,ZK.i IntKind.u8]),
 (71,Ti.mk (Kd.array 16 70) 32 32 [ZK.i IntKind.u8,ZK.i IntKind.u8,ZK.i IntKind.u8,ZK.i IntKind.u8,ZK.i IntKind.u8,ZK.i IntKind.u8,ZK.i IntKind.u8,ZK.i IntKind.u8,ZK.i IntKind.u8,ZK.i IntKind.u8,ZK.i IntKind.u8,ZK.i IntKind.u8,ZK.i IntKind.u8,ZK.i IntKind.u8,ZK.i IntKind.u8,ZK.i IntKind.u8,ZK.i IntKind.u8,ZK.i IntKind.u8,ZK.i IntKind.u8,ZK.i IntKind.u8,ZK.i IntKind.u8,ZK.i IntKind.u8,ZK.i IntKind.u8,ZK.i IntKind.u8,ZK.i IntKind.u8,ZK.i IntKind.u8,ZK.i IntKind.u8,ZK.i IntKind.u8,ZK.i IntKind.u8,ZK.i IntKind.u8,ZK.i IntKind.u8,ZK.i IntKind.u8]),
 (72,Ti.mk Kd.func 1 8 [ZK.f]),
 (73,Ti.mk (Kd.struct [Av.Fd.mk 0 1 Bool.false 17,Av.Fd.mk 1 1 Bool.false 17,Av.Fd.mk 2 1 Bool.false 17,Av.Fd.mk 3 1 Bool.false 9]) 4 40 [ZK.p,ZK.p,ZK.p,ZK.s]),
 (74,Ti.mk (Kd.struct [Av.Fd.mk 0 1 Bool.false 17,Av.Fd.mk 1 1 Bool.false 17,Av.Fd.mk 2 1 Bool.false 17,Av.Fd.mk 3 1 Bool.false 9]) 4 40 [ZK.p,ZK.p,ZK.p,ZK.s]),
 (75,Ti.mk (Kd.array 0 16) 0 0 []),
 (76,Ti.mk (Kd.struct [Av.Fd.mk 0 0 Bool.true 75]) 0 0 []),
 (77,Ti.mk (Kd.struct [Av.Fd.mk 0 0 Bool.true 75]) 0 0 []),
 (78,Ti.mk Kd.func 1 8 [ZK.f]),
 (79,Ti.mk (Kd.int IntKind.u32) 1 4 [ZK.i IntKind.u32]),
 (80,Ti.mk (Kd.int IntKind.u8) 1 1 [ZK.i IntKind.u8]),
 (81,Ti.mk (Kd.int IntKind.u8) 1 1 [ZK.i IntKind.u8]),
 (82,Ti.mk Kd.func 1 8 [ZK.f]),
 (83,Ti.mk (Kd.ptr 5) 1 8 [ZK.p]),
 (84,Ti.mk (Kd.int IntKind.i32) 1 4 [ZK.i IntKind.i32]),
 (85,Ti.mk (Kd.int IntKind.i32) 1 4 [ZK.i IntKind.i32]),
 (86,Ti.mk (Kd.struct [Av.Fd.mk 0 1 Bool.false 12,Av.Fd.mk 1 1 Bool.false 12,Av.Fd.mk 2 1 Bool.false 79,Av.Fd.mk 3 1 Bool.false 80,Av.Fd.mk 4 1 Bool.false 5,Av.Fd.mk 5 1 Bool.false 5,Av.Fd.mk 6 1 Bool.false 81,Av.Fd.mk 7 1 Bool.false 82,Av.Fd.mk 8 1 Bool.false 83,Av.Fd.mk 9 1 Bool.false 84,Av.Fd.mk 10 1 Bool.false 85]) 11 48 [ZK.i IntKind.u64,ZK.i IntKind.u64,ZK.i IntKind.u32,ZK.i IntKind.u8,ZK.i IntKind.u8,ZK.i IntKind.u8,ZK.i IntKind.u8,ZK.f,ZK.p,ZK.i IntKind.i32,ZK.i IntKind.i32]),
 (87,Ti.mk (Kd.struct [Av.Fd.mk 0 1 Bool.false 12,Av.Fd.mk 1 1 Bool.false 12,Av.Fd.mk 2 1 Bool.false 79,Av.Fd.mk 3 1 Bool.false 80,Av.Fd.mk 4 1 Bool.false 5,Av.Fd.mk 5 1 Bool.false 5,Av.Fd.mk 6 1 Bool.false 81,Av.Fd.mk 7 1 Bool.false 82,Av.Fd.mk 8 1 Bool.false 83,Av.Fd.mk 9 1 Bool.false 84,Av.Fd.mk 10 1 Bool.false 85]) 11 48 [ZK.i IntKind.u64,ZK.i IntKind.u64,ZK.i IntKind.u32,ZK.i IntKind.u8,ZK.i IntKind.u8,ZK.i IntKind.u8,ZK.i IntKind.u8,ZK.f,ZK.p,ZK.i IntKind.i32,ZK.i IntKind.i32])]
theorem Za:chk Tryd.prog tt=true:=by kernel_rfl
theorem ZJ:Tryd.prog.follows .mixedOrders=true:=by kernel_rfl
abbrev byE (l:List UInt8):D:=.sl .ext (l.map E.byte)
theorem Yv (l:List UInt8):Uni 1 (l.map E.byte):=Uni.map (f:=E.byte) (fun _=>rfl) l
end Go.Proofs.YthdgejfglbjogaaDoor
end
section
open Go.RowKit Go.Pl
namespace Go.Proofs.YthdgejfglbjogaaDoor
abbrev Hd:=Int × Nat × Bool
def hv (h:Hd):Value:=.agg #[.int .i64 h.1,.int .u64 (h.2.1:Int),.bool h.2.2]
def VT (m:Int):Bool:=decide (2<=m/\m<=5\/m=7)
def ZI (h:Hd):Bool:=if h.2.2 then decide (h.2.1=0)&&VT h.1 else decide (0<=h.1/\h.1<=7)
def Zm (n:Nat):Nat:=if n<24 then 0 else if n<256 then 1 else if n<65536 then 2 else if n<4294967296 then 4 else 8
def Z3 (n:Nat):Nat:=if n<24 then n else if n<256 then 24 else if n<65536 then 25 else if n<4294967296 then 26 else 27
def WM (h:Hd):Nat:=if ZI h then(if h.2.2 then 1 else 1+Zm h.2.1) else 0
def beN (n k:Nat):List UInt8:=(List.range k).map (fun i=>UInt8.ofNat (n/256 ^ (k-1-i)))
def YY (m i:Nat):UInt8:=UInt8.ofNat (32*m+i)
def ZE (h:Hd):List UInt8:=if h.2.2 then [YY h.1.toNat 31] else YY h.1.toNat (Z3 h.2.1)::beN h.2.1 (Zm h.2.1)
theorem Ut (n:Nat):Zm n<=8:=by
 unfold Zm
 repeat' split
 all_goals omega
theorem Q4 (n:Nat):Z3 n<=27:=by
 unfold Z3
 repeat' split
 all_goals omega
theorem IM (M i:Nat)(hM:M<=7)(hi:i<32):bits .or .u8 ((M:Int)*32) (i:Int)=((32*M+i:Nat):Int):=by
 have h:=u8_or ((M:Int)*32) (i:Int) (by omega) (by omega) (by omega) (by omega)
 rw[h,show((M:Int)*32).toNat=32*M from by omega,Int.toNat_natCast]
 rw[nat_join 5 (32*M) i (by omega) (by omega)]
theorem Z5 (n k:Nat):(beN n k).length=k:=by simp[beN]
theorem Ve (n k i:Nat)(h:i<k):(beN n k).take (i+1)=(beN n k).take i++[UInt8.ofNat (n/256 ^ (k-1-i))]:=by
 rw[List.take_succ_eq_append_getElem (by rw[Z5];exact h)]
 simp[beN]
def YB (l:List UInt8):Nat:=l.foldl (fun a c=>256*a+c.toNat) 0
def Z7 (b:List UInt8)(p:Nat):Hd × Nat × Nat:=
 match b.drop p with
 | []=>((0,0,false),0,8)
 | c::r=>
  if c.toNat % 32<24 then(((c.toNat/32:Nat),c.toNat % 32,false),p+1,0)
  else if c.toNat % 32=31/\VT (c.toNat/32:Nat)=true then(((c.toNat/32:Nat),0,true),p+1,0)
  else if 27<c.toNat % 32 then((0,0,false),0,3)
  else if r.length<2 ^ (c.toNat % 32-24) then((0,0,false),0,8)
  else(((c.toNat/32:Nat),YB (r.take (2 ^ (c.toNat % 32-24))),false),p+1+2 ^ (c.toNat % 32-24),0)
theorem Vk (l:List UInt8)(c:UInt8):YB (l++[c])=256*YB l+c.toNat:=by simp[YB]
theorem JM (l:List UInt8):∀ a,l.foldl (fun a c=>256*a+c.toNat) a<(a+1)*256 ^ l.length:=by
 induction l with
 | nil=>intro a;simp
 | cons c l ih=>
  intro a
  have h1:=ih (256*a+c.toNat)
  have h2:=c.toNat_lt
  have h3:(256*a+c.toNat+1)*256 ^ l.length<=((a+1)*256)*256 ^ l.length:=Nat.mul_le_mul_right _ (by omega)
  simp only[List.foldl_cons,List.length_cons]
  rw[Nat.pow_succ,Nat.mul_comm (256 ^ l.length) 256,<- Nat.mul_assoc]
  omega
theorem Uu (l:List UInt8):YB l<256 ^ l.length:=by
 have:=JM l 0
 unfold YB
 omega
theorem JN (v:Nat)(c:UInt8)(hv:v<72057594037927936):IntKind.u64.wrap ((v:Int)*256)=(v:Int)*256/\bits .or .u64 ((v:Int)*256) (c.toNat:Int)=((256*v+c.toNat:Nat):Int):=by
 have hc:=c.toNat_lt
 refine⟨by rw[IntKind.wrap_u64];omega,?_⟩
 have h:=u64_or_nat (256*v) c.toNat (by omega) (by omega)
 rw[nat_join 8 (256*v) c.toNat (by omega) (by omega)]at h
 rw[<- h]
 congr 1
 omega
theorem XN (r:List UInt8)(i:Nat)(h:i<r.length):YB (r.take (i+1))=256*YB (r.take i)+r[i].toNat:=by
 rw[List.take_succ_eq_append_getElem h,Vk]
theorem UK (r:List UInt8)(i:Nat)(h:i<8):YB (r.take i)<72057594037927936:=by
 have h1:=Uu (r.take i)
 have h2:256 ^ (r.take i).length<=256 ^ 7:=Nat.pow_le_pow_right (by decide) (by rw[List.length_take];omega)
 omega
def Uv (b:List UInt8)(p:Int):Hd × Nat × Nat:=if p<0\/(b.length:Int)<p then((0,0,false),0,1) else Z7 b p.toNat
theorem Iy (c:UInt8):bits .and .u8 (c.toNat:Int) 31=((c.toNat % 32:Nat):Int):=by
 have h:=u8_and_nat c.toNat 31 c.toNat_lt (by decide)
 rw[show((31:Nat):Int)=31 from rfl]at h
 rw[h]
 congr 1
 exact Nat.and_two_pow_sub_one_eq_mod c.toNat 5
theorem Q5 (l:List UInt8)(p:Nat):(Z7 l p).2.1<=l.length/\(Z7 l p).1.2.1<18446744073709551616/\((Z7 l p).2.2=0->p<(Z7 l p).2.1):=by
 unfold Z7
 split
 ·exact⟨Nat.zero_le _,by decide,fun h=>by simp at h⟩
 ·rename_i c r hd
  have hl:l.length-p=r.length+1:=by
   have:=congrArg List.length hd
   simpa using this
  have hc:=c.toNat_lt
  split
  ·exact⟨by dsimp only;omega,by dsimp only;omega,fun _=>by dsimp only;omega⟩
  split
  ·exact⟨by dsimp only;omega,by dsimp only;omega,fun _=>by dsimp only;omega⟩
  split
  ·exact⟨Nat.zero_le _,by decide,fun h=>by simp at h⟩
  split
  ·exact⟨Nat.zero_le _,by decide,fun h=>by simp at h⟩
  ·rename_i h1 h2 h3 h4
   have hk:2 ^ (c.toNat % 32-24)<=8:=by
    have:2 ^ (c.toNat % 32-24)<=2 ^ 3:=Nat.pow_le_pow_right (by decide) (by omega)
    omega
   have h0:=Nat.two_pow_pos (c.toNat % 32-24)
   refine⟨by dsimp only;omega,?_,fun _=>by dsimp only;omega⟩
   have h5:=Uu (r.take (2 ^ (c.toNat % 32-24)))
   have h6:256 ^ (r.take (2 ^ (c.toNat % 32-24))).length<=256 ^ 8:=Nat.pow_le_pow_right (by decide) (by rw[List.length_take];omega)
   dsimp only
   omega
theorem KF (h:Hd):WM h<=9:=by
 unfold WM
 have:=Ut h.2.1
 split
 ·split<;>omega
 ·omega
theorem Yr (m i:Nat)(hm:m<=7)(hi:i<32):(YY m i).toNat=32*m+i:=QG (by omega)
theorem XO (n k:Nat)(h:n<256 ^ k):YB (beN n k)=n:=by
 have key:∀ i,i<=k->YB ((beN n k).take i)=n/256 ^ (k-i):=by
  intro i
  induction i with
  | zero=>intro _;simp[YB];exact(Nat.div_eq_of_lt h).symm
  | succ i ih=>
   intro hi
   rw[Ve n k i (by omega),Vk,ih (by omega),UInt8.toNat_ofNat']
   have e:256 ^ (k-i)=256 ^ (k-1-i)*256:=by rw[<- Nat.pow_succ];congr 1;omega
   rw[e,<- Nat.div_div_eq_div_mul,show k-(i+1)=k-1-i from by omega]
   omega
 have:=key k (Nat.le_refl _)
 rwa [List.take_of_length_le (by rw[Z5];exact Nat.le_refl _),Nat.sub_self,Nat.pow_zero,Nat.div_one]at this
theorem XP (l:List UInt8):beN (YB l) l.length=l:=by
 have key:∀(l:List UInt8) (m:Nat),(l.length=m)->beN (YB l) m=l:=by
  intro l
  induction hk:l.length generalizing l with
  | zero=>intro m hm;have:l=[]:=List.eq_nil_of_length_eq_zero hk;subst this;subst hm;rfl
  | succ k ih=>
   intro m hm
   obtain⟨l',c,rfl⟩:∃ l' c,l=l'++[c]:=⟨l.dropLast,l.getLast (by rintro rfl;simp at hk),(List.dropLast_concat_getLast _).symm⟩
   have hl':l'.length=k:=by simpa using hk
   have h1:=ih l' hl' k rfl
   subst hm
   rw[Vk]
   unfold beN at h1 ⊢
   have hc:=c.toNat_lt
   rw[List.range_succ,List.map_append]
   congr 1
   ·rw[<- h1]
    apply List.map_congr_left
    intro i hi
    have hi:i<k:=by simpa using hi
    congr 1
    have e:256 ^ (k+1-1-i)=256*256 ^ (k-1-i):=by rw[Nat.mul_comm,<- Nat.pow_succ];congr 1;omega
    rw[e,<- Nat.div_div_eq_div_mul,h1]
    congr 1
    omega
   ·simp only[List.map_cons,List.map_nil]
    congr 1
    rw[show k+1-1-k=0 from by omega,Nat.pow_zero,Nat.div_one]
    apply UInt8.toNat_inj.1
    rw[UInt8.toNat_ofNat']
    omega
 exact key l _ rfl
theorem VA (n:Nat)(hn:n<18446744073709551616):(n<24/\Zm n=0/\Z3 n=n)\/(24<=n/\Zm n=2 ^ (Z3 n-24)/\24<=Z3 n/\Z3 n<=27/\n<256 ^ Zm n):=by
 unfold Zm Z3
 by_cases h1:n<24
 ·simp[h1]
 right
 refine⟨by omega,?_⟩
 by_cases h2:n<256
 ·simp[h1,h2]
 by_cases h3:n<65536
 ·simp[h1,h2,h3]
 by_cases h4:n<4294967296
 ·simp[h1,h2,h3,h4]
 ·simp[h1,h2,h3,h4];omega
theorem Z9 (h:Hd)(hr:ZI h=true):(ZE h).length=WM h:=by
 unfold ZE WM
 rw[if_pos hr]
 split
 ·rfl
 ·simp[Z5];omega
theorem V6 {h:Hd}(hr:ZI h=true):0<=h.1/\h.1<=7:=by
 obtain⟨m,n,o⟩:=h
 cases o<;>simp[ZI,VT]at hr<;>dsimp only<;>omega
theorem VB {m:Int}{n:Nat}(hr:ZI (m,n,true)=true):n=0/\VT m=true:=by
 simpa[ZI]using hr
theorem JO (h:Hd)(hr:ZI h=true)(hn:h.2.1<18446744073709551616)(a c:List UInt8):Z7 (a++ZE h++c) a.length=(h,a.length+(ZE h).length,0):=by
 obtain⟨m,n,o⟩:=h
 obtain⟨hm0,hm7⟩:=V6 hr
 dsimp only at hn hm0 hm7
 obtain⟨M,rfl⟩:∃ M:Nat,m=(M:Int):=⟨m.toNat,by omega⟩
 have hM:M<=7:=by omega
 unfold Z7
 rw[List.append_assoc,List.drop_left]
 cases o with
 | true=>
  obtain⟨rfl,hmay⟩:=VB hr
  simp only[ZE,if_true,Int.toNat_natCast,List.cons_append,List.nil_append]
  rw[Yr M 31 hM (by decide)]
  rw[if_neg (by omega),show(32*M+31)/32=M from by omega,if_pos ⟨by omega,hmay⟩]
  rfl
 | false=>
  have hw:ZE ((M:Int),n,false)=YY M (Z3 n)::beN n (Zm n):=by simp[ZE]
  rw[hw]
  simp only[List.cons_append]
  rcases VA n hn with⟨h1,h2,h3⟩ | ⟨h1,h2,h3,h4,h5⟩
  ·rw[Yr M (Z3 n) hM (by omega),h3,h2]
   rw[if_pos (by omega),show(32*M+n)/32=M from by omega,show(32*M+n) % 32=n from by omega]
   simp[beN]
  ·rw[Yr M (Z3 n) hM (by omega)]
   have e1:(32*M+Z3 n)/32=M:=by omega
   have e2:(32*M+Z3 n) % 32=Z3 n:=by omega
   rw[e1,e2,if_neg (by omega),if_neg (by omega),if_neg (by omega),<- h2]
   rw[if_neg (by rw[List.length_append,Z5];omega)]
   rw[List.take_append_of_le_length (by rw[Z5];exact Nat.le_refl _),List.take_of_length_le (by rw[Z5];exact Nat.le_refl _),XO n _ h5]
   rw[List.length_cons,Z5]
   congr 2
   omega
theorem JP (b:List UInt8)(p:Nat)(h0:(Z7 b p).2.2=0):ZI (Z7 b p).1=true/\(ZE (Z7 b p).1).length<=(Z7 b p).2.1-p /\
  ((WM (Z7 b p).1=(Z7 b p).2.1-p) ↔ ZE (Z7 b p).1=(b.drop p).take ((Z7 b p).2.1-p)):=by
 have hbd:=Q5 b p
 obtain⟨h,x,y,hr⟩:∃(h:Hd) (x y:Nat),Z7 b p=(h,x,y):=⟨_,_,_,rfl⟩
 rw[hr]at h0 hbd ⊢
 dsimp only at h0 hbd ⊢
 subst h0
 have key:∀(hrt:ZI h=true) (hlen:(ZE h).length<=x-p) (heq:(ZE h).length=x-p->ZE h=(b.drop p).take (x-p)),ZI h=true/\(ZE h).length<=x-p/\(WM h=x-p ↔ ZE h=(b.drop p).take (x-p)):=by
  intro hrt hlen heq
  refine⟨hrt,hlen,fun e=>heq (by rw[Z9 h hrt];exact e),fun e=>?_⟩
  rw[<- Z9 h hrt,e,List.length_take,List.length_drop]
  have:=hbd.1
  omega
 unfold Z7 at hr
 split at hr
 ·simp at hr
 ·rename_i c r hd
  have hc:=c.toNat_lt
  have hl:b.length-p=r.length+1:=by
   have:=congrArg List.length hd
   simpa using this
  split at hr
  ·rename_i h1
   simp only[Prod.mk.injEq]at hr
   obtain⟨rfl,rfl,_⟩:=hr
   have hinfo:Z3 (c.toNat % 32)=c.toNat % 32/\Zm (c.toNat % 32)=0:=by unfold Z3 Zm;rw[if_pos h1,if_pos h1];exact⟨rfl,rfl⟩
   have hw:ZE (((c.toNat/32:Nat):Int),c.toNat % 32,false)=[c]:=by
    simp only[ZE,Bool.false_eq_true,if_false,Int.toNat_natCast,hinfo.1,hinfo.2]
    congr 1
    apply UInt8.toNat_inj.1
    rw[Yr _ _ (by omega) (by omega)]
    omega
   refine key (by simp[ZI];omega) (by rw[hw];simp;try omega) fun _=>?_
   rw[hw,hd,show p+1-p=1 from by omega]
   rfl
  split at hr
  ·rename_i h1 h2
   simp only[Prod.mk.injEq]at hr
   obtain⟨rfl,rfl,_⟩:=hr
   have hw:ZE (((c.toNat/32:Nat):Int),0,true)=[c]:=by
    simp only[ZE,if_true,Int.toNat_natCast]
    congr 1
    apply UInt8.toNat_inj.1
    rw[Yr _ _ (by omega) (by omega)]
    omega
   refine key (by simp[ZI];exact h2.2) (by rw[hw];simp;try omega) fun _=>?_
   rw[hw,hd,show p+1-p=1 from by omega]
   rfl
  split at hr
  ·simp at hr
  split at hr
  ·simp at hr
  ·rename_i h1 h2 h3 h4
   simp only[Prod.mk.injEq]at hr
   obtain⟨rfl,rfl,_⟩:=hr
   obtain⟨K,hK⟩:∃ K,2 ^ (c.toNat % 32-24)=K:=⟨_,rfl⟩
   rw[hK]at h4 hbd key ⊢
   have hK8:K=1/\c.toNat % 32=24\/K=2/\c.toNat % 32=25\/K=4/\c.toNat % 32=26\/K=8/\c.toNat % 32=27:=by
    have hk:c.toNat % 32=24\/c.toNat % 32=25\/c.toNat % 32=26\/c.toNat % 32=27:=by omega
    rcases hk with hk|hk|hk|hk<;>rw[hk]at hK<;>simp at hK<;>omega
   have hlt:=Uu (r.take K)
   rw[List.length_take,Nat.min_eq_left (by omega)]at hlt
   obtain⟨n,hn⟩:∃ n,n=YB (r.take K):=⟨_,rfl⟩
   rw[<- hn]at hlt key ⊢
   have hfol:Zm n<=K/\(Zm n=K->Z3 n=c.toNat % 32):=by
    unfold Zm Z3
    rcases hK8 with⟨rfl,hk⟩ | ⟨rfl,hk⟩ | ⟨rfl,hk⟩ | ⟨rfl,hk⟩
    all_goals
     rw[hk]
     simp only[Nat.reducePow]at hlt
     refine⟨by(repeat' split)<;>omega,fun e=>by(repeat' split at e)<;>(repeat' split)<;>omega⟩
   have hw:ZE (((c.toNat/32:Nat):Int),n,false)=YY (c.toNat/32) (Z3 n)::beN n (Zm n):=by simp only[ZE,Bool.false_eq_true,if_false,Int.toNat_natCast]
   refine key (by simp[ZI];omega) (by rw[hw];simp[Z5];omega) fun e=>?_
   rw[hw,List.length_cons,Z5]at e
   have hfk:Zm n=K:=by omega
   rw[hw,hfol.2 hfk,hfk,hd,show p+1+K-p=K+1 from by omega,List.take_succ_cons]
   congr 1
   ·apply UInt8.toNat_inj.1
    rw[Yr _ _ (by omega) (by omega)]
    omega
   ·have:=XP (r.take K)
    rw[List.length_take,Nat.min_eq_left (by omega),<- hn]at this
    exact this
end Go.Proofs.YthdgejfglbjogaaDoor
end
section
open Go.RowKit Go.Pl Go.Av
namespace Go.Proofs.YthdgejfglbjogaaDoor
theorem Qe {p:Prop}(h:p:=by(apply ZW [];(apply Zf Za;exact Z);(iterate 4 exact Z));all_goals rfl):p:=h
end Go.Proofs.YthdgejfglbjogaaDoor
end

/- Regions that draw their order, in which a few operations, in an order of their own, change variables or tokens. -/
import Derived.Test.YtchlgagdbflkmaaGreatDoorL08
set_option linter.unusedSimpArgs false
set_option linter.unusedVariables false
section
open Go.RowKit Go.Pl
namespace Go.Av
inductive Y where
 | pu (d:D)
 | ef (d:D) (bx:List (List D)) (fr:List Fr)
def Y.d:Y->D
 | .pu d=>d
 | .ef d _ _=>d
def Y.aft:Y->List (List D) × List Fr->List (List D) × List Fr
 | .pu _,s=>s
 | .ef _ b f,_=>(b,f)
def Ww (n i:Nat)(o:Oper):Nat:=match o.dst with
 | some t=>t
 | none=>n+i
def qY (o:Oper)(bx:List (List D))(fr:List Fr):Y->X->St->Prop
 | .pu d,.norm,S=>match o.dst with
  | some t=>qp t d bx fr .norm S
  | none=>d=.junk/\S.bx=bx/\S.fr=fr
 | .ef d b f,.norm,S=>S.bx=b/\S.fr=f/\match o.dst with
  | some t=>look S.tm t=d
  | none=>d=.junk
 | _,_,_=>False
theorem Tb {o:Oper}{bx:List (List D)}{fr:List Fr}{y:Y}{x:X}{S:St}(h:qY o bx fr y x S):x=.norm:=by
 cases y<;>cases x<;>simp[qY]at h ⊢
def XT (n:Nat)(o:Oper):Bool:=match o.dst with
 | some t=>Nat.blt t n
 | none=>true
inductive AE [Known][Dfr](P:Program) (l:List Oper) (n:Nat):Nat->List Oper->List (Nat × D)->List (List D)->List Fr->List Y->List (Nat × D)->List (List D)->List Fr->Prop
 | nil (i:Nat) (tm:List (Nat × D)) (bx:List (List D)) (fr:List Fr):AE P l n i [] tm bx fr [] tm bx fr
 | cons (i:Nat) (o:Oper) (rest:List Oper) (tm:List (Nat × D)) (bx:List (List D)) (fr:List Fr) (y:Y) (ys:List Y) (tm':List (Nat × D)) (bx':List (List D)) (fr':List Fr) (ht:XT n o=true)
   (h:AL P l.toArray [o] ⟨n,Wp l o tm,bx,fr,(bx.length,fr.length)⟩ (qY o bx fr y)) (k:AE P l n (i+1) rest ((Ww n i o,y.d)::tm) (y.aft (bx,fr)).1 (y.aft (bx,fr)).2 ys tm' bx' fr'):AE P l n i (o::rest) tm bx fr (y::ys) tm' bx' fr'
def stg:List Y->List (List D) × List Fr->(Nat->Bool)->List (List D) × List Fr
 | [],s,_=>s
 | y::ys,s,p=>stg ys (match p 0 with|true=>y.aft s|false=>s) (fun j=>p (j+1))
def I6 (ys:List Y)(i:Nat):Prop:=∃ d b f,ys[i]?=some (.ef d b f)
theorem VC:∀(ys:List Y) (s:List (List D) × List Fr) (p q:Nat->Bool),(∀ i,I6 ys i->p i=q i)->stg ys s p=stg ys s q
 | [],s,p,q,_=>rfl
 | y::ys,s,p,q,h=>by
  simp only[stg]
  have h1:(match p 0 with|true=>y.aft s|false=>s)=(match q 0 with|true=>y.aft s|false=>s):=by
   cases y with
   | pu d=>cases p 0<;>cases q 0<;>rfl
   | ef d b f=>rw[h 0 ⟨d,b,f,rfl⟩]
  rw[h1]
  exact VC ys _ _ _ fun i ⟨d,b,f,hi⟩=>h (i+1) ⟨d,b,f,by simpa using hi⟩
theorem Ux:∀(ys:List Y) (s:List (List D) × List Fr) (p:Nat->Bool),(∀ i,I6 ys i->p i=false)->stg ys s p=s
 | [],s,p,_=>rfl
 | y::ys,s,p,h=>by
  simp only[stg]
  have h1:(match p 0 with|true=>y.aft s|false=>s)=s:=by
   cases y with
   | pu d=>cases p 0<;>rfl
   | ef d b f=>rw[h 0 ⟨d,b,f,rfl⟩]
  rw[h1]
  exact Ux ys _ _ fun i ⟨d,b,f,hi⟩=>h (i+1) ⟨d,b,f,by simpa using hi⟩
theorem Ou:∀(ys:List Y) (s:List (List D) × List Fr) (i:Nat) (y:Y),ys[i]?=some y->stg ys s (fun j=>decide (j<i+1))=y.aft (stg ys s (fun j=>decide (j<i)))
 | [],s,i,y,h=>by simp at h
 | y0::ys,s,0,y,h=>by
  simp at h;subst h
  simp only[stg]
  have e1:(match decide (0<0+1) with|true=>y0.aft s|false=>s)=y0.aft s:=by simp
  have e2:(match decide (0<0) with|true=>y0.aft s|false=>s)=s:=by simp
  rw[e1,e2,Ux ys _ _ (by intro i _;simp),Ux ys _ _ (by intro i _;simp)]
 | y0::ys,s,i+1,y,h=>by
  simp only[stg]
  have e1:(match decide (0<i+1+1) with|true=>y0.aft s|false=>s)=y0.aft s:=by simp
  have e2:(match decide (0<i+1) with|true=>y0.aft s|false=>s)=y0.aft s:=by simp
  rw[e1,e2]
  have:=Ou ys (y0.aft s) i y (by simpa using h)
  simpa using this
section
variable {P:Program} {Q:X->St->Prop} {n:Nat} {ee:Nat × Nat} {tm tm':List (Nat × D)} {bx bx':List (List D)} {fr fr':List Fr} {b0:Bs} {g:G} {w:World} {a:Act} {ys:List Y}
theorem AE.steps [Known][Dfr]{l:List Oper}{i0:Nat}{rest:List Oper}(h:AE P l n i0 rest tm bx fr ys tm' bx' fr'):∃ ds:List (Nat × D),ds.length=rest.length/\ys.length=rest.length/\tm'=ds.reverse++tm/\stg ys (bx,fr) (fun _=>true)=(bx',fr') /\
  ∀(i:Nat) (o:Oper),rest[i]?=some o->∃ y,ys[i]?=some y/\ds[i]?=some (Ww n (i0+i) o,y.d)/\XT n o=true /\
   AL P l.toArray [o] ⟨n,Wp l o ((ds.take i).reverse++tm),(stg ys (bx,fr) (fun j=>decide (j<i))).1,(stg ys (bx,fr) (fun j=>decide (j<i))).2,((stg ys (bx,fr) (fun j=>decide (j<i))).1.length,(stg ys (bx,fr) (fun j=>decide (j<i))).2.length)⟩ (qY o (stg ys (bx,fr) (fun j=>decide (j<i))).1 (stg ys (bx,fr) (fun j=>decide (j<i))).2 y):=by
 induction h with
 | nil i tm bx fr=>exact⟨[],rfl,rfl,rfl,rfl,fun i o h=>by simp at h⟩
 | cons i o rest tm bx fr y ys tm' bx' fr' ht h k ih=>
  obtain⟨ds,h1,h2,h3,h4,h5⟩:=ih
  refine⟨(Ww n i o,y.d)::ds,by simp[h1],by simp[h2],by simp[h3],?_,fun j o' ho=>?_⟩
  ·simp only[stg];exact h4
  cases j with
  | zero=>
   simp at ho;subst ho
   have e:stg (y::ys) (bx,fr) (fun j=>decide (j<0))=(bx,fr):=Ux _ _ _ (by intro i _;simp)
   refine⟨y,rfl,by simp,ht,?_⟩
   rw[e]
   simpa using h
  | succ j=>
   simp at ho
   obtain⟨y',q1,q2,q3,q4⟩:=h5 j o' ho
   have e:stg (y::ys) (bx,fr) (fun x=>decide (x<j+1))=stg ys (y.aft (bx,fr)) (fun x=>decide (x<j)):=by
    simp only[stg]
    have e2:(match decide (0<j+1) with|true=>y.aft (bx,fr)|false=>(bx,fr))=y.aft (bx,fr):=by simp
    rw[e2]
    exact VC _ _ _ _ fun i _=>by simp
   refine⟨y',by simpa using q1,by rw[show i+(j+1)=i+1+j from by omega];simpa using q2,q3,?_⟩
   rw[e]
   simpa using q4
def Qj:Nat->List Y->List Nat
 | _,[]=>[]
 | i,.pu _::ys=>Qj (i+1) ys
 | i,.ef _ _ _::ys=>i::Qj (i+1) ys
def Jb:Nat->List Y->List (Nat × List (List D) × List Fr)
 | _,[]=>[]
 | i,.pu _::ys=>Jb (i+1) ys
 | i,.ef _ b f::ys=>(i+1,b,f)::Jb (i+1) ys
theorem Va:∀ {ys:List Y} {i0 e:Nat},e ∈ Qj i0 ys ↔ ∃ i,e=i0+i/\I6 ys i
 | [],i0,e=>by simp[Qj,I6]
 | .pu d::ys,i0,e=>by
  simp only[Qj]
  rw[Va]
  constructor
  ·rintro⟨i,rfl,d,b,f,h⟩;exact⟨i+1,by omega,d,b,f,by simpa using h⟩
  ·rintro⟨i,rfl,d,b,f,h⟩
   cases i with
   | zero=>simp at h
   | succ i=>exact⟨i,by omega,d,b,f,by simpa using h⟩
 | .ef d b f::ys,i0,e=>by
  simp only[Qj,List.mem_cons]
  rw[Va]
  constructor
  ·rintro(rfl|⟨i,rfl,d,b,f,h⟩)
   ·exact⟨0,by omega,d,b,f,rfl⟩
   ·exact⟨i+1,by omega,d,b,f,by simpa using h⟩
  ·rintro⟨i,rfl,d,b,f,h⟩
   cases i with
   | zero=>exact .inl (by omega)
   | succ i=>exact .inr ⟨i,by omega,d,b,f,by simpa using h⟩
theorem Jp:∀ {ys:List Y} {i0 i:Nat} {d:D} {b:List (List D)} {f:List Fr},ys[i]?=some (.ef d b f)->(i0+i+1,b,f) ∈ Jb i0 ys
 | .pu d::ys,i0,0,_,_,_,h=>by simp at h
 | .pu d::ys,i0,i+1,_,_,_,h=>by
  simp only[Jb]
  have:=Jp (i0:=i0+1) (by simpa using h)
  rw[show i0+(i+1)+1=i0+1+i+1 from by omega];exact this
 | .ef d b f::ys,i0,0,_,_,_,h=>by
  simp at h
  obtain⟨_,rfl,rfl⟩:=h
  simp[Jb]
 | .ef d b f::ys,i0,i+1,_,_,_,h=>by
  simp only[Jb]
  have:=Jp (i0:=i0+1) (by simpa using h)
  rw[show i0+(i+1)+1=i0+1+i+1 from by omega];exact List.mem_cons_of_mem _ this
 | [],i0,i,_,_,_,h=>by simp at h
def Hg (l:List Oper)(es:List Nat)(i c:Nat):Bool:=!(es.all fun e=>decide (e<c)==decide (e<i))&&es.all fun e=>(!up (Wf [] l) i e||decide (e<c))&&(!up (Wf [] l) e i||decide (c<=e))
def HZ (l:List Oper)(es:List Nat):Bool:=es.all fun e=>es.all fun e'=>!decide (e<e')||up (Wf [] l) e' e
def KH (n:Nat)(l:List Oper):Bool:=l.all fun o=>(Qu l o).all fun t=>Nat.blt t n
inductive AOs [Known][Dfr](P:Program) (l:List Oper) (n:Nat) (es:List Nat) (i:Nat) (o:Oper) (tm:List (Nat × D)) (d:D):List (Nat × List (List D) × List Fr)->Prop
 | nil:AOs P l n es i o tm d []
 | skip (c:Nat) (bx:List (List D)) (fr:List Fr) (sts:List (Nat × List (List D) × List Fr)) (h:Hg l es i c=false) (k:AOs P l n es i o tm d sts):AOs P l n es i o tm d ((c,bx,fr)::sts)
 | go (c:Nat) (bx:List (List D)) (fr:List Fr) (sts:List (Nat × List (List D) × List Fr)) (h:AL P l.toArray [o] ⟨n,Wp l o tm,bx,fr,(bx.length,fr.length)⟩ (qY o bx fr (.pu d))) (k:AOs P l n es i o tm d sts):AOs P l n es i o tm d ((c,bx,fr)::sts)
inductive AO [Known][Dfr](P:Program) (l:List Oper) (n:Nat) (es:List Nat) (sts:List (Nat × List (List D) × List Fr)):Nat->List Oper->List Y->List (Nat × D)->Prop
 | nil (i:Nat) (ys:List Y) (tm:List (Nat × D)):AO P l n es sts i [] ys tm
 | ef (i:Nat) (o:Oper) (rest:List Oper) (d:D) (bx:List (List D)) (fr:List Fr) (ys:List Y) (tm:List (Nat × D)) (k:AO P l n es sts (i+1) rest ys ((Ww n i o,d)::tm)):AO P l n es sts i (o::rest) (.ef d bx fr::ys) tm
 | pu (i:Nat) (o:Oper) (rest:List Oper) (d:D) (ys:List Y) (tm:List (Nat × D)) (h:AOs P l n es i o tm d sts) (k:AO P l n es sts (i+1) rest ys ((Ww n i o,d)::tm)):AO P l n es sts i (o::rest) (.pu d::ys) tm
theorem AOs.get [Known][Dfr]{l:List Oper}{es:List Nat}{i:Nat}{o:Oper}{d:D}{sts:List (Nat × List (List D) × List Fr)}(h:AOs P l n es i o tm d sts):∀ {c:Nat} {b:List (List D)} {f:List Fr},(c,b,f) ∈ sts->Hg l es i c=false\/AL P l.toArray [o] ⟨n,Wp l o tm,b,f,(b.length,f.length)⟩ (qY o b f (.pu d)):=by
 induction h with
 | nil=>intro c b f h;cases h
 | skip c bx fr sts h k ih=>
  intro c' b f hm
  rcases List.mem_cons.1 hm with hm|hm
  ·cases hm;exact .inl h
  ·exact ih hm
 | go c bx fr sts h k ih=>
  intro c' b f hm
  rcases List.mem_cons.1 hm with hm|hm
  ·cases hm;exact .inr h
  ·exact ih hm
theorem AO.get [Known][Dfr]{l:List Oper}{es:List Nat}{sts:List (Nat × List (List D) × List Fr)}{i0:Nat}{rest:List Oper}(h:AO P l n es sts i0 rest ys tm):∀ {i:Nat} {o:Oper} {d:D},rest[i]?=some o->ys[i]?=some (.pu d)->∀(ds:List (Nat × D)),(∀(j:Nat) (oj:Oper) (y:Y),j<i->rest[j]?=some oj->ys[j]?=some y->ds[j]?=some (Ww n (i0+j) oj,y.d))->i<=ds.length->AOs P l n es (i0+i) o ((ds.take i).reverse++tm) d sts:=by
 induction h with
 | nil i ys tm=>intro i o d h;simp at h
 | ef i0 o0 rest d0 bx fr ys tm k ih=>
  intro i o d ho hy ds hds hl
  cases i with
  | zero=>simp at hy
  | succ i=>
   cases ds with
   | nil=>simp at hl
   | cons p ds=>
    have h0:=hds 0 o0 _ (by omega) rfl rfl
    simp at h0
    subst h0
    have:=ih (i:=i) (by simpa using ho) (by simpa using hy) ds (fun j oj y hj h1 h2=>by
     have:=hds (j+1) oj y (by omega) (by simpa using h1) (by simpa using h2)
     rw[show i0+1+j=i0+(j+1) from by omega];simpa using this) (by simpa using hl)
    rw[show i0+(i+1)=i0+1+i from by omega]
    simpa[Y.d]using this
 | pu i0 o0 rest d0 ys tm h k ih=>
  intro i o d ho hy ds hds hl
  cases i with
  | zero=>
   simp at ho hy
   subst ho hy
   simpa using h
  | succ i=>
   cases ds with
   | nil=>simp at hl
   | cons p ds=>
    have h0:=hds 0 o0 _ (by omega) rfl rfl
    simp at h0
    subst h0
    have:=ih (i:=i) (by simpa using ho) (by simpa using hy) ds (fun j oj y hj h1 h2=>by
     have:=hds (j+1) oj y (by omega) (by simpa using h1) (by simpa using h2)
     rw[show i0+1+j=i0+(j+1) from by omega];simpa using this) (by simpa using hl)
    rw[show i0+(i+1)=i0+1+i from by omega]
    simpa[Y.d]using this
theorem I7 {p:Nat->Bool}:∀(es:List Nat),(∀ e ∈ es,∀ e' ∈ es,e<e'->p e'=true->p e=true)->∃ c,(c=0\/∃ e ∈ es,c=e+1/\p e=true)/\∀ e ∈ es,p e=decide (e<c)
 | [],_=>⟨0,.inl rfl,by simp⟩
 | e::es,h=>by
  obtain⟨c,h1,h2⟩:=I7 es fun x hx y hy=>h x (by simp[hx]) y (by simp[hy])
  cases hp:p e with
  | true=>
   rcases Nat.lt_or_ge e c with hc|hc
   ·refine⟨c,h1.imp id fun⟨x,hx,k⟩=>⟨x,by simp[hx],k⟩,fun x hx=>?_⟩
    rcases List.mem_cons.1 hx with rfl|hx
    ·simp[hp,hc]
    ·exact h2 x hx
   ·refine⟨e+1,.inr ⟨e,by simp,rfl,hp⟩,fun x hx=>?_⟩
    rcases List.mem_cons.1 hx with rfl|hx'
    ·simp[hp]
    ·rcases Nat.lt_trichotomy x e with hlt|rfl|hgt
     ·rw[h x hx e (by simp) hlt hp];simp;omega
     ·rw[hp];simp
     ·rw[h2 x hx'];simp;omega
  | false=>
   refine⟨c,h1.imp id fun⟨x,hx,k⟩=>⟨x,by simp[hx],k⟩,fun x hx=>?_⟩
   rcases List.mem_cons.1 hx with rfl|hx'
   ·rw[hp]
    rcases h1 with rfl|⟨y,hy,rfl,hpy⟩
    ·simp
    ·have:¬ x<y+1:=fun hlt=>by
      rcases Nat.lt_or_ge x y with h3|h3
      ·have:=h x (by simp) y (by simp[hy]) h3 hpy
       rw[hp]at this;cases this
      ·have:x=y:=by omega
       subst this
       rw[hp]at hpy;cases hpy
     simp[this]
   ·exact h2 x hx'
end
end Go.Av
end
section
open Go.RowKit Go.Pl
namespace Go.Av
def HD (n:Nat)(l:List Oper)(ds:List (Nat × D)):Prop:=∀(i:Nat) (o:Oper),l[i]?=some o->i<ds.length->∃ d,ds[i]?=some (Ww n i o,d)/\(o.dst=none->d=.junk)/\XT n o=true
theorem HD.one {n:Nat}{l:List Oper}{ds:List (Nat × D)}(hchk:W0 l=true)(hl:ds.length<=l.length)(hdst:HD n l ds):∀(i j:Nat) (p q:Nat × D),ds[i]?=some p->ds[j]?=some q->p.1=q.1->i=j:=fun x y p q hx hy e=>by
 by_cases hxy:x=y
 ·exact hxy
 ·exfalso
  have hxd:=(List.getElem?_eq_some_iff.1 hx).1
  have hxl:x<l.length:=Nat.lt_of_lt_of_le hxd hl
  have hyd:=(List.getElem?_eq_some_iff.1 hy).1
  have hyl:y<l.length:=Nat.lt_of_lt_of_le hyd hl
  have hc:=Qy hchk hxl hyl hxy
  obtain⟨d1,a1,_,a3⟩:=hdst x _ (List.getElem?_eq_getElem hxl) hxd
  obtain⟨d2,c1,_,c3⟩:=hdst y _ (List.getElem?_eq_getElem hyl) hyd
  rw[hx]at a1;injection a1 with a1
  rw[hy]at c1;injection c1 with c1
  rw[a1,c1]at e
  simp only[Ue,List.getElem?_eq_getElem hxl,List.getElem?_eq_getElem hyl]at hc
  simp only[Ww]at e
  simp only[XT]at a3 c3
  cases h1:l[x].dst with
  | none=>
   cases h2:l[y].dst with
   | none=>simp[h1,h2]at e;omega
   | some t2=>
    simp[h1,h2]at e
    rw[h2]at c3
    have h9 : @LT.lt Nat instLTNat t2 n:=by have:=c3;simp only[Nat.blt_eq]at this;exact this
    (have e2 : @Eq Nat _ _:=e);omega
  | some t1=>
   rw[h1]at a3
   have h9 : @LT.lt Nat instLTNat t1 n:=by have:=a3;simp only[Nat.blt_eq]at this;exact this
   cases h2:l[y].dst with
   | none=>simp[h1,h2]at e;(have e2 : @Eq Nat _ _:=e);omega
   | some t2=>
    simp[h1,h2]at e
    simp[h1,h2,e]at hc
theorem Ov {n:Nat}{l:List Oper}{ds:List (Nat × D)}{tm:List (Nat × D)}{listed:Array Bool}(hchk:W0 l=true)(hlk:KH n l=true)(hl:ds.length<=l.length)(hdst:HD n l ds)
  (hcl:∀(m:Nat) (o:Oper),l[m]?=some o->listed.getD m false=true->∀ e ∈ o.after,Region.binds .any e=true->listed.getD e.on false=true)
  {i:Nat} {o:Oper} (hi:l[i]?=some o) (hni:listed.getD i false=false) (hr:∀ e ∈ o.after,Region.binds .any e=true->listed.getD e.on false=true) (hid:i<=ds.length) {t:Nat} (ht:t ∈ Qu l o) :
  cur l ds tm listed t=look ((ds.take i).reverse++tm) t:=by
 have hil:i<l.length:=(List.getElem?_eq_some_iff.1 hi).1
 have hN:=hdst.one hchk hl
 have htn:t<n:=by
  have h1:=List.all_eq_true.1 hlk o (List.mem_of_getElem? hi)
  exact(by simpa[Nat.blt_eq]using List.all_eq_true.1 h1 t ht)
 by_cases hex:∃(j:Nat) (d:D),ds[j]?=some (t,d)
 ·obtain⟨j,d,hj⟩:=hex
  have hjd:=(List.getElem?_eq_some_iff.1 hj).1
  have hjl:j<l.length:=Nat.lt_of_lt_of_le hjd hl
  rw[Uo hN hl hj]
  have hoj:=List.getElem?_eq_getElem hjl
  obtain⟨d',a1,_,a3⟩:=hdst j _ hoj hjd
  rw[hj]at a1;injection a1 with a1;injection a1 with a1 _
  have a2:l[j].dst=some t:=by
   cases hd:l[j].dst with
   | none=>simp only[Ww,hd]at a1;omega
   | some t'=>simp only[Ww,hd]at a1;rw[a1]
  have hord:j ≠ i->(if j<i then up (Wf [] l) i j else up (Wf [] l) j i)=true:=fun hne=>by
   have hc:=Qy hchk hjl hil hne
   simp only[Ue,hoj,hi,a2,Bool.and_eq_true]at hc
   have h2:=hc.2
   rw[Bool.or_eq_true]at h2
   rcases h2 with h2|h2
   ·simp[ht]at h2
   ·exact h2
  have htake:∀(x:Nat) (p:Nat × D),(ds.take i)[x]?=some p->x<i/\ds[x]?=some p:=fun x p h=>by simpa[List.getElem?_take]using h
  rw[Vg]
  by_cases hlist:listed.getD j false=true
  ·rw[if_pos hlist]
   have hne:j ≠ i:=fun e=>by subst e;rw[hni]at hlist;cases hlist
   have hlt:j<i:=by
    rcases Nat.lt_or_ge j i with h|h
    ·exact h
    ·exfalso
     have:=hord hne
     rw[if_neg (by omega)]at this
     have:=Un hcl j _ hoj (hcl j _ hoj hlist) i this
     rw[hni]at this;cases this
   have hin:(ds.take i)[j]?=some (t,d):=by simp[List.getElem?_take,hlt,hj]
   rw[if_pos (by simp only[List.map_reverse,List.mem_reverse];exact List.mem_map.2 ⟨(t,d),List.mem_of_getElem? hin,rfl⟩)]
   have hN':∀(x y:Nat) (p q:Nat × D),(ds.take i).reverse[x]?=some p->(ds.take i).reverse[y]?=some q->p.1=q.1->x=y:=fun x y p q hx hy e=>by
    have lx:=(List.getElem?_eq_some_iff.1 hx).1
    have ly:=(List.getElem?_eq_some_iff.1 hy).1
    rw[List.getElem?_reverse (by simpa using lx)]at hx
    rw[List.getElem?_reverse (by simpa using ly)]at hy
    have:=hN _ _ p q (htake _ _ hx).2 (htake _ _ hy).2 e
    simp at lx ly this
    omega
   have hlen:(ds.take i).length=i:=by rw[List.length_take];omega
   refine(JV hN' (i:=i-1-j) (t:=t) (d:=d) ?_).symm
   rw[List.getElem?_reverse (by rw[hlen];omega),hlen,show i-1-(i-1-j)=j from by omega]
   exact hin
  ·rw[if_neg hlist]
   have hge:¬ j<i:=fun hlt=>by
    have:=hord (by omega)
    rw[if_pos hlt]at this
    exact hlist (Un hcl i o hi hr j this)
   rw[if_neg (fun hm=>by
    simp only[List.map_reverse,List.mem_reverse]at hm
    obtain⟨p,hp,he⟩:=List.mem_map.1 hm
    obtain⟨x,hx⟩:=List.getElem?_of_mem hp
    obtain⟨h1,h2⟩:=htake x p hx
    have:=hN x j p (t,d) h2 hj he
    omega)]
 ·have hno:∀(j:Nat) (p:Nat × D),ds[j]?=some p->p.1 ≠ t:=fun j p hj e=>hex ⟨j,p.2,by rw[hj,<- e]⟩
  rw[Uf hno,Vg,if_neg (fun hm=>by
   simp only[List.map_reverse,List.mem_reverse]at hm
   obtain⟨p,hp,he⟩:=List.mem_map.1 hm
   obtain⟨x,hx⟩:=List.getElem?_of_mem (List.mem_of_mem_take hp)
   exact hno x p hx he)]
section
variable {P:Program} {Q:X->St->Prop} {n:Nat} {ee:Nat × Nat} {tm tm':List (Nat × D)} {bx bx':List (List D)} {fr fr':List Fr} {b0:Bs} {g:G} {w:World} {a:Act} {ys:List Y}
structure MidE [Known][Dfr](b0:Bs) (ee:Nat × Nat) (n:Nat) (tm:List (Nat × D)) (s:List (List D) × List Fr) (l:List Oper) (ds:List (Nat × D)) (listed:Array Bool) (g:G) (a:Act) (w:World):Prop where
 bd:b0.g.ρ.length<=ee.1/\b0.fr.length<=ee.2
 size:a.tmps.size=n
 defers:a.defers=Dfr.l
 mem:Mem g s.1 s.2 w
 evo:Evo b0 ⟨g,s.2,w⟩
 tm:∀ t,V w g s.2 (cur l ds tm listed t) (a.tmps.getD t undef)
 closed:∀(m:Nat) (o:Oper),l[m]?=some o->listed.getD m false=true->∀ e ∈ o.after,Region.binds .any e=true->listed.getD e.on false=true
 len:listed.size=l.length
theorem Iu [Known][Dfr]{l:List Oper}{ds:List (Nat × D)}{listed:Array Bool}{s:List (List D) × List Fr}{y:Y}(hchk:W0 l=true)(hlk:KH n l=true)(hl:ds.length<=l.length)(hdst:HD n l ds)
  (hM:MidE b0 ee n tm s l ds listed g a w) {i:Nat} {o:Oper} (ho':l[i]?=some o) (hi:i ∈ Region.ready .any l.toArray listed) (hids:i<ds.length) (hd:ds[i]?=some (Ww n i o,y.d))
  (hAL:AL P l.toArray [o] ⟨n,Wp l o ((ds.take i).reverse++tm),s.1,s.2,(s.1.length,s.2.length)⟩ (qY o s.1 s.2 y)) {K:Act->World->Prop} {Q2:Exit->Act->World->Prop} (hK:∀ g' a' w',MidE b0 ee n tm (y.aft s) l ds (listed.setIfInBounds i true) g' a' w'->K a' w') :
  wpOp P l.toArray Q2 i K a w:=by
 obtain⟨hn0,o2,ho,hr⟩:=mem_ready.1 hi
 have:o2=o:=by
  have h:l[i]?=some o2:=by simpa using ho
  rw[ho']at h;injection h with h;exact h.symm
 subst this
 have hil:i<l.length:=(List.getElem?_eq_some_iff.1 ho').1
 have hn:listed.getD i false=false:=by
  have:i<listed.size:=by rw[hM.len];exact hil
  simp[this]at hn0 ⊢;exact hn0
 have hN:=hdst.one hchk hl
 obtain⟨_,_,_,hok⟩:=hdst i o2 ho' hids
 have hinv:Inv ⟨g,s.2,w⟩ ⟨n,Wp l o2 ((ds.take i).reverse++tm),s.1,s.2,(s.1.length,s.2.length)⟩ g a w:=by
  refine⟨hM.size,hM.defers,hM.mem,fun x=>?_,Evo.refl _,by rw[hM.mem.bl];exact Nat.le_refl _,Nat.le_refl _⟩
  by_cases hx:x ∈ Qu l o2
  ·dsimp only
   rw[UR _ hx,<- Ov hchk hlk hl hdst hM.closed ho' hn hr (Nat.le_of_lt hids) hx]
   exact hM.tm x
  ·dsimp only
   rw[Vr _ hx]
   exact .junk _
 have hrun:=hAL.run ⟨g,s.2,w⟩ g a w hinv
 have fin:∀ a' w',(∃ v,a'=a.put o2.dst v)->wpList P l.toArray (UP ⟨g,s.2,w⟩ (qY o2 s.1 s.2 y)) [] a' w'->K a' w':=by
  rintro a' w' ⟨v,rfl⟩ h
  obtain⟨S',g',hi',hq⟩:=h
  obtain⟨n',tm2,bx2,fr2,ee'⟩:=S'
  have hn':n'=n:=by
   have h1:=hi'.size
   dsimp only at h1
   rw[<- h1,<- hM.size]
   cases hd':o2.dst<;>simp[Act.put,hd']
  subst hn'
  obtain⟨g',hmem,hevo,hdef,hval⟩:∃ g',Mem g' (y.aft s).1 (y.aft s).2 w'/\Evo ⟨g,s.2,w⟩ ⟨g',(y.aft s).2,w'⟩/\(a.put o2.dst v).defers=Dfr.l/\V w' g' (y.aft s).2 y.d ((a.put o2.dst v).tmps.getD (Ww n' i o2) undef):=by
   cases y with
   | ef d b f=>
    obtain⟨q1,q2,q3⟩:=hq
    dsimp only at q1 q2
    subst q1 q2
    refine⟨g',hi'.mem,hi'.evo,hi'.defers,?_⟩
    cases hds:o2.dst with
    | none=>rw[hds]at q3;simp only at q3;subst q3;exact .junk _
    | some t=>
     rw[hds]at q3
     dsimp only at q3
     have:=hi'.tm t
     rw[hds]at this
     dsimp only at this
     simp only[Ww,hds,Y.d]
     rw[<- q3];exact this
   | pu d=>
    cases hds:o2.dst with
    | none=>
     simp only[qY,hds]at hq
     obtain⟨rfl,q2,q3⟩:=hq
     subst q2 q3
     have h1:=hi'.defers
     rw[hds]at h1
     exact⟨g',hi'.mem,hi'.evo,h1,.junk _⟩
    | some t=>
     simp only[qY,hds]at hq
     have hdef:=hi'.defers
     rw[hds]at hdef
     rcases hq with⟨q1,q2,q3⟩ | ⟨q1,q2,q3,q4⟩
     ·dsimp only at q1 q2 q3
      subst q1 q2
      refine⟨g',hi'.mem,hi'.evo,hdef,?_⟩
      have:=hi'.tm t
      rw[hds]at this
      dsimp only at this
      simp only[Ww,hds,Y.d]
      rw[<- q3];exact this
     ·dsimp only at q1 q2 q3
      have h1:Inv ⟨g,s.2,w⟩ ⟨n',[(t,d)],bx2,fr2,(g.ρ.length,s.2.length)⟩ g' (a.put o2.dst v) w':=by
       refine⟨hi'.size,hi'.defers,hi'.mem,fun x=>?_,hi'.evo,Nat.le_refl _,Nat.le_refl _⟩
       by_cases hx:x=t
       ·subst hx
        have:=hi'.tm x
        dsimp only at this ⊢
        simp only[look,Nat.beq_refl]
        rcases q3 with q3|q3
        ·rw[<- q3];exact this
        ·rw[<- q3];exact this.wk
       ·have hb:Nat.beq t x=false:=by
         cases hb:Nat.beq t x with
         | false=>rfl
         | true=>exact(hx (Nat.eq_of_beq_eq_true hb).symm).elim
        simp only[look,hb]
        exact .junk _
      have h2:=h1.cut (k:=s.1.length) (m:=s.2.length) (by show g.ρ.length<=_;rw[hM.mem.bl];exact Nat.le_refl _) (Nat.le_refl _) (by simp only[Kj,q4]) (by rw[q1];exact hM.mem.allLt)
      rw[q1,q2]at h2
      refine⟨_,h2.mem,h2.evo,hdef,?_⟩
      have:=h2.tm t
      rw[hds]at this
      dsimp only at this
      simp only[look,Nat.beq_refl]at this
      simp only[Ww,hds,Y.d]
      exact this
  refine hK g' _ _ ⟨hM.bd,hi'.size,hdef,hmem,hM.evo.trans hevo,fun x=>?_,fun m om hm hlm e he hb=>?_,by simp[hM.len]⟩
  ·by_cases hx:x=Ww n' i o2
   ·subst hx
    rw[Uo hN hl hd,if_pos (by simp[hM.len,hil])]
    exact hval
   ·have hcur:cur l ds tm (listed.setIfInBounds i true) x=cur l ds tm listed x:=by
     by_cases hex:∃(j:Nat) (d:D),ds[j]?=some (x,d)
     ·obtain⟨j,dj,hj⟩:=hex
      have hne:i ≠ j:=fun e=>by
       subst e
       rw[hd]at hj;injection hj with hj;injection hj with hj
       exact hx hj.symm
      rw[Uo hN hl hj,Uo hN hl hj,getD_set_ne false hne]
     ·have hno:∀(j:Nat) (p:Nat × D),ds[j]?=some p->p.1 ≠ x:=fun j p hj e=>hex ⟨j,p.2,by rw[hj,<- e]⟩
      rw[Uf hno,Uf hno]
    rw[hcur]
    have htm:(a.put o2.dst v).tmps.getD x undef=a.tmps.getD x undef:=by
     cases hds:o2.dst with
     | none=>rfl
     | some t=>
      simp only[Ww,hds]at hx
      simp[Act.put,Array.getD_getElem?,Array.getElem?_setIfInBounds_ne (Ne.symm hx)]
    rw[htm]
    exact(hM.tm x).evo hevo
  ·by_cases hmi:m=i
   ·subst hmi
    rw[ho']at hm;injection hm with hm;subst hm
    exact getD_set_true (hr e he hb)
   ·rw[getD_set_ne false (Ne.symm hmi)]at hlm
    exact getD_set_true (hM.closed m om hm hlm e he hb)
 unfold wpOp
 simp only[ho]
 unfold wpList at hrun
 by_cases hw:Region.wanted o2 (yielded l.toArray a.tmps)=true
 ·rw[if_pos hw]at hrun
  rw[if_pos hw]
  have hL:LetsOut (UP ⟨g,s.2,w⟩ (qY o2 s.1 s.2 y))->False:=fun⟨_,_,h⟩=>h
  rcases hrun with hrun|⟨_,hlo⟩
  ·refine .inl ?_
   have:=KC (Q2:=Q2) hrun hM.defers (fun a w h=>by obtain⟨S',g',hi',_⟩:=h;exact hi'.defers) (fun c a w h=>by obtain⟨_,_,_,_,_,_,_,hq⟩:=h;exact(by cases Tb hq)) hL
   exact Oper.wp_mono (P:=P) (fun a' w' h=>fin a' w' h.1 h.2) this
  ·exact(hL hlo).elim
 ·rw[if_neg hw]at hrun
  rw[if_neg hw]
  exact fin _ _ ⟨undef,rfl⟩ hrun
theorem I8 [Known][Dfr]{l:List Oper}{ds:List (Nat × D)}{listed:Array Bool}{s:List (List D) × List Fr}(hchk:W0 l=true)(hl:ds.length<=l.length)(hdst:HD n l ds)
  (hM:MidE b0 ee n tm s l ds listed g a w) (hall:∀ i,i<ds.length->listed.getD i false=true):Inv b0 ⟨n,ds.reverse++tm,s.1,s.2,ee⟩ g a w:=by
 have hN:=hdst.one hchk hl
 refine⟨hM.size,hM.defers,hM.mem,fun x=>?_,hM.evo,hM.bd⟩
 have hx:=hM.tm x
 have hc:cur l ds tm listed x=look (ds.reverse++tm) x:=by
  rw[Vg]
  by_cases hex:∃(j:Nat) (d:D),ds[j]?=some (x,d)
  ·obtain⟨j,dj,hj⟩:=hex
   have hjl:=(List.getElem?_eq_some_iff.1 hj).1
   rw[Uo hN hl hj,if_pos (hall j hjl),if_pos (by simp only[List.map_reverse,List.mem_reverse];exact List.mem_map.2 ⟨(x,dj),List.mem_of_getElem? hj,rfl⟩)]
   have hN':∀(x y:Nat) (p q:Nat × D),ds.reverse[x]?=some p->ds.reverse[y]?=some q->p.1=q.1->x=y:=fun x y p q hx hy e=>by
    have lx:=(List.getElem?_eq_some_iff.1 hx).1
    have ly:=(List.getElem?_eq_some_iff.1 hy).1
    rw[List.getElem?_reverse (by simpa using lx)]at hx
    rw[List.getElem?_reverse (by simpa using ly)]at hy
    have:=hN _ _ p q hx hy e
    simp at lx ly
    omega
   refine(JV hN' (i:=ds.length-1-j) ?_).symm
   rw[List.getElem?_reverse (by omega),show ds.length-1-(ds.length-1-j)=j from by omega]
   exact hj
  ·have hno:∀(j:Nat) (p:Nat × D),ds[j]?=some p->p.1 ≠ x:=fun j p hj e=>hex ⟨j,p.2,by rw[hj,<- e]⟩
   rw[Uf hno,if_neg (fun hm=>by
    simp only[List.map_reverse,List.mem_reverse]at hm
    obtain⟨p,hp,he⟩:=List.mem_map.1 hm
    obtain⟨y,hy⟩:=List.getElem?_of_mem hp
    exact hno y p hy he)]
 rw[<- hc];exact hx
structure AOt [Known][Dfr](P:Program) (l:List Oper) (n:Nat) (rest:List Oper) (ys:List Y) (tm:List (Nat × D)) (bx:List (List D)) (fr:List Fr):Prop where
 out:∃ es sts,nfl (Qj 0 ys)=some es/\nfl (Jb 0 ys)=some sts/\HZ l es=true/\AO P l n es ((0,bx,fr)::sts) 0 rest ys tm/\∀(i:Nat) (o:Oper) (y:Y),rest[i]?=some o->ys[i]?=some y->o.dst=none->y.d=.junk
def I9:List Oper->List Y->Bool
 | o::l,y::ys=>(match o.dst,y.d with|none,.junk=>true|some _,_=>true|_,_=>false)&&I9 l ys
 | _,_=>true
theorem KI:∀ {l:List Oper} {ys:List Y},I9 l ys=true->∀(i:Nat) (o:Oper) (y:Y),l[i]?=some o->ys[i]?=some y->o.dst=none->y.d=.junk
 | o0::l,y0::ys,h,0,o,y,h1,h2,h3=>by
  simp at h1 h2
  subst h1 h2
  simp only[I9,Bool.and_eq_true]at h
  have h:=h.1
  rw[h3]at h
  cases hy:y0.d<;>simp[hy]at h ⊢
 | o0::l,y0::ys,h,i+1,o,y,h1,h2,h3=>by
  simp only[I9,Bool.and_eq_true]at h
  exact KI h.2 i o y (by simpa using h1) (by simpa using h2) h3
 | [],ys,h,i,o,y,h1,h2,h3=>by simp at h1
 | o0::l,[],h,i,o,y,h1,h2,h3=>by simp at h2
theorem ZD [Known][Dfr]{l rest:List Oper}{es:List Nat}{sts:List (Nat × List (List D) × List Fr)}(h1:nfl (Qj 0 ys)=some es)(h2:nfl (Jb 0 ys)=some sts)(h3:HZ l es=true)(h4:I9 rest ys=true)(h:AO P l n es ((0,bx,fr)::sts) 0 rest ys tm):AOt P l n rest ys tm bx fr:=
 ⟨es,sts,h1,h2,h3,h,KI h4⟩
structure AY [Known][Dfr](P:Program) (l:List Oper) (S:St) (Q:X->St->Prop):Prop where
 run:∀ b0 g a w,Inv b0 S g a w->wpAny P .any l.toArray (UP b0 Q) l.toArray.size (Array.replicate l.toArray.size false) a { w with drawn:=w.drawn+1 }
theorem Tc [Known][Dfr]{id:Nat}{l:List Oper}{S:St}(hm:P.follows .mixedOrders=true)(h:AY P l S Q):AW P (.region id l.toArray true) S Q:=⟨fun b0 g a w hi=>wp_region_any hm (h.run b0 g a w hi)⟩
theorem Iv [Known][Dfr]{m:Nat}{l acts:List Oper}(hchk:W0 l=true)(hlk:KH n l=true)(hE:Kk l=true)(hch:V0 l m=true)(hlen:(l.take m).length=m)(hacts:l.drop m=acts)(h:AE P l n 0 (l.take m) tm bx fr ys tm' bx' fr')(hO:AOt P l n (l.take m) ys tm bx fr)(k:AL P l.toArray acts ⟨n,tm',bx',fr',ee⟩ Q) :
  AY P l ⟨n,tm,bx,fr,ee⟩ Q:=by
 obtain⟨ds,h1,h1y,h2,hfin,h3⟩:=h.steps
 obtain⟨es,sts,e1,e2,hes,hAO,hJ⟩:=hO.out
 have e1:=YO e1
 have e2:=YO e2
 subst e1 e2
 have hml:m<=l.length:=by rw[List.length_take]at hlen;omega
 rw[hlen]at h1 h1y
 have hl:ds.length<=l.length:=by omega
 have htk:∀(i:Nat) (o:Oper),l[i]?=some o->i<m->(l.take m)[i]?=some o:=fun i o ho hi=>by rw[List.getElem?_take,if_pos hi];exact ho
 have hdst:HD n l ds:=fun i o ho hd=>by
  obtain⟨y,q1,q2,q3,_⟩:=h3 i o (htk i o ho (by omega))
  rw[Nat.zero_add]at q2
  exact⟨y.d,q2,hJ i o y (htk i o ho (by omega)) q1,q3⟩
 have hefl:∀ e,I6 ys e->e<m:=fun e ⟨d,b,f,he⟩=>by have:=(List.getElem?_eq_some_iff.1 he).1;omega
 refine⟨fun b0 g a w hi=>?_⟩
 have main:∀(fuel:Nat) (listed:Array Bool) (g:G) (a:Act) (w:World),MidE b0 ee n tm (stg ys (bx,fr) (fun i=>listed.getD i false)) l ds listed g a w->(∀ i,m<=i->i<l.length->listed.getD i false=false)->left l listed=fuel->wpAny P .any l.toArray (UP b0 Q) fuel listed a w:=by
  intro fuel
  have hend:∀(listed:Array Bool) (g:G) (a:Act) (w:World),MidE b0 ee n tm (stg ys (bx,fr) (fun i=>listed.getD i false)) l ds listed g a w->(∀ i,i<m->listed.getD i false=true)->AL P l.toArray acts ⟨n,tm',bx',fr',ee⟩ Q->wpList P l.toArray (UP b0 Q) acts a w:=fun listed g a w hM hall k=>by
   have hinv:=I8 hchk hl hdst hM fun i hi=>hall i (by omega)
   rw[<- h2]at hinv
   have:stg ys (bx,fr) (fun i=>listed.getD i false)=(bx',fr'):=by
    rw[<- hfin]
    exact VC _ _ _ _ fun i hi=>hall i (hefl i hi)
   rw[this]at hinv
   exact k.run b0 g a w hinv
  induction fuel with
  | zero=>
   intro listed g a w hM hu h0
   have hml':l.length=m:=by
    rcases Nat.lt_or_ge m l.length with h|h
    ·have h5:=hu m (Nat.le_refl _) h
     have h6:=VB h0 h
     rw[h5]at h6;cases h6
    ·omega
   exact Qz hE hch 0 m listed a w (by omega) (Nat.le_refl _) hM.len (fun i hi=>by rw[VB h0 hi];simp;omega) (by rw[hacts];exact hend listed g a w hM (fun i hi=>VB h0 (by omega)) k)
  | succ fuel ih=>
   intro listed g a w hM hu hf
   by_cases hall:∀ i,i<m->listed.getD i false=true
   ·have hls:∀ i,i<l.length->(listed.getD i false=true ↔ i<m):=fun i hi=>by
     rcases Nat.lt_or_ge i m with h|h
     ·simp[hall i h,h]
     ·rw[hu i h hi];simp;omega
    refine Qz hE hch (fuel+1) m listed a w (by rw[<- hf,JW hls];omega) (Nat.le_refl _) hM.len hls (by rw[hacts];exact hend listed g a w hM hall k)
   refine⟨fun he=>(J8 hE hM.len (by omega) he).elim,fun i hi=>?_⟩
   obtain⟨hn0,o,ho,hr⟩:=mem_ready.1 hi
   have ho':l[i]?=some o:=by simpa using ho
   have hil:i<l.length:=(List.getElem?_eq_some_iff.1 ho').1
   have hlt:i<listed.size:=by rw[hM.len];exact hil
   have hn:listed.getD i false=false:=by simp[hlt]at hn0 ⊢;exact hn0
   have hleft:=KE hil hM.len hn
   by_cases him:i<m
   ·obtain⟨y,q1,q2,q3,q4⟩:=h3 i o (htk i o ho' him)
    rw[Nat.zero_add]at q2
    have hdown:∀ e ∈ Qj 0 ys,∀ e' ∈ Qj 0 ys,e<e'->listed.getD e' false=true->listed.getD e false=true:=fun e he e' he' hlt hp=>by
     have h1:=List.all_eq_true.1 (List.all_eq_true.1 hes e he) e' he'
     simp[hlt]at h1
     obtain⟨j,hj,hj'⟩:=Va.1 he'
     have hlt':e'<l.length:=by have:=hefl _ hj';omega
     have ho2:=List.getElem?_eq_getElem hlt'
     exact Un hM.closed e' _ ho2 (hM.closed e' _ ho2 hp) e h1
    obtain⟨c,hc1,hc2⟩:=I7 (p:=fun i=>listed.getD i false) (Qj 0 ys) hdown
    have hcs:stg ys (bx,fr) (fun i=>listed.getD i false)=stg ys (bx,fr) (fun j=>decide (j<c)):=VC _ _ _ _ fun e he=>hc2 e (Va.2 ⟨e,by omega,he⟩)
    have hupi:∀ e,up (Wf [] l) i e=true->listed.getD e false=true:=fun e he=>Un hM.closed i o ho' hr e he
    have hupe:∀ e ∈ Qj 0 ys,up (Wf [] l) e i=true->listed.getD e false=false:=fun e he hu'=>by
     cases hle:listed.getD e false with
     | false=>rfl
     | true=>
      obtain⟨j,hj,hj'⟩:=Va.1 he
      have hlt':e<l.length:=by have:=hefl _ hj';omega
      have ho2:=List.getElem?_eq_getElem hlt'
      have:=Un hM.closed e _ ho2 (hM.closed e _ ho2 hle) i hu'
      rw[hn]at this;cases this
    have hsame:(∀ e ∈ Qj 0 ys,decide (e<c)=decide (e<i))->stg ys (bx,fr) (fun j=>decide (j<c))=stg ys (bx,fr) (fun j=>decide (j<i)):=fun h=>VC _ _ _ _ fun e he=>h e (Va.2 ⟨e,by omega,he⟩)
    have hAL:AL P l.toArray [o] ⟨n,Wp l o ((ds.take i).reverse++tm),(stg ys (bx,fr) (fun i=>listed.getD i false)).1,(stg ys (bx,fr) (fun i=>listed.getD i false)).2,((stg ys (bx,fr) (fun i=>listed.getD i false)).1.length,(stg ys (bx,fr) (fun i=>listed.getD i false)).2.length)⟩ (qY o (stg ys (bx,fr) (fun i=>listed.getD i false)).1 (stg ys (bx,fr) (fun i=>listed.getD i false)).2 y):=by
     by_cases hown:∀ e ∈ Qj 0 ys,decide (e<c)=decide (e<i)
     ·rw[hcs,hsame hown];exact q4
     ·cases y with
      | ef d b f=>
       exfalso
       apply hown
       intro e he
       have hie:i ∈ Qj 0 ys:=Va.2 ⟨i,by omega,d,b,f,q1⟩
       rw[<- hc2 e he]
       rcases Nat.lt_trichotomy e i with hlt' | rfl|hgt
       ·have h1:=List.all_eq_true.1 (List.all_eq_true.1 hes e he) i hie
        simp[hlt']at h1
        rw[hupi e h1];simp[hlt']
       ·rw[hn];simp
       ·have h1:=List.all_eq_true.1 (List.all_eq_true.1 hes i hie) e he
        simp[hgt]at h1
        rw[hupe e he h1];simp;omega
      | pu d=>
       have hAs:=hAO.get (i:=i) (htk i o ho' him) q1 ds (fun j oj yj hj k1 k2=>by
        obtain⟨y',p1,p2,_⟩:=h3 j oj k1
        rw[k2]at p1;injection p1 with p1;subst p1
        exact p2) (by omega)
       rw[Nat.zero_add]at hAs
       have hmem:(c,(stg ys (bx,fr) (fun j=>decide (j<c))).1,(stg ys (bx,fr) (fun j=>decide (j<c))).2) ∈ ((0,bx,fr)::Jb 0 ys):=by
        rcases hc1 with rfl|⟨e,he,rfl,hpe⟩
        ·have:stg ys (bx,fr) (fun j=>decide (j<0))=(bx,fr):=Ux _ _ _ (by intro i _;simp)
         rw[this];simp
        ·obtain⟨j,hj,d',b,f,hy⟩:=Va.1 he
         rw[Nat.zero_add]at hj;subst hj
         rw[Ou _ _ _ _ hy]
         have:=Jp (i0:=0) hy
         rw[Nat.zero_add]at this
         exact List.mem_cons_of_mem _ this
       rcases hAs.get hmem with hf|hA
       ·exfalso
        unfold Hg at hf
        have h1:(!(List.all (Qj 0 ys) fun e=>decide (e<c)==decide (e<i)))=true:=by
         simp only[Bool.not_eq_true',Bool.eq_false_iff]
         intro hall'
         exact hown fun e he=>by simpa using List.all_eq_true.1 hall' e he
        rw[h1,Bool.true_and]at hf
        have h2:(List.all (Qj 0 ys) fun e=>(!up (Wf [] l) i e||decide (e<c))&&(!up (Wf [] l) e i||decide (c<=e)))=true:=List.all_eq_true.2 fun e he=>by
         rw[Bool.and_eq_true]
         constructor
         ·cases hu1:up (Wf [] l) i e with
          | false=>rfl
          | true=>
           have:=hupi e hu1
           have h9:=hc2 e he
           rw[this]at h9
           simpa using h9
         ·cases hu1:up (Wf [] l) e i with
          | false=>rfl
          | true=>
           have:=hupe e he hu1
           have h9:=hc2 e he
           rw[this]at h9
           simp at h9
           simpa using h9
        rw[h2]at hf;cases hf
       ·rw[hcs];exact hA
    refine Iu hchk hlk hl hdst hM ho' hi (by omega) q2 hAL fun g' a' w' hM'=>ih _ g' a' w' ?_ (fun x hx hxl=>?_) (by omega)
    ·have:y.aft (stg ys (bx,fr) (fun i=>listed.getD i false))=stg ys (bx,fr) (fun j=>(listed.setIfInBounds i true).getD j false):=by
      cases y with
      | pu d=>
       show stg ys (bx,fr) (fun i=>listed.getD i false)=_
       refine VC _ _ _ _ fun e ⟨d',b,f,he⟩=>?_
       have hne:i ≠ e:=fun e'=>by subst e';rw[q1]at he;cases he
       rw[getD_set_ne false hne]
      | ef d b f=>
       show(b,f)=_
       have hie:i ∈ Qj 0 ys:=Va.2 ⟨i,by omega,d,b,f,q1⟩
       have e3:stg ys (bx,fr) (fun j=>(listed.setIfInBounds i true).getD j false)=stg ys (bx,fr) (fun j=>decide (j<i+1)):=VC _ _ _ _ fun e he=>by
        have hee:=Va.2 ⟨e,(Nat.zero_add e).symm,he⟩
        rcases Nat.lt_trichotomy e i with hlt' | rfl|hgt
        ·rw[getD_set_ne false (by omega)]
         have h1:=List.all_eq_true.1 (List.all_eq_true.1 hes e hee) i hie
         simp[hlt']at h1
         rw[hupi e h1];simp;omega
        ·simp[hlt]
        ·rw[getD_set_ne false (by omega)]
         have h1:=List.all_eq_true.1 (List.all_eq_true.1 hes i hie) e hee
         simp[hgt]at h1
         rw[hupe e hee h1];simp;omega
       rw[e3,Ou _ _ _ _ q1]
       rfl
     rw[<- this];exact hM'
    ·rw[getD_set_ne false (by omega)]
     exact hu x hx hxl
   ·exact(hall fun x hx=>Un hM.closed i o ho' hr x (US hch (by omega) hil (by omega))).elim
 have hsz:l.toArray.size=l.length:=by simp
 rw[hsz]
 have hfresh:∀ i,(Array.replicate l.length false).getD i false=false:=fun i=>by
  rcases Nat.lt_or_ge i l.length with h|h<;>simp[h]
 have hs0:stg ys (bx,fr) (fun i=>(Array.replicate l.length false).getD i false)=(bx,fr):=Ux _ _ _ fun i _=>hfresh i
 refine main l.length _ g a _ ?_ (fun i _ _=>hfresh i) ?_
 ·rw[hs0]
  refine⟨hi.bd,hi.size,hi.defers,hi.mem.drew,hi.evo.trans Evo.drew,fun t=>?_,fun m o hm hl=>?_,by simp⟩
  ·have:cur l ds tm (Array.replicate l.length false) t=look tm t:=by
    unfold cur
    have hf:(List.range l.length).find? (fun i=>(Array.replicate l.length false).getD i false&&((ds[i]?).map (·.1)==some t))=none:=by
     apply List.find?_eq_none.2
     intro i _
     rw[hfresh];simp
    rw[hf]
   rw[this]
   exact(hi.tm t).drew
  ·rw[hfresh]at hl;cases hl
 ·unfold left
  rw[List.countP_eq_length.2 (fun i _=>by rw[hfresh];rfl),List.length_range]
theorem Iw [Known][Dfr]{id m:Nat}{l acts:List Oper}(hm:P.follows .mixedOrders=true)(hchk:W0 l=true)(hlk:KH n l=true)(hE:Kk l=true)(hch:V0 l m=true)(hlen:(l.take m).length=m)(hacts:l.drop m=acts)(h:AE P l n 0 (l.take m) tm bx fr ys tm' bx' fr')(hO:AOt P l n (l.take m) ys tm bx fr)(k:AL P l.toArray acts ⟨n,tm',bx',fr',ee⟩ Q) :
  AW P (.region id l.toArray true) ⟨n,tm,bx,fr,ee⟩ Q:=Tc hm (Iv hchk hlk hE hch hlen hacts h hO k)
theorem Za [Known][Dfr]{id:Nat}(m:Nat){l acts:List Oper}(hm:P.follows .mixedOrders=true)(hch:V0 l m=true)(hchk:W0 l=true)(hlk:KH n l=true)(hE:Kk l=true)(hlen:Nat.beq (l.take m).length m=true)(hacts:nfl (l.drop m)=some acts)(h:AE P l n 0 (l.take m) tm bx fr ys tm' bx' fr')(hO:AOt P l n (l.take m) ys tm bx fr)(k:AL P l.toArray acts ⟨n,tm',bx',fr',ee⟩ Q) :
  AW P (.region id l.toArray true) ⟨n,tm,bx,fr,ee⟩ Q:=Iw hm hchk hlk hE hch (Nat.eq_of_beq_eq_true hlen) (YO hacts) h hO k
structure AEk [Known][Dfr](P:Program) (l:List Oper) (n:Nat) (i:Nat) (o:Oper) (rest:List Oper) (y:Y) (tm:List (Nat × D)) (bx:List (List D)) (fr:List Fr) (ys:List Y) (tm':List (Nat × D)) (bx':List (List D)) (fr':List Fr):Prop where
 out:AE P l n (i+1) rest ((Ww n i o,y.d)::tm) (y.aft (bx,fr)).1 (y.aft (bx,fr)).2 ys tm' bx' fr'
theorem Hh [Known][Dfr]{l:List Oper}{i:Nat}{o:Oper}{rest:List Oper}{y:Y}{tm2:List (Nat × D)}(ht:XT n o=true)(h2:nfl (Wp l o tm)=some tm2)
  (h:AL P l.toArray [o] ⟨n,tm2,bx,fr,(bx.length,fr.length)⟩ (qY o bx fr y)) (k:AEk P l n i o rest y tm bx fr ys tm' bx' fr'):AE P l n i (o::rest) tm bx fr (y::ys) tm' bx' fr':=
 .cons i o rest tm bx fr y ys tm' bx' fr' ht (by rw[YO h2];exact h) k.out
theorem VD [Known][Dfr]{l:List Oper}{i t:Nat}{o:Oper}{rest:List Oper}{d:D}(ht:Ww n i o=t)(k:AE P l n (i+1) rest ((t,d)::tm) bx fr ys tm' bx' fr'):AEk P l n i o rest (.pu d) tm bx fr ys tm' bx' fr':=⟨by rw[ht];exact k⟩
theorem Y3 [Known][Dfr]{l:List Oper}{i t:Nat}{o:Oper}{rest:List Oper}{d:D}{b:List (List D)}{f:List Fr}(ht:Ww n i o=t)(k:AE P l n (i+1) rest ((t,d)::tm) b f ys tm' bx' fr'):AEk P l n i o rest (.ef d b f) tm bx fr ys tm' bx' fr':=⟨by rw[ht];exact k⟩
theorem WP [Known][Dfr]{l:List Oper}{es:List Nat}{sts:List (Nat × List (List D) × List Fr)}{i t:Nat}{o:Oper}{rest:List Oper}{d:D}{b:List (List D)}{f:List Fr}(ht:Ww n i o=t)(k:AO P l n es sts (i+1) rest ys ((t,d)::tm)):AO P l n es sts i (o::rest) (.ef d b f::ys) tm:=.ef i o rest d b f ys tm (by rw[ht];exact k)
theorem Uy [Known][Dfr]{l:List Oper}{es:List Nat}{sts:List (Nat × List (List D) × List Fr)}{i t:Nat}{o:Oper}{rest:List Oper}{d:D}(ht:Ww n i o=t)(h:AOs P l n es i o tm d sts)(k:AO P l n es sts (i+1) rest ys ((t,d)::tm)):AO P l n es sts i (o::rest) (.pu d::ys) tm:=.pu i o rest d ys tm h (by rw[ht];exact k)
theorem Zu [Known][Dfr]{l:List Oper}{es:List Nat}{i c:Nat}{o:Oper}{d:D}{sts:List (Nat × List (List D) × List Fr)}(h:Hg l es i c=false)(k:AOs P l n es i o tm d sts):AOs P l n es i o tm d ((c,bx,fr)::sts):=.skip c bx fr sts h k
theorem Td [Known][Dfr]{l:List Oper}{es:List Nat}{i c:Nat}{o:Oper}{d:D}{sts:List (Nat × List (List D) × List Fr)}{tm2:List (Nat × D)}(h2:nfl (Wp l o tm)=some tm2)(h:AL P l.toArray [o] ⟨n,tm2,bx,fr,(bx.length,fr.length)⟩ (qY o bx fr (.pu d)))(k:AOs P l n es i o tm d sts):AOs P l n es i o tm d ((c,bx,fr)::sts):=.go c bx fr sts (by rw[YO h2];exact h) k
theorem ZR {o:Oper}{t n:Nat}{ee:Nat × Nat}{d:D}(ho:o.dst=some t)(h:nf (look tm t)=some d):qY o bx fr (.pu d) .norm ⟨n,tm,bx,fr,ee⟩:=by
 simp only[qY,ho];exact Yv h
theorem Uh {o:Oper}{t n:Nat}{ee:Nat × Nat}{d:D}(ho:o.dst=some t)(hb:nfb (bx'.take bx.length)=some bx)(hf:nfl (fr'.take fr.length)=some fr)(h:nf (look tm t).wk=some d)(hd:D.lt bx.length fr.length d=true):qY o bx fr (.pu d) .norm ⟨n,tm,bx',fr',ee⟩:=by
 simp only[qY,ho];exact Uu hb hf h hd
theorem YC {o:Oper}{t n:Nat}{ee:Nat × Nat}{d:D}(ho:o.dst=some t)(h:nf (look tm t)=some d):qY o bx fr (.ef d bx' fr') .norm ⟨n,tm,bx',fr',ee⟩:=by
 unfold qY;rw[ho];exact⟨rfl,rfl,YZ h⟩
theorem Y6 {o:Oper}{n:Nat}{ee:Nat × Nat}(ho:o.dst=none):qY o bx fr (.ef .junk bx' fr') .norm ⟨n,tm,bx',fr',ee⟩:=by
 unfold qY;rw[ho];exact⟨rfl,rfl,rfl⟩
end
end Go.Av
end

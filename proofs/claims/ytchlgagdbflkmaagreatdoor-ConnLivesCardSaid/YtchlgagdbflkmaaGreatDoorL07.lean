/- Regions that draw their order: operations that leave variables as they are may come in any order. -/
import Derived.Test.YtchlgagdbflkmaaGreatDoorL06
import Derived.Test.YtchlgagdbflkmaaGreatDoorL01
set_option linter.unusedSimpArgs false
set_option linter.unusedVariables false
section
open Go.RowKit Go.Pl
namespace Go.Av
def Qh (ms:List Nat):List Edge->Nat
 | []=>0
 | e::es=>match Region.binds .any e with
  | true=>((1 <<< e.on) ||| ms.getD e.on 0) ||| Qh ms es
  | false=>Qh ms es
def Wf:List Nat->List Oper->List Nat
 | ms,[]=>ms
 | ms,o::l=>Wf (ms++[Qh ms o.after.toList]) l
def up (ms:List Nat)(j i:Nat):Bool:=(ms.getD j 0).testBit i
def Qu (l:List Oper)(o:Oper):List Nat:=o.looksAt l.toArray
def Ue (ms:List Nat)(l:List Oper)(i j:Nat):Bool:=
 match l[i]?,l[j]? with
 | some oi,some oj=>match oi.dst with
  | some t=>oj.dst != some t&&(!(Qu l oj).contains t||(if i<j then up ms j i else up ms i j))
  | none=>true
 | _,_=>true
def W0 (l:List Oper):Bool:=
 (List.range l.length).all fun i=>(List.range l.length).all fun j=>decide (i=j)||Ue (Wf [] l) l i j
def Wp (l:List Oper)(o:Oper):List (Nat × D)->List (Nat × D)
 | []=>[]
 | p::tm=>match(Qu l o).contains p.1 with
  | true=>p::Wp l o tm
  | false=>Wp l o tm
def qp (t:Nat)(d:D)(bx:List (List D))(fr:List Fr):X->St->Prop
 | .norm,S=>(S.bx=bx/\S.fr=fr/\look S.tm t=d)\/(S.bx.take bx.length=bx/\S.fr.take fr.length=fr/\(look S.tm t=d\/(look S.tm t).wk=d)/\D.lt bx.length fr.length d=true)
 | _,_=>False
theorem Yv {t n:Nat}{ee:Nat × Nat}{d:D}{tm:List (Nat × D)}{bx:List (List D)}{fr:List Fr}(h:nf (look tm t)=some d):qp t d bx fr .norm ⟨n,tm,bx,fr,ee⟩:=.inl ⟨rfl,rfl,YZ h⟩
theorem Uu {t n:Nat}{ee:Nat × Nat}{d:D}{tm:List (Nat × D)}{bx bx':List (List D)}{fr fr':List Fr}(hb:nfb (bx'.take bx.length)=some bx)(hf:nfl (fr'.take fr.length)=some fr)(h:nf (look tm t).wk=some d)(hd:D.lt bx.length fr.length d=true):qp t d bx fr .norm ⟨n,tm,bx',fr',ee⟩:=.inr ⟨Vo hb,YO hf,.inr (YZ h),hd⟩
inductive AD [Known][Dfr](P:Program) (l:List Oper) (n:Nat) (bx:List (List D)) (fr:List Fr):List Oper->List (Nat × D)->List (Nat × D)->Prop
 | nil (tm:List (Nat × D)):AD P l n bx fr [] tm tm
 | cons (o:Oper) (rest:List Oper) (t:Nat) (d:D) (tm tm':List (Nat × D)) (hd:o.dst=some t) (ht:Nat.blt t n=true) (h:AL P l.toArray [o] ⟨n,Wp l o tm,bx,fr,(bx.length,fr.length)⟩ (qp t d bx fr)) (k:AD P l n bx fr rest ((t,d)::tm) tm'):AD P l n bx fr (o::rest) tm tm'
theorem UR {l:List Oper}{o:Oper}{t:Nat}:∀(tm:List (Nat × D)),t ∈ Qu l o->look (Wp l o tm) t=look tm t
 | [],_=>rfl
 | p::tm,h=>by
  obtain⟨k,d⟩:=p
  simp only[Wp]
  cases hc:(Qu l o).contains k with
  | true=>
   simp only[look]
   rw[UR tm h]
  | false=>
   simp only[look]
   have hne:Nat.beq k t=false:=by
    cases hb:Nat.beq k t with
    | false=>rfl
    | true=>
     have:=Nat.eq_of_beq_eq_true hb
     subst this
     simp[h]at hc
   rw[hne]
   exact UR tm h
theorem Vr {l:List Oper}{o:Oper}{t:Nat}:∀(tm:List (Nat × D)),t ∉ Qu l o->look (Wp l o tm) t=.junk
 | [],_=>rfl
 | p::tm,h=>by
  obtain⟨k,d⟩:=p
  simp only[Wp]
  cases hc:(Qu l o).contains k with
  | true=>
   simp only[look]
   have hne:Nat.beq k t=false:=by
    cases hb:Nat.beq k t with
    | false=>rfl
    | true=>
     have:=Nat.eq_of_beq_eq_true hb
     subst this
     simp[h]at hc
   rw[hne]
   exact Vr tm h
  | false=>exact Vr tm h
section
variable {P:Program} {Q:X->St->Prop} {n:Nat} {ee:Nat × Nat} {tm tm':List (Nat × D)} {bx bx':List (List D)} {fr fr':List Fr} {b0:Bs} {g:G} {w:World} {a:Act}
theorem AD.steps [Known][Dfr]{l:List Oper}{rest:List Oper}(h:AD P l n bx fr rest tm tm'):∃ ds:List (Nat × D),ds.length=rest.length/\tm'=ds.reverse++tm/\∀(i:Nat) (o:Oper),rest[i]?=some o->∃ t d,ds[i]?=some (t,d)/\o.dst=some t/\Nat.blt t n=true/\AL P l.toArray [o] ⟨n,Wp l o ((ds.take i).reverse++tm),bx,fr,(bx.length,fr.length)⟩ (qp t d bx fr):=by
 induction h with
 | nil tm=>exact⟨[],rfl,rfl,fun i o h=>by simp at h⟩
 | cons o rest t d tm tm' hd ht h k ih=>
  obtain⟨ds,h1,h2,h3⟩:=ih
  refine⟨(t,d)::ds,by simp[h1],by simp[h2],fun i o' ho=>?_⟩
  cases i with
  | zero=>simp at ho;subst ho;exact⟨t,d,rfl,hd,ht,by simpa using h⟩
  | succ i=>
   simp at ho
   obtain⟨t',d',q1,q2,q3,q4⟩:=h3 i o' ho
   exact⟨t',d',by simpa using q1,q2,q3,by simpa using q4⟩
theorem KC {L:List Deferred}{o:Oper}{K:Act->World->Prop}{Q' Q2:Exit->Act->World->Prop}{r:Result Next}(h:o.upon P a K Q' r)(ha:a.defers=L)(hd:∀ a w,K a w->a.defers=L)(hQ:∀ c a w,Q' (.panic c) a w->False)(hL:LetsOut Q'->False) :
  o.upon P a (fun a' w'=>(∃ v,a'=a.put o.dst v)/\K a' w') Q2 r:=by
 cases r with
 | ok nx w'=>
  cases nx<;>simp only[Oper.upon]at h ⊢
  case value v=>exact⟨⟨v,rfl⟩,h⟩
  case skip=>exact⟨⟨undef,rfl⟩,h⟩
  case defer d=>
   have:=hd _ _ h
   have:=congrArg List.length this
   cases hdst:o.dst<;>simp[Act.put,hdst,ha]at this
  case enter f args=>
   refine Calls.mono h (fun e w'' he=>?_)
   cases e with
   | returned u=>exact⟨⟨u,rfl⟩,he⟩
   | panicked c=>exact(hQ _ _ _ he).elim
   | outgrown=>exact(hL he).elim
  case row row args=>exact Rows.mono h fun u w'' he=>⟨⟨u,rfl⟩,he⟩
 | halt x w'=>
  cases x<;>simp only[Oper.upon]at h ⊢
  case panic u=>exact(hQ _ _ _ h).elim
theorem Jo {ms:List Nat}{i:Nat}:∀ {es:List Edge},(Qh ms es).testBit i=true->∃ e ∈ es,Region.binds .any e=true/\(i=e.on\/(ms.getD e.on 0).testBit i=true)
 | [],h=>by simp[Qh]at h
 | e::es,h=>by
  simp only[Qh]at h
  cases hb:Region.binds .any e with
  | false=>
   simp only[hb]at h
   obtain⟨e',h1,h2⟩:=Jo h
   exact⟨e',by simp[h1],h2⟩
  | true=>
   simp only[hb,Nat.testBit_or,Bool.or_eq_true]at h
   rcases h with(h|h)|h
   ·refine⟨e,by simp,hb,.inl ?_⟩
    rw[Nat.shiftLeft_eq,Nat.one_mul,Nat.testBit_two_pow]at h
    simpa[eq_comm]using h
   ·exact⟨e,by simp,hb,.inr h⟩
   ·obtain⟨e',h1,h2⟩:=Jo h
    exact⟨e',by simp[h1],h2⟩
theorem XO:∀(l:List Oper) (ms:List Nat),∃ r,Wf ms l=ms++r/\r.length=l.length
 | [],ms=>⟨[],by simp[Wf],rfl⟩
 | o::l,ms=>by
  obtain⟨r,h1,h2⟩:=XO l (ms++[Qh ms o.after.toList])
  exact⟨Qh ms o.after.toList::r,by simp[Wf,h1],by simp[h2]⟩
theorem XP:∀(l:List Oper) (ms:List Nat) (j:Nat) (o:Oper),l[j]?=some o->∃ r,Wf ms l=r++(Wf ms l).drop (ms.length+j)/\r.length=ms.length+j/\(Wf ms l)[ms.length+j]?=some (Qh r o.after.toList)
 | o0::l,ms,0,o,h=>by
  simp at h;subst h
  obtain⟨r,h1,h2⟩:=XO l (ms++[Qh ms o0.after.toList])
  refine⟨ms,?_,by simp,?_⟩
  ·simp[Wf,h1]
  ·simp[Wf,h1]
 | o0::l,ms,j+1,o,h=>by
  simp at h
  obtain⟨r,h1,h2,h3⟩:=XP l (ms++[Qh ms o0.after.toList]) j o h
  have e:(ms++[Qh ms o0.after.toList]).length+j=ms.length+(j+1):=by simp;omega
  rw[e]at h1 h2 h3
  exact⟨r,h1,h2,h3⟩
 | [],ms,j,o,h=>by simp at h
theorem Un {l:List Oper}{listed:Array Bool}(hc:∀(m:Nat) (o:Oper),l[m]?=some o->listed.getD m false=true->∀ e ∈ o.after,Region.binds .any e=true->listed.getD e.on false=true) :
  ∀(i:Nat) (o:Oper),l[i]?=some o->(∀ e ∈ o.after,Region.binds .any e=true->listed.getD e.on false=true)->∀ k,up (Wf [] l) i k=true->listed.getD k false=true:=by
 intro i
 induction i using Nat.strongRecOn with
 | _ i ih=>
  intro o ho hr k hk
  obtain⟨r,h1,h2,h3⟩:=XP l [] i o ho
  simp only[List.length_nil,Nat.zero_add]at h1 h2 h3
  unfold up at hk
  rw[List.getD_eq_getElem?_getD,h3,Option.getD_some]at hk
  obtain⟨e,he,hb,hor⟩:=Jo hk
  have hle:=hr e (by simpa using he) hb
  rcases hor with rfl|hor
  ·exact hle
  ·have hlt:e.on<i:=by
    rcases Nat.lt_or_ge e.on i with h|h
    ·exact h
    ·exfalso
     rw[List.getD_eq_getElem?_getD,List.getElem?_eq_none (by omega)]at hor
     simp at hor
   have hil:i<l.length:=(List.getElem?_eq_some_iff.1 ho).1
   have hoe:l[e.on]?=some l[e.on]:=List.getElem?_eq_getElem (by omega)
   refine ih e.on hlt l[e.on] hoe (hc e.on _ hoe hle) k ?_
   unfold up
   rw[h1,List.getD_eq_getElem?_getD,List.getElem?_append_left (by omega),<- List.getD_eq_getElem?_getD]
   exact hor
def cur (l:List Oper)(ds:List (Nat × D))(tm:List (Nat × D))(listed:Array Bool)(t:Nat):D:=
 match(List.range l.length).find? (fun i=>listed.getD i false&&((ds[i]?).map (·.1)==some t)) with
 | some i=>((ds[i]?).map (·.2)).getD .junk
 | none=>look tm t
structure Mid [Known][Dfr](b0:Bs) (ee:Nat × Nat) (n:Nat) (tm:List (Nat × D)) (bx:List (List D)) (fr:List Fr) (l:List Oper) (ds:List (Nat × D)) (listed:Array Bool) (g:G) (a:Act) (w:World):Prop where
 bd:b0.g.ρ.length<=ee.1/\b0.fr.length<=ee.2
 size:a.tmps.size=n
 defers:a.defers=Dfr.l
 mem:Mem g bx fr w
 evo:Evo b0 ⟨g,fr,w⟩
 tm:∀ t,V w g fr (cur l ds tm listed t) (a.tmps.getD t undef)
 closed:∀(m:Nat) (o:Oper),l[m]?=some o->listed.getD m false=true->∀ e ∈ o.after,Region.binds .any e=true->listed.getD e.on false=true
 len:listed.size=l.length
theorem Qy {l:List Oper}(h:W0 l=true){i j:Nat}(hi:i<l.length)(hj:j<l.length)(hne:i ≠ j):Ue (Wf [] l) l i j=true:=by
 have h1:=List.all_eq_true.1 h i (List.mem_range.2 hi)
 have h2:=List.all_eq_true.1 h1 j (List.mem_range.2 hj)
 simpa[hne]using h2
theorem Vg (a:List (Nat × D))(b:List (Nat × D))(t:Nat):look (a++b) t=if t ∈ a.map (·.1) then look a t else look b t:=by
 induction a with
 | nil=>simp
 | cons p a ih=>
  obtain⟨k,d⟩:=p
  simp only[List.cons_append,look,List.map_cons,List.mem_cons]
  cases hb:Nat.beq k t with
  | true=>
   have:=Nat.eq_of_beq_eq_true hb
   subst this
   rw[if_pos (by simp)]
  | false=>
   have hne:t ≠ k:=fun e=>by subst e;simp at hb
   dsimp only
   rw[ih]
   by_cases hm:t ∈ a.map (·.1)
   ·rw[if_pos hm,if_pos (.inr hm)]
   ·rw[if_neg hm,if_neg (fun h=>h.elim hne hm)]
theorem JV {ds:List (Nat × D)}(hN:∀(i j:Nat) (p q:Nat × D),ds[i]?=some p->ds[j]?=some q->p.1=q.1->i=j):∀ {i:Nat} {t:Nat} {d:D},ds[i]?=some (t,d)->look ds t=d:=by
 induction ds with
 | nil=>intro i t d h;simp at h
 | cons p ds ih=>
  intro i t d h
  obtain⟨k,d0⟩:=p
  simp only[look]
  cases i with
  | zero=>simp at h;obtain⟨rfl,rfl⟩:=h;rw[Nat.beq_refl]
  | succ i=>
   simp at h
   cases hb:Nat.beq k t with
   | true=>
    have:=Nat.eq_of_beq_eq_true hb
    subst this
    have:=hN 0 (i+1) (k,d0) (k,d) rfl (by simpa using h) rfl
    omega
   | false=>
    exact ih (fun i j p q h1 h2 e=>by have:=hN (i+1) (j+1) p q (by simpa using h1) (by simpa using h2) e;omega) h
theorem Uo {l:List Oper}{ds:List (Nat × D)}{tm:List (Nat × D)}{listed:Array Bool}(hN:∀(i j:Nat) (p q:Nat × D),ds[i]?=some p->ds[j]?=some q->p.1=q.1->i=j)(hl:ds.length<=l.length){j t:Nat}{d:D}(hj:ds[j]?=some (t,d)) :
  cur l ds tm listed t=if listed.getD j false=true then d else look tm t:=by
 unfold cur
 have hjl:j<l.length:=Nat.lt_of_lt_of_le (List.getElem?_eq_some_iff.1 hj).1 hl
 cases hf:(List.range l.length).find? (fun i=>listed.getD i false&&((ds[i]?).map (·.1)==some t)) with
 | some i=>
  have:=List.find?_some hf
  simp only[Bool.and_eq_true,beq_iff_eq]at this
  obtain⟨h1,h2⟩:=this
  cases hi:ds[i]? with
  | none=>simp[hi]at h2
  | some p=>
   simp[hi]at h2
   have:=hN i j p (t,d) hi hj h2
   subst this
   rw[if_pos h1]
   show((ds[i]?).map (·.2)).getD .junk=d
   rw[hj]
   rfl
 | none=>
  have:=List.find?_eq_none.1 hf j (List.mem_range.2 hjl)
  simp only[hj,Option.map_some,beq_self_eq_true,Bool.and_true,Bool.not_eq_true]at this
  rw[if_neg (by rw[this];simp)]
theorem Uf {l:List Oper}{ds:List (Nat × D)}{tm:List (Nat × D)}{listed:Array Bool}{t:Nat}(h:∀(j:Nat) (p:Nat × D),ds[j]?=some p->p.1 ≠ t):cur l ds tm listed t=look tm t:=by
 unfold cur
 cases hf:(List.range l.length).find? (fun i=>listed.getD i false&&((ds[i]?).map (·.1)==some t)) with
 | some i=>
  have:=List.find?_some hf
  simp only[Bool.and_eq_true,beq_iff_eq]at this
  cases hi:ds[i]? with
  | none=>simp[hi]at this
  | some p=>simp[hi]at this;exact(h i p hi this.2).elim
 | none=>rfl
theorem Ir {l:List Oper}{ds:List (Nat × D)}{tm:List (Nat × D)}{listed:Array Bool}(hchk:W0 l=true)(hl:ds.length<=l.length)(hdst:∀(i:Nat) (o:Oper),l[i]?=some o->i<ds.length->∃ t d,ds[i]?=some (t,d)/\o.dst=some t)
  (hcl:∀(m:Nat) (o:Oper),l[m]?=some o->listed.getD m false=true->∀ e ∈ o.after,Region.binds .any e=true->listed.getD e.on false=true)
  {i:Nat} {o:Oper} (hi:l[i]?=some o) (hni:listed.getD i false=false) (hr:∀ e ∈ o.after,Region.binds .any e=true->listed.getD e.on false=true) (hid:i<=ds.length) {t:Nat} (ht:t ∈ Qu l o) :
  cur l ds tm listed t=look ((ds.take i).reverse++tm) t:=by
 have hil:i<l.length:=(List.getElem?_eq_some_iff.1 hi).1
 have hN:∀(i j:Nat) (p q:Nat × D),ds[i]?=some p->ds[j]?=some q->p.1=q.1->i=j:=fun x y p q hx hy e=>by
  by_cases hxy:x=y
  ·exact hxy
  ·exfalso
   have hxd:=(List.getElem?_eq_some_iff.1 hx).1
   have hxl:x<l.length:=Nat.lt_of_lt_of_le hxd hl
   have hyd:=(List.getElem?_eq_some_iff.1 hy).1
   have hyl:y<l.length:=Nat.lt_of_lt_of_le hyd hl
   have hc:=Qy hchk hxl hyl hxy
   obtain⟨t1,d1,a1,a2⟩:=hdst x _ (List.getElem?_eq_getElem hxl) hxd
   obtain⟨t2,d2,c1,c2⟩:=hdst y _ (List.getElem?_eq_getElem hyl) hyd
   rw[hx]at a1;injection a1 with a1
   rw[hy]at c1;injection c1 with c1
   simp only[Ue,List.getElem?_eq_getElem hxl,List.getElem?_eq_getElem hyl,a2,c2,Bool.and_eq_true,bne_iff_ne,ne_eq,Option.some.injEq]at hc
   rw[a1,c1]at e
   exact hc.1 e.symm
 by_cases hex:∃(j:Nat) (d:D),ds[j]?=some (t,d)
 ·obtain⟨j,d,hj⟩:=hex
  have hjd:=(List.getElem?_eq_some_iff.1 hj).1
  have hjl:j<l.length:=Nat.lt_of_lt_of_le hjd hl
  rw[Uo hN hl hj]
  have hoj:=List.getElem?_eq_getElem hjl
  obtain⟨t',d',a1,a2⟩:=hdst j _ hoj hjd
  rw[hj]at a1;injection a1 with a1;injection a1 with a1 _
  subst a1
  have hord:j ≠ i->(if j<i then up (Wf [] l) i j else up (Wf [] l) j i)=true:=fun hne=>by
   have hc:=Qy hchk hjl hil hne
   simp only[Ue,hoj,hi,a2,Bool.and_eq_true]at hc
   have h2:=hc.2
   rw[Bool.or_eq_true]at h2
   rcases h2 with h2|h2
   ·simp[ht]at h2
   ·exact h2
  have htake:∀(x:Nat) (p:Nat × D),(ds.take i)[x]?=some p->x<i/\ds[x]?=some p:=fun x p h=>by simpa[List.getElem?_take]using h
  rw[Vg]
  by_cases hlist:listed.getD j false=true
  ·rw[if_pos hlist]
   have hne:j ≠ i:=fun e=>by subst e;rw[hni]at hlist;cases hlist
   have hlt:j<i:=by
    rcases Nat.lt_or_ge j i with h|h
    ·exact h
    ·exfalso
     have:=hord hne
     rw[if_neg (by omega)]at this
     have:=Un hcl j _ hoj (hcl j _ hoj hlist) i this
     rw[hni]at this;cases this
   have hin:(ds.take i)[j]?=some (t,d):=by simp[List.getElem?_take,hlt,hj]
   rw[if_pos (by simp only[List.map_reverse,List.mem_reverse];exact List.mem_map.2 ⟨(t,d),List.mem_of_getElem? hin,rfl⟩)]
   have hN':∀(x y:Nat) (p q:Nat × D),(ds.take i).reverse[x]?=some p->(ds.take i).reverse[y]?=some q->p.1=q.1->x=y:=fun x y p q hx hy e=>by
    have lx:=(List.getElem?_eq_some_iff.1 hx).1
    have ly:=(List.getElem?_eq_some_iff.1 hy).1
    rw[List.getElem?_reverse (by simpa using lx)]at hx
    rw[List.getElem?_reverse (by simpa using ly)]at hy
    have:=hN _ _ p q (htake _ _ hx).2 (htake _ _ hy).2 e
    simp at lx ly this
    omega
   have hlen:(ds.take i).length=i:=by rw[List.length_take];omega
   refine(JV hN' (i:=i-1-j) (t:=t) (d:=d) ?_).symm
   rw[List.getElem?_reverse (by rw[hlen];omega),hlen,show i-1-(i-1-j)=j from by omega]
   exact hin
  ·rw[if_neg hlist]
   have hge:¬ j<i:=fun hlt=>by
    have:=hord (by omega)
    rw[if_pos hlt]at this
    exact hlist (Un hcl i o hi hr j this)
   rw[if_neg (fun hm=>by
    simp only[List.map_reverse,List.mem_reverse]at hm
    obtain⟨p,hp,he⟩:=List.mem_map.1 hm
    obtain⟨x,hx⟩:=List.getElem?_of_mem hp
    obtain⟨h1,h2⟩:=htake x p hx
    have:=hN x j p (t,d) h2 hj he
    omega)]
 ·have hno:∀(j:Nat) (p:Nat × D),ds[j]?=some p->p.1 ≠ t:=fun j p hj e=>hex ⟨j,p.2,by rw[hj,<- e]⟩
  rw[Uf hno,Vg,if_neg (fun hm=>by
   simp only[List.map_reverse,List.mem_reverse]at hm
   obtain⟨p,hp,he⟩:=List.mem_map.1 hm
   obtain⟨x,hx⟩:=List.getElem?_of_mem (List.mem_of_mem_take hp)
   exact hno x p hx he)]
def Kk (l:List Oper):Bool:=(l.zipIdx 0).all fun p=>p.1.after.all fun e=>!Region.binds .any e||Nat.blt e.on p.2
theorem KD {l:List Oper}(h:Kk l=true){i:Nat}{o:Oper}(hi:l[i]?=some o):∀ e ∈ o.after,Region.binds .any e=true->e.on<i:=fun e he hb=>by
 have h1:=List.all_eq_true.1 h (o,i) (by
  rw[List.mem_iff_getElem?]
  exact⟨i,by rw[List.getElem?_zipIdx,hi];simp⟩)
 have h2:=Array.all_eq_true_iff_forall_mem.1 h1 e he
 simpa[hb,Nat.blt_eq]using h2
def left (l:List Oper)(listed:Array Bool):Nat:=(List.range l.length).countP fun i=>!listed.getD i false
theorem KE {l:List Oper}{listed:Array Bool}{i:Nat}(hi:i<l.length)(hs:listed.size=l.length)(hn:listed.getD i false=false):left l listed=left l (listed.setIfInBounds i true)+1:=by
 unfold left
 have key:∀(m:List Nat),m.Nodup->i ∈ m->m.countP (fun j=>!listed.getD j false)=m.countP (fun j=>!(listed.setIfInBounds i true).getD j false)+1:=by
  intro m
  induction m with
  | nil=>intro _ h;cases h
  | cons j m ih=>
   intro hnd hin
   have hnd':=List.nodup_cons.1 hnd
   by_cases e:j=i
   ·subst e
    have h1:(listed.setIfInBounds j true).getD j false=true:=by simp[hs,hi]
    have h2:m.countP (fun x=>!listed.getD x false)=m.countP (fun x=>!(listed.setIfInBounds j true).getD x false):=by
     apply List.countP_congr
     intro x hx
     have:j ≠ x:=fun e=>hnd'.1 (e ▸ hx)
     rw[getD_set_ne false this]
    rw[List.countP_cons,List.countP_cons,hn,h1,h2]
    simp
   ·have hin':i ∈ m:=by
     rcases List.mem_cons.1 hin with h|h
     ·exact(e h.symm).elim
     ·exact h
    rw[List.countP_cons,List.countP_cons,ih hnd'.2 hin',getD_set_ne false (Ne.symm e)]
    omega
 exact key _ List.nodup_range (List.mem_range.2 hi)
theorem VB {l:List Oper}{listed:Array Bool}(h:left l listed=0){i:Nat}(hi:i<l.length):listed.getD i false=true:=by
 have:=List.countP_eq_zero.1 h i (List.mem_range.2 hi)
 simpa using this
theorem J8 {l:List Oper}{listed:Array Bool}(hE:Kk l=true)(hs:listed.size=l.length)(h:left l listed ≠ 0):Region.ready .any l.toArray listed ≠ []:=by
 obtain⟨i,hi,hn⟩:∃ i,i<l.length/\listed.getD i false=false:=by
  rcases Nat.eq_zero_or_pos (left l listed) with h0|h0
  ·exact(h h0).elim
  ·obtain⟨i,h1,h2⟩:=List.countP_pos_iff.1 h0
   exact⟨i,List.mem_range.1 h1,by simpa using h2⟩
 have:∀ i,i<l.length->listed.getD i false=false->Region.ready .any l.toArray listed ≠ []:=by
  intro i
  induction i using Nat.strongRecOn with
  | _ i ih=>
   intro hi hn
   by_cases hr:∀ e ∈ l[i].after,Region.binds .any e=true->listed.getD e.on false=true
   ·have:i ∈ Region.ready .any l.toArray listed:=by
     rw[mem_ready]
     have h1:i<listed.size:=by omega
     refine⟨by simp[h1]at hn ⊢;exact hn,l[i],by simp[hi],hr⟩
    intro e;rw[e]at this;cases this
   ·obtain⟨e,hr⟩:=Classical.not_forall.1 hr
    obtain⟨he,hr⟩:=Classical.not_imp.1 hr
    obtain⟨hb,hr⟩:=Classical.not_imp.1 hr
    have hlt:=KD hE (List.getElem?_eq_getElem hi) e he hb
    exact ih e.on hlt (by omega) (by simpa using hr)
 exact this i hi hn
theorem I1 [Known][Dfr]{l:List Oper}{ds:List (Nat × D)}{listed:Array Bool}(hchk:W0 l=true)(hE:Kk l=true)(hl:ds.length<=l.length)
  (hst:∀(i:Nat) (o:Oper),l[i]?=some o->i<ds.length->∃ t d,ds[i]?=some (t,d)/\o.dst=some t/\Nat.blt t n=true/\AL P l.toArray [o] ⟨n,Wp l o ((ds.take i).reverse++tm),bx,fr,(bx.length,fr.length)⟩ (qp t d bx fr))
  (hM:Mid b0 ee n tm bx fr l ds listed g a w) {i:Nat} (hi:i ∈ Region.ready .any l.toArray listed) (hids:i<ds.length) {K:Act->World->Prop} {Q2:Exit->Act->World->Prop} (hK:∀ g' a' w',Mid b0 ee n tm bx fr l ds (listed.setIfInBounds i true) g' a' w'->K a' w') :
  wpOp P l.toArray Q2 i K a w:=by
 obtain⟨hn0,o,ho,hr⟩:=mem_ready.1 hi
 have ho':l[i]?=some o:=by simpa using ho
 have hil:i<l.length:=(List.getElem?_eq_some_iff.1 ho').1
 have hn:listed.getD i false=false:=by
  have:i<listed.size:=by rw[hM.len];exact hil
  simp[this]at hn0 ⊢;exact hn0
 obtain⟨t,d,e1,e2,e3,hAL⟩:=hst i o ho' hids
 have hdst:∀(i:Nat) (o:Oper),l[i]?=some o->i<ds.length->∃ t d,ds[i]?=some (t,d)/\o.dst=some t:=fun i o h hd=>by
  obtain⟨t,d,h1,h2,_⟩:=hst i o h hd;exact⟨t,d,h1,h2⟩
 have hN:∀(i j:Nat) (p q:Nat × D),ds[i]?=some p->ds[j]?=some q->p.1=q.1->i=j:=fun x y p q hx hy e=>by
  by_cases hxy:x=y
  ·exact hxy
  ·exfalso
   have hxd:=(List.getElem?_eq_some_iff.1 hx).1
   have hxl:x<l.length:=Nat.lt_of_lt_of_le hxd hl
   have hyd:=(List.getElem?_eq_some_iff.1 hy).1
   have hyl:y<l.length:=Nat.lt_of_lt_of_le hyd hl
   have hc:=Qy hchk hxl hyl hxy
   obtain⟨t1,d1,a1,a2⟩:=hdst x _ (List.getElem?_eq_getElem hxl) hxd
   obtain⟨t2,d2,c1,c2⟩:=hdst y _ (List.getElem?_eq_getElem hyl) hyd
   rw[hx]at a1;injection a1 with a1
   rw[hy]at c1;injection c1 with c1
   simp only[Ue,List.getElem?_eq_getElem hxl,List.getElem?_eq_getElem hyl,a2,c2,Bool.and_eq_true,bne_iff_ne,ne_eq,Option.some.injEq]at hc
   rw[a1,c1]at e
   exact hc.1 e.symm
 have hinv:Inv ⟨g,fr,w⟩ ⟨n,Wp l o ((ds.take i).reverse++tm),bx,fr,(bx.length,fr.length)⟩ g a w:=by
  refine⟨hM.size,hM.defers,hM.mem,fun x=>?_,Evo.refl _,by rw[hM.mem.bl];exact Nat.le_refl _,Nat.le_refl _⟩
  by_cases hx:x ∈ Qu l o
  ·dsimp only
   rw[UR _ hx,<- Ir hchk hl hdst hM.closed ho' hn hr (Nat.le_of_lt hids) hx]
   exact hM.tm x
  ·dsimp only
   rw[Vr _ hx]
   exact .junk _
 have hrun:=hAL.run ⟨g,fr,w⟩ g a w hinv
 have fin:∀ a' w',(∃ v,a'=a.put o.dst v)->wpList P l.toArray (UP ⟨g,fr,w⟩ (qp t d bx fr)) [] a' w'->K a' w':=by
  rintro a' w' ⟨v,rfl⟩ h
  obtain⟨S',g',hi',hq⟩:=h
  obtain⟨n',tm2,bx2,fr2,ee'⟩:=S'
  have hn':n'=n:=by
   have h1:=hi'.size
   dsimp only at h1
   rw[<- h1,<- hM.size]
   cases hd':o.dst<;>simp[Act.put,hd']
  subst hn'
  obtain⟨tm3,g',hi',q3⟩:∃ tm3 g',Inv ⟨g,fr,w⟩ ⟨n',tm3,bx,fr,(g.ρ.length,fr.length)⟩ g' (a.put o.dst v) w'/\look tm3 t=d:=by
   rcases hq with⟨q1,q2,q3⟩ | ⟨q1,q2,q3,q4⟩
   ·dsimp only at q1 q2 q3
    subst q1 q2
    exact⟨tm2,g',⟨hi'.size,hi'.defers,hi'.mem,hi'.tm,hi'.evo,Nat.le_refl _,Nat.le_refl _⟩,q3⟩
   ·dsimp only at q1 q2 q3
    have h1:Inv ⟨g,fr,w⟩ ⟨n',[(t,d)],bx2,fr2,(g.ρ.length,fr.length)⟩ g' (a.put o.dst v) w':=by
     refine⟨hi'.size,hi'.defers,hi'.mem,fun x=>?_,hi'.evo,Nat.le_refl _,Nat.le_refl _⟩
     by_cases hx:x=t
     ·subst hx
      have:=hi'.tm x
      dsimp only at this ⊢
      simp only[look,Nat.beq_refl]
      rcases q3 with q3|q3
      ·rw[<- q3];exact this
      ·rw[<- q3];exact this.wk
     ·have hb:Nat.beq t x=false:=by
       cases hb:Nat.beq t x with
       | false=>rfl
       | true=>exact(hx (Nat.eq_of_beq_eq_true hb).symm).elim
      simp only[look,hb]
      exact .junk _
    have h2:=h1.cut (k:=bx.length) (m:=fr.length) (by show g.ρ.length<=_;rw[hM.mem.bl];exact Nat.le_refl _) (Nat.le_refl _) (by simp only[Kj,q4]) (by rw[q1];exact hM.mem.allLt)
    rw[q1,q2]at h2
    exact⟨_,_,h2,by simp[look]⟩
  refine hK g' _ _ ⟨hM.bd,hi'.size,hi'.defers,hi'.mem,hM.evo.trans hi'.evo,fun x=>?_,fun m om hm hlm e he hb=>?_,by simp[hM.len]⟩
  ·by_cases hx:x=t
   ·subst hx
    rw[Uo hN hl e1,if_pos (by simp[hM.len,hil])]
    have:=hi'.tm x
    dsimp only at this
    rw[q3]at this
    exact this
   ·have hcur:cur l ds tm (listed.setIfInBounds i true) x=cur l ds tm listed x:=by
     by_cases hex:∃(j:Nat) (d:D),ds[j]?=some (x,d)
     ·obtain⟨j,dj,hj⟩:=hex
      have hne:i ≠ j:=fun e=>by
       subst e
       rw[e1]at hj;injection hj with hj;injection hj with hj
       exact hx hj.symm
      rw[Uo hN hl hj,Uo hN hl hj,getD_set_ne false hne]
     ·have hno:∀(j:Nat) (p:Nat × D),ds[j]?=some p->p.1 ≠ x:=fun j p hj e=>hex ⟨j,p.2,by rw[hj,<- e]⟩
      rw[Uf hno,Uf hno]
    rw[hcur]
    have htm:(a.put o.dst v).tmps.getD x undef=a.tmps.getD x undef:=by
     rw[e2]
     simp[Act.put,Array.getD_getElem?,Array.getElem?_setIfInBounds_ne (Ne.symm hx)]
    rw[htm]
    exact(hM.tm x).evo hi'.evo
  ·by_cases hmi:m=i
   ·subst hmi
    rw[ho']at hm;injection hm with hm;subst hm
    exact getD_set_true (hr e he hb)
   ·rw[getD_set_ne false (Ne.symm hmi)]at hlm
    exact getD_set_true (hM.closed m om hm hlm e he hb)
 unfold wpOp
 simp only[ho]
 unfold wpList at hrun
 by_cases hw:Region.wanted o (yielded l.toArray a.tmps)=true
 ·rw[if_pos hw]at hrun
  rw[if_pos hw]
  have hL:LetsOut (UP ⟨g,fr,w⟩ (qp t d bx fr))->False:=fun⟨_,_,h⟩=>h
  rcases hrun with hrun|⟨_,hlo⟩
  ·refine .inl ?_
   have:=KC (Q2:=Q2) hrun hM.defers (fun a w h=>by obtain⟨S',g',hi',_⟩:=h;exact hi'.defers) (fun c a w h=>by obtain⟨_,_,_,_,_,_,_,hq⟩:=h;exact hq) hL
   exact Oper.wp_mono (P:=P) (fun a' w' h=>fin a' w' h.1 h.2) this
  ·exact(hL hlo).elim
 ·rw[if_neg hw]at hrun
  rw[if_neg hw]
  exact fin _ _ ⟨undef,rfl⟩ hrun
theorem OZ [Known][Dfr]{l:List Oper}{ds:List (Nat × D)}{listed:Array Bool}(hchk:W0 l=true)(hl:ds.length<=l.length)(hdst:∀(i:Nat) (o:Oper),l[i]?=some o->i<ds.length->∃ t d,ds[i]?=some (t,d)/\o.dst=some t)
  (hM:Mid b0 ee n tm bx fr l ds listed g a w) (hall:∀ i,i<ds.length->listed.getD i false=true):Inv b0 ⟨n,ds.reverse++tm,bx,fr,ee⟩ g a w:=by
 have hN:∀(i j:Nat) (p q:Nat × D),ds[i]?=some p->ds[j]?=some q->p.1=q.1->i=j:=fun x y p q hx hy e=>by
  by_cases hxy:x=y
  ·exact hxy
  ·exfalso
   have hxd:=(List.getElem?_eq_some_iff.1 hx).1
   have hxl:x<l.length:=Nat.lt_of_lt_of_le hxd hl
   have hyd:=(List.getElem?_eq_some_iff.1 hy).1
   have hyl:y<l.length:=Nat.lt_of_lt_of_le hyd hl
   have hc:=Qy hchk hxl hyl hxy
   obtain⟨t1,d1,a1,a2⟩:=hdst x _ (List.getElem?_eq_getElem hxl) hxd
   obtain⟨t2,d2,c1,c2⟩:=hdst y _ (List.getElem?_eq_getElem hyl) hyd
   rw[hx]at a1;injection a1 with a1
   rw[hy]at c1;injection c1 with c1
   simp only[Ue,List.getElem?_eq_getElem hxl,List.getElem?_eq_getElem hyl,a2,c2,Bool.and_eq_true,bne_iff_ne,ne_eq,Option.some.injEq]at hc
   rw[a1,c1]at e
   exact hc.1 e.symm
 refine⟨hM.size,hM.defers,hM.mem,fun x=>?_,hM.evo,hM.bd⟩
 have hx:=hM.tm x
 have hc:cur l ds tm listed x=look (ds.reverse++tm) x:=by
  rw[Vg]
  by_cases hex:∃(j:Nat) (d:D),ds[j]?=some (x,d)
  ·obtain⟨j,dj,hj⟩:=hex
   have hjl:=(List.getElem?_eq_some_iff.1 hj).1
   rw[Uo hN hl hj,if_pos (hall j hjl),if_pos (by simp only[List.map_reverse,List.mem_reverse];exact List.mem_map.2 ⟨(x,dj),List.mem_of_getElem? hj,rfl⟩)]
   have hN':∀(x y:Nat) (p q:Nat × D),ds.reverse[x]?=some p->ds.reverse[y]?=some q->p.1=q.1->x=y:=fun x y p q hx hy e=>by
    have lx:=(List.getElem?_eq_some_iff.1 hx).1
    have ly:=(List.getElem?_eq_some_iff.1 hy).1
    rw[List.getElem?_reverse (by simpa using lx)]at hx
    rw[List.getElem?_reverse (by simpa using ly)]at hy
    have:=hN _ _ p q hx hy e
    simp at lx ly
    omega
   refine(JV hN' (i:=ds.length-1-j) ?_).symm
   rw[List.getElem?_reverse (by omega),show ds.length-1-(ds.length-1-j)=j from by omega]
   exact hj
  ·have hno:∀(j:Nat) (p:Nat × D),ds[j]?=some p->p.1 ≠ x:=fun j p hj e=>hex ⟨j,p.2,by rw[hj,<- e]⟩
   rw[Uf hno,if_neg (fun hm=>by
    simp only[List.map_reverse,List.mem_reverse]at hm
    obtain⟨p,hp,he⟩:=List.mem_map.1 hm
    obtain⟨y,hy⟩:=List.getElem?_of_mem hp
    exact hno y p hy he)]
 rw[<- hc];exact hx
theorem Oo {l:List Oper}{listed:Array Bool}(hs:listed.size=l.length)(h0:left l listed=0):Region.ready .any l.toArray listed=[]:=by
 apply List.eq_nil_iff_forall_not_mem.2
 intro i hi
 obtain⟨hn0,o,ho,_⟩:=mem_ready.1 hi
 have ho':l[i]?=some o:=by simpa using ho
 have hil:i<l.length:=(List.getElem?_eq_some_iff.1 ho').1
 have:=VB h0 hil
 have hlt:i<listed.size:=by rw[hs];exact hil
 simp[hlt]at hn0 this
 rw[hn0]at this;cases this
def V0 (l:List Oper)(m:Nat):Bool:=(List.range l.length).all fun j=>decide (j<m)||(List.range j).all fun i=>up (Wf [] l) j i
theorem US {l:List Oper}{m:Nat}(h:V0 l m=true){i j:Nat}(hm:m<=j)(hj:j<l.length)(hi:i<j):up (Wf [] l) j i=true:=by
 have h1:=List.all_eq_true.1 h j (List.mem_range.2 hj)
 rw[Bool.or_eq_true]at h1
 rcases h1 with h1|h1
 ·have:=of_decide_eq_true h1;omega
 ·exact List.all_eq_true.1 h1 i (List.mem_range.2 hi)
theorem JW {l:List Oper}{listed:Array Bool}{j:Nat}(h:∀ i,i<l.length->(listed.getD i false=true ↔ i<j)):left l listed=l.length-j:=by
 unfold left
 have h2:(List.range l.length).countP (fun i=>!listed.getD i false)=(List.range l.length).countP (fun i=>decide (j<=i)):=by
  apply List.countP_congr
  intro i hi
  have:=h i (List.mem_range.1 hi)
  cases hb:listed.getD i false with
  | true=>rw[hb]at this;have:=this.1 rfl;simp;omega
  | false=>rw[hb]at this;simp at this ⊢;omega
 rw[h2]
 generalize l.length=n
 induction n with
 | zero=>simp
 | succ n ih=>
  rw[List.range_succ,List.countP_append,ih]
  simp only[List.countP_cons,List.countP_nil,decide_eq_true_eq,Nat.zero_add]
  split<;>omega
theorem Qz {l:List Oper}{m:Nat}{R:Exit->Act->World->Prop}(hE:Kk l=true)(hch:V0 l m=true):∀(fuel j:Nat) (listed:Array Bool) (a:Act) (w:World),j+fuel=l.length->m<=j->listed.size=l.length->(∀ i,i<l.length->(listed.getD i false=true ↔ i<j))->wpList P l.toArray R (l.drop j) a w->wpAny P .any l.toArray R fuel listed a w:=by
 intro fuel
 induction fuel with
 | zero=>
  intro j listed a w hj hm hs hl h
  refine⟨Oo hs (by rw[JW hl];omega),?_⟩
  rw[List.drop_of_length_le (by omega)]at h
  exact h
 | succ fuel ih=>
  intro j listed a w hj hm hs hl h
  refine⟨fun he=>(J8 hE hs (by rw[JW hl];omega) he).elim,fun i hi=>?_⟩
  obtain⟨hn0,o,ho,hr⟩:=mem_ready.1 hi
  have ho':l[i]?=some o:=by simpa using ho
  have hil:i<l.length:=(List.getElem?_eq_some_iff.1 ho').1
  have hlt:i<listed.size:=by rw[hs];exact hil
  have hn:¬ listed.getD i false=true:=by simp[hlt]at hn0 ⊢;exact hn0
  have hge:j<=i:=Nat.le_of_not_lt fun h=>hn ((hl i hil).2 h)
  have hcl:∀(m:Nat) (o:Oper),l[m]?=some o->listed.getD m false=true->∀ e ∈ o.after,Region.binds .any e=true->listed.getD e.on false=true:=fun x ox hx hlx e he hb=>by
   have hxl:=(List.getElem?_eq_some_iff.1 hx).1
   have h1:=KD hE hx e he hb
   have h2:=(hl x hxl).1 hlx
   exact(hl e.on (by omega)).2 (by omega)
  have hij:i=j:=by
   rcases Nat.lt_or_ge j i with h|h
   ·exfalso
    have:=Un hcl i o ho' hr j (US hch (by omega) hil h)
    have:=(hl j (by omega)).1 this
    omega
   ·omega
  subst hij
  rw[List.drop_eq_getElem_cons hil,show l[i]=o from(List.getElem?_eq_some_iff.1 ho').2]at h
  have hK:∀ a' w',wpList P l.toArray R (l.drop (i+1)) a' w'->wpAny P .any l.toArray R fuel (listed.setIfInBounds i true) a' w':=fun a' w' h=>ih (i+1) _ a' w' (by omega) (by omega) (by simp[hs]) (fun x hx=>by
   by_cases e:x=i
   ·subst e;simp[hlt]
   ·rw[getD_set_ne false (Ne.symm e),hl x hx];omega) h
  unfold wpOp
  simp only[ho]
  unfold wpList at h
  by_cases hw:Region.wanted o (yielded l.toArray a.tmps)=true
  ·rw[if_pos hw]at h
   rw[if_pos hw]
   rcases h with h|h
   ·exact .inl (Oper.wp_mono hK h)
   ·exact .inr h
  ·rw[if_neg hw]at h
   rw[if_neg hw]
   exact hK _ _ h
theorem I2 [Known][Dfr]{id m:Nat}{l acts:List Oper}(hm:P.follows .mixedOrders=true)(hchk:W0 l=true)(hE:Kk l=true)(hch:V0 l m=true)(hlen:(l.take m).length=m)(hacts:l.drop m=acts)(h:AD P l n bx fr (l.take m) tm tm')(k:AL P l.toArray acts ⟨n,tm',bx,fr,ee⟩ Q) :
  AW P (.region id l.toArray true) ⟨n,tm,bx,fr,ee⟩ Q:=by
 obtain⟨ds,h1,h2,h3⟩:=h.steps
 have hml:m<=l.length:=by rw[List.length_take]at hlen;omega
 rw[hlen]at h1
 have hl:ds.length<=l.length:=by omega
 have hst:∀(i:Nat) (o:Oper),l[i]?=some o->i<ds.length->∃ t d,ds[i]?=some (t,d)/\o.dst=some t/\Nat.blt t n=true/\AL P l.toArray [o] ⟨n,Wp l o ((ds.take i).reverse++tm),bx,fr,(bx.length,fr.length)⟩ (qp t d bx fr):=fun i o ho hi=>h3 i o (by rw[List.getElem?_take,if_pos (by omega)];exact ho)
 have hdst:∀(i:Nat) (o:Oper),l[i]?=some o->i<ds.length->∃ t d,ds[i]?=some (t,d)/\o.dst=some t:=fun i o h hd=>by
  obtain⟨t,d,h1,h2,_⟩:=hst i o h hd;exact⟨t,d,h1,h2⟩
 refine⟨fun b0 g a w hi=>wp_region_any hm ?_⟩
 have main:∀(fuel:Nat) (listed:Array Bool) (g:G) (a:Act) (w:World),Mid b0 ee n tm bx fr l ds listed g a w->(∀ i,m<=i->i<l.length->listed.getD i false=false)->left l listed=fuel->wpAny P .any l.toArray (UP b0 Q) fuel listed a w:=by
  intro fuel
  induction fuel with
  | zero=>
   intro listed g a w hM hu h0
   have hall:∀ i,i<ds.length->listed.getD i false=true:=fun i hi=>VB h0 (by omega)
   have hinv:=OZ hchk hl hdst hM hall
   rw[<- h2]at hinv
   have hml':l.length=m:=by
    rcases Nat.lt_or_ge m l.length with h|h
    ·have h5:=hu m (Nat.le_refl _) h
     have h6:=VB h0 h
     rw[h5]at h6;cases h6
    ·omega
   exact Qz hE hch 0 m listed a w (by omega) (Nat.le_refl _) hM.len (fun i hi=>by rw[VB h0 hi];simp;omega) (by rw[hacts];exact k.run b0 g a w hinv)
  | succ fuel ih=>
   intro listed g a w hM hu hf
   by_cases hall:∀ i,i<m->listed.getD i false=true
   ·have hinv:=OZ hchk hl hdst hM (fun i hi=>hall i (by omega))
    rw[<- h2]at hinv
    have hls:∀ i,i<l.length->(listed.getD i false=true ↔ i<m):=fun i hi=>by
     rcases Nat.lt_or_ge i m with h|h
     ·simp[hall i h,h]
     ·rw[hu i h hi];simp;omega
    refine Qz hE hch (fuel+1) m listed a w (by rw[<- hf,JW hls];omega) (Nat.le_refl _) hM.len hls (by rw[hacts];exact k.run b0 g a w hinv)
   refine⟨fun he=>(J8 hE hM.len (by omega) he).elim,fun i hi=>?_⟩
   obtain⟨hn0,o,ho,hr⟩:=mem_ready.1 hi
   have ho':l[i]?=some o:=by simpa using ho
   have hil:i<l.length:=(List.getElem?_eq_some_iff.1 ho').1
   have hlt:i<listed.size:=by rw[hM.len];exact hil
   have hn:listed.getD i false=false:=by simp[hlt]at hn0 ⊢;exact hn0
   have hleft:=KE hil hM.len hn
   by_cases him:i<m
   ·refine I1 hchk hE hl hst hM hi (by omega) fun g' a' w' hM'=>ih _ g' a' w' hM' (fun x hx hxl=>?_) (by omega)
    rw[getD_set_ne false (by omega)]
    exact hu x hx hxl
   ·exact(hall fun x hx=>Un hM.closed i o ho' hr x (US hch (by omega) hil (by omega))).elim
 have hsz:l.toArray.size=l.length:=by simp
 rw[hsz]
 have hfresh:∀ i,(Array.replicate l.length false).getD i false=false:=fun i=>by
  rcases Nat.lt_or_ge i l.length with h|h<;>simp[h]
 refine main l.length _ g a _ ⟨hi.bd,hi.size,hi.defers,hi.mem.drew,hi.evo.trans Evo.drew,fun t=>?_,fun m o hm hl=>?_,by simp⟩ (fun i _ _=>hfresh i) ?_
 ·have:cur l ds tm (Array.replicate l.length false) t=look tm t:=by
   unfold cur
   have hf:(List.range l.length).find? (fun i=>(Array.replicate l.length false).getD i false&&((ds[i]?).map (·.1)==some t))=none:=by
    apply List.find?_eq_none.2
    intro i _
    rw[hfresh];simp
   rw[hf]
  rw[this]
  exact(hi.tm t).drew
 ·rw[hfresh]at hl;cases hl
 ·unfold left
  rw[List.countP_eq_length.2 (fun i _=>by rw[hfresh];rfl),List.length_range]
theorem Z5 [Known][Dfr]{id:Nat}(m:Nat){l acts:List Oper}(hm:P.follows .mixedOrders=true)(hch:V0 l m=true)(hchk:W0 l=true)(hE:Kk l=true)(hlen:Nat.beq (l.take m).length m=true)(hacts:nfl (l.drop m)=some acts)(h:AD P l n bx fr (l.take m) tm tm')(k:AL P l.toArray acts ⟨n,tm',bx,fr,ee⟩ Q) :
  AW P (.region id l.toArray true) ⟨n,tm,bx,fr,ee⟩ Q:=I2 hm hchk hE hch (Nat.eq_of_beq_eq_true hlen) (YO hacts) h k
end
end Go.Av
end
section
open Go.RowKit Go.Pl
namespace Go.Av
section
variable {P:Program} {Q:X->St->Prop} {n:Nat} {ee:Nat × Nat} {tm:List (Nat × D)} {bx bx':List (List D)} {fr fr':List Fr} {b0:Bs} {g:G} {w:World} {a:Act} {T:Tab}
variable {ops:Array Oper} {rest:List Oper} {t ty:Nat} {pos:String} {after:Array Edge}
theorem KF {parts:Array (Nat × Operand)}{len:Nat}(h:parts.toList.map (·.1)=List.range len):parts=(((parts.toList.map (·.2)).zipIdx 0).map fun q=>(q.2,q.1)).toArray/\(parts.toList.map (·.2)).length=len:=by
 have hl:parts.toList.length=len:=by have:=congrArg List.length h;simpa using this
 refine⟨?_,by simpa using hl⟩
 apply Array.ext'
 apply List.ext_getElem?
 intro i
 simp only[List.getElem?_map,List.getElem?_zipIdx,Nat.zero_add]
 cases hi:parts.toList[i]? with
 | none=>simp
 | some p=>
  have h1:(parts.toList.map (·.1))[i]?=some p.1:=by simp[hi]
  rw[h]at h1
  obtain⟨q1,q2⟩:=List.getElem?_eq_some_iff.1 h1
  simp at q2
  simp[q2]
theorem V1 [Known][Dfr](hT:chk P T=true){st len e:Nat}{ds:List D}{es:List E}{ti te:Ti}{m:Nat}{parts:Array (Nat × Operand)}(ht:tl T st=some ti)(hk:ti.kd=.slice e)(hte:tl T e=some te)(hp:parts.toList.map (·.1)=List.range len)
  (hds:nfs (parts.toList.map fun p=>ev tm p.2)=some ds) (hes:D.toEl ds=some es) (hU:Ky te.size es=true) (hpos:Nat.blt 0 te.size=true) (hsm:Nat.ble (len*te.size) 16777216=true) (hm:fr.length=m) (hf:nfl (fr++[⟨len,te.size,e⟩])=some fr') (htd:Nat.blt t n=true)
  (k:AL P ops rest ⟨n,(t,.sl (.own m) es)::tm,bx,fr',ee⟩ Q):AL P ops (⟨some t,.buildSlice st len parts,ty,pos,after,none⟩::rest) ⟨n,tm,bx,fr,ee⟩ Q:=by
 obtain⟨h1,h2⟩:=KF hp
 exact Xz hT ht hk hte h1 (by rw[h2];exact Nat.beq_refl len) (by rw[List.map_map];exact hds) hes hU hpos hsm hm hf htd k
end
theorem Yp [Known][Dfr]{P:Program}{l:List Oper}{n:Nat}{bx:List (List D)}{fr:List Fr}{o:Oper}{rest:List Oper}{t:Nat}{d:D}{tm tm' tm2:List (Nat × D)}(hd:o.dst=some t)(ht:Nat.blt t n=true)(h2:nfl (Wp l o tm)=some tm2)
  (h:AL P l.toArray [o] ⟨n,tm2,bx,fr,(bx.length,fr.length)⟩ (qp t d bx fr)) (k:AD P l n bx fr rest ((t,d)::tm) tm'):AD P l n bx fr (o::rest) tm tm':=
 .cons o rest t d tm tm' hd ht (by rw[YO h2];exact h) k
theorem AP.weak [Known]{P:Program}{f:FuncId}{args:List D}{d:D}(h:AC P f args [] [] fun r bx fr=>∃ d0,r=.ret d0/\d0.wk=d/\bx=[]/\fr=[]):AP P f args d []:=by
 refine⟨fun g w vs hm hl hv=>(h.run g w vs hm hl hv).mono fun e w' ⟨g',bx',fr',r,h1,h2,h3,d0,h4,h5,h6,h7⟩=>?_⟩
 subst h4 h5 h6 h7
 obtain⟨v,rfl,hv⟩:=h3
 exact⟨g',[],[],.ret d0.wk,h1,h2,⟨v,rfl,hv.wk⟩,rfl,rfl,rfl⟩
theorem KG {P:Program}{rs:List ResultVar}{S:St}{d d':D}{ds:List D}(h:ResL P S rs ds)(hn:nf (((Q5 ds).ren (idx []) (idx [])).wk)=some d')(hd:d'=d) :
  QV P rs 0 0 (fun r bx fr=>∃ d0,r=.ret d0/\d0.wk=d/\bx=[]/\fr=[]) .ret S:=
 ⟨ds,[],[],h,Wi _,Wi _,fun i h=>by omega,fun i h=>by omega,_,rfl,by rw[YZ hn,hd],rfl,rfl⟩
structure Lands (J:Nat->List (Nat × D)->List (List D)->List Fr->Prop) (n:Nat) (ee:Nat × Nat) (k:Nat) (S:St):Prop where
 out:∃ m tm bx fr,m<k/\J m tm bx fr/\S.n=n/\S.e=ee/\Sub S.tm tm/\nfb (S.bx.take bx.length)=some bx/\nfl (S.fr.take fr.length)=some fr/\Nat.ble ee.1 bx.length=true/\Nat.ble ee.2 fr.length=true/\Kj bx.length fr.length tm=true/\allLt bx.length fr.length bx=true
theorem Lands.mk' {J:Nat->List (Nat × D)->List (List D)->List Fr->Prop}{n k m:Nat}{ee:Nat × Nat}{tm0 tm:List (Nat × D)}{bx0 bx:List (List D)}{fr0 fr:List Fr}(hm:m<k)(hJ:J m tm bx fr)(hs:Sub tm0 tm)(hbx:nfb (bx0.take bx.length)=some bx)(hfr:nfl (fr0.take fr.length)=some fr)
  (h1:Nat.ble ee.1 bx.length=true) (h2:Nat.ble ee.2 fr.length=true) (h3:Kj bx.length fr.length tm=true) (h4:allLt bx.length fr.length bx=true):Lands J n ee k ⟨n,tm0,bx0,fr0,ee⟩:=⟨m,tm,bx,fr,hm,hJ,rfl,rfl,hs,hbx,hfr,h1,h2,h3,h4⟩
theorem Lands.inv [Known][Dfr]{J:Nat->List (Nat × D)->List (List D)->List Fr->Prop}{n k:Nat}{ee:Nat × Nat}{S:St}(h:Lands J n ee k S){b0:Bs}{g:G}{a:Act}{w:World}(hi:Inv b0 S g a w):∃ m,m<k/\∃ tm bx fr g',J m tm bx fr/\Inv b0 ⟨n,tm,bx,fr,ee⟩ g' a w:=by
 obtain⟨m,tm,bx,fr,h1,h2,h3,h4,h5,h6,h7,h8,h9,h10,h11⟩:=h.out
 obtain⟨n',tm',bx',fr',ee'⟩:=S
 dsimp only at h3 h4 h5 h6 h7
 subst h3 h4
 have e1:=Vo h6
 have e2:=YO h7
 have:=(hi.sub h5).cut (k:=bx.length) (m:=fr.length) (Nat.le_of_ble_eq_true h8) (Nat.le_of_ble_eq_true h9) h10 (by rw[e1];exact h11)
 rw[e1,e2]at this
 exact⟨m,h1,tm,bx,fr,_,h2,this⟩
theorem Yr [Known][Dfr]{P:Program}{Q:X->St->Prop}{c:Code}{n:Nat}{ee:Nat × Nat}{tm0:List (Nat × D)}{bx0:List (List D)}{fr0:List Fr}(J:Nat->List (Nat × D)->List (List D)->List Fr->Prop)
  (k0:Nat) (h0:Lands J n ee k0 ⟨n,tm0,bx0,fr0,ee⟩) (hr:∀ k tm bx fr,J k tm bx fr->AW P c ⟨n,tm,bx,fr,ee⟩ (X.then (Lands J n ee k) Q)):AW P (.loop c) ⟨n,tm0,bx0,fr0,ee⟩ Q:=by
 refine⟨fun b0 g a w hi=>?_⟩
 obtain⟨m,_,tm,bx,fr,g',hJ,hi'⟩:=h0.inv hi
 refine wp_loop_ghost (fun k a w=>∃ tm bx fr g,J k tm bx fr/\Inv b0 ⟨n,tm,bx,fr,ee⟩ g a w) m ⟨tm,bx,fr,g',hJ,hi'⟩ fun k a w hI=>?_
 obtain⟨tm,bx,fr,g,hJ,hi⟩:=hI
 refine wp_mono ((hr k tm bx fr hJ).run b0 g a w hi) fun e a w hc=>?_
 cases e<;>simp only[UP,X.then,Exit.then]at hc ⊢
 ·obtain⟨S',g',hi',hL⟩:=hc
  obtain⟨m,hm,tm,bx,fr,g',hJ,hi'⟩:=hL.inv hi'
  exact⟨m,hm,tm,bx,fr,g',hJ,hi'⟩
 all_goals exact hc
def g0 (W:World):G:=⟨fun b _=>b<W.heap.size,[],[]⟩
theorem NJ [Known]{W:World}(hg:Gls (g0 W).C W):Mem (g0 W) [] [] W where
 bl:=rfl
 bat i blk cs h:=by simp[g0]at h
 bC blk o h:=by simp[g0]at h
 bN i j b h:=by simp[g0]at h
 tl:=rfl
 tat i blk cap f h:=by simp[g0]at h
 tN i j b c c' h:=by simp[g0]at h
 tρ b c h:=by simp[g0]at h
 Clt b o h:=h
 gl:=hg
theorem NK [Known]{P:Program}{f:FuncId}{args:List D}(h:AC P f args [] [] fun r _ _=>r=.ret (.bool true)){W:World}{vs:List Value}(hg:Gls (g0 W).C W)(hl:vs.length=args.length)(hv:∀(j:Nat) (d:D) (v:Value),args[j]?=some d->vs[j]?=some v->V W (g0 W) [] d v) :
  Calls P f vs.toArray W fun e w'=>e=.returned (.bool true)/\Below W.heap.size W w':=
 (h.run (g0 W) W vs (NJ hg) hl hv).mono fun e w' ⟨g',bx',fr',r,he,_,hr,hp⟩=>by
  subst hp
  obtain⟨v,rfl,hv⟩:=hr
  refine⟨by rw[hv.bool_inv],he.os,he.tape,he.output,he.size,fun k hk=>he.block k hk fun hM=>?_⟩
  rcases hM with h|⟨c,h⟩<;>simp[g0]at h
structure ToE {α:Type} (R:Rep α) (f:α->E):Prop where
 cells:∀(w:World) (S:Nat->Prop) (C:Nat->Nat->Prop) (cs:List Value) (x:α),(∀ k,S k->∀ o,C k o)->R.ok w S cs x->cs.length=(f x).cells.length/\∀(j:Nat) (e:E) (v:Value),(f x).cells[j]?=some e->cs[j]?=some v->VE w C e v
theorem Ja {w:World}{C:Nat->Nat->Prop}{u:Value}{e0:E}(he:e0.cells=[e0])(hv:VE w C e0 u):[u].length=e0.cells.length/\∀(j:Nat) (e:E) (v:Value),e0.cells[j]?=some e->[u][j]?=some v->VE w C e v:=by
 rw[he]
 refine⟨rfl,fun j e v h1 h2=>?_⟩
 cases j with
 | zero=>simp at h1 h2;subst h1 h2;exact hv
 | succ j=>simp at h1
theorem ToE.i64:ToE Rep.i64 (.int .i64):=⟨fun w S C cs x _ h=>by obtain⟨rfl,_⟩:=h;exact Ja rfl (.int _ _)⟩
theorem ToE.u64:ToE Rep.u64 (fun n=>.int .u64 (n:Int)):=⟨fun w S C cs x _ h=>by obtain⟨rfl,_⟩:=h;exact Ja rfl (.int _ _)⟩
theorem ToE.byte:ToE Rep.byte E.byte:=⟨fun w S C cs x _ h=>by cases h;exact Ja rfl (.int _ _)⟩
theorem ToE.prod {α β:Type}{R:Rep α}{R':Rep β}{f:α->E}{f':β->E}(h:ToE R f)(h':ToE R' f'):ToE (R.prod R') (fun x=>.agg ((f x.1).cells++(f' x.2).cells)):=⟨fun w S C cs x hC hx=>by
 obtain⟨c1,c2,rfl,h1,h2⟩:=hx
 obtain⟨l1,v1⟩:=h.cells w S C c1 x.1 hC h1
 obtain⟨l2,v2⟩:=h'.cells w S C c2 x.2 hC h2
 refine⟨by simp[E.cells,l1,l2],fun j e v he hv=>?_⟩
 have he:((f x.1).cells++(f' x.2).cells)[j]?=some e:=he
 rcases Nat.lt_or_ge j c1.length with hj|hj
 ·rw[List.getElem?_append_left (by omega)]at he
  rw[List.getElem?_append_left hj]at hv
  exact v1 j e v he hv
 ·rw[List.getElem?_append_right (by omega)]at he
  rw[List.getElem?_append_right hj]at hv
  rw[<- l1]at he
  exact v2 _ e v he hv⟩
theorem ToE.run {α:Type}{R:Rep α}{f:α->E}(h:ToE R f){w:World}{S:Nat->Prop}{C:Nat->Nat->Prop}(hC:∀ k,S k->∀ o,C k o):∀ {l:List α} {cs:List Value},Run R w S cs l->cs.length=(flat (l.map f)).length/\∀(j:Nat) (e:E) (v:Value),(flat (l.map f))[j]?=some e->cs[j]?=some v->VE w C e v
 | [],cs,hr=>by simp[Run]at hr;subst hr;simp
 | x::l,cs,hr=>by
  obtain⟨c1,c2,rfl,h1,h2⟩:=hr
  obtain⟨l1,v1⟩:=h.cells w S C c1 x hC h1
  obtain⟨l2,v2⟩:=ToE.run h hC h2
  refine⟨by simp[l1,l2],fun j e v he hv=>?_⟩
  simp only[List.map_cons,Vf]at he
  rcases Nat.lt_or_ge j c1.length with hj|hj
  ·rw[List.getElem?_append_left (by omega)]at he
   rw[List.getElem?_append_left hj]at hv
   exact v1 j e v he hv
  ·rw[List.getElem?_append_right (by omega)]at he
   rw[List.getElem?_append_right hj]at hv
   rw[<- l1]at he
   exact v2 _ e v he hv
theorem ToE.sl {α:Type}{R:Rep α}{f:α->E}(h:ToE R f){w:World}{S:Nat->Prop}{C:Nat->Nat->Prop}(hC:∀ k,S k->∀ o,C k o){v:Value}{l:List α}(hs:Sl R w S v l):VE w C (.sl (l.map f)) v:=by
 obtain⟨A,cap,rfl,h1,h2,cs,hr,hh⟩:=hs
 by_cases hl:l=[]
 ·subst hl
  exact .slE A cap h2
 ·obtain⟨g,off,rfl,hS,hc⟩:=hh hl
  obtain⟨q1,q2⟩:=h.run hC hr
  have:=VE.slC (w:=w) (C:=C) (l.map f) g off cap (fun j=>cs.getD j undef) (by simpa using h1) h2 (fun j hj=>hC g hS _) (fun j hj=>by
   have hj':j<cs.length:=by omega
   rw[hc j hj'];exact getD_some hj') (fun j e he=>q2 j e _ he (getD_some (by
    have:=(List.getElem?_eq_some_iff.1 he).1;omega)))
  simpa using this
theorem ToE.slice {α:Type}{R:Rep α}{f:α->E}(h:ToE R f)(hR:0<R.n):ToE (Rep.slice R hR) (fun l=>.sl (l.map f)):=⟨fun w S C cs x hC hx=>by
 obtain⟨v,rfl,hs⟩:=hx
 exact Ja rfl (h.sl hC hs)⟩
end Go.Av
end

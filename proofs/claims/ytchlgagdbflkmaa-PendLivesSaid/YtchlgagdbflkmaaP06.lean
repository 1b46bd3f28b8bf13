/- Regions that draw their order: operations that leave variables as they are may come in any order. -/
import Derived.Test.YtchlgagdbflkmaaP05
import Derived.Test.YtchlgagdbflkmaaP01
import Derived.ScopeJumps
import Derived.Lib.SlBytesConst
import Derived.Laws.IdiomStrings
import Derived.LoopN
set_option linter.unusedSimpArgs false
set_option linter.unusedVariables false
section
open Go.RowKit Go.Pl
namespace Go.Av
def Wj (ms:List Nat):List Edge->Nat
 | []=>0
 | e::es=>match Region.binds .any e with
  | true=>((1 <<< e.on) ||| ms.getD e.on 0) ||| Wj ms es
  | false=>Wj ms es
def Z0:List Nat->List Oper->List Nat
 | ms,[]=>ms
 | ms,o::l=>Z0 (ms++[Wj ms o.after.toList]) l
def up (ms:List Nat)(j i:Nat):Bool:=(ms.getD j 0).testBit i
def WD (l:List Oper)(o:Oper):List Nat:=o.looksAt l.toArray
def WQ (ms:List Nat)(l:List Oper)(i j:Nat):Bool:=
 match l[i]?,l[j]? with
 | some oi,some oj=>match oi.dst with
  | some t=>oj.dst != some t&&(!(WD l oj).contains t||(if i<j then up ms j i else up ms i j))
  | none=>true
 | _,_=>true
def Yx (l:List Oper):Bool:=
 (List.range l.length).all fun i=>(List.range l.length).all fun j=>decide (i=j)||WQ (Z0 [] l) l i j
def ZT (l:List Oper)(o:Oper):List (Nat × D)->List (Nat × D)
 | []=>[]
 | p::tm=>match(WD l o).contains p.1 with
  | true=>p::ZT l o tm
  | false=>ZT l o tm
def qp (t:Nat)(d:D)(bx:List (List D))(fr:List Fr):X->St->Prop
 | .norm,S=>(S.bx=bx/\S.fr=fr/\look S.tm t=d)\/(S.bx.take bx.length=bx/\S.fr.take fr.length=fr/\(look S.tm t=d\/(look S.tm t).wk=d)/\D.lt bx.length fr.length d=true)
 | _,_=>False
theorem XX {t n:Nat}{ee:Nat × Nat}{d:D}{tm:List (Nat × D)}{bx:List (List D)}{fr:List Fr}(h:nf (look tm t)=some d):qp t d bx fr .norm ⟨n,tm,bx,fr,ee⟩:=.inl ⟨rfl,rfl,Yd h⟩
theorem XY {t n:Nat}{ee:Nat × Nat}{d:D}{tm:List (Nat × D)}{bx bx':List (List D)}{fr fr':List Fr}(hb:nfb (bx'.take bx.length)=some bx)(hf:nfl (fr'.take fr.length)=some fr)(h:nf (look tm t).wk=some d)(hd:D.lt bx.length fr.length d=true):qp t d bx fr .norm ⟨n,tm,bx',fr',ee⟩:=.inr ⟨Yi hb,Z4 hf,.inr (Yd h),hd⟩
inductive AD [Known][Dfr](P:Program) (l:List Oper) (n:Nat) (bx:List (List D)) (fr:List Fr):List Oper->List (Nat × D)->List (Nat × D)->Prop
 | nil (tm:List (Nat × D)):AD P l n bx fr [] tm tm
 | cons (o:Oper) (rest:List Oper) (t:Nat) (d:D) (tm tm':List (Nat × D)) (hd:o.dst=some t) (ht:Nat.blt t n=true) (h:AL P l.toArray [o] ⟨n,ZT l o tm,bx,fr,(bx.length,fr.length)⟩ (qp t d bx fr)) (k:AD P l n bx fr rest ((t,d)::tm) tm'):AD P l n bx fr (o::rest) tm tm'
theorem Wb {l:List Oper}{o:Oper}{t:Nat}:∀(tm:List (Nat × D)),t ∈ WD l o->look (ZT l o tm) t=look tm t
 | [],_=>rfl
 | p::tm,h=>by
  obtain⟨k,d⟩:=p
  simp only[ZT]
  cases hc:(WD l o).contains k with
  | true=>
   simp only[look]
   rw[Wb tm h]
  | false=>
   simp only[look]
   have hne:Nat.beq k t=false:=by
    cases hb:Nat.beq k t with
    | false=>rfl
    | true=>
     have:=Nat.eq_of_beq_eq_true hb
     subst this
     simp[h]at hc
   rw[hne]
   exact Wb tm h
theorem Yy {l:List Oper}{o:Oper}{t:Nat}:∀(tm:List (Nat × D)),t ∉ WD l o->look (ZT l o tm) t=.junk
 | [],_=>rfl
 | p::tm,h=>by
  obtain⟨k,d⟩:=p
  simp only[ZT]
  cases hc:(WD l o).contains k with
  | true=>
   simp only[look]
   have hne:Nat.beq k t=false:=by
    cases hb:Nat.beq k t with
    | false=>rfl
    | true=>
     have:=Nat.eq_of_beq_eq_true hb
     subst this
     simp[h]at hc
   rw[hne]
   exact Yy tm h
  | false=>exact Yy tm h
section
variable {P:Program} {Q:X->St->Prop} {n:Nat} {ee:Nat × Nat} {tm tm':List (Nat × D)} {bx bx':List (List D)} {fr fr':List Fr} {b0:Bs} {g:G} {w:World} {a:Act}
theorem Uv {L:List Deferred}{o:Oper}{K:Act->World->Prop}{Q' Q2:Exit->Act->World->Prop}{r:Result Next}(h:o.upon P a K Q' r)(ha:a.defers=L)(hd:∀ a w,K a w->a.defers=L)(hQ:∀ c a w,Q' (.panic c) a w->False)(hL:LetsOut Q'->False) :
  o.upon P a (fun a' w'=>(∃ v,a'=a.put o.dst v)/\K a' w') Q2 r:=by
 cases r with
 | ok nx w'=>
  cases nx<;>simp only[Oper.upon]at h ⊢
  case value v=>exact⟨⟨v,rfl⟩,h⟩
  case skip=>exact⟨⟨undef,rfl⟩,h⟩
  case defer d=>
   have:=hd _ _ h
   have:=congrArg List.length this
   cases hdst:o.dst<;>simp[Act.put,hdst,ha]at this
  case enter f args=>
   refine Calls.mono h (fun e w'' he=>?_)
   cases e with
   | returned u=>exact⟨⟨u,rfl⟩,he⟩
   | panicked c=>exact(hQ _ _ _ he).elim
   | outgrown=>exact(hL he).elim
  case row row args=>exact Rows.mono h fun u w'' he=>⟨⟨u,rfl⟩,he⟩
 | halt x w'=>
  cases x<;>simp only[Oper.upon]at h ⊢
  case panic u=>exact(hQ _ _ _ h).elim
theorem W3 {ms:List Nat}{i:Nat}:∀ {es:List Edge},(Wj ms es).testBit i=true->∃ e ∈ es,Region.binds .any e=true/\(i=e.on\/(ms.getD e.on 0).testBit i=true)
 | [],h=>by simp[Wj]at h
 | e::es,h=>by
  simp only[Wj]at h
  cases hb:Region.binds .any e with
  | false=>
   simp only[hb]at h
   obtain⟨e',h1,h2⟩:=W3 h
   exact⟨e',by simp[h1],h2⟩
  | true=>
   simp only[hb,Nat.testBit_or,Bool.or_eq_true]at h
   rcases h with(h|h)|h
   ·refine⟨e,by simp,hb,.inl ?_⟩
    rw[Nat.shiftLeft_eq,Nat.one_mul,Nat.testBit_two_pow]at h
    simpa[eq_comm]using h
   ·exact⟨e,by simp,hb,.inr h⟩
   ·obtain⟨e',h1,h2⟩:=W3 h
    exact⟨e',by simp[h1],h2⟩
theorem VS:∀(l:List Oper) (ms:List Nat),∃ r,Z0 ms l=ms++r/\r.length=l.length
 | [],ms=>⟨[],by simp[Z0],rfl⟩
 | o::l,ms=>by
  obtain⟨r,h1,h2⟩:=VS l (ms++[Wj ms o.after.toList])
  exact⟨Wj ms o.after.toList::r,by simp[Z0,h1],by simp[h2]⟩
theorem VT:∀(l:List Oper) (ms:List Nat) (j:Nat) (o:Oper),l[j]?=some o->∃ r,Z0 ms l=r++(Z0 ms l).drop (ms.length+j)/\r.length=ms.length+j/\(Z0 ms l)[ms.length+j]?=some (Wj r o.after.toList)
 | o0::l,ms,0,o,h=>by
  simp at h;subst h
  obtain⟨r,h1,h2⟩:=VS l (ms++[Wj ms o0.after.toList])
  refine⟨ms,?_,by simp,?_⟩
  ·simp[Z0,h1]
  ·simp[Z0,h1]
 | o0::l,ms,j+1,o,h=>by
  simp at h
  obtain⟨r,h1,h2,h3⟩:=VT l (ms++[Wj ms o0.after.toList]) j o h
  have e:(ms++[Wj ms o0.after.toList]).length+j=ms.length+(j+1):=by simp;omega
  rw[e]at h1 h2 h3
  exact⟨r,h1,h2,h3⟩
 | [],ms,j,o,h=>by simp at h
theorem Y2 {l:List Oper}{listed:Array Bool}(hc:∀(m:Nat) (o:Oper),l[m]?=some o->listed.getD m false=true->∀ e ∈ o.after,Region.binds .any e=true->listed.getD e.on false=true) :
  ∀(i:Nat) (o:Oper),l[i]?=some o->(∀ e ∈ o.after,Region.binds .any e=true->listed.getD e.on false=true)->∀ k,up (Z0 [] l) i k=true->listed.getD k false=true:=by
 intro i
 induction i using Nat.strongRecOn with
 | _ i ih=>
  intro o ho hr k hk
  obtain⟨r,h1,h2,h3⟩:=VT l [] i o ho
  simp only[List.length_nil,Nat.zero_add]at h1 h2 h3
  unfold up at hk
  rw[List.getD_eq_getElem?_getD,h3,Option.getD_some]at hk
  obtain⟨e,he,hb,hor⟩:=W3 hk
  have hle:=hr e (by simpa using he) hb
  rcases hor with rfl|hor
  ·exact hle
  ·have hlt:e.on<i:=by
    rcases Nat.lt_or_ge e.on i with h|h
    ·exact h
    ·exfalso
     rw[List.getD_eq_getElem?_getD,List.getElem?_eq_none (by omega)]at hor
     simp at hor
   have hil:i<l.length:=(List.getElem?_eq_some_iff.1 ho).1
   have hoe:l[e.on]?=some l[e.on]:=List.getElem?_eq_getElem (by omega)
   refine ih e.on hlt l[e.on] hoe (hc e.on _ hoe hle) k ?_
   unfold up
   rw[h1,List.getD_eq_getElem?_getD,List.getElem?_append_left (by omega),<- List.getD_eq_getElem?_getD]
   exact hor
def cur (l:List Oper)(ds:List (Nat × D))(tm:List (Nat × D))(listed:Array Bool)(t:Nat):D:=
 match(List.range l.length).find? (fun i=>listed.getD i false&&((ds[i]?).map (·.1)==some t)) with
 | some i=>((ds[i]?).map (·.2)).getD .junk
 | none=>look tm t
structure Mid [Known][Dfr](b0:Bs) (ee:Nat × Nat) (n:Nat) (tm:List (Nat × D)) (bx:List (List D)) (fr:List Fr) (l:List Oper) (ds:List (Nat × D)) (listed:Array Bool) (g:G) (a:Act) (w:World):Prop where
 bd:b0.g.ρ.length<=ee.1/\b0.fr.length<=ee.2
 size:a.tmps.size=n
 defers:a.defers=Dfr.l
 mem:Mem g bx fr w
 evo:Evo b0 ⟨g,fr,w⟩
 tm:∀ t,V w g fr (cur l ds tm listed t) (a.tmps.getD t undef)
 closed:∀(m:Nat) (o:Oper),l[m]?=some o->listed.getD m false=true->∀ e ∈ o.after,Region.binds .any e=true->listed.getD e.on false=true
 len:listed.size=l.length
theorem Ua {l:List Oper}(h:Yx l=true){i j:Nat}(hi:i<l.length)(hj:j<l.length)(hne:i ≠ j):WQ (Z0 [] l) l i j=true:=by
 have h1:=List.all_eq_true.1 h i (List.mem_range.2 hi)
 have h2:=List.all_eq_true.1 h1 j (List.mem_range.2 hj)
 simpa[hne]using h2
theorem YX (a:List (Nat × D))(b:List (Nat × D))(t:Nat):look (a++b) t=if t ∈ a.map (·.1) then look a t else look b t:=by
 induction a with
 | nil=>simp
 | cons p a ih=>
  obtain⟨k,d⟩:=p
  simp only[List.cons_append,look,List.map_cons,List.mem_cons]
  cases hb:Nat.beq k t with
  | true=>
   have:=Nat.eq_of_beq_eq_true hb
   subst this
   rw[if_pos (by simp)]
  | false=>
   have hne:t ≠ k:=fun e=>by subst e;simp at hb
   dsimp only
   rw[ih]
   by_cases hm:t ∈ a.map (·.1)
   ·rw[if_pos hm,if_pos (.inr hm)]
   ·rw[if_neg hm,if_neg (fun h=>h.elim hne hm)]
theorem Ub {ds:List (Nat × D)}(hN:∀(i j:Nat) (p q:Nat × D),ds[i]?=some p->ds[j]?=some q->p.1=q.1->i=j):∀ {i:Nat} {t:Nat} {d:D},ds[i]?=some (t,d)->look ds t=d:=by
 induction ds with
 | nil=>intro i t d h;simp at h
 | cons p ds ih=>
  intro i t d h
  obtain⟨k,d0⟩:=p
  simp only[look]
  cases i with
  | zero=>simp at h;obtain⟨rfl,rfl⟩:=h;rw[Nat.beq_refl]
  | succ i=>
   simp at h
   cases hb:Nat.beq k t with
   | true=>
    have:=Nat.eq_of_beq_eq_true hb
    subst this
    have:=hN 0 (i+1) (k,d0) (k,d) rfl (by simpa using h) rfl
    omega
   | false=>
    exact ih (fun i j p q h1 h2 e=>by have:=hN (i+1) (j+1) p q (by simpa using h1) (by simpa using h2) e;omega) h
theorem YH {l:List Oper}{ds:List (Nat × D)}{tm:List (Nat × D)}{listed:Array Bool}(hN:∀(i j:Nat) (p q:Nat × D),ds[i]?=some p->ds[j]?=some q->p.1=q.1->i=j)(hl:ds.length<=l.length){j t:Nat}{d:D}(hj:ds[j]?=some (t,d)) :
  cur l ds tm listed t=if listed.getD j false=true then d else look tm t:=by
 unfold cur
 have hjl:j<l.length:=Nat.lt_of_lt_of_le (List.getElem?_eq_some_iff.1 hj).1 hl
 cases hf:(List.range l.length).find? (fun i=>listed.getD i false&&((ds[i]?).map (·.1)==some t)) with
 | some i=>
  have:=List.find?_some hf
  simp only[Bool.and_eq_true,beq_iff_eq]at this
  obtain⟨h1,h2⟩:=this
  cases hi:ds[i]? with
  | none=>simp[hi]at h2
  | some p=>
   simp[hi]at h2
   have:=hN i j p (t,d) hi hj h2
   subst this
   rw[if_pos h1]
   show((ds[i]?).map (·.2)).getD .junk=d
   rw[hj]
   rfl
 | none=>
  have:=List.find?_eq_none.1 hf j (List.mem_range.2 hjl)
  simp only[hj,Option.map_some,beq_self_eq_true,Bool.and_true,Bool.not_eq_true]at this
  rw[if_neg (by rw[this];simp)]
theorem YO {l:List Oper}{ds:List (Nat × D)}{tm:List (Nat × D)}{listed:Array Bool}{t:Nat}(h:∀(j:Nat) (p:Nat × D),ds[j]?=some p->p.1 ≠ t):cur l ds tm listed t=look tm t:=by
 unfold cur
 cases hf:(List.range l.length).find? (fun i=>listed.getD i false&&((ds[i]?).map (·.1)==some t)) with
 | some i=>
  have:=List.find?_some hf
  simp only[Bool.and_eq_true,beq_iff_eq]at this
  cases hi:ds[i]? with
  | none=>simp[hi]at this
  | some p=>simp[hi]at this;exact(h i p hi this.2).elim
 | none=>rfl
def U1 (l:List Oper):Bool:=(l.zipIdx 0).all fun p=>p.1.after.all fun e=>!Region.binds .any e||Nat.blt e.on p.2
theorem Uw {l:List Oper}(h:U1 l=true){i:Nat}{o:Oper}(hi:l[i]?=some o):∀ e ∈ o.after,Region.binds .any e=true->e.on<i:=fun e he hb=>by
 have h1:=List.all_eq_true.1 h (o,i) (by
  rw[List.mem_iff_getElem?]
  exact⟨i,by rw[List.getElem?_zipIdx,hi];simp⟩)
 have h2:=Array.all_eq_true_iff_forall_mem.1 h1 e he
 simpa[hb,Nat.blt_eq]using h2
def left (l:List Oper)(listed:Array Bool):Nat:=(List.range l.length).countP fun i=>!listed.getD i false
theorem Ux {l:List Oper}{listed:Array Bool}{i:Nat}(hi:i<l.length)(hs:listed.size=l.length)(hn:listed.getD i false=false):left l listed=left l (listed.setIfInBounds i true)+1:=by
 unfold left
 have key:∀(m:List Nat),m.Nodup->i ∈ m->m.countP (fun j=>!listed.getD j false)=m.countP (fun j=>!(listed.setIfInBounds i true).getD j false)+1:=by
  intro m
  induction m with
  | nil=>intro _ h;cases h
  | cons j m ih=>
   intro hnd hin
   have hnd':=List.nodup_cons.1 hnd
   by_cases e:j=i
   ·subst e
    have h1:(listed.setIfInBounds j true).getD j false=true:=by simp[hs,hi]
    have h2:m.countP (fun x=>!listed.getD x false)=m.countP (fun x=>!(listed.setIfInBounds j true).getD x false):=by
     apply List.countP_congr
     intro x hx
     have:j ≠ x:=fun e=>hnd'.1 (e ▸ hx)
     rw[getD_set_ne false this]
    rw[List.countP_cons,List.countP_cons,hn,h1,h2]
    simp
   ·have hin':i ∈ m:=by
     rcases List.mem_cons.1 hin with h|h
     ·exact(e h.symm).elim
     ·exact h
    rw[List.countP_cons,List.countP_cons,ih hnd'.2 hin',getD_set_ne false (Ne.symm e)]
    omega
 exact key _ List.nodup_range (List.mem_range.2 hi)
theorem YI {l:List Oper}{listed:Array Bool}(h:left l listed=0){i:Nat}(hi:i<l.length):listed.getD i false=true:=by
 have:=List.countP_eq_zero.1 h i (List.mem_range.2 hi)
 simpa using this
theorem Vq {l:List Oper}{listed:Array Bool}(hE:U1 l=true)(hs:listed.size=l.length)(h:left l listed ≠ 0):Region.ready .any l.toArray listed ≠ []:=by
 obtain⟨i,hi,hn⟩:∃ i,i<l.length/\listed.getD i false=false:=by
  rcases Nat.eq_zero_or_pos (left l listed) with h0|h0
  ·exact(h h0).elim
  ·obtain⟨i,h1,h2⟩:=List.countP_pos_iff.1 h0
   exact⟨i,List.mem_range.1 h1,by simpa using h2⟩
 have:∀ i,i<l.length->listed.getD i false=false->Region.ready .any l.toArray listed ≠ []:=by
  intro i
  induction i using Nat.strongRecOn with
  | _ i ih=>
   intro hi hn
   by_cases hr:∀ e ∈ l[i].after,Region.binds .any e=true->listed.getD e.on false=true
   ·have:i ∈ Region.ready .any l.toArray listed:=by
     rw[mem_ready]
     have h1:i<listed.size:=by omega
     refine⟨by simp[h1]at hn ⊢;exact hn,l[i],by simp[hi],hr⟩
    intro e;rw[e]at this;cases this
   ·obtain⟨e,hr⟩:=Classical.not_forall.1 hr
    obtain⟨he,hr⟩:=Classical.not_imp.1 hr
    obtain⟨hb,hr⟩:=Classical.not_imp.1 hr
    have hlt:=Uw hE (List.getElem?_eq_getElem hi) e he hb
    exact ih e.on hlt (by omega) (by simpa using hr)
 exact this i hi hn
theorem Uc [Known][Dfr]{l:List Oper}{ds:List (Nat × D)}{listed:Array Bool}(hchk:Yx l=true)(hl:ds.length<=l.length)(hdst:∀(i:Nat) (o:Oper),l[i]?=some o->i<ds.length->∃ t d,ds[i]?=some (t,d)/\o.dst=some t)
  (hM:Mid b0 ee n tm bx fr l ds listed g a w) (hall:∀ i,i<ds.length->listed.getD i false=true):Inv b0 ⟨n,ds.reverse++tm,bx,fr,ee⟩ g a w:=by
 have hN:∀(i j:Nat) (p q:Nat × D),ds[i]?=some p->ds[j]?=some q->p.1=q.1->i=j:=fun x y p q hx hy e=>by
  by_cases hxy:x=y
  ·exact hxy
  ·exfalso
   have hxd:=(List.getElem?_eq_some_iff.1 hx).1
   have hxl:x<l.length:=Nat.lt_of_lt_of_le hxd hl
   have hyd:=(List.getElem?_eq_some_iff.1 hy).1
   have hyl:y<l.length:=Nat.lt_of_lt_of_le hyd hl
   have hc:=Ua hchk hxl hyl hxy
   obtain⟨t1,d1,a1,a2⟩:=hdst x _ (List.getElem?_eq_getElem hxl) hxd
   obtain⟨t2,d2,c1,c2⟩:=hdst y _ (List.getElem?_eq_getElem hyl) hyd
   rw[hx]at a1;injection a1 with a1
   rw[hy]at c1;injection c1 with c1
   simp only[WQ,List.getElem?_eq_getElem hxl,List.getElem?_eq_getElem hyl,a2,c2,Bool.and_eq_true,bne_iff_ne,ne_eq,Option.some.injEq]at hc
   rw[a1,c1]at e
   exact hc.1 e.symm
 refine⟨hM.size,hM.defers,hM.mem,fun x=>?_,hM.evo,hM.bd⟩
 have hx:=hM.tm x
 have hc:cur l ds tm listed x=look (ds.reverse++tm) x:=by
  rw[YX]
  by_cases hex:∃(j:Nat) (d:D),ds[j]?=some (x,d)
  ·obtain⟨j,dj,hj⟩:=hex
   have hjl:=(List.getElem?_eq_some_iff.1 hj).1
   rw[YH hN hl hj,if_pos (hall j hjl),if_pos (by simp only[List.map_reverse,List.mem_reverse];exact List.mem_map.2 ⟨(x,dj),List.mem_of_getElem? hj,rfl⟩)]
   have hN':∀(x y:Nat) (p q:Nat × D),ds.reverse[x]?=some p->ds.reverse[y]?=some q->p.1=q.1->x=y:=fun x y p q hx hy e=>by
    have lx:=(List.getElem?_eq_some_iff.1 hx).1
    have ly:=(List.getElem?_eq_some_iff.1 hy).1
    rw[List.getElem?_reverse (by simpa using lx)]at hx
    rw[List.getElem?_reverse (by simpa using ly)]at hy
    have:=hN _ _ p q hx hy e
    simp at lx ly
    omega
   refine(Ub hN' (i:=ds.length-1-j) ?_).symm
   rw[List.getElem?_reverse (by omega),show ds.length-1-(ds.length-1-j)=j from by omega]
   exact hj
  ·have hno:∀(j:Nat) (p:Nat × D),ds[j]?=some p->p.1 ≠ x:=fun j p hj e=>hex ⟨j,p.2,by rw[hj,<- e]⟩
   rw[YO hno,if_neg (fun hm=>by
    simp only[List.map_reverse,List.mem_reverse]at hm
    obtain⟨p,hp,he⟩:=List.mem_map.1 hm
    obtain⟨y,hy⟩:=List.getElem?_of_mem hp
    exact hno y p hy he)]
 rw[<- hc];exact hx
theorem U2 {l:List Oper}{listed:Array Bool}(hs:listed.size=l.length)(h0:left l listed=0):Region.ready .any l.toArray listed=[]:=by
 apply List.eq_nil_iff_forall_not_mem.2
 intro i hi
 obtain⟨hn0,o,ho,_⟩:=mem_ready.1 hi
 have ho':l[i]?=some o:=by simpa using ho
 have hil:i<l.length:=(List.getElem?_eq_some_iff.1 ho').1
 have:=YI h0 hil
 have hlt:i<listed.size:=by rw[hs];exact hil
 simp[hlt]at hn0 this
 rw[hn0]at this;cases this
def Y6 (l:List Oper)(m:Nat):Bool:=(List.range l.length).all fun j=>decide (j<m)||(List.range j).all fun i=>up (Z0 [] l) j i
theorem Wc {l:List Oper}{m:Nat}(h:Y6 l m=true){i j:Nat}(hm:m<=j)(hj:j<l.length)(hi:i<j):up (Z0 [] l) j i=true:=by
 have h1:=List.all_eq_true.1 h j (List.mem_range.2 hj)
 rw[Bool.or_eq_true]at h1
 rcases h1 with h1|h1
 ·have:=of_decide_eq_true h1;omega
 ·exact List.all_eq_true.1 h1 i (List.mem_range.2 hi)
theorem Vf {l:List Oper}{listed:Array Bool}{j:Nat}(h:∀ i,i<l.length->(listed.getD i false=true ↔ i<j)):left l listed=l.length-j:=by
 unfold left
 have h2:(List.range l.length).countP (fun i=>!listed.getD i false)=(List.range l.length).countP (fun i=>decide (j<=i)):=by
  apply List.countP_congr
  intro i hi
  have:=h i (List.mem_range.1 hi)
  cases hb:listed.getD i false with
  | true=>rw[hb]at this;have:=this.1 rfl;simp;omega
  | false=>rw[hb]at this;simp at this ⊢;omega
 rw[h2]
 generalize l.length=n
 induction n with
 | zero=>simp
 | succ n ih=>
  rw[List.range_succ,List.countP_append,ih]
  simp only[List.countP_cons,List.countP_nil,decide_eq_true_eq,Nat.zero_add]
  split<;>omega
theorem Wv {l:List Oper}{m:Nat}{R:Exit->Act->World->Prop}(hE:U1 l=true)(hch:Y6 l m=true):∀(fuel j:Nat) (listed:Array Bool) (a:Act) (w:World),j+fuel=l.length->m<=j->listed.size=l.length->(∀ i,i<l.length->(listed.getD i false=true ↔ i<j))->wpList P l.toArray R (l.drop j) a w->wpAny P .any l.toArray R fuel listed a w:=by
 intro fuel
 induction fuel with
 | zero=>
  intro j listed a w hj hm hs hl h
  refine⟨U2 hs (by rw[Vf hl];omega),?_⟩
  rw[List.drop_of_length_le (by omega)]at h
  exact h
 | succ fuel ih=>
  intro j listed a w hj hm hs hl h
  refine⟨fun he=>(Vq hE hs (by rw[Vf hl];omega) he).elim,fun i hi=>?_⟩
  obtain⟨hn0,o,ho,hr⟩:=mem_ready.1 hi
  have ho':l[i]?=some o:=by simpa using ho
  have hil:i<l.length:=(List.getElem?_eq_some_iff.1 ho').1
  have hlt:i<listed.size:=by rw[hs];exact hil
  have hn:¬ listed.getD i false=true:=by simp[hlt]at hn0 ⊢;exact hn0
  have hge:j<=i:=Nat.le_of_not_lt fun h=>hn ((hl i hil).2 h)
  have hcl:∀(m:Nat) (o:Oper),l[m]?=some o->listed.getD m false=true->∀ e ∈ o.after,Region.binds .any e=true->listed.getD e.on false=true:=fun x ox hx hlx e he hb=>by
   have hxl:=(List.getElem?_eq_some_iff.1 hx).1
   have h1:=Uw hE hx e he hb
   have h2:=(hl x hxl).1 hlx
   exact(hl e.on (by omega)).2 (by omega)
  have hij:i=j:=by
   rcases Nat.lt_or_ge j i with h|h
   ·exfalso
    have:=Y2 hcl i o ho' hr j (Wc hch (by omega) hil h)
    have:=(hl j (by omega)).1 this
    omega
   ·omega
  subst hij
  rw[List.drop_eq_getElem_cons hil,show l[i]=o from(List.getElem?_eq_some_iff.1 ho').2]at h
  have hK:∀ a' w',wpList P l.toArray R (l.drop (i+1)) a' w'->wpAny P .any l.toArray R fuel (listed.setIfInBounds i true) a' w':=fun a' w' h=>ih (i+1) _ a' w' (by omega) (by omega) (by simp[hs]) (fun x hx=>by
   by_cases e:x=i
   ·subst e;simp[hlt]
   ·rw[getD_set_ne false (Ne.symm e),hl x hx];omega) h
  unfold wpOp
  simp only[ho]
  unfold wpList at h
  by_cases hw:Region.wanted o (yielded l.toArray a.tmps)=true
  ·rw[if_pos hw]at h
   rw[if_pos hw]
   rcases h with h|h
   ·exact .inl (Oper.wp_mono hK h)
   ·exact .inr h
  ·rw[if_neg hw]at h
   rw[if_neg hw]
   exact hK _ _ h
end
end Go.Av
end
section
open Go.RowKit Go.Pl
namespace Go.Av
section
variable {P:Program} {Q:X->St->Prop} {n:Nat} {ee:Nat × Nat} {tm:List (Nat × D)} {bx bx':List (List D)} {fr fr':List Fr} {b0:Bs} {g:G} {w:World} {a:Act} {T:Tab}
variable {ops:Array Oper} {rest:List Oper} {t ty:Nat} {pos:String} {after:Array Edge}
theorem Uy {parts:Array (Nat × Operand)}{len:Nat}(h:parts.toList.map (·.1)=List.range len):parts=(((parts.toList.map (·.2)).zipIdx 0).map fun q=>(q.2,q.1)).toArray/\(parts.toList.map (·.2)).length=len:=by
 have hl:parts.toList.length=len:=by have:=congrArg List.length h;simpa using this
 refine⟨?_,by simpa using hl⟩
 apply Array.ext'
 apply List.ext_getElem?
 intro i
 simp only[List.getElem?_map,List.getElem?_zipIdx,Nat.zero_add]
 cases hi:parts.toList[i]? with
 | none=>simp
 | some p=>
  have h1:(parts.toList.map (·.1))[i]?=some p.1:=by simp[hi]
  rw[h]at h1
  obtain⟨q1,q2⟩:=List.getElem?_eq_some_iff.1 h1
  simp at q2
  simp[q2]
theorem Jk [Known][Dfr](hT:chk P T=true){st len e:Nat}{ds:List D}{es:List E}{ti te:Ti}{m:Nat}{parts:Array (Nat × Operand)}(ht:tl T st=some ti)(hk:ti.kd=.slice e)(hte:tl T e=some te)(hp:parts.toList.map (·.1)=List.range len)
  (hds:nfs (parts.toList.map fun p=>ev tm p.2)=some ds) (hes:D.toEl ds=some es) (hU:Uq te.size es=true) (hpos:Nat.blt 0 te.size=true) (hsm:Nat.ble (len*te.size) 16777216=true) (hm:fr.length=m) (hf:nfl (fr++[⟨len,te.size,e⟩])=some fr') (htd:Nat.blt t n=true)
  (k:AL P ops rest ⟨n,(t,.sl (.own m) es)::tm,bx,fr',ee⟩ Q):AL P ops (⟨some t,.buildSlice st len parts,ty,pos,after,none⟩::rest) ⟨n,tm,bx,fr,ee⟩ Q:=by
 obtain⟨h1,h2⟩:=Uy hp
 exact VH hT ht hk hte h1 (by rw[h2];exact Nat.beq_refl len) (by rw[List.map_map];exact hds) hes hU hpos hsm hm hf htd k
end
structure Lands (J:Nat->List (Nat × D)->List (List D)->List Fr->Prop) (n:Nat) (ee:Nat × Nat) (k:Nat) (S:St):Prop where
 out:∃ m tm bx fr,m<k/\J m tm bx fr/\S.n=n/\S.e=ee/\Sub S.tm tm/\nfb (S.bx.take bx.length)=some bx/\nfl (S.fr.take fr.length)=some fr/\Nat.ble ee.1 bx.length=true/\Nat.ble ee.2 fr.length=true/\Uu bx.length fr.length tm=true/\allLt bx.length fr.length bx=true
theorem Lands.mk' {J:Nat->List (Nat × D)->List (List D)->List Fr->Prop}{n k m:Nat}{ee:Nat × Nat}{tm0 tm:List (Nat × D)}{bx0 bx:List (List D)}{fr0 fr:List Fr}(hm:m<k)(hJ:J m tm bx fr)(hs:Sub tm0 tm)(hbx:nfb (bx0.take bx.length)=some bx)(hfr:nfl (fr0.take fr.length)=some fr)
  (h1:Nat.ble ee.1 bx.length=true) (h2:Nat.ble ee.2 fr.length=true) (h3:Uu bx.length fr.length tm=true) (h4:allLt bx.length fr.length bx=true):Lands J n ee k ⟨n,tm0,bx0,fr0,ee⟩:=⟨m,tm,bx,fr,hm,hJ,rfl,rfl,hs,hbx,hfr,h1,h2,h3,h4⟩
theorem Lands.inv [Known][Dfr]{J:Nat->List (Nat × D)->List (List D)->List Fr->Prop}{n k:Nat}{ee:Nat × Nat}{S:St}(h:Lands J n ee k S){b0:Bs}{g:G}{a:Act}{w:World}(hi:Inv b0 S g a w):∃ m,m<k/\∃ tm bx fr g',J m tm bx fr/\Inv b0 ⟨n,tm,bx,fr,ee⟩ g' a w:=by
 obtain⟨m,tm,bx,fr,h1,h2,h3,h4,h5,h6,h7,h8,h9,h10,h11⟩:=h.out
 obtain⟨n',tm',bx',fr',ee'⟩:=S
 dsimp only at h3 h4 h5 h6 h7
 subst h3 h4
 have e1:=Yi h6
 have e2:=Z4 h7
 have:=(hi.sub h5).cut (k:=bx.length) (m:=fr.length) (Nat.le_of_ble_eq_true h8) (Nat.le_of_ble_eq_true h9) h10 (by rw[e1];exact h11)
 rw[e1,e2]at this
 exact⟨m,h1,tm,bx,fr,_,h2,this⟩
theorem Z7 [Known][Dfr]{P:Program}{Q:X->St->Prop}{c:Code}{n:Nat}{ee:Nat × Nat}{tm0:List (Nat × D)}{bx0:List (List D)}{fr0:List Fr}(J:Nat->List (Nat × D)->List (List D)->List Fr->Prop)
  (k0:Nat) (h0:Lands J n ee k0 ⟨n,tm0,bx0,fr0,ee⟩) (hr:∀ k tm bx fr,J k tm bx fr->AW P c ⟨n,tm,bx,fr,ee⟩ (X.then (Lands J n ee k) Q)):AW P (.loop c) ⟨n,tm0,bx0,fr0,ee⟩ Q:=by
 refine⟨fun b0 g a w hi=>?_⟩
 obtain⟨m,_,tm,bx,fr,g',hJ,hi'⟩:=h0.inv hi
 refine wp_loop_ghost (fun k a w=>∃ tm bx fr g,J k tm bx fr/\Inv b0 ⟨n,tm,bx,fr,ee⟩ g a w) m ⟨tm,bx,fr,g',hJ,hi'⟩ fun k a w hI=>?_
 obtain⟨tm,bx,fr,g,hJ,hi⟩:=hI
 refine wp_mono ((hr k tm bx fr hJ).run b0 g a w hi) fun e a w hc=>?_
 cases e<;>simp only[Wm,X.then,Exit.then]at hc ⊢
 ·obtain⟨S',g',hi',hL⟩:=hc
  obtain⟨m,hm,tm,bx,fr,g',hJ,hi'⟩:=hL.inv hi'
  exact⟨m,hm,tm,bx,fr,g',hJ,hi'⟩
 all_goals exact hc
def g0 (W:World):G:=⟨fun b _=>b<W.heap.size,[],[]⟩
theorem Ks [Known]{W:World}(hg:Gls (g0 W).C W):Mem (g0 W) [] [] W where
 bl:=rfl
 bat i blk cs h:=by simp[g0]at h
 bC blk o h:=by simp[g0]at h
 bN i j b h:=by simp[g0]at h
 tl:=rfl
 tat i blk cap f h:=by simp[g0]at h
 tN i j b c c' h:=by simp[g0]at h
 tρ b c h:=by simp[g0]at h
 Clt b o h:=h
 gl:=hg
theorem Kt [Known]{P:Program}{f:FuncId}{args:List D}(h:AC P f args [] [] fun r _ _=>r=.ret (.bool true)){W:World}{vs:List Value}(hg:Gls (g0 W).C W)(hl:vs.length=args.length)(hv:∀(j:Nat) (d:D) (v:Value),args[j]?=some d->vs[j]?=some v->V W (g0 W) [] d v) :
  Calls P f vs.toArray W fun e w'=>e=.returned (.bool true)/\Below W.heap.size W w':=
 (h.run (g0 W) W vs (Ks hg) hl hv).mono fun e w' ⟨g',bx',fr',r,he,_,hr,hp⟩=>by
  subst hp
  obtain⟨v,rfl,hv⟩:=hr
  refine⟨by rw[hv.bool_inv],he.os,he.tape,he.output,he.size,fun k hk=>he.block k hk fun hM=>?_⟩
  rcases hM with h|⟨c,h⟩<;>simp[g0]at h
theorem XZ [Known]{C:Nat->Nat->Prop}{w:World}(h1:Known.ks=[]):Gls C w:=⟨fun k cs h=>(by rw[h1]at h;cases h.1),fun k t h=>(by rw[h1]at h;cases h.1)⟩
structure ToE {α:Type} (R:Rep α) (f:α->E):Prop where
 cells:∀(w:World) (S:Nat->Prop) (C:Nat->Nat->Prop) (cs:List Value) (x:α),(∀ k,S k->∀ o,C k o)->R.ok w S cs x->cs.length=(f x).cells.length/\∀(j:Nat) (e:E) (v:Value),(f x).cells[j]?=some e->cs[j]?=some v->VE w C e v
theorem Vr {w:World}{C:Nat->Nat->Prop}{u:Value}{e0:E}(he:e0.cells=[e0])(hv:VE w C e0 u):[u].length=e0.cells.length/\∀(j:Nat) (e:E) (v:Value),e0.cells[j]?=some e->[u][j]?=some v->VE w C e v:=by
 rw[he]
 refine⟨rfl,fun j e v h1 h2=>?_⟩
 cases j with
 | zero=>simp at h1 h2;subst h1 h2;exact hv
 | succ j=>simp at h1
theorem ToE.i64:ToE Rep.i64 (.int .i64):=⟨fun w S C cs x _ h=>by obtain⟨rfl,_⟩:=h;exact Vr rfl (.int _ _)⟩
theorem ToE.byte:ToE Rep.byte E.byte:=⟨fun w S C cs x _ h=>by cases h;exact Vr rfl (.int _ _)⟩
theorem ToE.prod {α β:Type}{R:Rep α}{R':Rep β}{f:α->E}{f':β->E}(h:ToE R f)(h':ToE R' f'):ToE (R.prod R') (fun x=>.agg ((f x.1).cells++(f' x.2).cells)):=⟨fun w S C cs x hC hx=>by
 obtain⟨c1,c2,rfl,h1,h2⟩:=hx
 obtain⟨l1,v1⟩:=h.cells w S C c1 x.1 hC h1
 obtain⟨l2,v2⟩:=h'.cells w S C c2 x.2 hC h2
 refine⟨by simp[E.cells,l1,l2],fun j e v he hv=>?_⟩
 have he:((f x.1).cells++(f' x.2).cells)[j]?=some e:=he
 rcases Nat.lt_or_ge j c1.length with hj|hj
 ·rw[List.getElem?_append_left (by omega)]at he
  rw[List.getElem?_append_left hj]at hv
  exact v1 j e v he hv
 ·rw[List.getElem?_append_right (by omega)]at he
  rw[List.getElem?_append_right hj]at hv
  rw[<- l1]at he
  exact v2 _ e v he hv⟩
theorem ToE.run {α:Type}{R:Rep α}{f:α->E}(h:ToE R f){w:World}{S:Nat->Prop}{C:Nat->Nat->Prop}(hC:∀ k,S k->∀ o,C k o):∀ {l:List α} {cs:List Value},Run R w S cs l->cs.length=(flat (l.map f)).length/\∀(j:Nat) (e:E) (v:Value),(flat (l.map f))[j]?=some e->cs[j]?=some v->VE w C e v
 | [],cs,hr=>by simp[Run]at hr;subst hr;simp
 | x::l,cs,hr=>by
  obtain⟨c1,c2,rfl,h1,h2⟩:=hr
  obtain⟨l1,v1⟩:=h.cells w S C c1 x hC h1
  obtain⟨l2,v2⟩:=ToE.run h hC h2
  refine⟨by simp[l1,l2],fun j e v he hv=>?_⟩
  simp only[List.map_cons,YR]at he
  rcases Nat.lt_or_ge j c1.length with hj|hj
  ·rw[List.getElem?_append_left (by omega)]at he
   rw[List.getElem?_append_left hj]at hv
   exact v1 j e v he hv
  ·rw[List.getElem?_append_right (by omega)]at he
   rw[List.getElem?_append_right hj]at hv
   rw[<- l1]at he
   exact v2 _ e v he hv
theorem ToE.sl {α:Type}{R:Rep α}{f:α->E}(h:ToE R f){w:World}{S:Nat->Prop}{C:Nat->Nat->Prop}(hC:∀ k,S k->∀ o,C k o){v:Value}{l:List α}(hs:Sl R w S v l):VE w C (.sl (l.map f)) v:=by
 obtain⟨A,cap,rfl,h1,h2,cs,hr,hh⟩:=hs
 by_cases hl:l=[]
 ·subst hl
  exact .slE A cap h2
 ·obtain⟨g,off,rfl,hS,hc⟩:=hh hl
  obtain⟨q1,q2⟩:=h.run hC hr
  have:=VE.slC (w:=w) (C:=C) (l.map f) g off cap (fun j=>cs.getD j undef) (by simpa using h1) h2 (fun j hj=>hC g hS _) (fun j hj=>by
   have hj':j<cs.length:=by omega
   rw[hc j hj'];exact getD_some hj') (fun j e he=>q2 j e _ he (getD_some (by
    have:=(List.getElem?_eq_some_iff.1 he).1;omega)))
  simpa using this
theorem ToE.slice {α:Type}{R:Rep α}{f:α->E}(h:ToE R f)(hR:0<R.n):ToE (Rep.slice R hR) (fun l=>.sl (l.map f)):=⟨fun w S C cs x hC hx=>by
 obtain⟨v,rfl,hs⟩:=hx
 exact Vr rfl (h.sl hC hs)⟩
end Go.Av
end
section
open Go.RowKit Go.Pl
namespace Go.Av
section
variable {P:Program} {Q:X->St->Prop} {S:St}
end
section
variable {P:Program} {Q:X->St->Prop} {n:Nat} {ee:Nat × Nat} {tm:List (Nat × D)} {bx bx':List (List D)} {fr fr':List Fr} {b0:Bs} {g:G} {w:World} {a:Act} {T:Tab}
variable {ops:Array Oper} {rest:List Oper} {t ty:Nat} {pos:String} {after:Array Edge}
theorem Ql [Known][Dfr](hT:chk P T=true){op:BinOp}{x:Operand}{xt yt e:Nat}{tk:Tok}{l:List E}{d:Bool->D}{ti:Ti}(hx:ev tm x=.sl tk l)(ht:tl T xt=some ti)(hk:ti.kd=.slice e)(hd:(match op with | .eql=>some (fun b=>D.bool b) | .neq=>some (fun b=>D.bool (!b))|_=>none)=some d)(htd:Nat.blt t n=true)
  (k:∀ b:Bool,(l ≠ []->b=false)->AL P ops rest ⟨n,(t,d b)::tm,bx,fr,ee⟩ Q):AL P ops (⟨some t,.binOp op xt x (.const (.slice none 0 0)) yt,ty,pos,after,none⟩::rest) ⟨n,tm,bx,fr,ee⟩ Q:=by
 refine⟨fun b0 g a w hi=>?_⟩
 have h1:V w g fr (ev tm x) (a.eval x):=hi.ev x
 rw[hx]at h1
 obtain⟨a1,_⟩:=Wa h1
 obtain⟨A,cap,hv,hA⟩:∃ A cap,a.eval x=.slice A l.length cap/\(l ≠ []->A.isNone=false):=by
  generalize hq:E.sl l=q at a1
  generalize a.eval x=v at a1
  cases a1 with
  | slC l' b off cap us h1 _ _ _ _=>injection hq with hq;subst hq;exact⟨_,cap,rfl,fun _=>rfl⟩
  | slE A cap h=>injection hq with hq;subst hq;exact⟨A,cap,rfl,fun h=>(h rfl).elim⟩
  | _=>cases hq
 have hu:=(ZB hT ht).slice hk
 have hrun:(Op.equal xt (.slice A l.length cap) (.slice none 0 0)).run P w=.ok A.isNone w:=Go.run_equal_slice_nil w xt e A l.length cap hu
 have hc0:a.eval (.const (.slice none 0 0))=.slice none 0 0:=rfl
 refine wpList_plain rfl fun K hK=>?_
 have hex:∃ v,(execOp a.eval ⟨some t,.binOp op xt x (.const (.slice none 0 0)) yt,ty,pos,after,none⟩).run P w=.ok (.value v) w/\V w g fr (d A.isNone) v:=by
  cases op<;>simp at hd<;>subst hd<;>first|exact⟨.bool A.isNone,by simp[execOp,hv,hc0,eqGuard,binOp,Sem.run_bind,hrun],.bool _⟩ | exact⟨.bool (!A.isNone),by simp[execOp,hv,hc0,eqGuard,binOp,Sem.run_bind,hrun],.bool _⟩
 obtain⟨v,hr,hvv⟩:=hex
 unfold Oper.wp
 rw[hr]
 exact hK _ _ ((k A.isNone hA).run b0 g _ w (hi.put htd hvv))
def G.lit (g:G)(w:World)(m:Nat):G:=⟨fun b o=>g.C b o\/(b=w.heap.size/\o<m),g.ρ,g.τ⟩
theorem Mem.lit [Known](hm:Mem g bx fr w)(cur:List Value)(l:List E)(sz:Nat)(e:TypeId)(mk:Nat × Nat)(hcur:cur.length=l.length*sz)(hcap:l.length<=maxLen)(hU:Uni sz l)
  (hv:∀(j:Nat) (x:E) (u:Value),(flat l)[j]?=some x->cur[j]?=some u->VE w g.C x u) :
  Evo ⟨g,fr,w⟩ ⟨g.lit w (l.length*sz),fr,w.alloc (.cells cur.toArray e mk)⟩/\Mem (g.lit w (l.length*sz)) bx fr (w.alloc (.cells cur.toArray e mk)) /\
   V (w.alloc (.cells cur.toArray e mk)) (g.lit w (l.length*sz)) fr (.sl .ext l) (.slice (some ⟨w.heap.size,0,none⟩) l.length l.length):=by
 have hevo:Evo ⟨g,fr,w⟩ ⟨g.lit w (l.length*sz),fr,w.alloc (.cells cur.toArray e mk)⟩:=by
  refine⟨rfl,rfl,rfl,by simp,fun k hk _=>Below.heap_alloc w _ k hk,fun _ _ h=>.inl h,fun k o h=>YF w _ (hm.Clt k o h) o,fun k o h=>?_,fun _ _ h=>h,fun _ h=>.inl h,fun k c h=>.inl ⟨c,h⟩,YA.refl _ _⟩
  rcases h with h|⟨h,_⟩
  ·exact .inl h
  ·exact .inr (.inl (by simp[h]))
 have hflat:=hU.flat
 refine⟨hevo,?_,?_⟩
 ·constructor
  ·exact hm.bl
  ·intro i k cs h1 h2
   obtain⟨us,ut,k1,k2,k3⟩:=hm.bat i k cs h1 h2
   exact⟨us,ut,(Below.heap_alloc w _ k (Array.getElem?_eq_some_iff.1 k1).1).trans k1,k2,fun j d v hd hv=>(k3 j d v hd hv).evo hevo⟩
  ·intro k o hk hC
   rcases hC with hC|⟨hC,_⟩
   ·exact hm.bC k o hk hC
   ·have:=hm.lt (.inl hk);omega
  ·exact hm.bN
  ·exact hm.tl
  ·intro i k c f h1 h2
   have hTk:=hm.tat i k c f h1 h2
   obtain⟨cur',s1,s2⟩:=hTk.row
   have hklt:=(Array.getElem?_eq_some_iff.1 s1).1
   refine⟨⟨cur',(Below.heap_alloc w _ k hklt).trans s1,s2⟩,hTk.le,hTk.max,hTk.pos,fun o ho hC=>?_⟩
   rcases hC with hC|⟨hC,_⟩
   ·exact hTk.far o ho hC
   ·omega
  ·exact hm.tN
  ·exact hm.tρ
  ·intro k o hC
   rcases hC with hC|⟨hC,_⟩
   ·have:=hm.Clt k o hC;simp;omega
   ·simp[hC]
  ·exact hm.gl.evo hevo
 ·refine .sl _ _ _ (.slC l w.heap.size 0 l.length (fun j=>cur.getD j undef) (Nat.le_refl _) hcap (fun j hj=>.inr ⟨rfl,by rw[hflat]at hj;omega⟩) (fun j hj=>?_) (fun j x hx=>?_)) trivial
  ·rw[Nat.zero_add,World.cell?_alloc_mark]
   have:j<cur.length:=by omega
   simp[List.getD,this]
  ·have hj:=(List.getElem?_eq_some_iff.1 hx).1
   have hlt:j<cur.length:=by omega
   refine(hv j x _ hx (by rw[List.getElem?_eq_getElem hlt];simp[List.getD,hlt])).mono (fun _ _ h=>.inl h) fun k o h=>YF w _ (hm.Clt k o h) o
theorem X0 [Known][Dfr](hT:chk P T=true){st len e t2 ty2:Nat}{pos2:String}{after2:Array Edge}{ds:List D}{es:List E}{ti te:Ti}{parts:Array (Nat × Operand)}(ht:tl T st=some ti)(hk:ti.kd=.slice e)(hte:tl T e=some te)(hke:te.kd=.int .u8)(hp:parts.toList.map (·.1)=List.range len)
  (hds:nfs (parts.toList.map fun p=>ev tm p.2)=some ds) (hes:D.toEl ds=some es) (hU:Uq te.size es=true) (hpos:Nat.blt 0 te.size=true) (hsm:Nat.ble (len*te.size) 16777216=true) (htd:Nat.blt t n=true) (htd2:Nat.blt t2 n=true)
  (k:AL P ops rest ⟨n,(t2,.sl .ext es)::(t,.sl .ext es)::tm,bx,fr,ee⟩ Q):AL P ops (⟨some t,.buildSlice st len parts,ty,pos,after,none⟩::⟨some t2,.convert st st (.tmp t),ty2,pos2,after2,none⟩::rest) ⟨n,tm,bx,fr,ee⟩ Q:=by
 refine⟨fun b0 g a w hi=>?_⟩
 obtain⟨h1,h2⟩:=Uy hp
 obtain⟨cs,c1,c2,c3,c4,c5⟩:=UZ (t:=t) (ty:=ty) (pos:=pos) (after:=after) hT ht hk hte h1 (by rw[h2];exact Nat.beq_refl len) (by rw[List.map_map];exact hds) hes hU hpos hsm hi
 obtain⟨k1,k2,k3⟩:=hi.mem.lit cs es te.size e (cs.toArray.size,cs.toArray.size+1) (by rw[c1,c2]) (by rw[c2];exact c3) (Zg hU) c4
 have hu:=(ZB hT ht).slice hk
 have hue:P.underlying e=some (.int .u8):=(ZB hT hte).int hke
 refine wpList_plain rfl fun K hK=>?_
 unfold Oper.wp
 rw[c5]
 refine hK _ _ ?_
 refine wpList_plain rfl fun K hK=>?_
 have hlt:t<n:=by simpa[Nat.blt_eq]using htd
 have hget:(a.put (some t) (.slice (some ⟨w.heap.size,0,none⟩) len len)).eval (.tmp t)=.slice (some ⟨w.heap.size,0,none⟩) len len:=by
  have hs:a.tmps.size=n:=hi.size
  simp[Act.put,Act.eval,hs,hlt]
 have hrun:=Lib.run_convert_bytes_const (P:=P) w st e cs.toArray len len hu hue
 unfold Oper.wp
 simp only[execOp,hget,hrun,Sem.run_bind,Result.andThen_ok]
 have hi2:Inv b0 ⟨n,tm,bx,fr,ee⟩ _ a _:=⟨hi.size,hi.defers,k2,fun t=>(hi.tm t).evo k1,hi.evo.trans k1,hi.bd⟩
 subst c2
 exact hK _ _ (k.run b0 _ _ _ ((hi2.put htd k3).put htd2 k3))
end
end Go.Av
end
section
open Go.RowKit Go.Pl
namespace Go.Av
@[simp] theorem XC (e:E):(D.ofC e).wk=D.ofC e:=by
 cases e<;>simp only[D.ofC,D.wk]
theorem Xp (cs:List D):D.ex (D.wks cs)=D.wks (D.ex cs):=by
 cases hr:D.isRow cs with
 | true=>
  obtain⟨z,l,rfl⟩:=WG hr
  show l.map D.ofC=D.wks (l.map D.ofC)
  rw[Yw,List.map_map]
  refine List.map_congr_left fun x _=>?_
  exact(XC x).symm
 | false=>
  rw[WJ hr,WJ]
  match cs,hr with
  | [],_=>rfl
  | [d],hr=>cases d<;>first|rfl|(simp[D.isRow]at hr)
  | _::_::_,_=>rfl
theorem J2 {cs:List D}{n:Nat}(hf:D.fits cs n):D.fits (D.wks cs) n:=by
 refine⟨by rw[Yw,List.length_map];exact hf.1,by rw[Xp,Yw,List.length_map];exact hf.2.1,fun z l e=>?_⟩
 rw[Yw]at e
 rcases cs with _|⟨d,_|⟨d2,r⟩⟩
 ·simp at e
 ·simp at e;exact hf.2.2 z l (by rw[show d=.row z l from by cases d<;>first|exact e|(simp only[D.wk]at e;cases e)])
 ·simp at e
theorem Mem.wk [Known]{g:G}{bx:List (List D)}{fr:List Fr}{w:World}(h:Mem g bx fr w):Mem g (bx.map D.wks) fr w where
 bl:=by rw[h.bl];simp
 bat i blk cs h1 h2:=by
  rw[List.getElem?_map]at h2
  cases hi:bx[i]? with
  | none=>simp[hi]at h2
  | some cs0=>
   simp[hi]at h2;subst h2
   obtain⟨vs,ty,q1,q2,q3⟩:=h.bat i blk cs0 h1 hi
   refine⟨vs,ty,q1,J2 q2,fun j d v hd hv=>?_⟩
   rw[Xp,Yw,List.getElem?_map]at hd
   cases hj:(D.ex cs0)[j]? with
   | none=>simp[hj]at hd
   | some d0=>simp[hj]at hd;subst hd;exact(q3 j d0 v hj hv).wk
 bC:=h.bC
 bN:=h.bN
 tl:=h.tl
 tat:=h.tat
 tN:=h.tN
 tρ:=h.tρ
 Clt:=h.Clt
 gl:=h.gl
def AQ [Known](P:Program)(f:FuncId)(args:List D)(bx:List (List D))(d:D)(bx':List (List D)):Prop:=AC P f args bx [] fun r b fr=>r=.ret d/\b=bx'/\fr=[]
theorem AQ.weak [Known]{P:Program}{f:FuncId}{args:List D}{bx bx':List (List D)}{d:D}(h:AC P f args bx [] fun r b fr=>∃ d0,r=.ret d0/\d0.wk=d/\b.map D.wks=bx'/\fr=[]):AQ P f args bx d bx':=by
 refine⟨fun g w vs hm hl hv=>(h.run g w vs hm hl hv).mono fun e w' ⟨g',b',fr',r,h1,h2,h3,d0,h4,h5,h6,h7⟩=>?_⟩
 subst h4 h5 h6 h7
 obtain⟨v,rfl,hv⟩:=h3
 exact⟨g',_,[],.ret d0.wk,h1,h2.wk,⟨v,rfl,hv.wk⟩,rfl,rfl,rfl⟩
theorem AP.ofA [Known]{P:Program}{f:FuncId}{args:List D}{d:D}(h:AC P f args [] [] fun r b fr=>∃ d0,r=.ret d0/\d0.wk=d/\b.map D.wks=[]/\fr=[]):AP P f args d []:=AQ.weak h
def YC:List Nat->Nat->Bool
 | [],_=>true
 | b::bs,n=>Nat.blt b n&&(!(bs.any (Nat.beq b))&&YC bs n)
theorem Yc:∀ {bs:List Nat} {n:Nat},YC bs n=true->Yj bs n
 | [],n,_=>YE n
 | b::bs,n,h=>by
  simp only[YC,Bool.and_eq_true,Nat.blt_eq,Bool.not_eq_true',List.any_eq_false]at h
  obtain⟨h1,h2,h3⟩:=h
  have ih:=Yc h3
  have hne:∀ j c:Nat,bs[j]?=some c->c ≠ b:=fun j c hj e=>by
   subst e
   exact h2 c (List.mem_of_getElem? hj) (Nat.beq_refl c)
  refine⟨fun i j c hi hj=>?_,fun c hc=>?_⟩
  ·cases i with
   | zero=>
    cases j with
    | zero=>rfl
    | succ j=>simp at hi hj;subst hi;exact(hne j _ hj rfl).elim
   | succ i=>
    cases j with
    | zero=>simp at hi hj;subst hj;exact(hne i _ hi rfl).elim
    | succ j=>simp at hi hj;rw[ih.1 i j c hi hj]
  ·rcases List.mem_cons.1 hc with rfl|hc
   ·exact h1
   ·exact ih.2 c hc
def Vs (k:Nat)(bs:List Nat):Bool:=(List.range k).all fun i=>match bs[i]? with
 | some j=>Nat.beq i j
 | none=>false
theorem Y7 {k:Nat}{bs:List Nat}(h:Vs k bs=true):∀ i,i<k->bs[i]?=some i:=fun i hi=>by
 have:=List.all_eq_true.1 h i (List.mem_range.2 hi)
 split at this
 ·rename_i j hj
  rw[hj,Nat.eq_of_beq_eq_true this]
 ·cases this
theorem Wp {P:Program}{rs:List ResultVar}{S:St}{d d':D}{ds:List D}{bx' B:List (List D)}{k:Nat}(bs:List Nat)(h:ResL P S rs ds)(hb:YC bs S.bx.length=true)(hk:Vs k bs=true)(hn:nf (((Vl ds).ren (idx bs) (idx [])).wk)=some d')(hB:nfb ((Wk bs [] S.bx).map D.wks)=some B)(hd:d'=d)(hB':B=bx') :
  Vm P rs k 0 (fun r b fr=>∃ d0,r=.ret d0/\d0.wk=d/\b.map D.wks=bx'/\fr=[]) .ret S:=
 ⟨ds,bs,[],h,Yc hb,YE _,Y7 hk,fun i h=>by omega,_,rfl,by rw[Yd hn,hd],by rw[Yi hB,hB'],rfl⟩
theorem X1 {P:Program}{rs:List ResultVar}{S:St}{d d':D}{ds:List D}{bx' B:List (List D)}{k:Nat}(bs:List Nat)(h:ResL P S rs ds)(hb:YC bs S.bx.length=true)(hk:Vs k bs=true)(hn:nf (((Vl ds).ren (idx bs) (idx [])).wk)=some d')(hB:nfb ((Wk bs [] S.bx).map D.wks)=some B)(hd:d'=d)(hB':B=bx') :
  Vm P rs k 0 (fun r b fr=>∃ d0,r=.ret d0/\d0.wk=d/\b.map D.wks=bx'/\fr=[]) .norm S:=
 ⟨ds,bs,[],h,Yc hb,YE _,Y7 hk,fun i h=>by omega,_,rfl,by rw[Yd hn,hd],by rw[Yi hB,hB'],rfl⟩
section
variable {P:Program} {Q:X->St->Prop} {n:Nat} {ee:Nat × Nat} {tm:List (Nat × D)} {bx:List (List D)} {fr:List Fr} {ops:Array Oper} {rest:List Oper} {ty:Nat} {pos:String} {after:Array Edge} {f:FuncId} {ars:Array Operand} {ats:Array TypeId}
theorem Jl [Known][Dfr]{t:Nat}{cds:List D}{d d':D}{bxs bxs' bx2:List (List D)}(bs:List Nat)(hQ:AQ P f cds bxs d bxs')(hf:W1 P f=true)
  (hc:(ars.toList.map (ev tm)).map (D.ren (idx bs) (idx []))=cds) (hb:YC bs bx.length=true) (hbx:Wk bs [] bx=bxs) (hle:Nat.ble bs.length bxs'.length=true) (htd:Nat.blt t n=true) (hd:nf (d.ren (upN bs bx.length) (upN [] fr.length))=some d') (hB:nfb (WL bs [] bx fr.length bxs')=some bx2)
  (k:AL P ops rest ⟨n,(t,d')::tm,bx2,fr,ee⟩ Q):AL P ops (⟨some t,.call { callee:=.value (.func f),args:=ars,argTypes:=ats },ty,pos,after,none⟩::rest) ⟨n,tm,bx,fr,ee⟩ Q:=by
 refine V6 bs [] hf hQ hc (Yc hb) (YE _) hbx rfl htd (fun _ _ _ h=>by cases h.1) fun d0 bx' fr' h=>?_
 obtain⟨h1,rfl,rfl⟩:=h
 injection h1 with h1
 subst h1
 refine⟨Nat.le_of_ble_eq_true hle,?_⟩
 have e1:=Yd hd
 have e2:=Yi hB
 subst e1 e2
 simpa[St.aft,Y5,YB]using k
end
theorem AC.unwk [Known]{P:Program}{f:FuncId}{args:List D}{bx:List (List D)}{fr:List Fr}{post:R->List (List D)->List Fr->Prop}(h:AC P f (D.wks args) bx fr post):AC P f args bx fr post:=
 ⟨fun g w vs hm hl hv=>h.run g w vs hm (by rw[Yw];simpa using hl) fun j d v hd hvv=>by
  rw[Yw,List.getElem?_map]at hd
  cases hj:args[j]? with
  | none=>simp[hj]at hd
  | some d0=>simp[hj]at hd;subst hd;exact(hv j d0 v hj hvv).wk⟩
section
variable {P:Program} {Q:X->St->Prop} {n:Nat} {ee:Nat × Nat} {tm:List (Nat × D)} {bx:List (List D)} {fr:List Fr} {ops:Array Oper} {rest:List Oper} {ty:Nat} {pos:String} {after:Array Edge} {f:FuncId} {ars:Array Operand} {ats:Array TypeId}
theorem Yn [Known][Dfr]{t:Nat}{cds:List D}{d d':D}{frs fr':List Fr}(hAC:AP P f cds d frs)(hf:W1 P f=true)
  (hc:D.wks ((ars.toList.map (ev tm)).map (D.ren (idx []) (idx [])))=cds) (htd:Nat.blt t n=true) (hd:nf (d.ren (upN [] bx.length) (upN [] fr.length))=some d') (hfr:nfl (fr++frs)=some fr')
  (k:AL P ops rest ⟨n,(t,d')::tm,bx,fr',ee⟩ Q):AL P ops (⟨some t,.call { callee:=.value (.func f),args:=ars,argTypes:=ats },ty,pos,after,none⟩::rest) ⟨n,tm,bx,fr,ee⟩ Q:=by
 subst hc
 exact Ja (AC.unwk hAC) hf rfl htd hd hfr k
theorem Zi [Known][Dfr]{t:Nat}{cds:List D}{d d':D}{bxs bxs' bx2:List (List D)}(bs:List Nat)(hQ:AQ P f cds bxs d bxs')(hf:W1 P f=true)
  (hc:D.wks ((ars.toList.map (ev tm)).map (D.ren (idx bs) (idx [])))=cds) (hb:YC bs bx.length=true) (hbx:Wk bs [] bx=bxs) (hle:Nat.ble bs.length bxs'.length=true) (htd:Nat.blt t n=true) (hd:nf (d.ren (upN bs bx.length) (upN [] fr.length))=some d') (hB:nfb (WL bs [] bx fr.length bxs')=some bx2)
  (k:AL P ops rest ⟨n,(t,d')::tm,bx2,fr,ee⟩ Q):AL P ops (⟨some t,.call { callee:=.value (.func f),args:=ars,argTypes:=ats },ty,pos,after,none⟩::rest) ⟨n,tm,bx,fr,ee⟩ Q:=by
 subst hc
 exact Jl bs (AC.unwk hQ) hf rfl hb hbx hle htd hd hB k
end
end Go.Av
end
section
open Go.RowKit Go.Pl
namespace Go.Av
end Go.Av
end
section
open Go.RowKit Go.Pl
namespace Go.Av
section
variable {P:Program} {Q:X->St->Prop} {n:Nat} {ee:Nat × Nat} {tm:List (Nat × D)} {bx bx':List (List D)} {fr fr':List Fr} {b0:Bs} {g:G} {w:World} {a:Act} {T:Tab}
variable {ops:Array Oper} {rest:List Oper} {t ty:Nat} {pos:String} {after:Array Edge}
end
end Go.Av
end
section
open Go.RowKit Go.Pl
namespace Go.Av
def AN [Known][Dfr](P:Program)(c:Code)(Q:X->St->Prop):Nat->St->Prop
 | 0,_=>False
 | n+1,S=>AW P c S (X.then (AN P c Q n) Q)
structure ANs [Known][Dfr](P:Program) (c:Code) (Q:X->St->Prop) (n:Nat) (S:St):Prop where
 run:AN P c Q n S
theorem Yb [Known][Dfr]{P:Program}{c:Code}{Q:X->St->Prop}{n:Nat}{S:St}(h:AW P c S (X.then (ANs P c Q n) Q)):ANs P c Q (n+1) S:=
 ⟨Qa h fun x S hx=>by
  cases x with
  | norm=>exact hx.run
  | _=>exact hx⟩
theorem VU [Known][Dfr]{P:Program}{c:Code}{Q:X->St->Prop}{b0:Bs}:∀(n:Nat) (S:St) (g:G) (a:Act) (w:World),AN P c Q n S->Inv b0 S g a w->Code.rounds P c (Wm b0 Q) n a w
 | 0,_,_,_,_,h,_=>h.elim
 | n+1,S,g,a,w,h,hi=>by
  rw[rounds_succ]
  refine wp_mono (AW.run (show AW P c S (X.then (AN P c Q n) Q) from h) b0 g a w hi) fun e a w hc=>?_
  cases e<;>simp only[Wm,X.then,Exit.then]at hc ⊢
  ·obtain⟨S',g',hi',h'⟩:=hc
   exact VU n S' g' a w h' hi'
  all_goals exact hc
theorem ZW [Known][Dfr]{P:Program}{c:Code}{Q:X->St->Prop}{S:St}(n:Nat)(h:ANs P c Q n S):AW P (.loop c) S Q:=
 ⟨fun b0 g a w hi=>wp_loop_rounds n (VU n S g a w h.run hi)⟩
end Go.Av
end

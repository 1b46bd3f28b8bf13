/- Contracts of functions over abstract states; calls. -/
import Derived.Test.YtchlgagdbflkmaaDoorS01
set_option linter.unusedSimpArgs false
set_option linter.unusedVariables false
section
open Go.RowKit Go.Pl
namespace Go.Av

mutual
def D.ren (f h:Nat->Option Nat):D->D
 | .bool b=>.bool b
 | .int k n=>.int k n
 | .str s=>.str s
 | .sl t l=>.sl (match t with | .own i=>(match h i with|some j=>.own j|none=>.ext)|t=>t) l
 | .nilp=>.nilp
 | .ptr b o=>match f b with|some b'=>.ptr b' o|none=>.junk
 | .eptr cs o=>.eptr cs o
 | .gptr k o=>.gptr k o
 | .bsl b o n c=>match f b with|some b'=>.bsl b' o n c|none=>.junk
 | .agg l=>.agg (D.rens f h l)
 | .tup l=>.tup (D.rens f h l)
 | .fn i l=>.fn i (D.rens f h l)
 | .nilf=>.nilf
 | .iface t d=>.iface t (D.ren f h d)
 | .nili=>.nili
 | .yl l=>.yl l
 | .mix l ds=>.mix l (D.rens f h ds)
 | .junk=>.junk
 | .row z l=>.row z l
def D.rens (f h:Nat->Option Nat):List D->List D
 | []=>[]
 | d::l=>D.ren f h d::D.rens f h l
end
theorem Z3 (f h:Nat->Option Nat)(l:List D):D.rens f h l=l.map (D.ren f h):=by
 induction l with
 | nil=>rfl
 | cons d l ih=>simp[D.rens,ih]
@[simp] theorem Kk (f h:Nat->Option Nat)(e:E):(D.ofC e).ren f h=D.ofC e:=by
 cases e<;>simp only[D.ofC,D.ren]
theorem Jr (f h:Nat->Option Nat)(cs:List D):D.ex (D.rens f h cs)=D.rens f h (D.ex cs):=by
 cases hr:D.isRow cs with
 | true=>
  have key:∀ l:List E,l.map D.ofC=(l.map D.ofC).map (D.ren f h):=fun l=>by
   rw[List.map_map]
   exact List.map_congr_left fun x _=>(Kk f h x).symm
  rcases VR hr with⟨z,l,rfl⟩ | ⟨l,ds,rfl⟩
  ·show l.map D.ofC=D.rens f h (l.map D.ofC)
   rw[Z3];exact key l
  ·show l.map D.ofC++D.rens f h ds=D.rens f h (l.map D.ofC++ds)
   rw[Z3,Z3,List.map_append,<- key l]
 | false=>
  rw[VN hr,VN]
  match cs,hr with
  | [],_=>rfl
  | [d],hr=>cases d<;>first|rfl|(simp only[D.rens,D.ren];split<;>rfl)|(simp[D.isRow]at hr)
  | _::_::_,_=>rfl
theorem IM {f h:Nat->Option Nat}{d:D}{z:Nat}{l:List E}(e:d.ren f h=.row z l):d=.row z l:=by
 cases d<;>first|exact e|(simp only[D.ren]at e;split at e<;>cases e)|(simp only[D.ren]at e;cases e)
theorem U4 {f h:Nat->Option Nat}{cs:List D}{n:Nat}(hf:D.fits cs n):D.fits (D.rens f h cs) n:=by
 refine⟨by rw[Z3,List.length_map];exact hf.1,by rw[Jr,Z3,List.length_map];exact hf.2.1,fun z l e=>?_⟩
 rw[Z3]at e
 rcases cs with _|⟨d,_|⟨d2,r⟩⟩
 ·simp at e
 ·simp at e;exact hf.2.2 z l (by rw[IM e])
 ·simp at e
theorem V.ren {w:World}{g g':G}{fr fr':List Fr}{d:D}{v:Value}(f h:Nat->Option Nat)(hV:V w g fr d v)(hC:∀ b o,g.C b o->g'.C b o)
  (hρ:∀(b b' blk:Nat),f b=some b'->g.ρ[b]?=some blk->g'.ρ[b']?=some blk)
  (hτ:∀(i j:Nat) (f0:Fr),h i=some j->fr[i]?=some f0->(∃ f',fr'[j]?=some f'/\f'.n=f0.n)/\g'.τ[j]?=g.τ[i]?):V w g' fr' (d.ren f h) v:=by
 have hE:∀ {e v},VE w g.C e v->VE w g'.C e v:=fun hv=>hv.mono hC fun _ _ _=>rfl
 induction hV with
 | bool b=>exact .bool b
 | int k n=>exact .int k n
 | str s h=>exact .str s h
 | sl t l v hv hk=>
  refine .sl _ l v (hE hv) ?_
  cases t with
  | ext=>trivial
  | nil=>exact hk
  | zero=>exact hk
  | own i=>
   dsimp only
   cases hi:h i with
   | none=>trivial
   | some j=>
    obtain⟨f0,k1,k2,k3⟩:=hk
    obtain⟨⟨f',h1,h2⟩,h3⟩:=hτ i j f0 hi k1
    refine⟨f',h1,by omega,fun e=>?_⟩
    obtain⟨blk,cap,e1,e2⟩:=k3 (by omega)
    exact⟨blk,cap,e1,h3.trans e2⟩
 | nilp=>exact .nilp
 | ptr b o blk hb=>
  show V w g' fr' (match f b with|some b'=>.ptr b' o|none=>.junk) _
  cases hf:f b with
  | none=>exact .junk _
  | some b'=>exact .ptr b' o blk (hρ b b' blk hf hb)
 | eptr cs o blk off us hc hw' hv=>exact .eptr cs o blk off us (fun j hj=>hC _ _ (hc j hj)) hw' (fun j e he=>hE (hv j e he))
 | gptr k o=>exact .gptr k o
 | bsl b o n c blk cap hb h1 h2 h3=>
  show V w g' fr' (match f b with|some b'=>.bsl b' o n c|none=>.junk) _
  cases hf:f b with
  | none=>exact .junk _
  | some b'=>exact .bsl b' o n c blk cap (hρ b b' blk hf hb) h1 h2 h3
 | agg l vs hl _ ih=>
  refine .agg _ vs (by rw[Z3];simpa using hl) fun j d v hd hv=>?_
  rw[Z3,List.getElem?_map]at hd
  cases hj:l[j]? with
  | none=>simp[hj]at hd
  | some d0=>simp[hj]at hd;subst hd;exact ih j d0 v hj hv
 | tup l vs hl _ ih=>
  refine .tup _ vs (by rw[Z3];simpa using hl) fun j d v hd hv=>?_
  rw[Z3,List.getElem?_map]at hd
  cases hj:l[j]? with
  | none=>simp[hj]at hd
  | some d0=>simp[hj]at hd;subst hd;exact ih j d0 v hj hv
 | fn i l vs hl _ ih=>
  refine .fn i _ vs (by rw[Z3];simpa using hl) fun j d v hd hv=>?_
  rw[Z3,List.getElem?_map]at hd
  cases hj:l[j]? with
  | none=>simp[hj]at hd
  | some d0=>simp[hj]at hd;subst hd;exact ih j d0 v hj hv
 | nilf=>exact .nilf
 | iface t d v _ ih=>exact .iface t _ v ih
 | nili=>exact .nili
 | yl l=>exact .yl l
 | mix l ds v vs hl _ ih=>
  refine .mix l _ v vs (by rw[Z3];simpa using hl) fun j d v hd hv=>?_
  rw[Z3,List.getElem?_map]at hd
  cases hj:ds[j]? with
  | none=>simp[hj]at hd
  | some d0=>simp[hj]at hd;subst hd;exact ih j d0 v hj hv
 | junk v=>exact .junk v
 | row z l v=>exact .row z l v

def idx:List Nat->Nat->Option Nat
 | [],_=>none
 | b::l,t=>match Nat.beq b t with
  | true=>some 0
  | false=>match idx l t with
   | some i=>some (i+1)
   | none=>none
theorem Js:∀ {l:List Nat} {t i:Nat},idx l t=some i->l[i]?=some t
 | [],t,i,h=>by simp[idx]at h
 | b::l,t,i,h=>by
  simp only[idx]at h
  cases hb:Nat.beq b t with
  | true=>
   simp[hb]at h;subst h
   have:=Nat.eq_of_beq_eq_true hb
   simp[this]
  | false=>
   simp only[hb]at h
   cases hi:idx l t with
   | none=>simp[hi]at h
   | some i'=>simp[hi]at h;subst h;simpa using Js hi
def G.sel (g:G)(bs ts:List Nat):G:=⟨g.C,bs.map fun i=>g.ρ.getD i 0,ts.map fun i=>g.τ.getD i (0,0)⟩
def Uo (bs ts:List Nat)(bx:List (List D)):List (List D):=bs.map fun i=>D.rens (idx bs) (idx ts) (bx.getD i [])
def WX (ts:List Nat)(fr:List Fr):List Fr:=ts.map fun i=>fr.getD i default
def YL (l:List Nat)(n:Nat):Prop:=(∀(i j b:Nat),l[i]?=some b->l[j]?=some b->i=j)/\∀ b,b ∈ l->b<n
theorem Z2 (n:Nat):YL [] n:=⟨fun i j b h=>by simp at h,fun b h=>by simp at h⟩
section
variable {w:World} {g:G} {bx:List (List D)} {fr:List Fr} {bs ts:List Nat}
theorem getD_some {α:Type}{l:List α}{i:Nat}{d:α}(h:i<l.length):l[i]?=some (l.getD i d):=by
 simp[List.getD,h]
theorem V.sel [Known](hm:Mem g bx fr w)(hb:YL bs bx.length)(ht:YL ts fr.length){d:D}{v:Value}(h:V w g fr d v):V w (g.sel bs ts) (WX ts fr) (d.ren (idx bs) (idx ts)) v:=by
 refine h.ren _ _ (fun _ _ h=>h) (fun b b' blk hb' hblk=>?_) (fun i j f0 hi hf0=>?_)
 ·have h1:=Js hb'
  simp[G.sel,h1,List.getD,hblk]
 ·have h1:=Js hi
  have h2:i<fr.length:=ht.2 i (List.mem_of_getElem? h1)
  refine⟨⟨f0,by simp[WX,List.getElem?_map,h1,List.getD,hf0],rfl⟩,?_⟩
  have h3:i<g.τ.length:=by rw[hm.tl];exact h2
  simp only[G.sel,List.getElem?_map,h1,Option.map_some]
  exact(getD_some h3).symm
theorem GA [Known](hm:Mem g bx fr w)(hb:YL bs bx.length)(ht:YL ts fr.length){k:Nat}(h:M (g.sel bs ts) k):M g k:=by
 rcases h with h|⟨c,h⟩
 ·simp only[G.sel,List.mem_map]at h
  obtain⟨i,hi,rfl⟩:=h
  have h3:i<g.ρ.length:=by rw[hm.bl];exact hb.2 i hi
  exact .inl (List.mem_of_getElem? (getD_some h3))
 ·simp only[G.sel,List.mem_map]at h
  obtain⟨i,hi,h⟩:=h
  have h3:i<g.τ.length:=by rw[hm.tl];exact ht.2 i hi
  exact .inr ⟨c,h ▸ List.mem_of_getElem? (getD_some h3)⟩
theorem V1 [Known](hm:Mem g bx fr w)(hb:YL bs bx.length){i blk:Nat}(h:(g.sel bs ts).ρ[i]?=some blk):∃ b,bs[i]?=some b/\g.ρ[b]?=some blk:=by
 simp only[G.sel,List.getElem?_map]at h
 cases hi:bs[i]? with
 | none=>simp[hi]at h
 | some b=>
  simp only[hi,Option.map_some,Option.some.injEq]at h
  have h3:b<g.ρ.length:=by rw[hm.bl];exact hb.2 b (List.mem_of_getElem? hi)
  exact⟨b,rfl,by rw[getD_some (d:=0) h3,h]⟩
theorem UL [Known](hm:Mem g bx fr w)(ht:YL ts fr.length){i:Nat}{p:Nat × Nat}(h:(g.sel bs ts).τ[i]?=some p):∃ b,ts[i]?=some b/\g.τ[b]?=some p:=by
 simp only[G.sel,List.getElem?_map]at h
 cases hi:ts[i]? with
 | none=>simp[hi]at h
 | some b=>
  simp only[hi,Option.map_some,Option.some.injEq]at h
  have h3:b<g.τ.length:=by rw[hm.tl];exact ht.2 b (List.mem_of_getElem? hi)
  exact⟨b,rfl,by rw[getD_some (d:=(0,0)) h3,h]⟩
theorem TokAt.same {g g':G}{blk cap:Nat}{f:Fr}(h:TokAt w g blk cap f)(hC:∀ o,g'.C blk o->g.C blk o):TokAt w g' blk cap f:=
 ⟨h.row,h.le,h.max,h.pos,fun o ho hc=>h.far o ho (hC o hc)⟩
theorem Mem.sel [Known](hm:Mem g bx fr w)(hb:YL bs bx.length)(ht:YL ts fr.length):Mem (g.sel bs ts) (Uo bs ts bx) (WX ts fr) w where
 bl:=by simp[G.sel,Uo]
 bat i blk cs h1 h2:=by
  obtain⟨b,hi,hρ⟩:=V1 hm hb h1
  simp only[Uo,List.getElem?_map,hi,Option.map_some,Option.some.injEq]at h2
  have hlt:b<bx.length:=hb.2 b (List.mem_of_getElem? hi)
  obtain⟨vs,ty,h3,h4,h5⟩:=hm.bat b blk _ hρ (getD_some (d:=[]) hlt)
  refine⟨vs,ty,h3,by rw[<- h2];exact U4 h4,fun j d v hd hv=>?_⟩
  rw[<- h2,Jr,Z3,List.getElem?_map]at hd
  cases hj:(D.ex (bx.getD b []))[j]? with
  | none=>simp only[hj,Option.map_none]at hd;cases hd
  | some d0=>
   simp only[hj,Option.map_some,Option.some.injEq]at hd
   subst hd
   exact V.sel hm hb ht (h5 j d0 v hj hv)
 bC blk o h:=by
  obtain⟨i,hi⟩:=List.getElem?_of_mem h
  obtain⟨b,_,hρ⟩:=V1 hm hb hi
  exact hm.bC blk o (List.mem_of_getElem? hρ)
 bN i j b h1 h2:=by
  obtain⟨x,hx,h3⟩:=V1 hm hb h1
  obtain⟨y,hy,h4⟩:=V1 hm hb h2
  have:=hm.bN x y b h3 h4
  subst this
  exact hb.1 i j x hx hy
 tl:=by simp[G.sel,WX]
 tat i blk cap f h1 h2:=by
  obtain⟨b,hi,hτ⟩:=UL hm ht h1
  simp only[WX,List.getElem?_map,hi,Option.map_some,Option.some.injEq]at h2
  have hlt:b<fr.length:=ht.2 b (List.mem_of_getElem? hi)
  exact(hm.tat b blk cap f hτ (by rw[<- h2];exact getD_some hlt)).same fun _ h=>h
 tN i j b c c' h1 h2:=by
  obtain⟨x,hx,h3⟩:=UL hm ht h1
  obtain⟨y,hy,h4⟩:=UL hm ht h2
  have:=hm.tN x y b c c' h3 h4
  subst this
  exact ht.1 i j x hx hy
 tρ b c h hr:=by
  obtain⟨i,hi⟩:=List.getElem?_of_mem h
  obtain⟨x,_,h3⟩:=UL hm ht hi
  obtain⟨j,hj⟩:=List.getElem?_of_mem hr
  obtain⟨y,_,h4⟩:=V1 hm hb hj
  exact hm.tρ b c (List.mem_of_getElem? h3) (List.mem_of_getElem? h4)
 Clt:=hm.Clt
 gl:=hm.gl
end

inductive R where
 | ret (d:D)
 | pan (d:D)
def R.ren (f h:Nat->Option Nat):R->R
 | .ret d=>.ret (d.ren f h)
 | .pan d=>.pan (d.ren f h)
def R.is (w:World)(g:G)(fr:List Fr)(e:Ending):R->Prop
 | .ret d=>∃ v,e=.returned v/\V w g fr d v
 | .pan d=>∃ v,e=.panicked [{ v,recovered:=false }]/\V w g fr d v
structure AC [Known](P:Program) (f:FuncId) (args:List D) (bx:List (List D)) (fr:List Fr) (post:R->List (List D)->List Fr->Prop):Prop where
 run:∀(g:G) (w:World) (vs:List Value),Mem g bx fr w->vs.length=args.length->(∀(j:Nat) (d:D) (v:Value),args[j]?=some d->vs[j]?=some v->V w g fr d v) ->
  Calls P f vs.toArray w fun e w'=>∃ g' bx' fr' r,Evo ⟨g,fr,w⟩ ⟨g',fr',w'⟩/\Mem g' bx' fr' w'/\r.is w' g' fr' e/\post r bx' fr'
theorem AC.mono [Known]{P:Program}{f:FuncId}{args:List D}{bx:List (List D)}{fr:List Fr}{post post':R->List (List D)->List Fr->Prop}(h:AC P f args bx fr post)(hp:∀ r bx' fr',post r bx' fr'->post' r bx' fr'):AC P f args bx fr post':=
 ⟨fun g w vs hm hl hv=>(h.run g w vs hm hl hv).mono fun e w' ⟨g',bx',fr',r,h1,h2,h3,h4⟩=>⟨g',bx',fr',r,h1,h2,h3,hp _ _ _ h4⟩⟩
end Go.Av
end
section
open Go.RowKit Go.Pl
namespace Go.Av

def tAgg (P:Program)(t:TypeId):Option Bool:=
 match P.underlying t with
 | some (.struct _)=>some true
 | some (.array _ _)=>some true
 | some _=>some false
 | none=>none
def tSize (P:Program)(t:TypeId):Option Nat:=(P.info? t).map (·.size)
theorem Y8 {P:Program}{t:TypeId}{b:Bool}(h:tAgg P t=some b)(w:World):(isAgg t).run P w=.ok b w:=by
 unfold tAgg at h
 cases hu:P.underlying t with
 | none=>simp[hu]at h
 | some d=>
  unfold isAgg
  rw[Sem.run_bind,run_underlying hu w]
  cases d<;>simp_all
theorem Z1 {P:Program}{t:TypeId}{n:Nat}(h:tSize P t=some n)(w:World):(sizeOf t).run P w=.ok n w:=by
 unfold tSize at h
 cases hi:P.info? t with
 | none=>simp[hi]at h
 | some i=>
  simp[hi]at h
  simp[sizeOf,typeInfo,Sem.run_bind,hi,h]
theorem WM {P:Program}{t:TypeId}(h:tAgg P t=some false){w:World}{b o:Nat}{v:Value}(hc:w.cell? ⟨b,o,none⟩=some v) :
  (loadVar t ⟨b,o,none⟩).run P w=.ok v w:=by
 simp[loadVar,Sem.run_bind,Y8 h,hc]
theorem Up {P:Program}{t:TypeId}(h:tAgg P t=some true){w:World}{b o:Nat}(vs:List Value)(hs:tSize P t=some vs.length)(hc:∀ j v,vs[j]?=some v->w.cell? ⟨b,o+j,none⟩=some v) :
  (loadVar t ⟨b,o,none⟩).run P w=.ok (.agg vs.toArray) w:=by
 have hl:(loadCells ⟨b,o,none⟩ vs.length).run P w=.ok vs.toArray w:=
  run_loadCells_list (P:=P) w ⟨b,o,none⟩ vs (fun j v hv=>by rw[Addr.add_mid];exact hc j v hv)
 simp[loadVar,Sem.run_bind,Y8 h,Z1 hs,hl]
section
variable {P:Program} {w:World} {g:G} {bx:List (List D)} {fr:List Fr}
theorem Mem.cell [Known](hm:Mem g bx fr w){b blk:Nat}{cs:List D}(hb:g.ρ[b]?=some blk)(hx:bx[b]?=some cs){o:Nat}{d:D}(hd:cs[o]?=some d):∃ v,w.cell? ⟨blk,o,none⟩=some v/\V w g fr d v:=by
 obtain⟨vs,ty,h1,h2,h3⟩:=hm.bat0 b blk cs hb hx
 have ho:o<cs.length:=(List.getElem?_eq_some_iff.1 hd).1
 have hv:vs[o]?=some (vs[o]'(by omega)):=by rw[Array.getElem?_eq_getElem]
 exact⟨_,(cell_of_row w blk o vs ty (0,0) h1).trans hv,h3 o d _ hd hv⟩
theorem VC {v:Value}{b o:Nat}(h:V w g fr (.ptr b o) v):∃ blk,g.ρ[b]?=some blk/\v=.pointer (some ⟨blk,o,none⟩):=by cases h;exact⟨_,‹_›,rfl⟩
theorem QS [Known](hm:Mem g bx fr w){t:TypeId}(h:tAgg P t=some false){b o:Nat}{cs:List D}{d:D}{v:Value}(hv:V w g fr (.ptr b o) v)(hx:bx[b]?=some cs)(hd:cs[o]?=some d) :
  ∃ u,(Instr.loadAt t v).run P w=.ok u w/\V w g fr d u:=by
 cases hv with
 | ptr _ _ blk hb=>
  obtain⟨u,h1,h2⟩:=hm.cell hb hx hd
  exact⟨u,by simp[Instr.loadAt,Instr.sureAddr,Sem.run_bind,WM h h1],h2⟩
theorem QT [Known](hm:Mem g bx fr w){t:TypeId}(h:tAgg P t=some true){b o n:Nat}{cs:List D}{v:Value}(hs:tSize P t=some n)(hv:V w g fr (.ptr b o) v)(hx:bx[b]?=some cs)(ho:o+n<=cs.length) :
  ∃ u,(Instr.loadAt t v).run P w=.ok u w/\V w g fr (.agg ((cs.drop o).take n)) u:=by
 cases hv with
 | ptr _ _ blk hb=>
  obtain⟨vs,ty,h1,h2,h3⟩:=hm.bat0 b blk cs hb hx
  refine⟨.agg ((vs.toList.drop o).take n).toArray,?_,?_⟩
  ·have:=Up (P:=P) (w:=w) (b:=blk) (o:=o) h ((vs.toList.drop o).take n) (by rw[hs];simp;omega) fun j u hu=>by
    rw[cell_of_row w blk (o+j) vs ty (0,0) h1]
    have hu':j<n/\vs[o+j]?=some u:=by simpa[List.getElem?_take]using hu
    exact hu'.2
   simp[Instr.loadAt,Instr.sureAddr,Sem.run_bind,this]
  ·refine .agg _ _ (by simp;omega) fun j d u hd hu=>?_
   have hu':j<n/\vs[o+j]?=some u:=by simpa[List.getElem?_take]using hu
   have hd':j<n/\cs[o+j]?=some d:=by simpa[List.getElem?_take]using hd
   exact h3 _ d u hd'.2 hu'.2
theorem XK {t:TypeId}(h:tAgg P t=some false){cs:List E}{o:Nat}{e:E}{v:Value}(hv:V w g fr (.eptr cs o) v)(hd:cs[o]?=some e) :
  ∃ u,(Instr.loadAt t v).run P w=.ok u w/\V w g fr (.ofE e) u:=by
 cases hv with
 | eptr _ _ blk off us hc hw he=>
  have ho:=(List.getElem?_eq_some_iff.1 hd).1
  exact⟨us o,by simp[Instr.loadAt,Instr.sureAddr,Sem.run_bind,WM h (hw o ho)],V.ofE (he o e hd)⟩
theorem XL {t:TypeId}(h:tAgg P t=some true){cs:List E}{o n:Nat}{v:Value}(hs:tSize P t=some n)(hv:V w g fr (.eptr cs o) v)(ho:o+n<=cs.length) :
  ∃ u,(Instr.loadAt t v).run P w=.ok u w/\V w g fr (.agg (((cs.drop o).take n).map .ofE)) u:=by
 cases hv with
 | eptr _ _ blk off us hc hw he=>
  refine⟨.agg ((List.range n).map fun j=>us (o+j)).toArray,?_,?_⟩
  ·have:=Up (P:=P) (w:=w) (b:=blk) (o:=off+o) h ((List.range n).map fun j=>us (o+j)) (by simp[hs]) fun j u hu=>by
    rw[List.getElem?_map]at hu
    cases hj:(List.range n)[j]? with
    | none=>simp[hj]at hu
    | some j'=>
     obtain⟨hlt,hj'⟩:=List.getElem?_eq_some_iff.1 hj
     simp at hlt hj'
     subst hj'
     simp[hj]at hu
     subst hu
     rw[Nat.add_assoc]
     exact hw (o+j) (by omega)
   simp[Instr.loadAt,Instr.sureAddr,Sem.run_bind,this]
  ·refine .agg _ _ (by simp;omega) fun j d u hd hu=>?_
   rw[List.getElem?_map]at hd hu
   cases hj:(List.range n)[j]? with
   | none=>simp[hj]at hu
   | some j'=>
    obtain⟨hlt,hj'⟩:=List.getElem?_eq_some_iff.1 hj
    simp at hlt hj'
    subst hj'
    simp only[hj,Option.map_some,Option.some.injEq]at hu
    subst hu
    rw[List.getElem?_take,if_pos hlt,List.getElem?_drop]at hd
    cases hj2:cs[o+j]? with
    | none=>simp[hj2]at hd
    | some e=>simp[hj2]at hd;subst hd;exact V.ofE (he _ e hj2)
end

def Uq:Nat->List D->List (Nat × D)
 | _,[]=>[]
 | k,d::l=>(k,d)::Uq (k+1) l
theorem JL (l:List D):∀(k t:Nat),look (Uq k l) t=if k<=t then(l[t-k]?).getD .junk else .junk:=by
 induction l with
 | nil=>intro k t;simp[Uq,look]
 | cons d l ih=>
  intro k t
  simp only[Uq,look]
  cases hb:Nat.beq k t with
  | true=>
   have:=Nat.eq_of_beq_eq_true hb
   subst this;simp
  | false=>
   have hne:k ≠ t:=fun e=>by subst e;simp at hb
   dsimp only
   rw[ih]
   by_cases h:k<=t
   ·rw[if_pos h,if_pos (by omega),show t-k=(t-(k+1))+1 from by omega,List.getElem?_cons_succ]
   ·rw[if_neg h,if_neg (by omega)]
inductive ResOk (P:Program) (S:St):ResultVar->D->Prop
 | tmp (t:Nat) (d:D) (h:look S.tm t=d):ResOk P S (.tmp t) d
 | cell1 (a t b o:Nat) (cs:List D) (d:D) (h:look S.tm a=.ptr b o) (ht:tAgg P t=some false) (hx:S.bx[b]?=some cs) (hd:cs[o]?=some d):ResOk P S (.cell a t) d
 | celln (a t b o n:Nat) (cs:List D) (d:D) (h:look S.tm a=.ptr b o) (ht:tAgg P t=some true) (hs:tSize P t=some n) (hx:S.bx[b]?=some cs) (ho:Nat.ble (o+n) cs.length=true) (hd:.agg ((cs.drop o).take n)=d):ResOk P S (.cell a t) d
inductive ResL (P:Program) (S:St):List ResultVar->List D->Prop
 | nil:ResL P S [] []
 | cons (r:ResultVar) (d:D) (rs:List ResultVar) (ds:List D) (h:ResOk P S r d) (t:ResL P S rs ds):ResL P S (r::rs) (d::ds)
def JM:List D->D
 | [d]=>d
 | l=>.tup l
def XM (tmps:Array Value):ResultVar->Sem Value
 | .tmp t=>pure (tmps.getD t undef)
 | .cell a t=>do loadVar t (<- asAddr (tmps.getD a undef))
theorem XN (fn:Func)(tmps:Array Value):results fn tmps=(fn.results.mapM (XM tmps) >>= fun vs=>pure (if h:vs.size=1 then vs[0] else .tuple vs)):=rfl
theorem VO {P:Program}{α:Type}{w:World}(f:α->Sem Value):∀(l:List α) (vs:List Value),l.length=vs.length->(∀(j:Nat) (x:α) (v:Value),l[j]?=some x->vs[j]?=some v->(f x).run P w=.ok v w)->(l.mapM f).run P w=.ok vs w
 | [],[],_,_=>rfl
 | x::l,v::vs,hl,h=>by
  have ih:=VO f l vs (by simpa using hl) fun j x v hx hv=>h (j+1) x v (by simpa using hx) (by simpa using hv)
  have h0:=h 0 x v rfl rfl
  simp only[List.mapM_cons,Sem.run_bind,h0,Result.andThen_ok,ih]
  rfl
 | [],_::_,hl,_=>by simp at hl
 | _::_,[],hl,_=>by simp at hl
theorem ResL.runs [Known][Dfr]{P:Program}{S:St}{b0:Bs}{g:G}{a:Act}{w:World}(hi:Inv b0 S g a w){rs:List ResultVar}{ds:List D}(h:ResL P S rs ds) :
  ∃ vs:List Value,rs.length=vs.length/\vs.length=ds.length/\(∀(j:Nat) (r:ResultVar) (v:Value),rs[j]?=some r->vs[j]?=some v->(XM a.tmps r).run P w=.ok v w)/\∀(j:Nat) (d:D) (v:Value),ds[j]?=some d->vs[j]?=some v->V w g S.fr d v:=by
 induction h with
 | nil=>exact⟨[],rfl,rfl,by simp,by simp⟩
 | cons r d rs ds h t ih=>
  obtain⟨vs,h0,h1,h2,h3⟩:=ih
  have:∃ v,(XM a.tmps r).run P w=.ok v w/\V w g S.fr d v:=by
   cases h with
   | tmp t d h=>exact⟨_,rfl,h ▸ hi.tm t⟩
   | cell1 a' t b o cs d h ht hx hd=>
    have hv:=hi.tm a'
    rw[h]at hv
    obtain⟨p,hp⟩:∃ p,p=a.tmps.getD a' undef:=⟨_,rfl⟩
    rw[<- hp]at hv
    obtain⟨u,h1,h2⟩:=QS (P:=P) hi.mem ht hv hx hd
    refine⟨u,?_,h2⟩
    show(do let x <- asAddr (a.tmps.getD a' undef);loadVar t x:Sem Value).run P w=_
    rw[<- hp]
    cases hv with
    | ptr _ _ blk hb=>simpa[asAddr,Instr.loadAt,Instr.sureAddr,Sem.run_bind]using h1
   | celln a' t b o n cs d h ht hs hx ho hd=>
    have hv:=hi.tm a'
    rw[h]at hv
    obtain⟨p,hp⟩:∃ p,p=a.tmps.getD a' undef:=⟨_,rfl⟩
    rw[<- hp]at hv
    obtain⟨u,h1,h2⟩:=QT (P:=P) hi.mem ht hs hv hx (Nat.le_of_ble_eq_true ho)
    refine⟨u,?_,hd ▸ h2⟩
    show(do let x <- asAddr (a.tmps.getD a' undef);loadVar t x:Sem Value).run P w=_
    rw[<- hp]
    cases hv with
    | ptr _ _ blk hb=>simpa[asAddr,Instr.loadAt,Instr.sureAddr,Sem.run_bind]using h1
  obtain⟨v,k1,k2⟩:=this
  refine⟨v::vs,by simp[h0],by simp[h1],fun j r' v' hr hv=>?_,fun j d v hd hv=>?_⟩
  ·cases j with
   | zero=>simp at hr hv;subst hr hv;exact k1
   | succ j=>simp at hr hv;exact h2 j r' v' hr hv
  ·cases j with
   | zero=>simp at hd hv;subst hd hv;exact k2
   | succ j=>simp at hd hv;exact h3 j d v hd hv
theorem JN [Known][Dfr]{P:Program}{S:St}{b0:Bs}{g:G}{a:Act}{w:World}(hi:Inv b0 S g a w){fn:Func}{rs:List ResultVar}(hr:fn.results=rs.toArray){ds:List D}(h:ResL P S rs ds) :
  ∃ v,(results fn a.tmps).run P w=.ok v w/\V w g S.fr (JM ds) v:=by
 obtain⟨vs,h0,h1,h2,h3⟩:=h.runs hi
 have hm:=VO (XM a.tmps) rs vs h0 h2
 rw[XN,hr]
 have hm2:(rs.toArray.mapM (XM a.tmps)).run P w=.ok vs.toArray w:=by
  rw[List.mapM_toArray]
  rw[show(List.toArray <$> rs.mapM (XM a.tmps))=(rs.mapM (XM a.tmps) >>= fun l=>pure l.toArray) from rfl]
  rw[Sem.run_bind,hm]
  rfl
 refine⟨_,by rw[Sem.run_bind,hm2];rfl,?_⟩
 match vs,ds,h1 with
 | [],[],_=>exact .tup [] [] rfl (by simp)
 | [v],[d],_=>exact h3 0 d v rfl rfl
 | v::v'::vs,d::d'::ds,h1=>
  have:=V.tup (d::d'::ds) (v::v'::vs) h1 h3
  simpa[JM]using this
end Go.Av
end
section
open Go.RowKit Go.Pl
namespace Go.Av

def Ov (P:Program)(rs:List ResultVar)(k:Nat)(n:Nat)(post:R->List (List D)->List Fr->Prop)(S:St):Prop:=
 ∃ ds bs ts,ResL P S rs ds/\YL bs S.bx.length/\YL ts S.fr.length/\(∀ i,i<k->bs[i]?=some i)/\(∀ i,i<n->ts[i]?=some i)/\post (.ret ((JM ds).ren (idx bs) (idx ts))) (Uo bs ts S.bx) (WX ts S.fr)
def VT (P:Program)(rs:List ResultVar)(k:Nat)(n:Nat)(post:R->List (List D)->List Fr->Prop):X->St->Prop
 | .norm,S=>Ov P rs k n post S
 | .ret,S=>Ov P rs k n post S
 | .pan d,S=>∃ bs ts,YL bs S.bx.length/\YL ts S.fr.length/\(∀ i,i<k->bs[i]?=some i)/\(∀ i,i<n->ts[i]?=some i)/\post (.pan (d.ren (idx bs) (idx ts))) (Uo bs ts S.bx) (WX ts S.fr)
 | _,_=>False
theorem Evo.sel [Known]{b:Bs}{g:G}{bx:List (List D)}{fr:List Fr}{w:World}(h:Evo b ⟨g,fr,w⟩)(hm:Mem g bx fr w){bs ts:List Nat}(hb:YL bs bx.length)(ht:YL ts fr.length)
  (h1:∀ i,i<b.g.ρ.length->bs[i]?=some i) (h2:∀ i,i<b.fr.length->ts[i]?=some i):Evo b ⟨g.sel bs ts,WX ts fr,w⟩ where
 os:=h.os
 tape:=h.tape
 output:=h.output
 size:=h.size
 block:=h.block
 C:=h.C
 cell:=h.cell
 newC:=h.newC
 ρp i k hk:=by
  have hlt:i<b.g.ρ.length:=(List.getElem?_eq_some_iff.1 hk).1
  have:=h.ρp i k hk
  simp[G.sel,h1 i hlt,List.getD,this]
 ρn k hk:=by
  obtain⟨i,hi⟩:=List.getElem?_of_mem hk
  obtain⟨x,_,hx⟩:=V1 hm hb hi
  exact h.ρn k (List.mem_of_getElem? hx)
 τn k c hk:=by
  obtain⟨i,hi⟩:=List.getElem?_of_mem hk
  obtain⟨x,_,hx⟩:=UL hm ht hi
  exact h.τn k c (List.mem_of_getElem? hx)
 tok i f hf:=by
  have hlt:i<b.fr.length:=(List.getElem?_eq_some_iff.1 hf).1
  obtain⟨f',k1,k2,k3⟩:=h.tok i f hf
  have hlt2:i<g.τ.length:=by rw[hm.tl];exact(List.getElem?_eq_some_iff.1 k1).1
  refine⟨f',by simp[WX,h2 i hlt,List.getD,k1],k2,fun e=>?_⟩
  rw[<- k3 e]
  simp only[G.sel,List.getElem?_map,h2 i hlt,Option.map_some]
  exact(getD_some hlt2).symm
theorem Zm [Known]{P:Program}{f:FuncId}{fn:Func}{c:Code}{args:List D}{bx:List (List D)}{fr:List Fr}{post:R->List (List D)->List Fr->Prop}{n:Nat}{rs:List ResultVar}(hf:P.funcs[f]?=some fn)(hb:fn.body=some c)(hn:fn.ntmps=n)(hr:fn.results=rs.toArray)
  (hl:Nat.ble args.length n=true) (h:AW P c ⟨n,Uq 0 args,bx,fr,(bx.length,fr.length)⟩ (VT P rs bx.length fr.length post)):AC P f args bx fr post:=by
 refine⟨fun g w vs hm hlen hv=>?_⟩
 have hle:=Nat.le_of_ble_eq_true hl
 refine calls_of_wp hf hb ?_
 have hi:Inv ⟨g,fr,w⟩ ⟨n,Uq 0 args,bx,fr,(bx.length,fr.length)⟩ g { tmps:=vs.toArray++Array.replicate (fn.ntmps-vs.toArray.size) undef,defers:=[] } w:=by
  refine⟨by simp[hn];omega,rfl,hm,fun t=>?_,Evo.refl _,by rw[hm.bl];exact Nat.le_refl _,Nat.le_refl _⟩
  rw[JL]
  simp only[Nat.zero_le,if_true,Nat.sub_zero]
  cases ht:args[t]? with
  | none=>exact .junk _
  | some d=>
   have hlt:t<args.length:=(List.getElem?_eq_some_iff.1 ht).1
   refine hv t d _ ht ?_
   have hlt2:t<vs.length:=by omega
   simp[Array.getD_getElem?,Array.getElem?_append,hlt2]
 refine wp_mono (h.run ⟨g,fr,w⟩ g _ w hi) fun e a' w' hc=>?_
 have fin:∀ S g',Inv ⟨g,fr,w⟩ S g' a' w'->Ov P rs bx.length fr.length post S->a'.defers=[]/\∃ v,(results fn a'.tmps).run P w'=.ok v w'/\∃ g'' bx' fr' r,Evo ⟨g,fr,w⟩ ⟨g'',fr',w'⟩/\Mem g'' bx' fr' w'/\r.is w' g'' fr' (.returned v)/\post r bx' fr':=by
  intro S g' hi' hq
  obtain⟨ds,bs,ts,hrs,k1,k2,k3,k4,hp⟩:=hq
  obtain⟨v,hrun,hv⟩:=JN hi' hr hrs
  refine⟨hi'.defers,v,hrun,_,_,_,.ret _,hi'.evo.sel hi'.mem k1 k2 (by rw[hm.bl];exact k3) k4,hi'.mem.sel k1 k2,⟨v,rfl,hv.sel hi'.mem k1 k2⟩,hp⟩
 cases e with
 | normal=>
  obtain⟨S,g',hi',hq⟩:=hc
  exact fin S g' hi' hq
 | ret=>
  obtain⟨S,g',hi',hq⟩:=hc
  exact fin S g' hi' hq
 | panic chain=>
  obtain⟨S,g',v,d,hi',rfl,hd,bs,ts,k1,k2,k3,k4,hp⟩:=hc
  exact⟨hi'.defers,_,_,_,.pan _,hi'.evo.sel hi'.mem k1 k2 (by rw[hm.bl];exact k3) k4,hi'.mem.sel k1 k2,⟨v,rfl,hd.sel hi'.mem k1 k2⟩,hp⟩
 | exit id=>obtain⟨S,g',hi',hq⟩:=hc;exact hq.elim
 | goto l=>obtain⟨S,g',hi',hq⟩:=hc;exact hq.elim
 | outgrown=>exact hc.elim

def upN (bs:List Nat)(n:Nat)(i:Nat):Option Nat:=match bs[i]? with
 | some b=>some b
 | none=>some (n+(i-bs.length))
def YW {α:Type}(l:List α):List Nat->List α->List α
 | b::bs,x::xs=>(YW l bs xs).set b x
 | _,_=>l
theorem ZO {α:Type}(l:List α):∀(bs:List Nat) (xs:List α),(YW l bs xs).length=l.length
 | [],_=>by simp[YW]
 | _::_,[]=>by simp[YW]
 | b::bs,x::xs=>by simp[YW,ZO l bs xs]
theorem Ws {α:Type}(l:List α){i:Nat}:∀(bs:List Nat) (xs:List α),i ∉ bs->(YW l bs xs)[i]?=l[i]?
 | [],_,_=>by simp[YW]
 | _::_,[],_=>by simp[YW]
 | b::bs,x::xs,h=>by
  simp only[List.mem_cons,not_or]at h
  simp only[YW]
  rw[List.getElem?_set_ne (fun e=>h.1 e.symm),Ws l bs xs h.2]
theorem Wh {α:Type}(l:List α){j b:Nat}:∀(bs:List Nat) (xs:List α),(∀(i j b:Nat),bs[i]?=some b->bs[j]?=some b->i=j)->bs[j]?=some b->b<l.length->j<xs.length->(YW l bs xs)[b]?=xs[j]?
 | [],_,_,h,_,_=>by simp at h
 | _::_,[],_,_,_,h=>by simp at h
 | c::bs,x::xs,hN,hj,hb,hx=>by
  simp only[YW]
  cases j with
  | zero=>
   simp at hj;subst hj
   rw[List.getElem?_set_self (by rw[ZO];exact hb)]
   rfl
  | succ j=>
   simp at hj
   have hne:c ≠ b:=fun e=>by
    subst e
    have:=hN 0 (j+1) c rfl (by simpa using hj)
    omega
   rw[List.getElem?_set_ne hne]
   simpa using Wh l bs xs (fun i j b h1 h2=>by have:=hN (i+1) (j+1) b (by simpa using h1) (by simpa using h2);omega) hj hb (by simpa using hx)
def VU (bs ts:List Nat)(bx:List (List D))(nf:Nat)(bx':List (List D)):List (List D):=
 YW bx bs (bx'.map (D.rens (upN bs bx.length) (upN ts nf)))++(bx'.drop bs.length).map (D.rens (upN bs bx.length) (upN ts nf))
def WK (ts:List Nat)(fr:List Fr)(fr':List Fr):List Fr:=YW fr ts fr'++fr'.drop ts.length
def Wj (bs ts:List Nat)(g g':G):G:=⟨g'.C,g.ρ++g'.ρ.drop bs.length,YW g.τ ts g'.τ++g'.τ.drop ts.length⟩
section
variable {g g':G} {bx bx':List (List D)} {fr fr':List Fr} {w w':World} {bs ts:List Nat}
theorem aft [Known](hm:Mem g bx fr w)(hb:YL bs bx.length)(ht:YL ts fr.length)(he:Evo ⟨g.sel bs ts,WX ts fr,w⟩ ⟨g',fr',w'⟩)(hm':Mem g' bx' fr' w')(hle:bs.length<=bx'.length) :
  Mem (Wj bs ts g g') (VU bs ts bx fr.length bx') (WK ts fr fr') w'/\Evo ⟨g,fr,w⟩ ⟨Wj bs ts g g',WK ts fr fr',w'⟩ /\
   ∀ d v,V w' g' fr' d v->V w' (Wj bs ts g g') (WK ts fr fr') (d.ren (upN bs bx.length) (upN ts fr.length)) v:=by
 have hle':bs.length<=g'.ρ.length:=by rw[hm'.bl];exact hle
 have htl:ts.length<=fr'.length:=by
  rcases Nat.lt_or_ge fr'.length ts.length with h|h
  ·exfalso
   have h1:(WX ts fr)[fr'.length]?=some ((WX ts fr)[fr'.length]'(by simp[WX];exact h)):=List.getElem?_eq_getElem _
   obtain⟨f',h2,_⟩:=he.tok fr'.length _ h1
   simp at h2
  ·exact h
 have htl':ts.length<=g'.τ.length:=by rw[hm'.tl];exact htl
 have hMlt:∀ k,M g k->k<w.heap.size:=by
  rintro k (hk|⟨c,hk⟩)
  ·obtain⟨i,hi⟩:=List.getElem?_of_mem hk
   have hlt:i<bx.length:=by rw[<- hm.bl];exact(List.getElem?_eq_some_iff.1 hi).1
   obtain⟨vs,ty,h1,_⟩:=hm.bat i k _ hi (List.getElem?_eq_getElem hlt)
   exact(Array.getElem?_eq_some_iff.1 h1).1
  ·obtain⟨i,hi⟩:=List.getElem?_of_mem hk
   have hlt:i<fr.length:=by rw[<- hm.tl];exact(List.getElem?_eq_some_iff.1 hi).1
   obtain⟨cur,h1,_⟩:=(hm.tat i k c _ hi (List.getElem?_eq_getElem hlt)).row
   exact(Array.getElem?_eq_some_iff.1 h1).1
 have farB:∀(i k:Nat),g.ρ[i]?=some k->i ∉ bs->¬ M (g.sel bs ts) k:=by
  rintro i k hi hn (hk|⟨c,hk⟩)
  ·obtain⟨j,hj⟩:=List.getElem?_of_mem hk
   obtain⟨b,h1,h2⟩:=V1 hm hb hj
   have:=hm.bN i b k hi h2
   subst this
   exact hn (List.mem_of_getElem? h1)
  ·obtain⟨j,hj⟩:=List.getElem?_of_mem hk
   obtain⟨b,h1,h2⟩:=UL hm ht hj
   exact hm.tρ k c (List.mem_of_getElem? h2) (List.mem_of_getElem? hi)
 have farT:∀(i k c:Nat),g.τ[i]?=some (k,c)->i ∉ ts->¬ M (g.sel bs ts) k:=by
  rintro i k c hi hn (hk|⟨c',hk⟩)
  ·obtain⟨j,hj⟩:=List.getElem?_of_mem hk
   obtain⟨b,h1,h2⟩:=V1 hm hb hj
   exact hm.tρ k c (List.mem_of_getElem? hi) (List.mem_of_getElem? h2)
  ·obtain⟨j,hj⟩:=List.getElem?_of_mem hk
   obtain⟨b,h1,h2⟩:=UL hm ht hj
   have:=hm.tN i b k c c' hi h2
   subst this
   exact hn (List.mem_of_getElem? h1)
 have ρold:∀(i k:Nat),g.ρ[i]?=some k->(Wj bs ts g g').ρ[i]?=some k:=fun i k hi=>by
  have hlt:=(List.getElem?_eq_some_iff.1 hi).1
  simp[Wj,List.getElem?_append_left hlt,hi]
 have ρget:∀(i k:Nat),(Wj bs ts g g').ρ[i]?=some k->g.ρ[i]?=some k\/(g.ρ.length<=i/\g'.ρ[bs.length+(i-g.ρ.length)]?=some k):=fun i k hi=>by
  simp only[Wj]at hi
  rcases Nat.lt_or_ge i g.ρ.length with h|h
  ·rw[List.getElem?_append_left h]at hi;exact .inl hi
  ·rw[List.getElem?_append_right h,List.getElem?_drop]at hi
   exact .inr ⟨h,hi⟩
 have ρsel:∀(j b k:Nat),bs[j]?=some b->g.ρ[b]?=some k->g'.ρ[j]?=some k:=fun j b k hj hk=>he.ρp j k (by simp[G.sel,hj,List.getD,hk])
 have τget:∀(i:Nat) (p:Nat × Nat),(Wj bs ts g g').τ[i]?=some p->(i ∉ ts/\g.τ[i]?=some p)\/(∃ j,ts[j]?=some i/\g'.τ[j]?=some p)\/(g.τ.length<=i/\g'.τ[ts.length+(i-g.τ.length)]?=some p):=fun i p hi=>by
  simp only[Wj]at hi
  rcases Nat.lt_or_ge i g.τ.length with h|h
  ·rw[List.getElem?_append_left (by rw[ZO];exact h)]at hi
   by_cases hn:i ∈ ts
   ·obtain⟨j,hj⟩:=List.getElem?_of_mem hn
    have hjl:j<ts.length:=(List.getElem?_eq_some_iff.1 hj).1
    rw[Wh g.τ ts g'.τ ht.1 hj h (by omega)]at hi
    exact .inr (.inl ⟨j,hj,hi⟩)
   ·rw[Ws g.τ ts g'.τ hn]at hi
    exact .inl ⟨hn,hi⟩
  ·rw[List.getElem?_append_right (by rw[ZO];exact h),ZO,List.getElem?_drop]at hi
   exact .inr (.inr ⟨h,hi⟩)
 have frput:∀(i:Nat),(WK ts fr fr')[i]?=if i<fr.length then(YW fr ts fr')[i]? else fr'[ts.length+(i-fr.length)]? := fun i=>by
  simp only[WK]
  split
  ·rw[List.getElem?_append_left (by rw[ZO];assumption)]
  ·rw[List.getElem?_append_right (by rw[ZO];omega),ZO,List.getElem?_drop]
 have hup:∀ d v,V w' g' fr' d v->V w' (Wj bs ts g g') (WK ts fr fr') (d.ren (upN bs bx.length) (upN ts fr.length)) v:=by
  intro d v h
  refine h.ren _ _ (fun _ _ h=>h) (fun b b' blk hf hblk=>?_) (fun i j f0 hf hf0=>?_)
  ·unfold upN at hf
   cases hbb:bs[b]? with
   | some x=>
    simp only[hbb,Option.some.injEq]at hf
    subst hf
    have hx:x<g.ρ.length:=by rw[hm.bl];exact hb.2 x (List.mem_of_getElem? hbb)
    have h1:=getD_some (d:=0) hx
    have h2:=ρsel b x _ hbb h1
    rw[hblk]at h2
    injection h2 with h2
    exact ρold x blk (by rw[h1,h2])
   | none=>
    simp only[hbb,Option.some.injEq]at hf
    subst hf
    have hge:bs.length<=b:=by rcases Nat.lt_or_ge b bs.length with h|h;(· simp[h]at hbb);(· exact h)
    simp only[Wj]
    rw[List.getElem?_append_right (by rw[hm.bl];omega),List.getElem?_drop,hm.bl,show bs.length+(bx.length+(b-bs.length)-bx.length)=b from by omega]
    exact hblk
  ·unfold upN at hf
   cases htt:ts[i]? with
   | some x=>
    simp only[htt,Option.some.injEq]at hf
    subst hf
    have hx:x<fr.length:=ht.2 x (List.mem_of_getElem? htt)
    have hi:i<ts.length:=(List.getElem?_eq_some_iff.1 htt).1
    refine⟨⟨f0,?_,rfl⟩,?_⟩
    ·rw[frput,if_pos hx,Wh fr ts fr' ht.1 htt hx (by omega)];exact hf0
    ·simp only[Wj]
     rw[List.getElem?_append_left (by rw[ZO,hm.tl];exact hx),Wh g.τ ts g'.τ ht.1 htt (by rw[hm.tl];exact hx) (by omega)]
   | none=>
    simp only[htt,Option.some.injEq]at hf
    subst hf
    have hge:ts.length<=i:=by rcases Nat.lt_or_ge i ts.length with h|h;(· simp[h]at htt);(· exact h)
    refine⟨⟨f0,?_,rfl⟩,?_⟩
    ·rw[frput,if_neg (by omega),show ts.length+(fr.length+(i-ts.length)-fr.length)=i from by omega];exact hf0
    ·simp only[Wj]
     rw[List.getElem?_append_right (by rw[ZO,hm.tl];omega),ZO,List.getElem?_drop,hm.tl,show ts.length+(fr.length+(i-ts.length)-fr.length)=i from by omega]
 have hevo:Evo ⟨g,fr,w⟩ ⟨Wj bs ts g g',WK ts fr fr',w'⟩:=by
  refine⟨he.os,he.tape,he.output,he.size,fun k hk hn=>he.block k hk fun h=>hn (GA hm hb ht h),he.C,he.cell,fun k o h=>?_,ρold,fun k hk=>?_,fun k c hk=>?_,fun i f hf=>?_⟩
  ·rcases he.newC k o h with h1|h1|h1
   ·exact .inl h1
   ·exact .inr (.inl h1)
   ·exact .inr (.inr (GA hm hb ht h1))
  ·obtain⟨i,hi⟩:=List.getElem?_of_mem hk
   rcases ρget i k hi with h1|⟨_,h1⟩
   ·exact .inl (List.mem_of_getElem? h1)
   ·rcases he.ρn k (List.mem_of_getElem? h1) with h2|h2
    ·obtain⟨j,hj⟩:=List.getElem?_of_mem h2
     obtain⟨b,_,h3⟩:=V1 hm hb hj
     exact .inl (List.mem_of_getElem? h3)
    ·exact .inr h2
  ·obtain⟨i,hi⟩:=List.getElem?_of_mem hk
   have key:∀ c,(k,c) ∈ g'.τ->(∃ c',(k,c') ∈ g.τ)\/w.heap.size<=k:=fun c hc=>by
    rcases he.τn k c hc with⟨c',h2⟩ | h2
    ·obtain⟨j,hj⟩:=List.getElem?_of_mem h2
     obtain⟨b,_,h3⟩:=UL hm ht hj
     exact .inl ⟨c',List.mem_of_getElem? h3⟩
    ·exact .inr h2
   rcases τget i _ hi with⟨_,h1⟩ | ⟨j,_,h1⟩ | ⟨_,h1⟩
   ·exact .inl ⟨c,List.mem_of_getElem? h1⟩
   ·exact key c (List.mem_of_getElem? h1)
   ·exact key c (List.mem_of_getElem? h1)
  ·have hlt:i<fr.length:=(List.getElem?_eq_some_iff.1 hf).1
   by_cases hn:i ∈ ts
   ·obtain⟨j,hj⟩:=List.getElem?_of_mem hn
    have hjl:j<ts.length:=(List.getElem?_eq_some_iff.1 hj).1
    obtain⟨f',k1,k2,k3⟩:=he.tok j f (by simp[WX,hj,List.getD,hf])
    refine⟨f',by rw[frput,if_pos hlt,Wh fr ts fr' ht.1 hj hlt (by omega)];exact k1,k2,fun e=>?_⟩
    have:=k3 e
    simp only[Wj]
    rw[List.getElem?_append_left (by rw[ZO,hm.tl];exact hlt),Wh g.τ ts g'.τ ht.1 hj (by rw[hm.tl];exact hlt) (by omega),this]
    simp only[G.sel,List.getElem?_map,hj,Option.map_some]
    exact(getD_some (by rw[hm.tl];exact hlt)).symm
   ·refine⟨f,by rw[frput,if_pos hlt,Ws fr ts fr' hn];exact hf,Nat.le_refl _,fun _=>?_⟩
    simp only[Wj]
    rw[List.getElem?_append_left (by rw[ZO,hm.tl];exact hlt),Ws g.τ ts g'.τ hn]
 have cρ:∀(j k:Nat),g'.ρ[j]?=some k->bs.length<=j->(w.heap.size<=k\/False):=fun j k hj hge=>by
  rcases he.ρn k (List.mem_of_getElem? hj) with h2|h2
  ·obtain⟨i,hi⟩:=List.getElem?_of_mem h2
   have h3:=he.ρp i k hi
   have h4:=hm'.bN i j k h3 hj
   have h5:i<bs.length:=by have:=(List.getElem?_eq_some_iff.1 hi).1;simpa[G.sel]using this
   omega
  ·exact .inl h2
 refine⟨?_,hevo,hup⟩
 constructor
 ·simp[Wj,VU,ZO,hm.bl,hm'.bl]
 ·intro i k cs h1 h2
  have hB:∀(j:Nat) (cs0:List D),g'.ρ[j]?=some k->bx'[j]?=some cs0->cs=D.rens (upN bs bx.length) (upN ts fr.length) cs0->∃ vs ty,w'.heap[k]?=some (.cells vs ty (0,0))/\D.fits cs vs.size /\
    (∀(j:Nat) (d:D) (v:Value),(D.ex cs)[j]?=some d->vs[j]?=some v->V w' (Wj bs ts g g') (WK ts fr fr') d v):=by
   rintro j cs0 hj hc rfl
   obtain⟨vs,ty,k1,k2,k3⟩:=hm'.bat j k cs0 hj hc
   refine⟨vs,ty,k1,U4 k2,fun x d v hd hv=>?_⟩
   rw[Jr,Z3,List.getElem?_map]at hd
   cases hx:(D.ex cs0)[x]? with
   | none=>simp[hx]at hd
   | some d0=>simp[hx]at hd;subst hd;exact hup d0 v (k3 x d0 v hx hv)
  rcases ρget i k h1 with h3|⟨hge,h3⟩
  ·have hlt:i<bx.length:=by rw[<- hm.bl];exact(List.getElem?_eq_some_iff.1 h3).1
   simp only[VU]at h2
   rw[List.getElem?_append_left (by rw[ZO];exact hlt)]at h2
   by_cases hn:i ∈ bs
   ·obtain⟨j,hj⟩:=List.getElem?_of_mem hn
    have hjl:j<bs.length:=(List.getElem?_eq_some_iff.1 hj).1
    rw[Wh bx bs _ hb.1 hj hlt (by rw[List.length_map];omega),List.getElem?_map]at h2
    cases hc:bx'[j]? with
    | none=>simp[hc]at h2
    | some cs0=>
     simp[hc]at h2
     exact hB j cs0 (ρsel j i k hj h3) hc h2.symm
   ·rw[Ws bx bs _ hn]at h2
    obtain⟨vs,ty,k1,k2,k3⟩:=hm.bat i k cs h3 h2
    exact⟨vs,ty,(he.block k (Array.getElem?_eq_some_iff.1 k1).1 (farB i k h3 hn)).trans k1,k2,fun j d v hd hv=>(k3 j d v hd hv).evo hevo⟩
  ·simp only[VU]at h2
   rw[List.getElem?_append_right (by rw[ZO,<- hm.bl];exact hge),ZO,List.getElem?_map,List.getElem?_drop,<- hm.bl]at h2
   cases hc:bx'[bs.length+(i-g.ρ.length)]? with
   | none=>simp[hc]at h2
   | some cs0=>
    rw[hc]at h2
    simp only[Option.map_some,Option.some.injEq]at h2
    exact hB _ cs0 h3 hc (by rw[<- hm.bl];exact h2.symm)
 ·intro k o hk hC
  obtain⟨i,hi⟩:=List.getElem?_of_mem hk
  rcases ρget i k hi with h3|⟨_,h3⟩
  ·by_cases hn:i ∈ bs
   ·obtain⟨j,hj⟩:=List.getElem?_of_mem hn
    exact hm'.bC k o (List.mem_of_getElem? (ρsel j i k hj h3)) hC
   ·rcases he.newC k o hC with h4|h4|h4
    ·exact hm.bC k o (List.mem_of_getElem? h3) h4
    ·have:=hMlt k (.inl (List.mem_of_getElem? h3))
     have h4:w.heap.size<=k:=h4
     omega
    ·exact farB i k h3 hn h4
  ·exact hm'.bC k o (List.mem_of_getElem? h3) hC
 ·intro i j k h1 h2
  have cross:∀(i j:Nat),g.ρ[i]?=some k->g.ρ.length<=j->g'.ρ[bs.length+(j-g.ρ.length)]?=some k->False:=fun i j h1 h2 h3=>by
   rcases cρ _ k h3 (by omega) with h4|h4
   ·have:=hMlt k (.inl (List.mem_of_getElem? h1))
    omega
   ·exact h4
  rcases ρget i k h1 with h3|⟨g3,h3⟩<;>rcases ρget j k h2 with h4|⟨g4,h4⟩
  ·exact hm.bN i j k h3 h4
  ·exact(cross i j h3 g4 h4).elim
  ·exact(cross j i h4 g3 h3).elim
  ·have:=hm'.bN _ _ k h3 h4
   omega
 ·simp[Wj,WK,ZO,hm.tl,hm'.tl]
 ·intro i k c f h1 h2
  rw[frput]at h2
  rcases τget i _ h1 with⟨hn,h3⟩ | ⟨j,hj,h3⟩ | ⟨hge,h3⟩
  ·have hlt:i<fr.length:=by rw[<- hm.tl];exact(List.getElem?_eq_some_iff.1 h3).1
   rw[if_pos hlt,Ws fr ts fr' hn]at h2
   have hT:=hm.tat i k c f h3 h2
   obtain⟨cur,r1,r2⟩:=hT.row
   refine⟨⟨cur,(he.block k (Array.getElem?_eq_some_iff.1 r1).1 (farT i k c h3 hn)).trans r1,r2⟩,hT.le,hT.max,hT.pos,fun o ho hC=>?_⟩
   rcases he.newC k o hC with h4|h4|h4
   ·exact hT.far o ho h4
   ·have:=hMlt k (.inr ⟨c,List.mem_of_getElem? h3⟩)
    have h4:w.heap.size<=k:=h4
    omega
   ·exact farT i k c h3 hn h4
  ·have hlt:i<fr.length:=ht.2 i (List.mem_of_getElem? hj)
   have hjl:j<ts.length:=(List.getElem?_eq_some_iff.1 hj).1
   rw[if_pos hlt,Wh fr ts fr' ht.1 hj hlt (by omega)]at h2
   exact(hm'.tat j k c f h3 h2).same fun _ h=>h
  ·rw[if_neg (by rw[<- hm.tl];omega),<- hm.tl]at h2
   exact(hm'.tat _ k c f h3 h2).same fun _ h=>h
 ·intro i j k c c' h1 h2
  have cτ:∀(j c:Nat),g'.τ[j]?=some (k,c)->(M (g.sel bs ts) k)\/w.heap.size<=k:=fun j c hj=>by
   rcases he.τn k c (List.mem_of_getElem? hj) with⟨c',h⟩ | h
   ·exact .inl (.inr ⟨c',h⟩)
   ·exact .inr h
  have cross:∀(i j c c':Nat),i ∉ ts->g.τ[i]?=some (k,c)->g'.τ[j]?=some (k,c')->False:=fun i j c c' hn h1 h2=>by
   rcases cτ j c' h2 with h|h
   ·exact farT i k c h1 hn h
   ·have:=hMlt k (.inr ⟨c,List.mem_of_getElem? h1⟩)
    omega
  rcases τget i _ h1 with⟨hn,h3⟩ | ⟨x,hx,h3⟩ | ⟨g3,h3⟩<;>rcases τget j _ h2 with⟨hn',h4⟩ | ⟨y,hy,h4⟩ | ⟨g4,h4⟩
  ·exact hm.tN i j k c c' h3 h4
  ·exact(cross _ _ _ _ hn h3 h4).elim
  ·exact(cross _ _ _ _ hn h3 h4).elim
  ·exact(cross _ _ _ _ hn' h4 h3).elim
  ·have:=hm'.tN x y k c c' h3 h4
   subst this
   rw[hx]at hy;injection hy
  ·have:=hm'.tN x _ k c c' h3 h4
   have:=(List.getElem?_eq_some_iff.1 hx).1
   omega
  ·exact(cross _ _ _ _ hn' h4 h3).elim
  ·have:=hm'.tN _ y k c c' h3 h4
   have:=(List.getElem?_eq_some_iff.1 hy).1
   omega
  ·have:=hm'.tN _ _ k c c' h3 h4
   omega
 ·intro k c hk hr
  obtain⟨i,hi⟩:=List.getElem?_of_mem hk
  obtain⟨j,hj⟩:=List.getElem?_of_mem hr
  have callee:∀ x,g'.τ[x]?=some (k,c)->False:=fun x hx=>by
   rcases ρget j k hj with h4|⟨g4,h4⟩
   ·by_cases hn:j ∈ bs
    ·obtain⟨y,hy⟩:=List.getElem?_of_mem hn
     exact hm'.tρ k c (List.mem_of_getElem? hx) (List.mem_of_getElem? (ρsel y j k hy h4))
    ·rcases he.τn k c (List.mem_of_getElem? hx) with⟨c',h⟩ | h
     ·exact farB j k h4 hn (.inr ⟨c',h⟩)
     ·have:=hMlt k (.inl (List.mem_of_getElem? h4))
      have h:w.heap.size<=k:=h
      omega
   ·exact hm'.tρ k c (List.mem_of_getElem? hx) (List.mem_of_getElem? h4)
  rcases τget i _ hi with⟨hn,h3⟩ | ⟨x,_,h3⟩ | ⟨_,h3⟩
  ·rcases ρget j k hj with h4|⟨g4,h4⟩
   ·exact hm.tρ k c (List.mem_of_getElem? h3) (List.mem_of_getElem? h4)
   ·rcases cρ _ k h4 (by omega) with h5|h5
    ·have:=hMlt k (.inr ⟨c,List.mem_of_getElem? h3⟩)
     omega
    ·exact h5
  ·exact callee _ h3
  ·exact callee _ h3
 ·exact hm'.Clt
 ·exact hm'.gl
end
def Ur (P:Program)(f:FuncId):Bool:=match P.funcs[f]? with
 | some fn=>fn.name != "runtime.NumGoroutine" && fn.body.isSome
 | none=>false
theorem We {P:Program}{f:FuncId}(h:Ur P f=true)(args:Array Value)(w:World):(callFunc f args).run P w=.ok (.enter f args) w:=by
 unfold Ur at h
 cases hf:P.funcs[f]? with
 | none=>simp[hf]at h
 | some fn=>
  simp only[hf,Bool.and_eq_true,bne_iff_ne,ne_eq]at h
  have hb:fn.body.isNone=false:=by cases hb:fn.body<;>simp_all
  unfold callFunc
  cases hbb:fn.body with
  | none=>simp[hbb]at hb
  | some c=>simp[Sem.run_bind,program,Sem.run,hf,h.1,hbb]
theorem evs [Known][Dfr]{S:St}{b0:Bs}{g:G}{a:Act}{w:World}(hi:Inv b0 S g a w)(ars:Array Operand):∀(j:Nat) (d:D) (v:Value),(ars.toList.map (ev S.tm))[j]?=some d->(ars.toList.map a.eval)[j]?=some v->V w g S.fr d v:=fun j d v hd hv=>by
 rw[List.getElem?_map]at hd hv
 cases hj:ars.toList[j]? with
 | none=>simp[hj]at hd
 | some x=>simp[hj]at hd hv;subst hd hv;exact hi.ev x
def St.aft (S:St)(bs ts:List Nat)(bx':List (List D))(fr':List Fr)(t:Option Nat)(d:D):St:=
 ⟨S.n,match t with|some t=>(t,d.ren (upN bs S.bx.length) (upN ts S.fr.length))::S.tm|none=>S.tm,VU bs ts S.bx S.fr.length bx',WK ts S.fr fr',S.e⟩
theorem UY [Known][Dfr]{P:Program}{Q:X->St->Prop}{S:St}{ops:Array Oper}{rest:List Oper}{t:Option Nat}{ty:Nat}{pos:String}{after:Array Edge}{f:FuncId}{ars:Array Operand}{ats:Array TypeId}(bs ts:List Nat)
  {cds:List D} {bxs:List (List D)} {frs:List Fr} {post:R->List (List D)->List Fr->Prop} (hf:Ur P f=true) (hAC:AC P f cds bxs frs post)
  (hc:(ars.toList.map (ev S.tm)).map (D.ren (idx bs) (idx ts))=cds) (hb:YL bs S.bx.length) (ht:YL ts S.fr.length) (hbx:Uo bs ts S.bx=bxs) (hfr:WX ts S.fr=frs) (htd:(match t with|some t=>Nat.blt t S.n|none=>true)=true)
  (hp:∀ d bx' fr',post (.pan d) bx' fr'->bs.length<=bx'.length/\Q (.pan (d.ren (upN bs S.bx.length) (upN ts S.fr.length))) ⟨S.n,S.tm,VU bs ts S.bx S.fr.length bx',WK ts S.fr fr',S.e⟩)
  (k:∀ d bx' fr',post (.ret d) bx' fr'->bs.length<=bx'.length/\AL P ops rest (S.aft bs ts bx' fr' t d) Q):AL P ops (⟨t,.call { callee:=.value (.func f),args:=ars,argTypes:=ats },ty,pos,after,none⟩::rest) S Q:=by
 refine⟨fun b0 g a w hi=>?_⟩
 refine wpList_plain rfl fun K hK=>?_
 have hrun:(execOp a.eval ⟨t,.call { callee:=.value (.func f),args:=ars,argTypes:=ats },ty,pos,after,none⟩).run P w=.ok (.enter f (ars.toList.map a.eval).toArray) w:=by
  have e:ars.map a.eval=(ars.toList.map a.eval).toArray:=by rw[<- Array.toList_map,Array.toArray_toList]
  have hz:=We hf (ars.toList.map a.eval).toArray w
  rw[<- e]at hz ⊢
  simpa[execOp,resolve,Act.eval,Deferred.ofValue,invoke,Sem.run_bind]using hz
 unfold Oper.wp
 rw[hrun]
 have hm:=hi.mem
 have hcall:=hAC.run (g.sel bs ts) w (ars.toList.map a.eval) (by rw[<- hbx,<- hfr];exact hm.sel hb ht) (by rw[<- hc];simp) (fun j d v hd hv=>by
  rw[<- hc,List.getElem?_map]at hd
  cases hj:(ars.toList.map (ev S.tm))[j]? with
  | none=>simp only[hj,Option.map_none]at hd;cases hd
  | some d0=>
   simp only[hj,Option.map_some,Option.some.injEq]at hd
   subst hd
   rw[<- hfr]
   exact(evs hi ars j d0 v hj hv).sel hm hb ht)
 refine hcall.mono fun e w' ⟨g',bx',fr',r,he,hm',hr,hpost⟩=>?_
 rw[<- hfr]at he
 have common:bs.length<=bx'.length->Inv b0 ⟨S.n,S.tm,VU bs ts S.bx S.fr.length bx',WK ts S.fr fr',S.e⟩ (Wj bs ts g g') a w'/\∀ d v,V w' g' fr' d v->V w' (Wj bs ts g g') (WK ts S.fr fr') (d.ren (upN bs S.bx.length) (upN ts S.fr.length)) v:=fun hle=>by
  obtain⟨q1,q2,q3⟩:=Go.Av.aft hm hb ht he hm' hle
  exact⟨⟨hi.size,hi.defers,q1,fun t=>(hi.tm t).evo q2,hi.evo.trans q2,hi.bd⟩,q3⟩
 cases r with
 | ret d=>
  obtain⟨v,rfl,hv⟩:=hr
  obtain⟨hle,hk⟩:=k d bx' fr' hpost
  obtain⟨hi2,hup⟩:=common hle
  refine hK _ _ (hk.run b0 (Wj bs ts g g') _ w' ?_)
  cases t with
  | none=>exact hi2
  | some t=>exact hi2.put htd (hup d v hv)
 | pan d=>
  obtain⟨v,rfl,hv⟩:=hr
  obtain⟨hle,hq⟩:=hp d bx' fr' hpost
  obtain⟨hi2,hup⟩:=common hle
  exact⟨_,_,v,_,hi2,rfl,hup d v hv,hq⟩
end Go.Av
end

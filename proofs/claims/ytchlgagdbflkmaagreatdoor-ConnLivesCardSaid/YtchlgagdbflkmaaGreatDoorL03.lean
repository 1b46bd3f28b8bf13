/- A function's contract out of its body; a call of a function that has a contract. -/
import Derived.Test.YtchlgagdbflkmaaGreatDoorL02
set_option linter.unusedSimpArgs false
set_option linter.unusedVariables false
section
open Go.RowKit Go.Pl
namespace Go.Av

def IR (P:Program)(rs:List ResultVar)(k:Nat)(n:Nat)(post:R->List (List D)->List Fr->Prop)(S:St):Prop:=
 ∃ ds bs ts,ResL P S rs ds/\WK bs S.bx.length/\WK ts S.fr.length/\(∀ i,i<k->bs[i]?=some i)/\(∀ i,i<n->ts[i]?=some i)/\post (.ret ((Q5 ds).ren (idx bs) (idx ts))) (Qp bs ts S.bx) (VY ts S.fr)
def QV (P:Program)(rs:List ResultVar)(k:Nat)(n:Nat)(post:R->List (List D)->List Fr->Prop):X->St->Prop
 | .norm,S=>IR P rs k n post S
 | .ret,S=>IR P rs k n post S
 | .pan d,S=>∃ bs ts,WK bs S.bx.length/\WK ts S.fr.length/\(∀ i,i<k->bs[i]?=some i)/\(∀ i,i<n->ts[i]?=some i)/\post (.pan (d.ren (idx bs) (idx ts))) (Qp bs ts S.bx) (VY ts S.fr)
 | _,_=>False
theorem Evo.sel [Known]{b:Bs}{g:G}{bx:List (List D)}{fr:List Fr}{w:World}(h:Evo b ⟨g,fr,w⟩)(hm:Mem g bx fr w){bs ts:List Nat}(hb:WK bs bx.length)(ht:WK ts fr.length)
  (h1:∀ i,i<b.g.ρ.length->bs[i]?=some i) (h2:∀ i,i<b.fr.length->ts[i]?=some i):Evo b ⟨g.sel bs ts,VY ts fr,w⟩ where
 os:=h.os
 tape:=h.tape
 output:=h.output
 size:=h.size
 block:=h.block
 C:=h.C
 cell:=h.cell
 newC:=h.newC
 ρp i k hk:=by
  have hlt:i<b.g.ρ.length:=(List.getElem?_eq_some_iff.1 hk).1
  have:=h.ρp i k hk
  simp[G.sel,h1 i hlt,List.getD,this]
 ρn k hk:=by
  obtain⟨i,hi⟩:=List.getElem?_of_mem hk
  obtain⟨x,_,hx⟩:=QQ hm hb hi
  exact h.ρn k (List.mem_of_getElem? hx)
 τn k c hk:=by
  obtain⟨i,hi⟩:=List.getElem?_of_mem hk
  obtain⟨x,_,hx⟩:=Q4 hm ht hi
  exact h.τn k c (List.mem_of_getElem? hx)
 tok i f hf:=by
  have hlt:i<b.fr.length:=(List.getElem?_eq_some_iff.1 hf).1
  obtain⟨f',k1,k2,k3⟩:=h.tok i f hf
  have hlt2:i<g.τ.length:=by rw[hm.tl];exact(List.getElem?_eq_some_iff.1 k1).1
  refine⟨f',by simp[VY,h2 i hlt,List.getD,k1],k2,fun e=>?_⟩
  rw[<- k3 e]
  simp only[G.sel,List.getElem?_map,h2 i hlt,Option.map_some]
  exact(getD_some hlt2).symm
theorem Zp [Known]{P:Program}{f:FuncId}{fn:Func}{c:Code}{args:List D}{bx:List (List D)}{fr:List Fr}{post:R->List (List D)->List Fr->Prop}{n:Nat}{rs:List ResultVar}(hf:P.funcs[f]?=some fn)(hb:fn.body=some c)(hn:fn.ntmps=n)(hr:fn.results=rs.toArray)
  (hl:Nat.ble args.length n=true) (h:AW P c ⟨n,VZ 0 args,bx,fr,(bx.length,fr.length)⟩ (QV P rs bx.length fr.length post)):AC P f args bx fr post:=by
 refine⟨fun g w vs hm hlen hv=>?_⟩
 have hle:=Nat.le_of_ble_eq_true hl
 refine calls_of_wp hf hb ?_
 have hi:Inv ⟨g,fr,w⟩ ⟨n,VZ 0 args,bx,fr,(bx.length,fr.length)⟩ g { tmps:=vs.toArray++Array.replicate (fn.ntmps-vs.toArray.size) undef,defers:=[] } w:=by
  refine⟨by simp[hn];omega,rfl,hm,fun t=>?_,Evo.refl _,by rw[hm.bl];exact Nat.le_refl _,Nat.le_refl _⟩
  rw[Qq]
  simp only[Nat.zero_le,if_true,Nat.sub_zero]
  cases ht:args[t]? with
  | none=>exact .junk _
  | some d=>
   have hlt:t<args.length:=(List.getElem?_eq_some_iff.1 ht).1
   refine hv t d _ ht ?_
   have hlt2:t<vs.length:=by omega
   simp[Array.getD_getElem?,Array.getElem?_append,hlt2]
 refine wp_mono (h.run ⟨g,fr,w⟩ g _ w hi) fun e a' w' hc=>?_
 have fin:∀ S g',Inv ⟨g,fr,w⟩ S g' a' w'->IR P rs bx.length fr.length post S->a'.defers=[]/\∃ v,(results fn a'.tmps).run P w'=.ok v w'/\∃ g'' bx' fr' r,Evo ⟨g,fr,w⟩ ⟨g'',fr',w'⟩/\Mem g'' bx' fr' w'/\r.is w' g'' fr' (.returned v)/\post r bx' fr':=by
  intro S g' hi' hq
  obtain⟨ds,bs,ts,hrs,k1,k2,k3,k4,hp⟩:=hq
  obtain⟨v,hrun,hv⟩:=Qr hi' hr hrs
  refine⟨hi'.defers,v,hrun,_,_,_,.ret _,hi'.evo.sel hi'.mem k1 k2 (by rw[hm.bl];exact k3) k4,hi'.mem.sel k1 k2,⟨v,rfl,hv.sel hi'.mem k1 k2⟩,hp⟩
 cases e with
 | normal=>
  obtain⟨S,g',hi',hq⟩:=hc
  exact fin S g' hi' hq
 | ret=>
  obtain⟨S,g',hi',hq⟩:=hc
  exact fin S g' hi' hq
 | panic chain=>
  obtain⟨S,g',v,d,hi',rfl,hd,bs,ts,k1,k2,k3,k4,hp⟩:=hc
  exact⟨hi'.defers,_,_,_,.pan _,hi'.evo.sel hi'.mem k1 k2 (by rw[hm.bl];exact k3) k4,hi'.mem.sel k1 k2,⟨v,rfl,hd.sel hi'.mem k1 k2⟩,hp⟩
 | exit id=>obtain⟨S,g',hi',hq⟩:=hc;exact hq.elim
 | goto l=>obtain⟨S,g',hi',hq⟩:=hc;exact hq.elim
 | outgrown=>exact hc.elim

def upN (bs:List Nat)(n:Nat)(i:Nat):Option Nat:=match bs[i]? with
 | some b=>some b
 | none=>some (n+(i-bs.length))
def Vu {α:Type}(l:List α):List Nat->List α->List α
 | b::bs,x::xs=>(Vu l bs xs).set b x
 | _,_=>l
theorem ZX {α:Type}(l:List α):∀(bs:List Nat) (xs:List α),(Vu l bs xs).length=l.length
 | [],_=>by simp[Vu]
 | _::_,[]=>by simp[Vu]
 | b::bs,x::xs=>by simp[Vu,ZX l bs xs]
theorem VV {α:Type}(l:List α){i:Nat}:∀(bs:List Nat) (xs:List α),i ∉ bs->(Vu l bs xs)[i]?=l[i]?
 | [],_,_=>by simp[Vu]
 | _::_,[],_=>by simp[Vu]
 | b::bs,x::xs,h=>by
  simp only[List.mem_cons,not_or]at h
  simp only[Vu]
  rw[List.getElem?_set_ne (fun e=>h.1 e.symm),VV l bs xs h.2]
theorem VL {α:Type}(l:List α){j b:Nat}:∀(bs:List Nat) (xs:List α),(∀(i j b:Nat),bs[i]?=some b->bs[j]?=some b->i=j)->bs[j]?=some b->b<l.length->j<xs.length->(Vu l bs xs)[b]?=xs[j]?
 | [],_,_,h,_,_=>by simp at h
 | _::_,[],_,_,_,h=>by simp at h
 | c::bs,x::xs,hN,hj,hb,hx=>by
  simp only[Vu]
  cases j with
  | zero=>
   simp at hj;subst hj
   rw[List.getElem?_set_self (by rw[ZX];exact hb)]
   rfl
  | succ j=>
   simp at hj
   have hne:c ≠ b:=fun e=>by
    subst e
    have:=hN 0 (j+1) c rfl (by simpa using hj)
    omega
   rw[List.getElem?_set_ne hne]
   simpa using VL l bs xs (fun i j b h1 h2=>by have:=hN (i+1) (j+1) b (by simpa using h1) (by simpa using h2);omega) hj hb (by simpa using hx)
def Q6 (bs ts:List Nat)(bx:List (List D))(nf:Nat)(bx':List (List D)):List (List D):=
 Vu bx bs (bx'.map (D.rens (upN bs bx.length) (upN ts nf)))++(bx'.drop bs.length).map (D.rens (upN bs bx.length) (upN ts nf))
def Us (ts:List Nat)(fr:List Fr)(fr':List Fr):List Fr:=Vu fr ts fr'++fr'.drop ts.length
def VO (bs ts:List Nat)(g g':G):G:=⟨g'.C,g.ρ++g'.ρ.drop bs.length,Vu g.τ ts g'.τ++g'.τ.drop ts.length⟩
section
variable {g g':G} {bx bx':List (List D)} {fr fr':List Fr} {w w':World} {bs ts:List Nat}
theorem aft [Known](hm:Mem g bx fr w)(hb:WK bs bx.length)(ht:WK ts fr.length)(he:Evo ⟨g.sel bs ts,VY ts fr,w⟩ ⟨g',fr',w'⟩)(hm':Mem g' bx' fr' w')(hle:bs.length<=bx'.length) :
  Mem (VO bs ts g g') (Q6 bs ts bx fr.length bx') (Us ts fr fr') w'/\Evo ⟨g,fr,w⟩ ⟨VO bs ts g g',Us ts fr fr',w'⟩ /\
   ∀ d v,V w' g' fr' d v->V w' (VO bs ts g g') (Us ts fr fr') (d.ren (upN bs bx.length) (upN ts fr.length)) v:=by
 have hle':bs.length<=g'.ρ.length:=by rw[hm'.bl];exact hle
 have htl:ts.length<=fr'.length:=by
  rcases Nat.lt_or_ge fr'.length ts.length with h|h
  ·exfalso
   have h1:(VY ts fr)[fr'.length]?=some ((VY ts fr)[fr'.length]'(by simp[VY];exact h)):=List.getElem?_eq_getElem _
   obtain⟨f',h2,_⟩:=he.tok fr'.length _ h1
   simp at h2
  ·exact h
 have htl':ts.length<=g'.τ.length:=by rw[hm'.tl];exact htl
 have hMlt:∀ k,M g k->k<w.heap.size:=by
  rintro k (hk|⟨c,hk⟩)
  ·obtain⟨i,hi⟩:=List.getElem?_of_mem hk
   have hlt:i<bx.length:=by rw[<- hm.bl];exact(List.getElem?_eq_some_iff.1 hi).1
   obtain⟨vs,ty,h1,_⟩:=hm.bat i k _ hi (List.getElem?_eq_getElem hlt)
   exact(Array.getElem?_eq_some_iff.1 h1).1
  ·obtain⟨i,hi⟩:=List.getElem?_of_mem hk
   have hlt:i<fr.length:=by rw[<- hm.tl];exact(List.getElem?_eq_some_iff.1 hi).1
   obtain⟨cur,h1,_⟩:=(hm.tat i k c _ hi (List.getElem?_eq_getElem hlt)).row
   exact(Array.getElem?_eq_some_iff.1 h1).1
 have farB:∀(i k:Nat),g.ρ[i]?=some k->i ∉ bs->¬ M (g.sel bs ts) k:=by
  rintro i k hi hn (hk|⟨c,hk⟩)
  ·obtain⟨j,hj⟩:=List.getElem?_of_mem hk
   obtain⟨b,h1,h2⟩:=QQ hm hb hj
   have:=hm.bN i b k hi h2
   subst this
   exact hn (List.mem_of_getElem? h1)
  ·obtain⟨j,hj⟩:=List.getElem?_of_mem hk
   obtain⟨b,h1,h2⟩:=Q4 hm ht hj
   exact hm.tρ k c (List.mem_of_getElem? h2) (List.mem_of_getElem? hi)
 have farT:∀(i k:Nat) (c:Nat × Nat),g.τ[i]?=some (some (k,c))->i ∉ ts->¬ M (g.sel bs ts) k:=by
  rintro i k c hi hn (hk|⟨c',hk⟩)
  ·obtain⟨j,hj⟩:=List.getElem?_of_mem hk
   obtain⟨b,h1,h2⟩:=QQ hm hb hj
   exact hm.tρ k c (List.mem_of_getElem? hi) (List.mem_of_getElem? h2)
  ·obtain⟨j,hj⟩:=List.getElem?_of_mem hk
   obtain⟨b,h1,h2⟩:=Q4 hm ht hj
   have:=hm.tN i b k c c' hi h2
   subst this
   exact hn (List.mem_of_getElem? h1)
 have ρold:∀(i k:Nat),g.ρ[i]?=some k->(VO bs ts g g').ρ[i]?=some k:=fun i k hi=>by
  have hlt:=(List.getElem?_eq_some_iff.1 hi).1
  simp[VO,List.getElem?_append_left hlt,hi]
 have ρget:∀(i k:Nat),(VO bs ts g g').ρ[i]?=some k->g.ρ[i]?=some k\/(g.ρ.length<=i/\g'.ρ[bs.length+(i-g.ρ.length)]?=some k):=fun i k hi=>by
  simp only[VO]at hi
  rcases Nat.lt_or_ge i g.ρ.length with h|h
  ·rw[List.getElem?_append_left h]at hi;exact .inl hi
  ·rw[List.getElem?_append_right h,List.getElem?_drop]at hi
   exact .inr ⟨h,hi⟩
 have ρsel:∀(j b k:Nat),bs[j]?=some b->g.ρ[b]?=some k->g'.ρ[j]?=some k:=fun j b k hj hk=>he.ρp j k (by simp[G.sel,hj,List.getD,hk])
 have τget:∀(i:Nat) (p:Option (Nat × Nat × Nat)),(VO bs ts g g').τ[i]?=some p->(i ∉ ts/\g.τ[i]?=some p)\/(∃ j,ts[j]?=some i/\g'.τ[j]?=some p)\/(g.τ.length<=i/\g'.τ[ts.length+(i-g.τ.length)]?=some p):=fun i p hi=>by
  simp only[VO]at hi
  rcases Nat.lt_or_ge i g.τ.length with h|h
  ·rw[List.getElem?_append_left (by rw[ZX];exact h)]at hi
   by_cases hn:i ∈ ts
   ·obtain⟨j,hj⟩:=List.getElem?_of_mem hn
    have hjl:j<ts.length:=(List.getElem?_eq_some_iff.1 hj).1
    rw[VL g.τ ts g'.τ ht.1 hj h (by omega)]at hi
    exact .inr (.inl ⟨j,hj,hi⟩)
   ·rw[VV g.τ ts g'.τ hn]at hi
    exact .inl ⟨hn,hi⟩
  ·rw[List.getElem?_append_right (by rw[ZX];exact h),ZX,List.getElem?_drop]at hi
   exact .inr (.inr ⟨h,hi⟩)
 have frput:∀(i:Nat),(Us ts fr fr')[i]?=if i<fr.length then(Vu fr ts fr')[i]? else fr'[ts.length+(i-fr.length)]? := fun i=>by
  simp only[Us]
  split
  ·rw[List.getElem?_append_left (by rw[ZX];assumption)]
  ·rw[List.getElem?_append_right (by rw[ZX];omega),ZX,List.getElem?_drop]
 have hup:∀ d v,V w' g' fr' d v->V w' (VO bs ts g g') (Us ts fr fr') (d.ren (upN bs bx.length) (upN ts fr.length)) v:=by
  intro d v h
  refine h.ren _ _ (fun _ _ h=>h) (fun b b' blk hf hblk=>?_) (fun i j f0 hf hf0=>?_)
  ·unfold upN at hf
   cases hbb:bs[b]? with
   | some x=>
    simp only[hbb,Option.some.injEq]at hf
    subst hf
    have hx:x<g.ρ.length:=by rw[hm.bl];exact hb.2 x (List.mem_of_getElem? hbb)
    have h1:=getD_some (d:=0) hx
    have h2:=ρsel b x _ hbb h1
    rw[hblk]at h2
    injection h2 with h2
    exact ρold x blk (by rw[h1,h2])
   | none=>
    simp only[hbb,Option.some.injEq]at hf
    subst hf
    have hge:bs.length<=b:=by rcases Nat.lt_or_ge b bs.length with h|h;(· simp[h]at hbb);(· exact h)
    simp only[VO]
    rw[List.getElem?_append_right (by rw[hm.bl];omega),List.getElem?_drop,hm.bl,show bs.length+(bx.length+(b-bs.length)-bx.length)=b from by omega]
    exact hblk
  ·unfold upN at hf
   cases htt:ts[i]? with
   | some x=>
    simp only[htt,Option.some.injEq]at hf
    subst hf
    have hx:x<fr.length:=ht.2 x (List.mem_of_getElem? htt)
    have hi:i<ts.length:=(List.getElem?_eq_some_iff.1 htt).1
    refine⟨⟨f0,?_,rfl⟩,?_⟩
    ·rw[frput,if_pos hx,VL fr ts fr' ht.1 htt hx (by omega)];exact hf0
    ·simp only[VO]
     rw[List.getElem?_append_left (by rw[ZX,hm.tl];exact hx),VL g.τ ts g'.τ ht.1 htt (by rw[hm.tl];exact hx) (by omega)]
   | none=>
    simp only[htt,Option.some.injEq]at hf
    subst hf
    have hge:ts.length<=i:=by rcases Nat.lt_or_ge i ts.length with h|h;(· simp[h]at htt);(· exact h)
    refine⟨⟨f0,?_,rfl⟩,?_⟩
    ·rw[frput,if_neg (by omega),show ts.length+(fr.length+(i-ts.length)-fr.length)=i from by omega];exact hf0
    ·simp only[VO]
     rw[List.getElem?_append_right (by rw[ZX,hm.tl];omega),ZX,List.getElem?_drop,hm.tl,show ts.length+(fr.length+(i-ts.length)-fr.length)=i from by omega]
 have hevo:Evo ⟨g,fr,w⟩ ⟨VO bs ts g g',Us ts fr fr',w'⟩:=by
  refine⟨he.os,he.tape,he.output,he.size,fun k hk hn=>he.block k hk fun h=>hn (HW hm hb ht h),he.C,he.cell,fun k o h=>?_,ρold,fun k hk=>?_,fun k c hk=>?_,fun i f hf=>?_⟩
  ·rcases he.newC k o h with h1|h1|h1
   ·exact .inl h1
   ·exact .inr (.inl h1)
   ·exact .inr (.inr (HW hm hb ht h1))
  ·obtain⟨i,hi⟩:=List.getElem?_of_mem hk
   rcases ρget i k hi with h1|⟨_,h1⟩
   ·exact .inl (List.mem_of_getElem? h1)
   ·rcases he.ρn k (List.mem_of_getElem? h1) with h2|h2
    ·obtain⟨j,hj⟩:=List.getElem?_of_mem h2
     obtain⟨b,_,h3⟩:=QQ hm hb hj
     exact .inl (List.mem_of_getElem? h3)
    ·exact .inr h2
  ·obtain⟨i,hi⟩:=List.getElem?_of_mem hk
   have key:∀ c,some (k,c) ∈ g'.τ->(∃ c',some (k,c') ∈ g.τ)\/w.heap.size<=k:=fun c hc=>by
    rcases he.τn k c hc with⟨c',h2⟩ | h2
    ·obtain⟨j,hj⟩:=List.getElem?_of_mem h2
     obtain⟨b,_,h3⟩:=Q4 hm ht hj
     exact .inl ⟨c',List.mem_of_getElem? h3⟩
    ·exact .inr h2
   rcases τget i _ hi with⟨_,h1⟩ | ⟨j,_,h1⟩ | ⟨_,h1⟩
   ·exact .inl ⟨c,List.mem_of_getElem? h1⟩
   ·exact key c (List.mem_of_getElem? h1)
   ·exact key c (List.mem_of_getElem? h1)
  ·have hlt:i<fr.length:=(List.getElem?_eq_some_iff.1 hf).1
   by_cases hn:i ∈ ts
   ·obtain⟨j,hj⟩:=List.getElem?_of_mem hn
    have hjl:j<ts.length:=(List.getElem?_eq_some_iff.1 hj).1
    obtain⟨f',k1,k2,k3⟩:=he.tok j f (by simp[VY,hj,List.getD,hf])
    refine⟨f',by rw[frput,if_pos hlt,VL fr ts fr' ht.1 hj hlt (by omega)];exact k1,k2,fun e=>?_⟩
    have:=k3 e
    simp only[VO]
    rw[List.getElem?_append_left (by rw[ZX,hm.tl];exact hlt),VL g.τ ts g'.τ ht.1 hj (by rw[hm.tl];exact hlt) (by omega),this]
    simp only[G.sel,List.getElem?_map,hj,Option.map_some]
    exact(getD_some (by rw[hm.tl];exact hlt)).symm
   ·refine⟨f,by rw[frput,if_pos hlt,VV fr ts fr' hn];exact hf,Nat.le_refl _,fun _=>?_⟩
    simp only[VO]
    rw[List.getElem?_append_left (by rw[ZX,hm.tl];exact hlt),VV g.τ ts g'.τ hn]
 have cρ:∀(j k:Nat),g'.ρ[j]?=some k->bs.length<=j->(w.heap.size<=k\/False):=fun j k hj hge=>by
  rcases he.ρn k (List.mem_of_getElem? hj) with h2|h2
  ·obtain⟨i,hi⟩:=List.getElem?_of_mem h2
   have h3:=he.ρp i k hi
   have h4:=hm'.bN i j k h3 hj
   have h5:i<bs.length:=by have:=(List.getElem?_eq_some_iff.1 hi).1;simpa[G.sel]using this
   omega
  ·exact .inl h2
 refine⟨?_,hevo,hup⟩
 constructor
 ·simp[VO,Q6,ZX,hm.bl,hm'.bl]
 ·intro i k cs h1 h2
  have hB:∀(j:Nat) (cs0:List D),g'.ρ[j]?=some k->bx'[j]?=some cs0->cs=D.rens (upN bs bx.length) (upN ts fr.length) cs0->∃ vs ty,w'.heap[k]?=some (.cells vs ty (0,0))/\D.fits cs vs.size /\
    (∀(j:Nat) (d:D) (v:Value),(D.ex cs)[j]?=some d->vs[j]?=some v->V w' (VO bs ts g g') (Us ts fr fr') d v):=by
   rintro j cs0 hj hc rfl
   obtain⟨vs,ty,k1,k2,k3⟩:=hm'.bat j k cs0 hj hc
   refine⟨vs,ty,k1,J4 k2,fun x d v hd hv=>?_⟩
   rw[Kf,YG,List.getElem?_map]at hd
   cases hx:(D.ex cs0)[x]? with
   | none=>simp[hx]at hd
   | some d0=>simp[hx]at hd;subst hd;exact hup d0 v (k3 x d0 v hx hv)
  rcases ρget i k h1 with h3|⟨hge,h3⟩
  ·have hlt:i<bx.length:=by rw[<- hm.bl];exact(List.getElem?_eq_some_iff.1 h3).1
   simp only[Q6]at h2
   rw[List.getElem?_append_left (by rw[ZX];exact hlt)]at h2
   by_cases hn:i ∈ bs
   ·obtain⟨j,hj⟩:=List.getElem?_of_mem hn
    have hjl:j<bs.length:=(List.getElem?_eq_some_iff.1 hj).1
    rw[VL bx bs _ hb.1 hj hlt (by rw[List.length_map];omega),List.getElem?_map]at h2
    cases hc:bx'[j]? with
    | none=>simp[hc]at h2
    | some cs0=>
     simp[hc]at h2
     exact hB j cs0 (ρsel j i k hj h3) hc h2.symm
   ·rw[VV bx bs _ hn]at h2
    obtain⟨vs,ty,k1,k2,k3⟩:=hm.bat i k cs h3 h2
    exact⟨vs,ty,(he.block k (Array.getElem?_eq_some_iff.1 k1).1 (farB i k h3 hn)).trans k1,k2,fun j d v hd hv=>(k3 j d v hd hv).evo hevo⟩
  ·simp only[Q6]at h2
   rw[List.getElem?_append_right (by rw[ZX,<- hm.bl];exact hge),ZX,List.getElem?_map,List.getElem?_drop,<- hm.bl]at h2
   cases hc:bx'[bs.length+(i-g.ρ.length)]? with
   | none=>simp[hc]at h2
   | some cs0=>
    rw[hc]at h2
    simp only[Option.map_some,Option.some.injEq]at h2
    exact hB _ cs0 h3 hc (by rw[<- hm.bl];exact h2.symm)
 ·intro k o hk hC
  obtain⟨i,hi⟩:=List.getElem?_of_mem hk
  rcases ρget i k hi with h3|⟨_,h3⟩
  ·by_cases hn:i ∈ bs
   ·obtain⟨j,hj⟩:=List.getElem?_of_mem hn
    exact hm'.bC k o (List.mem_of_getElem? (ρsel j i k hj h3)) hC
   ·rcases he.newC k o hC with h4|h4|h4
    ·exact hm.bC k o (List.mem_of_getElem? h3) h4
    ·have:=hMlt k (.inl (List.mem_of_getElem? h3))
     have h4:w.heap.size<=k:=h4
     omega
    ·exact farB i k h3 hn h4
  ·exact hm'.bC k o (List.mem_of_getElem? h3) hC
 ·intro i j k h1 h2
  have cross:∀(i j:Nat),g.ρ[i]?=some k->g.ρ.length<=j->g'.ρ[bs.length+(j-g.ρ.length)]?=some k->False:=fun i j h1 h2 h3=>by
   rcases cρ _ k h3 (by omega) with h4|h4
   ·have:=hMlt k (.inl (List.mem_of_getElem? h1))
    omega
   ·exact h4
  rcases ρget i k h1 with h3|⟨g3,h3⟩<;>rcases ρget j k h2 with h4|⟨g4,h4⟩
  ·exact hm.bN i j k h3 h4
  ·exact(cross i j h3 g4 h4).elim
  ·exact(cross j i h4 g3 h3).elim
  ·have:=hm'.bN _ _ k h3 h4
   omega
 ·simp[VO,Us,ZX,hm.tl,hm'.tl]
 ·intro i k c f h1 h2
  rw[frput]at h2
  rcases τget i _ h1 with⟨hn,h3⟩ | ⟨j,hj,h3⟩ | ⟨hge,h3⟩
  ·have hlt:i<fr.length:=by rw[<- hm.tl];exact(List.getElem?_eq_some_iff.1 h3).1
   rw[if_pos hlt,VV fr ts fr' hn]at h2
   have hT:=hm.tat i k c f h3 h2
   obtain⟨cur,r1,r2⟩:=hT.row
   refine⟨⟨cur,(he.block k (Array.getElem?_eq_some_iff.1 r1).1 (farT i k c h3 hn)).trans r1,r2⟩,hT.le,hT.max,fun o ho hC=>?_⟩
   rcases he.newC k o hC with h4|h4|h4
   ·exact hT.far o ho h4
   ·have:=hMlt k (.inr ⟨c,List.mem_of_getElem? h3⟩)
    have h4:w.heap.size<=k:=h4
    omega
   ·exact farT i k c h3 hn h4
  ·have hlt:i<fr.length:=ht.2 i (List.mem_of_getElem? hj)
   have hjl:j<ts.length:=(List.getElem?_eq_some_iff.1 hj).1
   rw[if_pos hlt,VL fr ts fr' ht.1 hj hlt (by omega)]at h2
   exact(hm'.tat j k c f h3 h2).same fun _ h=>h
  ·rw[if_neg (by rw[<- hm.tl];omega),<- hm.tl]at h2
   exact(hm'.tat _ k c f h3 h2).same fun _ h=>h
 ·intro i j k c c' h1 h2
  have cτ:∀(j:Nat) (c:Nat × Nat),g'.τ[j]?=some (some (k,c))->(M (g.sel bs ts) k)\/w.heap.size<=k:=fun j c hj=>by
   rcases he.τn k c (List.mem_of_getElem? hj) with⟨c',h⟩ | h
   ·exact .inl (.inr ⟨c',h⟩)
   ·exact .inr h
  have cross:∀(i j:Nat) (c c':Nat × Nat),i ∉ ts->g.τ[i]?=some (some (k,c))->g'.τ[j]?=some (some (k,c'))->False:=fun i j c c' hn h1 h2=>by
   rcases cτ j c' h2 with h|h
   ·exact farT i k c h1 hn h
   ·have:=hMlt k (.inr ⟨c,List.mem_of_getElem? h1⟩)
    omega
  rcases τget i _ h1 with⟨hn,h3⟩ | ⟨x,hx,h3⟩ | ⟨g3,h3⟩<;>rcases τget j _ h2 with⟨hn',h4⟩ | ⟨y,hy,h4⟩ | ⟨g4,h4⟩
  ·exact hm.tN i j k c c' h3 h4
  ·exact(cross _ _ _ _ hn h3 h4).elim
  ·exact(cross _ _ _ _ hn h3 h4).elim
  ·exact(cross _ _ _ _ hn' h4 h3).elim
  ·have:=hm'.tN x y k c c' h3 h4
   subst this
   rw[hx]at hy;injection hy
  ·have:=hm'.tN x _ k c c' h3 h4
   have:=(List.getElem?_eq_some_iff.1 hx).1
   omega
  ·exact(cross _ _ _ _ hn' h4 h3).elim
  ·have:=hm'.tN _ y k c c' h3 h4
   have:=(List.getElem?_eq_some_iff.1 hy).1
   omega
  ·have:=hm'.tN _ _ k c c' h3 h4
   omega
 ·intro k c hk hr
  obtain⟨i,hi⟩:=List.getElem?_of_mem hk
  obtain⟨j,hj⟩:=List.getElem?_of_mem hr
  have callee:∀ x,g'.τ[x]?=some (some (k,c))->False:=fun x hx=>by
   rcases ρget j k hj with h4|⟨g4,h4⟩
   ·by_cases hn:j ∈ bs
    ·obtain⟨y,hy⟩:=List.getElem?_of_mem hn
     exact hm'.tρ k c (List.mem_of_getElem? hx) (List.mem_of_getElem? (ρsel y j k hy h4))
    ·rcases he.τn k c (List.mem_of_getElem? hx) with⟨c',h⟩ | h
     ·exact farB j k h4 hn (.inr ⟨c',h⟩)
     ·have:=hMlt k (.inl (List.mem_of_getElem? h4))
      have h:w.heap.size<=k:=h
      omega
   ·exact hm'.tρ k c (List.mem_of_getElem? hx) (List.mem_of_getElem? h4)
  rcases τget i _ hi with⟨hn,h3⟩ | ⟨x,_,h3⟩ | ⟨_,h3⟩
  ·rcases ρget j k hj with h4|⟨g4,h4⟩
   ·exact hm.tρ k c (List.mem_of_getElem? h3) (List.mem_of_getElem? h4)
   ·rcases cρ _ k h4 (by omega) with h5|h5
    ·have:=hMlt k (.inr ⟨c,List.mem_of_getElem? h3⟩)
     omega
    ·exact h5
  ·exact callee _ h3
  ·exact callee _ h3
 ·exact hm'.Clt
 ·exact hm'.gl
end
def Jh (P:Program)(f:FuncId):Bool:=match P.funcs[f]? with
 | some fn=>fn.name != "runtime.NumGoroutine" && fn.body.isSome
 | none=>false
theorem VK {P:Program}{f:FuncId}(h:Jh P f=true)(args:Array Value)(w:World):(callFunc f args).run P w=.ok (.enter f args) w:=by
 unfold Jh at h
 cases hf:P.funcs[f]? with
 | none=>simp[hf]at h
 | some fn=>
  simp only[hf,Bool.and_eq_true,bne_iff_ne,ne_eq]at h
  have hb:fn.body.isNone=false:=by cases hb:fn.body<;>simp_all
  unfold callFunc
  cases hbb:fn.body with
  | none=>simp[hbb]at hb
  | some c=>simp[Sem.run_bind,program,Sem.run,hf,h.1,hbb]
theorem evs [Known][Dfr]{S:St}{b0:Bs}{g:G}{a:Act}{w:World}(hi:Inv b0 S g a w)(ars:Array Operand):∀(j:Nat) (d:D) (v:Value),(ars.toList.map (ev S.tm))[j]?=some d->(ars.toList.map a.eval)[j]?=some v->V w g S.fr d v:=fun j d v hd hv=>by
 rw[List.getElem?_map]at hd hv
 cases hj:ars.toList[j]? with
 | none=>simp[hj]at hd
 | some x=>simp[hj]at hd hv;subst hd hv;exact hi.ev x
def St.aft (S:St)(bs ts:List Nat)(bx':List (List D))(fr':List Fr)(t:Option Nat)(d:D):St:=
 ⟨S.n,match t with|some t=>(t,d.ren (upN bs S.bx.length) (upN ts S.fr.length))::S.tm|none=>S.tm,Q6 bs ts S.bx S.fr.length bx',Us ts S.fr fr',S.e⟩
theorem Ki [Known][Dfr]{P:Program}{Q:X->St->Prop}{S:St}{ops:Array Oper}{rest:List Oper}{t:Option Nat}{ty:Nat}{pos:String}{after:Array Edge}{f:FuncId}{ars:Array Operand}{ats:Array TypeId}(bs ts:List Nat)
  {cds:List D} {bxs:List (List D)} {frs:List Fr} {post:R->List (List D)->List Fr->Prop} (hf:Jh P f=true) (hAC:AC P f cds bxs frs post)
  (hc:(ars.toList.map (ev S.tm)).map (D.ren (idx bs) (idx ts))=cds) (hb:WK bs S.bx.length) (ht:WK ts S.fr.length) (hbx:Qp bs ts S.bx=bxs) (hfr:VY ts S.fr=frs) (htd:(match t with|some t=>Nat.blt t S.n|none=>true)=true)
  (hp:∀ d bx' fr',post (.pan d) bx' fr'->bs.length<=bx'.length/\Q (.pan (d.ren (upN bs S.bx.length) (upN ts S.fr.length))) ⟨S.n,S.tm,Q6 bs ts S.bx S.fr.length bx',Us ts S.fr fr',S.e⟩)
  (k:∀ d bx' fr',post (.ret d) bx' fr'->bs.length<=bx'.length/\AL P ops rest (S.aft bs ts bx' fr' t d) Q):AL P ops (⟨t,.call { callee:=.value (.func f),args:=ars,argTypes:=ats },ty,pos,after,none⟩::rest) S Q:=by
 refine⟨fun b0 g a w hi=>?_⟩
 refine wpList_plain rfl fun K hK=>?_
 have hrun:(execOp a.eval ⟨t,.call { callee:=.value (.func f),args:=ars,argTypes:=ats },ty,pos,after,none⟩).run P w=.ok (.enter f (ars.toList.map a.eval).toArray) w:=by
  have e:ars.map a.eval=(ars.toList.map a.eval).toArray:=by rw[<- Array.toList_map,Array.toArray_toList]
  have hz:=VK hf (ars.toList.map a.eval).toArray w
  rw[<- e]at hz ⊢
  simpa[execOp,resolve,Act.eval,Deferred.ofValue,invoke,Sem.run_bind]using hz
 unfold Oper.wp
 rw[hrun]
 have hm:=hi.mem
 have hcall:=hAC.run (g.sel bs ts) w (ars.toList.map a.eval) (by rw[<- hbx,<- hfr];exact hm.sel hb ht) (by rw[<- hc];simp) (fun j d v hd hv=>by
  rw[<- hc,List.getElem?_map]at hd
  cases hj:(ars.toList.map (ev S.tm))[j]? with
  | none=>simp only[hj,Option.map_none]at hd;cases hd
  | some d0=>
   simp only[hj,Option.map_some,Option.some.injEq]at hd
   subst hd
   rw[<- hfr]
   exact(evs hi ars j d0 v hj hv).sel hm hb ht)
 refine hcall.mono fun e w' ⟨g',bx',fr',r,he,hm',hr,hpost⟩=>?_
 rw[<- hfr]at he
 have common:bs.length<=bx'.length->Inv b0 ⟨S.n,S.tm,Q6 bs ts S.bx S.fr.length bx',Us ts S.fr fr',S.e⟩ (VO bs ts g g') a w'/\∀ d v,V w' g' fr' d v->V w' (VO bs ts g g') (Us ts S.fr fr') (d.ren (upN bs S.bx.length) (upN ts S.fr.length)) v:=fun hle=>by
  obtain⟨q1,q2,q3⟩:=Go.Av.aft hm hb ht he hm' hle
  exact⟨⟨hi.size,hi.defers,q1,fun t=>(hi.tm t).evo q2,hi.evo.trans q2,hi.bd⟩,q3⟩
 cases r with
 | ret d=>
  obtain⟨v,rfl,hv⟩:=hr
  obtain⟨hle,hk⟩:=k d bx' fr' hpost
  obtain⟨hi2,hup⟩:=common hle
  refine hK _ _ (hk.run b0 (VO bs ts g g') _ w' ?_)
  cases t with
  | none=>exact hi2
  | some t=>exact hi2.put htd (hup d v hv)
 | pan d=>
  obtain⟨v,rfl,hv⟩:=hr
  obtain⟨hle,hq⟩:=hp d bx' fr' hpost
  obtain⟨hi2,hup⟩:=common hle
  exact⟨_,_,v,_,hi2,rfl,hup d v hv,hq⟩
end Go.Av
end
section
open Go.RowKit Go.Pl
namespace Go.Av
section
variable {P:Program} {Q:X->St->Prop} {S:St}
theorem Wb [Known][Dfr]{x y:Code}(h:AW P x S (X.then (fun S=>AW P y S Q) Q)):AW P (.seq x y) S Q:=H5 fun K hK=>JU h fun x S h=>by
 cases x<;>simp only[X.then]at h ⊢
 ·exact hK _ h
 all_goals exact h
theorem ZU {K:St->Prop}(h:K S):X.then K Q .norm S:=h
theorem YQ {K:St->Prop}{i:Nat}(h:Q (.exit i) S):X.then K Q (.exit i) S:=h
theorem YR {K:St->Prop}{i:Nat}(h:Q (.goto i) S):X.then K Q (.goto i) S:=h
theorem Yu {K:St->Prop}(h:Q .ret S):X.then K Q .ret S:=h
theorem Wj {K:St->Prop}{d:D}(h:Q (.pan d) S):X.then K Q (.pan d) S:=h
theorem Wk {id:Nat}(h:Q .norm S):X.inBlock id Q (.exit id) S:=by simpa[X.inBlock]using h
theorem WW {id i:Nat}(hne:Nat.beq i id=false)(h:Q (.exit i) S):X.inBlock id Q (.exit i) S:=by
 have:i ≠ id:=fun e=>by subst e;simp at hne
 simpa[X.inBlock,this]using h
theorem Wl {id i:Nat}(h:Q (.goto i) S):X.inBlock id Q (.goto i) S:=h
theorem WX {id:Nat}(h:Q .ret S):X.inBlock id Q .ret S:=h
theorem WY {id:Nat}{d:D}(h:Q (.pan d) S):X.inBlock id Q (.pan d) S:=h
theorem Yq [Known][Dfr]{n:Nat}{ee:Nat × Nat}{tm:List (Nat × D)}{bx:List (List D)}{fr:List Fr}{x y:Code}{b:Bool}{t:Nat}(hd:look tm t=.bool b)(h1:b=true->AW P x ⟨n,tm,bx,fr,ee⟩ Q)(h2:b=false->AW P y ⟨n,tm,bx,fr,ee⟩ Q):AW P (.cond (.tmp t) x y) ⟨n,tm,bx,fr,ee⟩ Q:=Ke rfl hd h1 h2
theorem IS [Known][Dfr]{n:Nat}{ee:Nat × Nat}{tm:List (Nat × D)}{bx:List (List D)}{fr:List Fr}{x y:Code}{t:Nat}(hd:look tm t=.bool true)(h1:AW P x ⟨n,tm,bx,fr,ee⟩ Q):AW P (.cond (.tmp t) x y) ⟨n,tm,bx,fr,ee⟩ Q:=Ke rfl hd (fun _=>h1) (fun h=>by cases h)
theorem IT [Known][Dfr]{n:Nat}{ee:Nat × Nat}{tm:List (Nat × D)}{bx:List (List D)}{fr:List Fr}{x y:Code}{t:Nat}(hd:look tm t=.bool false)(h1:AW P y ⟨n,tm,bx,fr,ee⟩ Q):AW P (.cond (.tmp t) x y) ⟨n,tm,bx,fr,ee⟩ Q:=Ke rfl hd (fun h=>by cases h) (fun _=>h1)
end
def AP [Known](P:Program)(f:FuncId)(args:List D)(d:D)(frs:List Fr):Prop:=AC P f args [] [] fun r bx fr=>r=.ret d/\bx=[]/\fr=frs
theorem J5 [Known][Dfr]{P:Program}{Q:X->St->Prop}{n:Nat}{ee:Nat × Nat}{tm:List (Nat × D)}{bx:List (List D)}{fr:List Fr}{ops:Array Oper}{rest:List Oper}{t:Nat}{ty:Nat}{pos:String}{after:Array Edge}{f:FuncId}{ars:Array Operand}{ats:Array TypeId}
  {cds:List D} {d d':D} {frs fr':List Fr} (hAC:AP P f cds d frs) (hf:Jh P f=true)
  (hc:(ars.toList.map (ev tm)).map (D.ren (idx []) (idx []))=cds) (htd:Nat.blt t n=true) (hd:nf (d.ren (upN [] bx.length) (upN [] fr.length))=some d') (hfr:nfl (fr++frs)=some fr')
  (k:AL P ops rest ⟨n,(t,d')::tm,bx,fr',ee⟩ Q):AL P ops (⟨some t,.call { callee:=.value (.func f),args:=ars,argTypes:=ats },ty,pos,after,none⟩::rest) ⟨n,tm,bx,fr,ee⟩ Q:=by
 refine Ki [] [] hf hAC hc (Wi _) (Wi _) rfl rfl htd (fun _ _ _ h=>by cases h.1) fun d0 bx' fr' h=>?_
 obtain⟨h1,rfl,rfl⟩:=h
 injection h1 with h1
 subst h1
 refine⟨Nat.le_refl _,?_⟩
 have e1:=YZ hd
 have e2:=YO hfr
 subst e1 e2
 simpa[St.aft,Q6,Us,Vu]using k
end Go.Av
end
section
open Go.RowKit Go.Pl
namespace Go.Av

inductive ZK where
 | b|i (k:IntKind)|s|p|l|f|n
 deriving DecidableEq,Repr
def ZK.d:ZK->D
 | .b=>.bool false
 | .i k=>.int k 0
 | .s=>.str []
 | .p=>.nilp
 | .l=>.sl .nil []
 | .f=>.nilf
 | .n=>.nili
def zk:Value->Option ZK
 | .bool false=>some .b
 | .int k n=>if n=0 then some (.i k) else none
 | .string s=>if s.size=0 then some .s else none
 | .pointer none=>some .p
 | .slice none 0 0=>some .l
 | .nilFunc=>some .f
 | .nilIface=>some .n
 | _=>none
theorem TU {w:World}{g:G}{fr:List Fr}{v:Value}{z:ZK}(h:zk v=some z):V w g fr z.d v/\v.oneCell'=true:=by
 unfold zk at h
 split at h
 ·cases h;exact⟨.bool _,rfl⟩
 ·split at h
  ·cases h;rename_i k n h0;subst h0;exact⟨.int _ _,rfl⟩
  ·cases h
 ·split at h
  ·cases h
   rename_i s h0
   have e:s=⟨([]:List UInt8).toArray⟩:=by
    obtain⟨a⟩:=s
    have:a = #[]:=Array.eq_empty_of_size_eq_zero h0
    rw[this]
   rw[e]
   exact⟨.str [] (Nat.zero_le _),rfl⟩
  ·cases h
 ·cases h;exact⟨.nilp,rfl⟩
 ·cases h;exact⟨.sl .nil [] _ (.slE _ _ (Nat.zero_le _)) rfl,rfl⟩
 ·cases h;exact⟨.nilf,rfl⟩
 ·cases h;exact⟨.nili,rfl⟩
 ·cases h
def zks:List Value->Option (List ZK)
 | []=>some []
 | v::l=>match zk v,zks l with
  | some z,some zs=>some (z::zs)
  | _,_=>none
theorem Ji {w:World}{g:G}{fr:List Fr}:∀ {l:List Value} {zs:List ZK},zks l=some zs->l.length=zs.length/\∀(j:Nat) (d:D) (v:Value),(zs.map ZK.d)[j]?=some d->l[j]?=some v->V w g fr d v/\v.oneCell'=true
 | [],zs,h=>by simp[zks]at h;subst h;simp
 | v::l,zs,h=>by
  cases hv:zk v with
  | none=>simp[zks,hv]at h
  | some z=>
   cases hl:zks l with
   | none=>simp[zks,hv,hl]at h
   | some zs'=>
    simp[zks,hv,hl]at h;subst h
    obtain⟨h1,h2⟩:=Ji (w:=w) (g:=g) (fr:=fr) hl
    refine⟨by simp[h1],fun j d u hd hu=>?_⟩
    cases j with
    | zero=>simp at hd hu;subst hd hu;exact TU hv
    | succ j=>simp only[List.map_cons,List.getElem?_cons_succ]at hd hu;exact h2 j d u hd hu
structure Fd where
 off:Nat
 size:Nat
 agg:Bool
 ty:Nat
 deriving DecidableEq,Repr
inductive Kd where
 | bool|int (k:IntKind)|str|ptr (e:Nat)|slice (e:Nat)|struct (fs:List Fd)|array (n e:Nat)|iface|func|other
 deriving DecidableEq,Repr
structure Ti where
 kd:Kd
 size:Nat
 bytes:Nat
 zero:List ZK
 deriving DecidableEq,Repr
def JO (P:Program):TypeDesc->Kd
 | .bool=>.bool
 | .int k=>.int k
 | .string=>.str
 | .pointer e=>.ptr e
 | .slice e=>.slice e
 | .struct fs=>if fs.toList.all (fun f=>(tSize P f.type).isSome&&(tAgg P f.type).isSome) then .struct (fs.toList.map fun f=>⟨f.offset,(tSize P f.type).getD 0,(tAgg P f.type).getD false,f.type⟩) else .other
 | .array n e=>.array n e
 | .interface _=>.iface
 | .func .. => .func
 | _=>.other
def IU (P:Program)(t:TypeId):Option Ti:=
 match P.info? t,P.underlying t with
 | some i,some u=>match i.zero with
  | some z=>match zks z.cells.toList with
   | some zs=>if zs.length=i.size/\JO P u ≠ .other then some ⟨JO P u,i.size,i.bytes,zs⟩ else none
   | none=>none
  | none=>none
 | _,_=>none
abbrev Tab:=List (Nat × Ti)
def tl:Tab->Nat->Option Ti
 | [],_=>none
 | (k,i)::l,t=>match Nat.beq k t with
  | true=>some i
  | false=>tl l t
def chk (P:Program)(T:Tab):Bool:=T.all fun p=>decide (IU P p.1=some p.2)
structure TiOk (P:Program) (t:TypeId) (ti:Ti):Prop where
 out:∃ i u z,P.info? t=some i/\P.underlying t=some u/\i.zero=some z/\ti.kd=JO P u/\ti.size=i.size/\ti.bytes=i.bytes/\zks z.cells.toList=some ti.zero
 len:ti.zero.length=ti.size
 ne:ti.kd ≠ .other
theorem Z9 {P:Program}{T:Tab}(hT:chk P T=true){t:Nat}{ti:Ti}(h:tl T t=some ti):TiOk P t ti:=by
 have key:∀ T:Tab,chk P T=true->tl T t=some ti->IU P t=some ti:=by
  intro T
  induction T with
  | nil=>intro _ h;simp[tl]at h
  | cons p l ih=>
   obtain⟨k,i⟩:=p
   intro hT h
   simp only[chk,List.all_cons,Bool.and_eq_true,decide_eq_true_eq]at hT
   simp only[tl]at h
   cases hb:Nat.beq k t with
   | true=>
    have:=Nat.eq_of_beq_eq_true hb
    subst this
    simp only[hb,Option.some.injEq]at h
    subst h
    exact hT.1
   | false=>simp only[hb]at h;exact ih hT.2 h
 have h:=key T hT h
 unfold IU at h
 cases hi:P.info? t with
 | none=>simp[hi]at h
 | some i=>
  cases hu:P.underlying t with
  | none=>simp[hi,hu]at h
  | some u=>
   cases hz:i.zero with
   | none=>simp[hi,hu,hz]at h
   | some z=>
    cases hzs:zks z.cells.toList with
    | none=>simp only[hi,hu,hz,hzs]at h;cases h
    | some zs=>
     simp only[hi,hu,hz,hzs]at h
     split at h
     ·injection h with h
      subst h
      exact⟨⟨i,u,z,hi,hu,hz,rfl,rfl,rfl,hzs⟩,‹_/\_›.1,‹_/\_›.2⟩
     ·cases h
theorem OR {P:Program}{T:Tab}(hT:chk P T=true){t:Nat}{ti:Ti}(h:tl T t=some ti):ti.size=ti.zero.length:=(Z9 hT h).len.symm
section
variable {P:Program} {t:TypeId} {ti:Ti}
def Kd.agg:Kd->Bool
 | .struct _ | .array _ _=>true
 | _=>false
theorem TiOk.tAgg (h:TiOk P t ti):tAgg P t=some ti.kd.agg:=by
 obtain⟨i,u,z,h1,h2,h3,h4,h5,h6,h7⟩:=h.out
 unfold Go.Av.tAgg
 rw[h2,h4]
 have hne:=h.ne
 rw[h4]at hne
 cases u<;>first|rfl|skip
 rename_i fs
 simp only[JO]at hne ⊢
 split
 ·rfl
 ·rename_i hh;rw[if_neg hh]at hne;exact(hne rfl).elim
theorem TiOk.tSize (h:TiOk P t ti):tSize P t=some ti.size:=by
 obtain⟨i,u,z,h1,h2,h3,h4,h5,h6,h7⟩:=h.out
 simp[Go.Av.tSize,h1,h5]
theorem TiOk.slice (h:TiOk P t ti){e:Nat}(hk:ti.kd=.slice e):P.underlying t=some (.slice e):=by
 obtain⟨i,u,z,h1,h2,h3,h4,h5,h6,h7⟩:=h.out
 rw[h2];rw[hk]at h4
 cases u<;>simp only[JO]at h4<;>first|(split at h4<;>cases h4;done)|cases h4
 rfl
theorem TiOk.str (h:TiOk P t ti)(hk:ti.kd=.str):P.underlying t=some .string:=by
 obtain⟨i,u,z,h1,h2,h3,h4,h5,h6,h7⟩:=h.out
 rw[h2];rw[hk]at h4
 cases u<;>simp only[JO]at h4<;>first|(split at h4<;>cases h4;done)|cases h4
 rfl
theorem TiOk.int (h:TiOk P t ti){k:IntKind}(hk:ti.kd=.int k):P.underlying t=some (.int k):=by
 obtain⟨i,u,z,h1,h2,h3,h4,h5,h6,h7⟩:=h.out
 rw[h2];rw[hk]at h4
 cases u<;>simp only[JO]at h4<;>first|(split at h4<;>cases h4;done)|cases h4
 rfl
theorem TiOk.struct' (h:TiOk P t ti){fs:List Fd}(hk:ti.kd=.struct fs):∃ fields,P.underlying t=some (.struct fields)/\(fs=fields.toList.map fun f=>⟨f.offset,(Go.Av.tSize P f.type).getD 0,(Go.Av.tAgg P f.type).getD false,f.type⟩)/\∀ f ∈ fields.toList,(Go.Av.tSize P f.type).isSome=true/\(Go.Av.tAgg P f.type).isSome=true:=by
 obtain⟨i,u,z,h1,h2,h3,h4,h5,h6,h7⟩:=h.out
 rw[hk]at h4
 cases u<;>simp only[JO]at h4<;>first|cases h4|skip
 split at h4
 ·rename_i fs' hall
  injection h4 with h4
  refine⟨_,h2,h4,fun f hf=>?_⟩
  have:=List.all_eq_true.1 hall f hf
  simpa using this
 ·cases h4
theorem TiOk.struct (h:TiOk P t ti){fs:List Fd}(hk:ti.kd=.struct fs):∃ fields,P.underlying t=some (.struct fields)/\fs=fields.toList.map fun f=>⟨f.offset,(Go.Av.tSize P f.type).getD 0,(Go.Av.tAgg P f.type).getD false,f.type⟩:=by
 obtain⟨fields,h1,h2,_⟩:=h.struct' hk
 exact⟨fields,h1,h2⟩
theorem TiOk.under (h:TiOk P t ti):∃ u,P.underlying t=some u/\ti.kd=JO P u:=by
 obtain⟨i,u,z,h1,h2,h3,h4,h5,h6,h7⟩:=h.out
 exact⟨u,h2,h4⟩
theorem TiOk.zero (h:TiOk P t ti)(w:World):∃ z,(zeroValue t).run P w=.ok z w/\zks z.cells.toList=some ti.zero:=by
 obtain⟨i,u,z,h1,h2,h3,h4,h5,h6,h7⟩:=h.out
 exact⟨z,by simp[zeroValue,typeInfo,Sem.run_bind,h1,h3],h7⟩
end
section
variable {P:Program} {Q:X->St->Prop} {n:Nat} {ee:Nat × Nat} {tm:List (Nat × D)} {bx:List (List D)} {fr:List Fr} {b0:Bs} {g:G} {w:World} {a:Act} {T:Tab}
variable {ops:Array Oper} {rest:List Oper} {t ty:Nat} {pos:String} {after:Array Edge}
theorem Y2 [Known][Dfr](hT:chk P T=true){x:Operand}{lt b o:Nat}{cs:List D}{d:D}{ti:Ti}(hx:ev tm x=.ptr b o)(ht:tl T lt=some ti)(ha:ti.kd.agg=false)(hb:bx[b]?=some cs)(hd:cs[o]?=some d)(htd:Nat.blt t n=true)
  (k:AL P ops rest ⟨n,(t,d)::tm,bx,fr,ee⟩ Q):AL P ops (⟨some t,.load lt x,ty,pos,after,none⟩::rest) ⟨n,tm,bx,fr,ee⟩ Q:=
 Z6 d htd (fun g a w hi=>by
  have h1:V w g fr (ev tm x) (a.eval x):=hi.ev x
  rw[hx]at h1
  obtain⟨u,h2,h3⟩:=XH (P:=P) hi.mem (by rw[(Z9 hT ht).tAgg,ha]) h1 hb hd
  exact⟨u,by simp[execOp,Sem.run_bind,h2],h3⟩) k
theorem Wm [Known][Dfr](hT:chk P T=true){x:Operand}{lt b o:Nat}{cs cs':List D}{ti:Ti}(hx:ev tm x=.ptr b o)(ht:tl T lt=some ti)(ha:ti.kd.agg=true)(hb:bx[b]?=some cs)(ho:Nat.ble (o+ti.size) cs.length=true)(hd:nfs ((cs.drop o).take ti.size)=some cs')(htd:Nat.blt t n=true)
  (k:AL P ops rest ⟨n,(t,.agg cs')::tm,bx,fr,ee⟩ Q):AL P ops (⟨some t,.load lt x,ty,pos,after,none⟩::rest) ⟨n,tm,bx,fr,ee⟩ Q:=
 Z6 _ htd (fun g a w hi=>by
  have h1:V w g fr (ev tm x) (a.eval x):=hi.ev x
  rw[hx]at h1
  have ti:=Z9 hT ht
  obtain⟨u,h2,h3⟩:=XI (P:=P) hi.mem (by rw[ti.tAgg,ha]) ti.tSize h1 hb (Nat.le_of_ble_eq_true ho)
  rw[Vl hd]at h3
  exact⟨u,by simp[execOp,Sem.run_bind,h2],h3⟩) k
theorem YS [Known][Dfr](hT:chk P T=true){x:Operand}{lt o:Nat}{cs:List E}{e:E}{d:D}{ti:Ti}(hx:ev tm x=.eptr cs o)(ht:tl T lt=some ti)(ha:ti.kd.agg=false)(he:cs[o]?=some e)(hd:nf (.ofE e)=some d)(htd:Nat.blt t n=true)
  (k:AL P ops rest ⟨n,(t,d)::tm,bx,fr,ee⟩ Q):AL P ops (⟨some t,.load lt x,ty,pos,after,none⟩::rest) ⟨n,tm,bx,fr,ee⟩ Q:=
 Z6 d htd (fun g a w hi=>by
  have h1:V w g fr (ev tm x) (a.eval x):=hi.ev x
  rw[hx]at h1
  obtain⟨u,h2,h3⟩:=Oj (P:=P) (by rw[(Z9 hT ht).tAgg,ha]) h1 he
  rw[YZ hd]at h3
  exact⟨u,by simp[execOp,Sem.run_bind,h2],h3⟩) k
theorem YT [Known][Dfr](hT:chk P T=true){x:Operand}{lt o:Nat}{cs:List E}{cs':List D}{ti:Ti}(hx:ev tm x=.eptr cs o)(ht:tl T lt=some ti)(ha:ti.kd.agg=true)(ho:Nat.ble (o+ti.size) cs.length=true)(hd:nfs (((cs.drop o).take ti.size).map .ofE)=some cs')(htd:Nat.blt t n=true)
  (k:AL P ops rest ⟨n,(t,.agg cs')::tm,bx,fr,ee⟩ Q):AL P ops (⟨some t,.load lt x,ty,pos,after,none⟩::rest) ⟨n,tm,bx,fr,ee⟩ Q:=
 Z6 _ htd (fun g a w hi=>by
  have h1:V w g fr (ev tm x) (a.eval x):=hi.ev x
  rw[hx]at h1
  have ti:=Z9 hT ht
  obtain⟨u,h2,h3⟩:=Ok (P:=P) (by rw[ti.tAgg,ha]) ti.tSize h1 (Nat.le_of_ble_eq_true ho)
  rw[Vl hd]at h3
  exact⟨u,by simp[execOp,Sem.run_bind,h2],h3⟩) k
theorem JG {st:TypeId}{f:Nat}{ti:Ti}{fs:List Fd}{fd:Fd}(hti:TiOk P st ti)(hk:ti.kd=.struct fs)(hf:fs[f]?=some fd)(hs:Nat.beq fd.size 0=false)(w:World)(b o:Nat) :
  (Instr.fieldAt st (.pointer (some ⟨b,o,none⟩)) f).run P w=.ok (.pointer (some ⟨b,o+fd.off,none⟩)) w:=by
 obtain⟨fields,h1,rfl⟩:=hti.struct hk
 rw[List.getElem?_map]at hf
 cases hff:fields[f]? with
 | none=>simp[hff]at hf
 | some fl=>
  have hff':fields.toList[f]?=some fl:=by simpa using hff
  rw[hff']at hf
  simp only[Option.map_some,Option.some.injEq]at hf
  subst hf
  cases hsz:Go.Av.tSize P fl.type with
  | none=>simp[hsz]at hs
  | some k=>
   have hk0:k ≠ 0:=fun e=>by simp[hsz,e]at hs
   have hadd:(⟨b,o,none⟩:Addr).add fl.offset=⟨b,o+fl.offset,none⟩:=by unfold Addr.add;split<;>simp_all
   simp[Instr.fieldAt,Instr.sureAddr,fieldPlace,Sem.run_bind,run_underlying h1,hff,Y1 hsz,hk0,hadd]
theorem Z7 [Known][Dfr](hT:chk P T=true){x:Operand}{st f b o o':Nat}{ti:Ti}{fs:List Fd}{fd:Fd}(hx:ev tm x=.ptr b o)(ht:tl T st=some ti)(hk:ti.kd=.struct fs)(hf:fs[f]?=some fd)(hs:Nat.beq fd.size 0=false)(ho:o+fd.off=o')(htd:Nat.blt t n=true)
  (k:AL P ops rest ⟨n,(t,.ptr b o')::tm,bx,fr,ee⟩ Q):AL P ops (⟨some t,.fieldAddr st x f,ty,pos,after,none⟩::rest) ⟨n,tm,bx,fr,ee⟩ Q:=
 Z6 _ htd (fun g a w hi=>by
  have h1:V w g fr (ev tm x) (a.eval x):=hi.ev x
  rw[hx]at h1
  obtain⟨blk,h2,h3⟩:=Kh h1
  subst ho
  exact⟨.pointer (some ⟨blk,o+fd.off,none⟩),by simp[execOp,Sem.run_bind,h3,JG (Z9 hT ht) hk hf hs],.ptr _ _ blk h2⟩) k
theorem Ya [Known][Dfr](hT:chk P T=true){x:Operand}{st f o o':Nat}{cs:List E}{ti:Ti}{fs:List Fd}{fd:Fd}(hx:ev tm x=.eptr cs o)(ht:tl T st=some ti)(hk:ti.kd=.struct fs)(hf:fs[f]?=some fd)(hs:Nat.beq fd.size 0=false)(ho:o+fd.off=o')(htd:Nat.blt t n=true)
  (k:AL P ops rest ⟨n,(t,.eptr cs o')::tm,bx,fr,ee⟩ Q):AL P ops (⟨some t,.fieldAddr st x f,ty,pos,after,none⟩::rest) ⟨n,tm,bx,fr,ee⟩ Q:=
 Z6 _ htd (fun g a w hi=>by
  have h1:V w g fr (ev tm x) (a.eval x):=hi.ev x
  rw[hx]at h1
  subst ho
  obtain⟨p,hp⟩:∃ p,p=a.eval x:=⟨_,rfl⟩
  rw[<- hp]at h1
  cases h1 with
  | eptr _ _ blk off us hc hw he=>
   exact⟨.pointer (some ⟨blk,off+(o+fd.off),none⟩),by simp[execOp,Sem.run_bind,<- hp,JG (Z9 hT ht) hk hf hs,Nat.add_assoc],.eptr _ _ blk off us hc hw he⟩) k
theorem Yg [Known][Dfr]{x:Operand}{b o:Nat}(hx:ev tm x=.ptr b o)(htd:Nat.blt t n=true)
  (k:AL P ops rest ⟨n,(t,.ptr b o)::tm,bx,fr,ee⟩ Q):AL P ops (⟨some t,.nilCheck x,ty,pos,after,none⟩::rest) ⟨n,tm,bx,fr,ee⟩ Q:=
 Z6 _ htd (fun g a w hi=>by
  have h1:V w g fr (ev tm x) (a.eval x):=hi.ev x
  rw[hx]at h1
  obtain⟨blk,h2,h3⟩:=Kh h1
  exact⟨.pointer (some ⟨blk,o,none⟩),by simp[execOp,h3],.ptr _ _ blk h2⟩) k
theorem Yf [Known][Dfr]{x:Operand}{cs:List E}{o:Nat}(hx:ev tm x=.eptr cs o)(htd:Nat.blt t n=true)
  (k:AL P ops rest ⟨n,(t,.eptr cs o)::tm,bx,fr,ee⟩ Q):AL P ops (⟨some t,.nilCheck x,ty,pos,after,none⟩::rest) ⟨n,tm,bx,fr,ee⟩ Q:=
 Z6 _ htd (fun g a w hi=>by
  have h1:V w g fr (ev tm x) (a.eval x):=hi.ev x
  rw[hx]at h1
  obtain⟨p,hp⟩:∃ p,p=a.eval x:=⟨_,rfl⟩
  rw[<- hp]at h1
  refine⟨p,?_,h1⟩
  cases h1
  simp[execOp,<- hp]) k
theorem Q7 {l:List D}{v:Value}(h:V w g fr (.agg l) v):∃ vs:List Value,v=.agg vs.toArray/\vs.length=l.length/\∀(j:Nat) (d:D) (v:Value),l[j]?=some d->vs[j]?=some v->V w g fr d v:=by
 cases h;exact⟨_,rfl,‹_›,‹_›⟩
theorem OS {l:List D}{v:Value}(h:V w g fr (.tup l) v):∃ vs:List Value,v=.tuple vs.toArray/\vs.length=l.length/\∀(j:Nat) (d:D) (v:Value),l[j]?=some d->vs[j]?=some v->V w g fr d v:=by
 cases h;exact⟨_,rfl,‹_›,‹_›⟩
theorem YA [Known][Dfr]{x:Operand}{i:Nat}{l:List D}{d:D}(hx:ev tm x=.tup l)(hd:l[i]?=some d)(htd:Nat.blt t n=true)
  (k:AL P ops rest ⟨n,(t,d)::tm,bx,fr,ee⟩ Q):AL P ops (⟨some t,.extract x i,ty,pos,after,none⟩::rest) ⟨n,tm,bx,fr,ee⟩ Q:=
 Z6 _ htd (fun g a w hi=>by
  have h1:V w g fr (ev tm x) (a.eval x):=hi.ev x
  rw[hx]at h1
  obtain⟨vs,h2,h3,h4⟩:=OS h1
  have hlt:i<vs.length:=by rw[h3];exact(List.getElem?_eq_some_iff.1 hd).1
  exact⟨vs[i],by simp[execOp,h2,Instr.extract,hlt],h4 i d _ hd (List.getElem?_eq_getElem hlt)⟩) k
theorem Io {st:TypeId}{f:Nat}{ti:Ti}{fs:List Fd}{fd:Fd}(hti:TiOk P st ti)(hk:ti.kd=.struct fs)(hf:fs[f]?=some fd)(hs:Nat.beq fd.size 0=false) :
  ∃ fields fl,P.underlying st=some (.struct fields)/\fields[f]?=some fl/\fd=⟨fl.offset,(Go.Av.tSize P fl.type).getD 0,(Go.Av.tAgg P fl.type).getD false,fl.type⟩/\Go.Av.tSize P fl.type=some fd.size:=by
 obtain⟨fields,h1,rfl⟩:=hti.struct hk
 rw[List.getElem?_map]at hf
 cases hff:fields[f]? with
 | none=>simp[hff]at hf
 | some fl=>
  have hff':fields.toList[f]?=some fl:=by simpa using hff
  rw[hff']at hf
  simp only[Option.map_some,Option.some.injEq]at hf
  subst hf
  refine⟨fields,fl,h1,hff,rfl,?_⟩
  cases hsz:Go.Av.tSize P fl.type with
  | none=>simp[hsz]at hs
  | some k=>rfl
theorem YU [Known][Dfr](hT:chk P T=true){x:Operand}{st f:Nat}{l:List D}{d:D}{ti ti':Ti}{fs:List Fd}{fd:Fd}(hx:ev tm x=.agg l)(ht:tl T st=some ti)(hk:ti.kd=.struct fs)(hf:fs[f]?=some fd)(hs:Nat.beq fd.size 0=false)(ht2:tl T fd.ty=some ti')(ha:ti'.kd.agg=false)(hd:l[fd.off]?=some d)(htd:Nat.blt t n=true)
  (k:AL P ops rest ⟨n,(t,d)::tm,bx,fr,ee⟩ Q):AL P ops (⟨some t,.field st x f,ty,pos,after,none⟩::rest) ⟨n,tm,bx,fr,ee⟩ Q:=
 Z6 _ htd (fun g a w hi=>by
  have h1:V w g fr (ev tm x) (a.eval x):=hi.ev x
  rw[hx]at h1
  obtain⟨vs,h2,h3,h4⟩:=Q7 h1
  obtain⟨fields,fl,k1,k2,k3,k4⟩:=Io (Z9 hT ht) hk hf hs
  have hfo:fd.off=fl.offset:=by rw[k3]
  have hft:fd.ty=fl.type:=by rw[k3]
  have hlt:fl.offset<vs.length:=by rw[h3,<- hfo];exact(List.getElem?_eq_some_iff.1 hd).1
  have hagg:=Vx (P:=P) (t:=fl.type) (b:=false) (by rw[<- hft,(Z9 hT ht2).tAgg,ha]) w
  refine⟨vs[fl.offset],?_,h4 _ d _ (hfo ▸ hd) (List.getElem?_eq_getElem hlt)⟩
  simp[execOp,h2,Instr.field,Sem.run_bind,run_underlying k1,k2,part,asAgg,hagg,hlt]) k
end
end Go.Av
end

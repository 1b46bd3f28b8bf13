/- More operations: slices built, read, cut; structs built. -/
import Derived.Test.YtchlgagdbflkmaaDoorS03
set_option linter.unusedSimpArgs false
set_option linter.unusedVariables false
section
open Go.RowKit Go.Pl
namespace Go.Av
theorem QU:∀(l:List Value) (k off:Nat) (cs:Array Value),off+k+l.length<=cs.size ->
  ((l.zipIdx k).foldl (fun(cs:Array Value) (p:Value × Nat)=>cs.setIfInBounds (off+p.2) p.1) cs).toList=cs.toList.take (off+k)++(l++cs.toList.drop (off+k+l.length))
 | [],k,off,cs,_=>by simp
 | v::l,k,off,cs,h=>by
  have h':off+k<cs.size:=by simp at h;omega
  have hl:off+(k+1)+l.length<=(cs.setIfInBounds (off+k) v).size:=by simp at h ⊢;omega
  have ih:=QU l (k+1) off (cs.setIfInBounds (off+k) v) hl
  rw[List.zipIdx_cons,List.foldl_cons,ih]
  simp only[Array.toList_setIfInBounds,List.length_cons]
  rw[List.drop_set_of_lt (by omega),List.take_set,show off+(k+1)=off+k+1 from by omega,List.take_succ_eq_append_getElem (by simpa using h')]
  rw[List.set_append_right _ _ (by simp;omega)]
  simp only[List.length_take,Array.length_toList,Nat.min_eq_left (Nat.le_of_lt h'),Nat.sub_self,List.set_cons_zero,List.append_assoc,List.cons_append,List.nil_append]
  rw[show off+k+(l.length+1)=off+k+1+l.length from by omega]
theorem QV {place:Nat->Option (Nat × Nat)}{cells:Array Value}{i off size:Nat}{v:Value}{rest:List (Nat × Value)}{vs:List Value}(hp:place i=some (off,size))(hv:v.cells=vs.toArray)(hs:vs.length=size)(hle:off+size<=cells.size) :
  ∃ cells':Array Value,Instr.fill place cells ((i,v)::rest)=Instr.fill place cells' rest/\cells'.toList=cells.toList.take off++(vs++cells.toList.drop (off+size)):=by
 refine⟨_,?_,QU vs 0 off cells (by omega) |>.trans (by rw[hs];rfl)⟩
 simp only[Instr.fill,hp,hv,List.size_toArray,hs]
 rw[if_neg (by simp;omega)]
 congr 1
 rw[<- Array.foldl_toList]
 simp
theorem U6 {sz:Nat}:∀(vs:List (List Value × Value)) (i:Nat) (cells:Array Value),(∀ p ∈ vs,p.2.cells=p.1.toArray/\p.1.length=sz)->cells.size=(i+vs.length)*sz ->
  ∃ out:Array Value,Instr.fill (fun i=>some (i*sz,sz)) cells ((vs.zipIdx i).map fun q=>(q.2,q.1.2))=some out/\out.toList=cells.toList.take (i*sz)++vs.flatMap (·.1)
 | [],i,cells,_,hs=>⟨cells,rfl,by simp at hs;rw[List.take_of_length_le (by simp;omega)];simp⟩
 | p::vs,i,cells,h,hs=>by
  obtain⟨h1,h2⟩:=h p (by simp)
  have hs':cells.size=i*sz+sz+vs.length*sz:=by rw[hs];simp[Nat.add_mul];omega
  obtain⟨c',e1,e2⟩:=QV (place:=fun i=>some (i*sz,sz)) (cells:=cells) (i:=i) (rest:=(vs.zipIdx (i+1)).map fun q=>(q.2,q.1.2)) rfl h1 h2 (by omega)
  have hc':c'.size=cells.size:=by
   rw[<- Array.length_toList,e2];simp[h2];omega
  obtain⟨out,e3,e4⟩:=U6 vs (i+1) c' (fun q hq=>h q (by simp[hq])) (by rw[hc',hs',Nat.add_mul,Nat.add_mul];omega)
  refine⟨out,by rw[List.zipIdx_cons,List.map_cons,e1,e3],?_⟩
  rw[e4,e2,List.flatMap_cons,Nat.add_mul,Nat.one_mul]
  rw[List.take_append,List.take_take,Nat.min_eq_right (by omega)]
  simp only[List.length_take,Array.length_toList,Nat.min_eq_left (show i*sz<=cells.size by omega),Nat.add_sub_cancel_left]
  rw[List.take_append,h2,List.take_of_length_le (l:=p.1) (by omega),Nat.sub_self]
  simp
def D.toEl:List D->Option (List E)
 | []=>some []
 | d::l=>match d.toE,D.toEl l with
  | some e,some l'=>some (e::l')
  | _,_=>none
def XP (sz:Nat):List E->Bool
 | []=>true
 | e::l=>match Nat.beq e.cells.length sz with
  | true=>XP sz l
  | false=>false
theorem Zf {sz:Nat}:∀ {l:List E},XP sz l=true->Uni sz l
 | [],_=>Uni.nil sz
 | e::l,h=>by
  simp only[XP]at h
  cases hb:Nat.beq e.cells.length sz with
  | true=>simp only[hb]at h;exact Uni.cons (Nat.eq_of_beq_eq_true hb) (Zf h)
  | false=>simp[hb]at h
section
variable {P:Program} {Q:X->St->Prop} {n:Nat} {ee:Nat × Nat} {tm:List (Nat × D)} {bx bx':List (List D)} {fr fr':List Fr} {b0:Bs} {g:G} {w:World} {a:Act} {T:Tab}
variable {ops:Array Oper} {rest:List Oper} {t ty:Nat} {pos:String} {after:Array Edge}
theorem V5:∀ {l:List D} {es:List E},D.toEs l=some es->l.length=es.length/\∀(j:Nat) (x:E),es[j]?=some x->∃ d,l[j]?=some d/\d.toE1=some x
 | [],es,h=>by simp[D.toEs]at h;subst h;simp
 | d::l,es,h=>by
  cases hd:d.toE1 with
  | none=>simp[D.toEs,hd]at h
  | some e=>
   cases hl:D.toEs l with
   | none=>simp[D.toEs,hd,hl]at h
   | some es'=>
    simp[D.toEs,hd,hl]at h;subst h
    obtain⟨h1,h2⟩:=V5 hl
    refine⟨by simp[h1],fun j x hx=>?_⟩
    cases j with
    | zero=>simp at hx;subst hx;exact⟨d,rfl,hd⟩
    | succ j=>simp at hx;simpa using h2 j x hx
theorem V.toE {d:D}{e:E}{v:Value}(h:V w g fr d v)(he:d.toE=some e):∃ vs:List Value,v.cells=vs.toArray/\vs.length=e.cells.length/\∀(j:Nat) (x:E) (u:Value),e.cells[j]?=some x->vs[j]?=some u->VE w g.C x u:=by
 by_cases hd:∃ l,d=.agg l
 ·obtain⟨l,rfl⟩:=hd
  obtain⟨vs,rfl,h2,h3⟩:=V4 h
  simp only[D.toE,Option.map_eq_some_iff]at he
  obtain⟨es,he,rfl⟩:=he
  obtain⟨q1,q2⟩:=V5 he
  refine⟨vs,rfl,by rw[h2,q1];rfl,fun j x u hx hu=>?_⟩
  obtain⟨d,hd,hx⟩:=q2 j x hx
  exact(h3 j d u hd hu).toE1 hx
 ·have he1:d.toE1=some e:=by cases d<;>first|exact he|exact(hd ⟨_,rfl⟩).elim
  have hv:=h.toE1 he1
  have hc:e.cells=[e]:=by cases e<;>first|rfl|exact hv.notAgg.elim
  rw[hc]
  refine⟨[v],?_,rfl,fun j x u hx hu=>?_⟩
  ·cases hv<;>rfl
  ·cases j with
   | zero=>simp at hx hu;subst hx hu;exact hv
   | succ j=>simp at hx
theorem JQ:∀ {l:List D} {es:List E},D.toEl l=some es->l.length=es.length/\∀(j:Nat) (d:D),l[j]?=some d->∃ x,es[j]?=some x/\d.toE=some x
 | [],es,h=>by simp[D.toEl]at h;subst h;simp
 | d::l,es,h=>by
  cases hd:d.toE with
  | none=>simp[D.toEl,hd]at h
  | some e=>
   cases hl:D.toEl l with
   | none=>simp[D.toEl,hd,hl]at h
   | some es'=>
    simp[D.toEl,hd,hl]at h;subst h
    obtain⟨h1,h2⟩:=JQ hl
    refine⟨by simp[h1],fun j x hx=>?_⟩
    cases j with
    | zero=>simp at hx;subst hx;exact⟨e,rfl,hd⟩
    | succ j=>simp at hx;simpa using h2 j x hx
theorem Km {sz:Nat}:∀ {ds:List D} {vs:List Value} {es:List E},D.toEl ds=some es->vs.length=ds.length->(∀(j:Nat) (d:D) (v:Value),ds[j]?=some d->vs[j]?=some v->V w g fr d v)->Uni sz es ->
  ∃ rs:List (List Value × Value),rs.map (·.2)=vs/\(∀ p ∈ rs,p.2.cells=p.1.toArray/\p.1.length=sz)/\(rs.flatMap (·.1)).length=es.length*sz/\∀(j:Nat) (x:E) (u:Value),(flat es)[j]?=some x->(rs.flatMap (·.1))[j]?=some u->VE w g.C x u
 | [],[],es,h,_,_,_=>⟨[],rfl,by simp,by simp[D.toEl]at h;subst h;simp,by simp⟩
 | d::ds,v::vs,es,h,hl,hv,hU=>by
  cases hd:d.toE with
  | none=>simp[D.toEl,hd]at h
  | some e=>
   cases hl':D.toEl ds with
   | none=>simp[D.toEl,hd,hl']at h
   | some es'=>
    simp[D.toEl,hd,hl']at h;subst h
    obtain⟨us,q1,q2,q3⟩:=(hv 0 d v rfl rfl).toE hd
    have hsz:e.cells.length=sz:=hU e (by simp)
    obtain⟨rs,p1,p2,p3,p4⟩:=Km (sz:=sz) hl' (by simpa using hl) (fun j d v h1 h2=>hv (j+1) d v (by simpa using h1) (by simpa using h2)) (fun x hx=>hU x (by simp[hx]))
    refine⟨(us,v)::rs,by simp[p1],fun p hp=>?_,?_,fun j x u hx hu=>?_⟩
    ·rcases List.mem_cons.1 hp with rfl|hp
     ·exact⟨q1,by rw[<- hsz];exact q2⟩
     ·exact p2 p hp
    ·simp only[List.flatMap_cons,List.length_append,List.length_cons,p3,q2,hsz,Nat.add_mul];omega
    ·simp only[YE,List.flatMap_cons]at hx hu
     rcases Nat.lt_or_ge j sz with hj|hj
     ·rw[List.getElem?_append_left (by rw[hsz];exact hj)]at hx
      rw[List.getElem?_append_left (by rw[q2,hsz];exact hj)]at hu
      exact q3 j x u hx hu
     ·rw[List.getElem?_append_right (by rw[hsz];exact hj),hsz]at hx
      rw[List.getElem?_append_right (by rw[q2,hsz];exact hj),q2,hsz]at hu
      exact p4 _ x u hx hu
 | [],_::_,_,_,hl,_,_=>by simp at hl
 | _::_,[],_,_,hl,_,_=>by simp at hl
theorem OG [Known][Dfr](hT:chk P T=true){st len e:Nat}{xs:List Operand}{ds:List D}{es:List E}{ti te:Ti}(ht:tl T st=some ti)(hk:ti.kd=.slice e)(hte:tl T e=some te){parts:Array (Nat × Operand)}(hp:parts=((xs.zipIdx 0).map fun q=>(q.2,q.1)).toArray)(hlen:Nat.beq xs.length len=true)
  (hds:nfs (xs.map (ev tm))=some ds) (hes:D.toEl ds=some es) (hU:XP te.size es=true) (hpos:Nat.blt 0 te.size=true) (hsm:Nat.ble (len*te.size) 16777216=true) (hi:Inv b0 ⟨n,tm,bx,fr,ee⟩ g a w) :
  ∃ cs:List Value,cs.length=len*te.size/\es.length=len/\len<=maxLen/\(∀(j:Nat) (x:E) (u:Value),(flat es)[j]?=some x->cs[j]?=some u->VE w g.C x u) /\
   (execOp a.eval ⟨some t,.buildSlice st len parts,ty,pos,after,none⟩).run P w=.ok (.value (.slice (some ⟨w.heap.size,0,none⟩) len len)) (w.alloc (.cells cs.toArray e)):=by
 have hl:=Nat.eq_of_beq_eq_true hlen
 have hsm:=Nat.le_of_ble_eq_true hsm
 have hpos:0<te.size:=by simpa[Nat.blt_eq]using hpos
 have hu:=(ZF hT ht).slice hk
 have hds':=Y7 hds
 obtain⟨hel,_⟩:=JQ hes
 have hdl:ds.length=xs.length:=by rw[<- hds'];simp
 obtain⟨rs,r1,r2,r3,r4⟩:=Km (w:=w) (g:=g) (fr:=fr) (sz:=te.size) (vs:=xs.map a.eval) hes (by rw[hdl];simp) (fun j d v h1 h2=>by
  rw[<- hds',List.getElem?_map]at h1
  rw[List.getElem?_map]at h2
  cases hx:xs[j]? with
  | none=>simp[hx]at h1
  | some x=>simp[hx]at h1 h2;subst h1 h2;exact hi.ev x) (Zf hU)
 have hrl:rs.length=len:=by rw[<- hl];have:=congrArg List.length r1;simpa using this
 obtain⟨z,hz1,hz2⟩:=(ZF hT hte).zero w
 obtain⟨hzl,_⟩:=YX (w:=w) (g:=g) (fr:=fr) hz2
 have hparts:(parts.map fun(p:Nat × Operand)=>(p.1,a.eval p.2)).toList=(rs.zipIdx 0).map fun q=>(q.2,q.1.2):=by
  subst hp
  apply List.ext_getElem?
  intro j
  simp only[List.map_toArray,List.map_map,List.getElem?_map,List.getElem?_zipIdx,Nat.zero_add]
  have hj:(rs.map (·.2))[j]?=(xs.map a.eval)[j]? := by rw[r1]
  rw[List.getElem?_map,List.getElem?_map]at hj
  cases h1:xs[j]? <;> cases h2:rs[j]? <;> simp_all
 have key:∀ cells:Array Value,cells.size=len*te.size->∃ out:Array Value,Instr.fill (fun i=>some (i*te.size,te.size)) cells (parts.map fun(p:Nat × Operand)=>(p.1,a.eval p.2)).toList=some out/\out.toList=rs.flatMap (·.1):=fun cells hc=>by
  obtain⟨out,e1,e2⟩:=U6 rs 0 cells r2 (by rw[hc,hrl];simp)
  exact⟨out,by rw[hparts];exact e1,by rw[e2];simp⟩
 have hmul:(rs.flatMap (·.1)).length=len*te.size:=by rw[r3,<- hel,hdl,hl]
 have hesl:es.length=len:=by rw[<- hel,hdl,hl]
 have hrun:(Instr.buildSlice st len (parts.map fun(p:Nat × Operand)=>(p.1,a.eval p.2))).run P w=.ok (.slice (some ⟨w.heap.size,0,none⟩) len len) (w.alloc (.cells (rs.flatMap (·.1)).toArray e)):=by
  have hsz:=Z1 (P:=P) (t:=e) (ZF hT hte).tSize w
  by_cases h0:len*te.size=0
  ·obtain⟨out,e1,e2⟩:=key #[] (by simp[h0])
   have:out=(rs.flatMap (·.1)).toArray:=by rw[<- e2]
   have hnil:(Array.range (len*te.size)).map (fun i=>(#[]:Array Value)[i % (#[]:Array Value).size]!) = #[]:=by rw[h0];simp
   simp only[Instr.buildSlice,Sem.run_bind,run_underlying hu,Result.andThen_ok,hsz,if_neg (show ¬ len*te.size>2 ^ 24 by omega),if_pos h0,Sem.run_pure,hnil,e1,this]
   rfl
  ·obtain⟨out,e1,e2⟩:=key ((Array.range (len*te.size)).map (z.cells[· % z.cells.size]!)) (by simp)
   have:out=(rs.flatMap (·.1)).toArray:=by rw[<- e2]
   simp only[Instr.buildSlice,Sem.run_bind,run_underlying hu,Result.andThen_ok,hsz,if_neg (show ¬ len*te.size>2 ^ 24 by omega),if_neg h0,hz1,Sem.run_pure,e1,this]
   rfl
 refine⟨rs.flatMap (·.1),hmul,hesl,by simp only[maxLen];have:=Nat.le_mul_of_pos_right len hpos;omega,r4,?_⟩
 simp only[execOp,Sem.run_bind]
 rw[show(fun(x:Nat × Operand)=>match x with|(i,x)=>(i,a.eval x))=fun(p:Nat × Operand)=>(p.1,a.eval p.2) from rfl,hrun]
 rfl
theorem QP [Known][Dfr](hT:chk P T=true){st len e:Nat}{xs:List Operand}{ds:List D}{es:List E}{ti te:Ti}{m:Nat}(ht:tl T st=some ti)(hk:ti.kd=.slice e)(hte:tl T e=some te){parts:Array (Nat × Operand)}(hp:parts=((xs.zipIdx 0).map fun q=>(q.2,q.1)).toArray)(hlen:Nat.beq xs.length len=true)
  (hds:nfs (xs.map (ev tm))=some ds) (hes:D.toEl ds=some es) (hU:XP te.size es=true) (hpos:Nat.blt 0 te.size=true) (hsm:Nat.ble (len*te.size) 16777216=true) (hm:fr.length=m) (hf:nfl (fr++[⟨len,te.size,e⟩])=some fr') (htd:Nat.blt t n=true)
  (k:AL P ops rest ⟨n,(t,.sl (.own m) es)::tm,bx,fr',ee⟩ Q):AL P ops (⟨some t,.buildSlice st len parts,ty,pos,after,none⟩::rest) ⟨n,tm,bx,fr,ee⟩ Q:=
 Vj _ htd (fun g a w hi=>by
  obtain⟨cs,c1,c2,c3,c4,c5⟩:=OG (t:=t) (ty:=ty) (pos:=pos) (after:=after) hT ht hk hte hp hlen hds hes hU hpos hsm hi
  have hpos':0<te.size:=by simpa[Nat.blt_eq]using hpos
  obtain⟨k1,k2,k3⟩:=hi.mem.row cs es len te.size e hpos' c1 (by omega) c3 (Zf hU) c4
  rw[c2]at k1 k2 k3
  have e1:=Yq hf
  subst e1 hm
  exact⟨.slice (some ⟨w.heap.size,0,none⟩) len len,_,_,c5,k1,k2,k3⟩) k
end
end Go.Av
end
section
open Go.RowKit Go.Pl
namespace Go.Av
section
variable {P:Program} {Q:X->St->Prop} {n:Nat} {ee:Nat × Nat} {tm:List (Nat × D)} {bx bx':List (List D)} {fr fr':List Fr} {b0:Bs} {g:G} {w:World} {a:Act} {T:Tab}
variable {ops:Array Oper} {rest:List Oper} {t ty:Nat} {pos:String} {after:Array Edge}
theorem VE.drew {C:Nat->Nat->Prop}{e:E}{v:Value}(h:VE w C e v):VE w.drew C e v:=h.mono (fun _ _ h=>h) fun _ _ _=>rfl
theorem V.drew {d:D}{v:Value}(h:V w g fr d v):V w.drew g fr d v:=h.mono (fun _ _ h=>h) (fun _ _ _=>rfl) (fun _ _ h=>h) (YK.refl _ _)
theorem Mem.drew [Known](hm:Mem g bx fr w):Mem g bx fr w.drew where
 bl:=hm.bl
 bat i k cs h1 h2:=by
  obtain⟨vs,ty,q1,q2,q3⟩:=hm.bat i k cs h1 h2
  exact⟨vs,ty,q1,q2,fun j d v hd hv=>(q3 j d v hd hv).drew⟩
 bC:=hm.bC
 bN:=hm.bN
 tl:=hm.tl
 tat i k c f h1 h2:=by
  have h:=hm.tat i k c f h1 h2
  exact⟨h.row,h.le,h.max,h.pos,h.far⟩
 tN:=hm.tN
 tρ:=hm.tρ
 Clt:=hm.Clt
 gl:=hm.gl
theorem Evo.drew:Evo ⟨g,fr,w⟩ ⟨g,fr,w.drew⟩:=⟨rfl,rfl,rfl,Nat.le_refl _,fun _ _ _=>rfl,fun _ _ h=>h,fun _ _ _=>rfl,fun _ _ h=>.inl h,fun _ _ h=>h,fun _ h=>.inl h,fun _ c h=>.inl ⟨c,h⟩,YK.refl _ _⟩
theorem Kn {α:Type}{l:List α}{i:Nat}{x y:α}(h:y ∈ l.set i x):y=x\/∃ j,j ≠ i/\l[j]?=some y:=by
 obtain⟨j,hj⟩:=List.getElem?_of_mem h
 by_cases e:i=j
 ·subst e
  have hlt:i<l.length:=by have:=(List.getElem?_eq_some_iff.1 hj).1;simpa using this
  rw[List.getElem?_set_self hlt]at hj
  injection hj with hj
  exact .inl hj.symm
 ·rw[List.getElem?_set_ne e]at hj
  exact .inr ⟨j,fun h=>e h.symm,hj⟩
theorem Mem.retok [Known](hm:Mem g bx fr w){i blk cap blk' cap':Nat}{f f':Fr}{C':Nat->Nat->Prop}{w':World}(hτ:g.τ[i]?=some (blk,cap))(hf:fr[i]?=some f)(hn:f.n<f'.n)
  (hb:blk'=blk\/blk'=w.heap.size) (hos:w'.os=w.os) (htape:w'.tape=w.tape) (hout:w'.output=w.output) (hsize:w.heap.size<=w'.heap.size) (hlt':blk'<w'.heap.size)
  (hfar:∀ k,k<w.heap.size->k ≠ blk'->w'.heap[k]?=w.heap[k]?)
  (hC:∀ k o,C' k o ↔ (g.C k o\/(k=blk'/\o<f'.n*f'.sz)))
  (hold:∀ o,g.C blk' o->w'.cell? ⟨blk',o,none⟩=w.cell? ⟨blk',o,none⟩)
  (hT:∃ cur,w'.heap[blk']?=some (.cells cur f'.e (0,0))/\cur.size=cap'*f'.sz) (hle:f'.n<=cap') (hmax:cap'<=maxLen) (hpos:0<f'.sz) (hfarC:∀ o,f'.n*f'.sz<=o->¬ g.C blk' o) :
  Evo ⟨g,fr,w⟩ ⟨⟨C',g.ρ,g.τ.set i (blk',cap')⟩,fr.set i f',w'⟩/\Mem ⟨C',g.ρ,g.τ.set i (blk',cap')⟩ bx (fr.set i f') w':=by
 have hlt:i<g.τ.length:=(List.getElem?_eq_some_iff.1 hτ).1
 have hltf:i<fr.length:=(List.getElem?_eq_some_iff.1 hf).1
 have hMb:M g blk'\/w.heap.size<=blk':=by
  rcases hb with rfl|rfl
  ·exact .inl (.inr ⟨cap,List.mem_of_getElem? hτ⟩)
  ·exact .inr (Nat.le_refl _)
 have hcell:∀ k o,g.C k o->w'.cell? ⟨k,o,none⟩=w.cell? ⟨k,o,none⟩:=fun k o h=>by
  by_cases e:k=blk'
  ·subst e;exact hold o h
  ·exact World.cell?_of_block (w:=w) (hfar k (hm.Clt k o h) e)
 have hevo:Evo ⟨g,fr,w⟩ ⟨⟨C',g.ρ,g.τ.set i (blk',cap')⟩,fr.set i f',w'⟩:=by
  refine⟨hos,htape,hout,hsize,fun k hk hn=>hfar k hk fun e=>?_,fun k o h=>(hC k o).2 (.inl h),hcell,fun k o h=>?_,fun _ _ h=>h,fun _ h=>.inl h,fun k c h=>?_,fun j fj hj=>?_⟩
  ·subst e
   rcases hMb with h|h
   ·exact hn h
   ·have:w.heap.size<=k:=h
    have hk:k<w.heap.size:=hk
    omega
  ·rcases(hC k o).1 h with h|⟨rfl,_⟩
   ·exact .inl h
   ·rcases hMb with h|h
    ·exact .inr (.inr h)
    ·exact .inr (.inl h)
  ·rcases Kn h with h|⟨j,_,h⟩
   ·injection h with h1 h2
    subst h1
    rcases hb with rfl|rfl
    ·exact .inl ⟨cap,List.mem_of_getElem? hτ⟩
    ·exact .inr (Nat.le_refl _)
   ·exact .inl ⟨c,List.mem_of_getElem? h⟩
  ·by_cases e:i=j
   ·subst e
    rw[hf]at hj;injection hj with hj;subst hj
    exact⟨f',List.getElem?_set_self hltf,Nat.le_of_lt hn,fun e=>by omega⟩
   ·exact⟨fj,by rw[List.getElem?_set_ne e];exact hj,Nat.le_refl _,fun _=>List.getElem?_set_ne e⟩
 refine⟨hevo,?_⟩
 have hρ:blk' ∉ g.ρ:=fun h=>by
  rcases hb with rfl|rfl
  ·exact hm.tρ _ _ (List.mem_of_getElem? hτ) h
  ·have:=hm.lt (.inl h);omega
 have hτn:∀(j c:Nat),j ≠ i->g.τ[j]?=some (blk',c)->False:=fun j c hji hj=>by
  rcases hb with rfl|rfl
  ·exact hji (hm.tN j i _ c cap hj hτ)
  ·have:=hm.lt (.inr ⟨c,List.mem_of_getElem? hj⟩);omega
 constructor
 ·exact hm.bl
 ·intro j k cs h1 h2
  obtain⟨vs,ty,q1,q2,q3⟩:=hm.bat j k cs h1 h2
  have hne:k ≠ blk':=fun e=>hρ (e ▸ List.mem_of_getElem? h1)
  exact⟨vs,ty,(hfar k (Array.getElem?_eq_some_iff.1 q1).1 hne).trans q1,q2,fun j d v hd hv=>(q3 j d v hd hv).evo hevo⟩
 ·intro k o hk h
  rcases(hC k o).1 h with h|⟨rfl,_⟩
  ·exact hm.bC k o hk h
  ·exact hρ hk
 ·exact hm.bN
 ·simp[hm.tl]
 ·intro j k c fj h1 h2
  by_cases e:i=j
  ·subst e
   have h1:(g.τ.set i (blk',cap'))[i]?=some (k,c):=h1
   rw[List.getElem?_set_self hlt]at h1
   injection h1 with h1
   injection h1 with h1 h3
   subst h1 h3
   rw[List.getElem?_set_self hltf]at h2
   injection h2 with h2
   subst h2
   refine⟨hT,hle,hmax,hpos,fun o ho h=>?_⟩
   rcases(hC _ o).1 h with h|⟨_,h⟩
   ·exact hfarC o ho h
   ·omega
  ·have h1x:(g.τ.set i (blk',cap'))[j]?=some (k,c):=h1
   clear h1
   rw[List.getElem?_set_ne e]at h1x h2
   have hTk:=hm.tat j k c fj h1x h2
   obtain⟨cur,s1,s2⟩:=hTk.row
   have hne:k ≠ blk':=fun e'=>by subst e';exact hτn j c (Ne.symm e) h1x
   refine⟨⟨cur,(hfar k (Array.getElem?_eq_some_iff.1 s1).1 hne).trans s1,s2⟩,hTk.le,hTk.max,hTk.pos,fun o ho h=>?_⟩
   rcases(hC k o).1 h with h|⟨h,_⟩
   ·exact hTk.far o ho h
   ·exact hne h
 ·intro x y k c c' h1 h2
  have hget:∀(x c:Nat),(g.τ.set i (blk',cap'))[x]?=some (k,c)->(x=i/\k=blk')\/(x ≠ i/\g.τ[x]?=some (k,c)):=fun x c h=>by
   by_cases e:i=x
   ·subst e
    rw[List.getElem?_set_self hlt]at h
    injection h with h
    injection h with h
    exact .inl ⟨rfl,h.symm⟩
   ·rw[List.getElem?_set_ne e]at h
    exact .inr ⟨Ne.symm e,h⟩
  rcases hget x c h1 with⟨rfl,h3⟩ | ⟨hx,h3⟩<;>rcases hget y c' h2 with⟨rfl,h4⟩ | ⟨hy,h4⟩
  ·rfl
  ·subst h3;exact(hτn y c' hy h4).elim
  ·subst h4;exact(hτn x c hx h3).elim
  ·exact hm.tN x y k c c' h3 h4
 ·intro k c hk hr
  rcases Kn hk with h|⟨j,_,h⟩
  ·injection h with h1 h2
   subst h1
   exact hρ hr
  ·exact hm.tρ k c (List.mem_of_getElem? h) hr
 ·intro k o h
  rcases(hC k o).1 h with h|⟨rfl,_⟩
  ·have:=hm.Clt k o h
   omega
  ·exact hlt'
 ·exact hm.gl.evo hevo
theorem Ko {l:List E}{sz:Nat}{v:Value}(h:VE w g.C (.sl l) v)(hU:Uni sz l)(hne:l ≠ []):∃(ad:Addr) (c:Nat) (news:List Value),v=.slice (some ad) l.length c/\news.length=l.length*sz/\(∀ j u,news[j]?=some u->w.cell? (ad.add j)=some u)/\(∀ u ∈ news,u.oneCell'=true) /\
  ∀(j:Nat) (x:E) (u:Value),(flat l)[j]?=some x->news[j]?=some u->VE w g.C x u:=by
 generalize hq:E.sl l=q at h
 cases h with
 | slC l' b off cap us h1 h2 hc hw hv=>
  injection hq with hq;subst hq
  have hfl:=hU.flat
  have hnj:∀(j:Nat) (u:Value),((List.range (l.length*sz)).map us)[j]?=some u->j<l.length*sz/\u=us j:=fun j u hu=>by
   rw[List.getElem?_map]at hu
   cases hj:(List.range (l.length*sz))[j]? with
   | none=>simp[hj]at hu
   | some j'=>
    obtain⟨q1,q2⟩:=List.getElem?_eq_some_iff.1 hj
    simp at q1 q2
    subst q2
    simp[hj]at hu
    exact⟨q1,hu.symm⟩
  refine⟨⟨b,off,none⟩,cap,(List.range (l.length*sz)).map us,rfl,by simp,fun j u hu=>?_,fun u hu=>?_,fun j x u hx hu=>?_⟩
  ·obtain⟨q1,rfl⟩:=hnj j u hu
   rw[Addr.add_mid]
   exact hw j (by omega)
  ·obtain⟨j,hj⟩:=List.getElem?_of_mem hu
   obtain⟨q1,rfl⟩:=hnj j u hj
   have:j<(flat l).length:=by omega
   exact(hv j _ (List.getElem?_eq_getElem this)).one
  ·obtain⟨q1,rfl⟩:=hnj j u hu
   exact hv j x hx
 | slE A cap h=>injection hq with hq;exact(hne hq).elim
 | _=>cases hq
theorem Wz {tk:Tok}{l:List E}{v:Value}(h:V w g fr (.sl tk l) v):VE w g.C (.sl l) v/\JK g fr tk l.length v:=by cases h;exact⟨‹_›,‹_›⟩
theorem VE.old {l:List E}{sz blk cap:Nat}(h:VE w g.C (.sl l) (.slice (some ⟨blk,0,none⟩) l.length cap))(hU:Uni sz l):(∀ o,o<l.length*sz->g.C blk o)/\∀(j:Nat) (x:E) (u:Value),(flat l)[j]?=some x->w.cell? ⟨blk,j,none⟩=some u->VE w g.C x u:=by
 have hfl:=hU.flat
 generalize hq:E.sl l=q at h
 generalize hs:Value.slice (some ⟨blk,0,none⟩) l.length cap=s at h
 cases h with
 | slC l' b off cap us h1 h2 hc hw hv=>
  injection hq with hq;subst hq
  injection hs with e1 e2 e3
  injection e1 with e1
  injection e1 with e1 e4
  subst e1 e4
  refine⟨fun o ho=>by have:=hc o (by omega);simpa using this,fun j x u hx hu=>?_⟩
  have hj:=(List.getElem?_eq_some_iff.1 hx).1
  have:=hw j hj
  rw[Nat.zero_add,hu]at this
  injection this with this
  rw[this]
  exact hv j x hx
 | slE A cap h=>
  injection hq with hq;subst hq
  exact⟨fun o ho=>by simp at ho,fun j x u hx=>by simp at hx⟩
 | _=>cases hq
theorem ZS [Known][Dfr](hT:chk P T=true){x y:Operand}{st e i:Nat}{l l':List E}{tk:Tok}{ti te:Ti}{f:Fr}(ht:tl T st=some ti)(hk:ti.kd=.slice e)(hte:tl T e=some te)(hx:ev tm x=.sl (.own i) l)(hy:ev tm y=.sl tk l')
  (hf:fr[i]?=some f) (hfn:f.n=l.length) (hfs:f.sz=te.size) (hfe:f.e=e) (hU:Uni te.size l) (hU':Uni te.size l') (hne:l' ≠ []) (hlen:l.length+l'.length<=maxLen) (hby:(l.length+l'.length)*te.bytes<=140737488355328)
  (hfr:nfl (fr.set i ⟨l.length+l'.length,te.size,e⟩)=some fr') (htd:Nat.blt t n=true)
  (k:AL P ops rest ⟨n,(t,.sl (.own i) (l++l'))::tm,bx,fr',ee⟩ Q):AL P ops (⟨some t,.call { callee:=.builtin .append,args := #[x,y],argTypes := #[st,st] },ty,pos,after,none⟩::rest) ⟨n,tm,bx,fr,ee⟩ Q:=
 Vj _ htd (fun g a w hi=>by
  have h1:V w g fr (ev tm x) (a.eval x):=hi.ev x
  have h2:V w g fr (ev tm y) (a.eval y):=hi.ev y
  rw[hx]at h1
  rw[hy]at h2
  obtain⟨a1,a2⟩:=Wz h1
  obtain⟨b1,_⟩:=Wz h2
  obtain⟨ad,c,news,hyv,n1,n2,n3,n4⟩:=Ko b1 hU' hne
  have hpos':0<l'.length:=List.length_pos_iff.2 hne
  obtain⟨f',hf',_,hfv⟩:=a2
  rw[hf]at hf';injection hf' with hf';subst hf'
  obtain⟨blk,cap,hxv,hτ⟩:=hfv hfn
  have hm:=hi.mem
  have hTk:=hm.tat i blk cap f hτ hf
  obtain⟨cur,s1,s2⟩:=hTk.row
  rw[hfe]at s1
  rw[hfs]at s2
  have hle:=hTk.le
  rw[hfn]at hle
  have hpos:=hTk.pos
  rw[hfs]at hpos
  have hmax:=hTk.max
  have hblk:blk<w.heap.size:=(Array.getElem?_eq_some_iff.1 s1).1
  have hu:=(ZF hT ht).slice hk
  obtain⟨ie,ue,z,i1,i2,i3,i4,i5,i6,i7⟩:=(ZF hT hte).out
  rw[hxv]at a1
  obtain⟨o1,o2⟩:=a1.old hU
  have hz:=(YX (w:=w) (g:=g) (fr:=fr) i7).1
  have hcurle:l.length*te.size<=cur.size:=by rw[s2];exact Nat.mul_le_mul_right _ hle
  have olds:(cur.toList.take (l.length*te.size)).length=l.length*ie.size:=by rw[<- i5];simp;omega
  have oget:∀(j:Nat) (u:Value),(cur.toList.take (l.length*te.size))[j]?=some u->w.cell? ⟨blk,j,none⟩=some u:=fun j u hu=>by
   rw[cell_of_row w blk j cur e (0,0) s1]
   have:j<l.length*te.size/\cur[j]?=some u:=by simpa[List.getElem?_take]using hu
   exact this.2
  have hflat:=hU.flat
  have hnew:∀(j:Nat) (x:E) (u:Value),(flat (l++l'))[j]?=some x->(cur.toList.take (l.length*te.size)++news)[j]?=some u->VE w g.C x u:=fun j x u hx hu=>by
   rw[Vi]at hx
   have hl2:(cur.toList.take (l.length*te.size)).length=l.length*te.size:=by simp;omega
   rcases Nat.lt_or_ge j (l.length*te.size) with hj|hj
   ·rw[List.getElem?_append_left (by omega)]at hx
    rw[List.getElem?_append_left (by omega)]at hu
    exact o2 j x u hx (oget j u hu)
   ·rw[List.getElem?_append_right (by omega),hflat]at hx
    rw[List.getElem?_append_right (by omega),hl2]at hu
    exact n4 _ x u hx hu
  have hll:(l++l').length=l.length+l'.length:=List.length_append
  have hUU:=hU.append hU'
  have hmul:(l.length+l'.length)*te.size=l.length*te.size+l'.length*te.size:=Nat.add_mul _ _ _
  have hltr:i<fr.length:=(List.getElem?_eq_some_iff.1 hf).1
  have hltτ:i<g.τ.length:=by rw[hm.tl];exact hltr
  rw[<- Yq hfr]
  by_cases hroom:l.length+l'.length<=cap
  ·
   have hfit:l.length*ie.size+news.length<=cur.size:=by rw[n1,<- i5,s2,<- Nat.add_mul];exact Nat.mul_le_mul_right _ hroom
   have hr:=run_append_room (P:=P) w st ty e ie hu i1 blk l.length cap cur s1 ad l'.length c news (by rw[<- i5];exact n1) n2 n3 hroom hfit
   obtain⟨w',hw'⟩:∃ w',w'=w.setRow blk (cur.toList.take (l.length*ie.size)++news++cur.toList.drop (l.length*ie.size+news.length)).toArray:=⟨_,rfl⟩
   rw[<- hw']at hr
   rw[<- i5]at hw' hfit
   have hheap:w'.heap[blk]?=some (.cells (cur.toList.take (l.length*te.size)++news++cur.toList.drop (l.length*te.size+news.length)).toArray e (0,0)):=by
    rw[hw'];exact setRow_heap w blk cur _ e _ s1
   have hsz:w'.heap.size=w.heap.size:=by rw[hw'];simp[World.setRow]
   have hl2:(cur.toList.take (l.length*te.size)).length=l.length*te.size:=by simp;omega
   have hcl:∀ j,j<l.length*te.size+news.length->w'.cell? ⟨blk,j,none⟩=(cur.toList.take (l.length*te.size)++news)[j]? := fun j hj=>by
    rw[cell_of_row w' blk j _ _ _ hheap]
    simp only[List.getElem?_toArray]
    rw[List.getElem?_append_left (by simp only[List.length_append,hl2];exact hj)]
   obtain⟨k1,k2⟩:=hm.retok (i:=i) (blk':=blk) (cap':=cap) (f:=f) (f':=⟨l.length+l'.length,te.size,e⟩) (C':=fun k o=>g.C k o\/(k=blk/\o<(l.length+l'.length)*te.size)) (w':=w') hτ hf (by dsimp only;omega) (.inl rfl)
    (by rw[hw'];rfl) (by rw[hw'];rfl) (by rw[hw'];rfl) (by rw[hsz];exact Nat.le_refl _) (by rw[hsz];exact hblk)
    (fun k hk hne=>by rw[hw'];simp only[World.setRow,Array.getElem?_modify];rw[if_neg (fun e=>hne e.symm)])
    (fun k o=>Iff.rfl)
    (fun o ho=>by
     have hlt:o<l.length*te.size:=by
      rcases Nat.lt_or_ge o (l.length*te.size) with h|h
      ·exact h
      ·exact(hTk.far o (by rw[hfn,hfs];exact h) ho).elim
     rw[hcl o (by omega),List.getElem?_append_left (by omega),List.getElem?_take,if_pos hlt,cell_of_row w blk o cur e (0,0) s1]
     simp)
    ⟨_,hheap,by simp only[List.size_toArray,List.length_append,hl2,List.length_drop,Array.length_toList,n1];rw[n1]at hfit;omega⟩ hroom hmax hpos
    (fun o ho hC=>hTk.far o (by rw[hfn,hfs];dsimp only at ho;omega) hC)
   refine⟨.slice (some ⟨blk,0,none⟩) (l.length+l'.length) cap,w',_,by simp only[execOp,resolve,invoke,builtin,Sem.run_bind,Sem.run_pure,Result.andThen_ok,List.map_toArray,List.map_cons,List.map_nil,hxv,hyv,hr],k1,k2,?_⟩
   refine .sl _ _ _ ?_ ⟨⟨l.length+l'.length,te.size,e⟩,List.getElem?_set_self hltr,by rw[hll];exact Nat.le_refl _,fun _=>⟨blk,cap,by rw[hll],List.getElem?_set_self hltτ⟩⟩
   have hfl2:(flat (l++l')).length=l.length*te.size+news.length:=by rw[hUU.flat,hll,n1,hmul]
   suffices hVE:VE w' (fun k o=>g.C k o\/(k=blk/\o<(l.length+l'.length)*te.size)) (.sl (l++l')) (.slice (some ⟨blk,0,none⟩) (l++l').length cap) by rw[hll]at hVE;exact hVE
   refine .slC _ blk 0 cap (fun j=>(cur.toList.take (l.length*te.size)++news).getD j undef) (by rw[hll];exact hroom) hmax (fun j hj=>.inr ⟨rfl,by rw[hfl2,n1]at hj;rw[hmul];omega⟩) (fun j hj=>?_) (fun j x hx=>?_)
   ·rw[hfl2]at hj
    rw[Nat.zero_add,hcl j hj]
    exact getD_some (by simp only[List.length_append,hl2];exact hj)
   ·have hj:=(List.getElem?_eq_some_iff.1 hx).1
    rw[hfl2]at hj
    exact(hnew j x _ hx (getD_some (by simp only[List.length_append,hl2];exact hj))).mono k1.C k1.cell
  ·
   have hr:=run_append_grow (P:=P) w st ty e ie z hu i1 i3 ⟨blk,0,none⟩ l.length cap (cur.toList.take (l.length*te.size)) olds (fun j u hu=>by rw[Addr.add_mid,Nat.zero_add];exact oget j u hu) ad l'.length c news (by rw[<- i5];exact n1) n2 (by omega) (by simp only[maxLen]at hlen;omega) (growslice_fits (by omega) (by rw[<- i6];exact hby))
   have hge:=grownCap_ge w (l.length+l'.length) cap e
   have hcm:=grownCap_le_maxLen w (l.length+l'.length) cap e hlen
   obtain⟨C2,hC2⟩:∃ C2,C2=grownCap w (l.length+l'.length) cap e:=⟨_,rfl⟩
   rw[<- hC2]at hr hge hcm
   have hl2:(cur.toList.take (l.length*te.size)).length=l.length*te.size:=by simp;omega
   have hcurr:(cur.toList.take (l.length*te.size)).toArray++news.toArray++Builtin.zeroCells z.cells (C2-(l.length+l'.length))=(cur.toList.take (l.length*te.size)++news++(Builtin.zeroCells z.cells (C2-(l.length+l'.length))).toList).toArray:=by simp
   rw[hcurr]at hr
   obtain⟨rest',hrest⟩:∃ rest',rest'=(Builtin.zeroCells z.cells (C2-(l.length+l'.length))).toList:=⟨_,rfl⟩
   have hzc:z.cells.size=ie.size:=by
    have:=i7;rw[<- Array.length_toList,hz,<- i5]
    exact(VD hT hte).symm
   have hrl:rest'.length=(C2-(l.length+l'.length))*te.size:=by rw[hrest,Array.length_toList,size_zeroCells,hzc,<- i5]
   rw[<- hrest]at hr
   have hheap:(w.drew.alloc (.cells (cur.toList.take (l.length*te.size)++news++rest').toArray e)).heap[w.heap.size]?=some (.cells (cur.toList.take (l.length*te.size)++news++rest').toArray e (0,0)):=heap_alloc_new w.drew _
   have hcl:∀ j,j<l.length*te.size+news.length->(w.drew.alloc (.cells (cur.toList.take (l.length*te.size)++news++rest').toArray e)).cell? ⟨w.heap.size,j,none⟩=(cur.toList.take (l.length*te.size)++news)[j]? := fun j hj=>by
    rw[cell_of_row _ w.heap.size j _ _ _ hheap]
    simp only[List.getElem?_toArray]
    rw[List.getElem?_append_left (by simp only[List.length_append,hl2];exact hj)]
   obtain⟨k1,k2⟩:=hm.retok (i:=i) (blk':=w.heap.size) (cap':=C2) (f:=f) (f':=⟨l.length+l'.length,te.size,e⟩) (C':=fun k o=>g.C k o\/(k=w.heap.size/\o<(l.length+l'.length)*te.size)) (w':=w.drew.alloc (.cells (cur.toList.take (l.length*te.size)++news++rest').toArray e)) hτ hf (by dsimp only;omega) (.inr rfl)
    rfl rfl rfl (by simp) (by simp) (fun k hk _=>Below.heap_alloc w.drew _ k hk) (fun k o=>Iff.rfl) (fun o ho=>by have:=hm.Clt _ o ho;omega)
    ⟨_,hheap,by simp only[List.size_toArray,List.length_append,hl2,n1,hrl,<- Nat.add_mul];congr 1;omega⟩ hge hcm hpos (fun o _ hC=>by have:=hm.Clt _ o hC;omega)
   refine⟨.slice (some ⟨w.heap.size,0,none⟩) (l.length+l'.length) C2,_,_,by simp only[execOp,resolve,invoke,builtin,Sem.run_bind,Sem.run_pure,Result.andThen_ok,List.map_toArray,List.map_cons,List.map_nil,hxv,hyv,hr],k1,k2,?_⟩
   refine .sl _ _ _ ?_ ⟨⟨l.length+l'.length,te.size,e⟩,List.getElem?_set_self hltr,by rw[hll];exact Nat.le_refl _,fun _=>⟨w.heap.size,C2,by rw[hll],List.getElem?_set_self hltτ⟩⟩
   have hfl2:(flat (l++l')).length=l.length*te.size+news.length:=by rw[hUU.flat,hll,n1,hmul]
   suffices hVE:VE (w.drew.alloc (.cells (cur.toList.take (l.length*te.size)++news++rest').toArray e)) (fun k o=>g.C k o\/(k=w.heap.size/\o<(l.length+l'.length)*te.size)) (.sl (l++l')) (.slice (some ⟨w.heap.size,0,none⟩) (l++l').length C2) by rw[hll]at hVE;exact hVE
   refine .slC _ w.heap.size 0 C2 (fun j=>(cur.toList.take (l.length*te.size)++news).getD j undef) (by rw[hll];exact hge) hcm (fun j hj=>.inr ⟨rfl,by rw[hfl2,n1]at hj;rw[hmul];omega⟩) (fun j hj=>?_) (fun j x hx=>?_)
   ·rw[hfl2]at hj
    rw[Nat.zero_add,hcl j hj]
    exact getD_some (by simp only[List.length_append,hl2];exact hj)
   ·have hj:=(List.getElem?_eq_some_iff.1 hx).1
    rw[hfl2]at hj
    exact(hnew j x _ hx (getD_some (by simp only[List.length_append,hl2];exact hj))).mono k1.C k1.cell) k
def emp:D->Bool
 | .sl t []=>match t with
  | .nil=>true
  | .zero=>true
  | _=>false
 | _=>false
theorem Ju {d:D}{v:Value}(h:V w g fr d v)(he:emp d=true):∃ A:Option Addr,v=.slice A 0 0:=by
 cases h with
 | sl t l v h hk=>
  cases l with
  | cons x l=>cases he
  | nil=>
   cases t with
   | nil=>exact⟨_,hk⟩
   | zero=>exact hk
   | ext=>cases he
   | own i=>cases he
 | _=>cases he
def Src [Known](bx:List (List D))(sz:Nat)(d:D)(l:List E):Prop:=∀ {g:G} {fr:List Fr} {w:World} {v:Value},Mem g bx fr w->V w g fr d v->Uni sz l->l ≠ [] ->
 ∃(ad:Addr) (c:Nat) (news:List Value),v=.slice (some ad) l.length c/\news.length=l.length*sz/\(∀ j u,news[j]?=some u->w.cell? (ad.add j)=some u)/\(∀ u ∈ news,u.oneCell'=true) /\
  ∀(j:Nat) (x:E) (u:Value),(flat l)[j]?=some x->news[j]?=some u->VE w g.C x u
theorem Src.sl [Known]{bx:List (List D)}{sz:Nat}{d:D}{tk:Tok}{l:List E}(h:d=.sl tk l):Src bx sz d l:=fun _ hv hU hne=>by
 subst h
 exact Ko (Wz hv).1 hU hne
theorem Wa (A:Option Addr)(w:World)(t ty e:TypeId)(i:TypeInfo)(z:Value)(ht:P.underlying t=some (.slice e))(hi:P.info? e=some i)(hz:i.zero=some z)(a:Addr)(m c:Nat)(news:List Value)
  (hl:news.length=m*i.size) (hnews:∀ j u,news[j]?=some u->w.cell? (a.add j)=some u) (hpos:0<m) (h63:(m:Int)<=9223372036854775807) (hfit:m*i.bytes<=140737488355328) :
  (Builtin.append_ #[t,t] ty #[.slice A 0 0,.slice (some a) m c]).run P w=.ok (.slice (some ⟨w.heap.size,0,none⟩) m (grownCap w m 0 e)) (w.drew.alloc (.cells (news.toArray++Builtin.zeroCells z.cells (grownCap w m 0 e-m)) e)):=by
 cases A with
 | none=>exact run_append_nil (P:=P) w t ty e i z ht hi hz a m c news hl hnews hpos h63 (by omega)
 | some b=>
  have hr:=run_append_grow (P:=P) w t ty e i z ht hi hz b 0 0 [] (by simp) (fun j u h=>by simp at h) a m c news hl hnews (by omega) (by omega) (growslice_fits (by omega) (by rw[Nat.zero_add];exact hfit))
  simpa using hr
theorem U7 [Known][Dfr](hT:chk P T=true){x y:Operand}{st e m:Nat}{l':List E}{ti te:Ti}(ht:tl T st=some ti)(hk:ti.kd=.slice e)(hte:tl T e=some te)(hx:emp (ev tm x)=true)(hy:Src bx te.size (ev tm y) l')
  (hpos:Nat.blt 0 te.size=true) (hU':Uni te.size l') (hne:l' ≠ []) (hlen:l'.length<=maxLen) (hby:l'.length*te.bytes<=140737488355328)
  (hm:fr.length=m) (hfr:nfl (fr++[⟨l'.length,te.size,e⟩])=some fr') (htd:Nat.blt t n=true)
  (k:AL P ops rest ⟨n,(t,.sl (.own m) l')::tm,bx,fr',ee⟩ Q):AL P ops (⟨some t,.call { callee:=.builtin .append,args := #[x,y],argTypes := #[st,st] },ty,pos,after,none⟩::rest) ⟨n,tm,bx,fr,ee⟩ Q:=
 Vj _ htd (fun g a w hi=>by
  have h1:V w g fr (ev tm x) (a.eval x):=hi.ev x
  have h2:V w g fr (ev tm y) (a.eval y):=hi.ev y
  obtain⟨A0,hxv⟩:=Ju h1 hx
  obtain⟨ad,c,news,hyv,n1,n2,n3,n4⟩:=hy hi.mem h2 hU' hne
  have hpos':0<l'.length:=List.length_pos_iff.2 hne
  have hpos:0<te.size:=by simpa[Nat.blt_eq]using hpos
  have hu:=(ZF hT ht).slice hk
  obtain⟨ie,ue,z,i1,i2,i3,i4,i5,i6,i7⟩:=(ZF hT hte).out
  have hr:=Wa (P:=P) A0 w st ty e ie z hu i1 i3 ad l'.length c news (by rw[<- i5];exact n1) n2 hpos' (by simp only[maxLen]at hlen;omega) (by rw[<- i6];omega)
  have hge:=grownCap_ge w l'.length 0 e
  have hcm:=grownCap_le_maxLen w l'.length 0 e hlen
  obtain⟨C2,hC2⟩:∃ C2,C2=grownCap w l'.length 0 e:=⟨_,rfl⟩
  rw[<- hC2]at hr hge hcm
  have hcurr:news.toArray++Builtin.zeroCells z.cells (C2-l'.length)=(news++(Builtin.zeroCells z.cells (C2-l'.length)).toList).toArray:=by simp
  rw[hcurr]at hr
  have hz:=(YX (w:=w) (g:=g) (fr:=fr) i7).1
  have hzc:z.cells.size=ie.size:=by
   rw[<- Array.length_toList,hz,<- i5]
   exact(VD hT hte).symm
  have hfl:=hU'.flat
  have hd:Mem g bx fr w.drew:=hi.mem.drew
  have hzl:(Builtin.zeroCells z.cells (C2-l'.length)).toList.length=(C2-l'.length)*te.size:=by rw[Array.length_toList,size_zeroCells,hzc,<- i5]
  obtain⟨k1,k2,k3⟩:=hd.row (news++(Builtin.zeroCells z.cells (C2-l'.length)).toList) l' C2 te.size e hpos (by
   rw[List.length_append,hzl,n1,<- Nat.add_mul]
   congr 1;omega) hge hcm hU' (fun j x u hx hu=>by
    have hj:=(List.getElem?_eq_some_iff.1 hx).1
    rw[List.getElem?_append_left (by omega)]at hu
    exact(n4 j x u hx hu).drew)
  have e1:=Yq hfr
  subst e1 hm
  exact⟨.slice (some ⟨w.heap.size,0,none⟩) l'.length C2,_,_,by simp only[execOp,resolve,invoke,builtin,Sem.run_bind,Sem.run_pure,Result.andThen_ok,List.map_toArray,List.map_cons,List.map_nil,hxv,hyv,hr],Evo.drew.trans k1,k2,k3⟩) k
theorem Ya [Known][Dfr](hT:chk P T=true){x y:Operand}{st e m:Nat}{l':List E}{tk:Tok}{ti te:Ti}(ht:tl T st=some ti)(hk:ti.kd=.slice e)(hte:tl T e=some te)(hx:ev tm x=.sl .nil [])(hy:ev tm y=.sl tk l')
  (hpos:Nat.blt 0 te.size=true) (hU':Uni te.size l') (hne:l' ≠ []) (hlen:l'.length<=maxLen) (hby:l'.length*te.bytes<=140737488355328)
  (hm:fr.length=m) (hfr:nfl (fr++[⟨l'.length,te.size,e⟩])=some fr') (htd:Nat.blt t n=true)
  (k:AL P ops rest ⟨n,(t,.sl (.own m) l')::tm,bx,fr',ee⟩ Q):AL P ops (⟨some t,.call { callee:=.builtin .append,args := #[x,y],argTypes := #[st,st] },ty,pos,after,none⟩::rest) ⟨n,tm,bx,fr,ee⟩ Q:=
 U7 hT ht hk hte (by rw[hx];rfl) (Src.sl hy) hpos hU' hne hlen hby hm hfr htd k
theorem Z0 [Known][Dfr](hT:chk P T=true){x y:Operand}{st e:Nat}{l:List E}{tk tk':Tok}{ti te:Ti}(ht:tl T st=some ti)(hk:ti.kd=.slice e)(hte:tl T e=some te)(hx:ev tm x=.sl tk l)(hy:ev tm y=.sl tk' [])(htd:Nat.blt t n=true)
  (k:AL P ops rest ⟨n,(t,.sl tk l)::tm,bx,fr,ee⟩ Q):AL P ops (⟨some t,.call { callee:=.builtin .append,args := #[x,y],argTypes := #[st,st] },ty,pos,after,none⟩::rest) ⟨n,tm,bx,fr,ee⟩ Q:=
 ZR _ htd (fun g a w hi=>by
  have h1:V w g fr (ev tm x) (a.eval x):=hi.ev x
  have h2:V w g fr (ev tm y) (a.eval y):=hi.ev y
  rw[hx]at h1
  rw[hy]at h2
  obtain⟨b1,_⟩:=Wz h2
  refine⟨a.eval x,?_,h1⟩
  obtain⟨a1,_⟩:=Wz h1
  have hu:=(ZF hT ht).slice hk
  obtain⟨ie,ue,z,i1,i2,i3,i4,i5,i6,i7⟩:=(ZF hT hte).out
  obtain⟨A,cap,hyv⟩:∃ A cap,a.eval y=.slice A 0 cap:=by
   generalize hq:E.sl []=q at b1
   generalize a.eval y=v at b1
   cases b1 with
   | slE A cap h=>exact⟨A,cap,rfl⟩
   | slC l' b off cap us _ _ _ _ _=>injection hq with hq;subst hq;exact⟨_,cap,rfl⟩
   | _=>cases hq
  obtain⟨A',m,cap',hxv,hle⟩:∃ A m cap,a.eval x=.slice A m cap/\m<=cap:=by
   generalize hq:E.sl l=q at a1
   generalize a.eval x=v at a1
   cases a1 with
   | slE A cap h=>exact⟨A,0,cap,rfl,Nat.zero_le _⟩
   | slC l' b off cap us h1 _ _ _ _=>exact⟨_,_,cap,rfl,h1⟩
   | _=>cases hq
  rw[hxv]
  have hrun:(Builtin.append_ #[st,st] ty #[.slice A' m cap',.slice A 0 cap]).run P w=.ok (.slice A' m cap') w:=by
   cases A'<;>cases A<;>simp[Builtin.append_,run_underlying hu,sizeOf,typeInfo,i1,Builtin.lenOf,Builtin.firstCells,loadCells,loadCellsFrom,storeCells,hle]
  simp only[execOp,resolve,invoke,builtin,Sem.run_bind,Sem.run_pure,Result.andThen_ok,List.map_toArray,List.map_cons,List.map_nil,hxv,hyv,hrun]) k
end
end Go.Av
end

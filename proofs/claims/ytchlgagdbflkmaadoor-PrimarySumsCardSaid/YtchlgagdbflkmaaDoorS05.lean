/- More operations: slices read and cut, texts, conversions, structs built, tests. -/
import Derived.Test.YtchlgagdbflkmaaDoorS04
set_option linter.unusedSimpArgs false
set_option linter.unusedVariables false
section
open Go.RowKit Go.Pl
namespace Go.Av
section
variable {P:Program} {Q:X->St->Prop} {n:Nat} {ee:Nat × Nat} {tm:List (Nat × D)} {bx bx':List (List D)} {fr fr':List Fr} {b0:Bs} {g:G} {w:World} {a:Act} {T:Tab}
variable {ops:Array Oper} {rest:List Oper} {t ty:Nat} {pos:String} {after:Array Edge}
theorem Zs [Known][Dfr](hT:chk P T=true){x y:Operand}{st e:Nat}{k:IntKind}{i:Int}{tk:Tok}{l:List E}{ti te:Ti}{v:E}(hx:ev tm x=.sl tk l)(hy:ev tm y=.int k i)(ht:tl T st=some ti)(hk:ti.kd=.slice e)(hte:tl T e=some te)(htd:Nat.blt t n=true)
  (h0:0<=i) (hv:l[i.toNat]?=some v) (hU:Uni te.size l)
  (kk:AL P ops rest ⟨n,(t,.eptr v.cells 0)::tm,bx,fr,ee⟩ Q):AL P ops (⟨some t,.indexAddr st x y,ty,pos,after,none⟩::rest) ⟨n,tm,bx,fr,ee⟩ Q:=
 ZR _ htd (fun g a w hi=>by
  have h1:V w g fr (ev tm x) (a.eval x):=hi.ev x
  rw[hx]at h1
  have h2:V w g fr (ev tm y) (a.eval y):=hi.ev y
  rw[hy]at h2
  have h2:=h2.int_inv
  obtain⟨a1,_⟩:=Wz h1
  have hlt:i.toNat<l.length:=(List.getElem?_eq_some_iff.1 hv).1
  have hu:=(ZF hT ht).slice hk
  have hsz:=Z1 (P:=P) (t:=e) (ZF hT hte).tSize w
  have hvs:v.cells.length=te.size:=hU v (List.mem_of_getElem? hv)
  have hfl:=hU.flat
  have hle:i.toNat*te.size+te.size<=l.length*te.size:=by
   have:=Nat.mul_le_mul_right te.size (show i.toNat+1<=l.length by omega)
   rw[Nat.add_mul]at this;omega
  generalize hq:E.sl l=q at a1
  obtain⟨p,hp⟩:∃ p,p=a.eval x:=⟨_,rfl⟩
  rw[<- hp]at a1
  cases a1 with
  | slC l' b off cap us q1 q2 hc hw hvv=>
   injection hq with hq;subst hq
   have hadd:(⟨b,off,none⟩:Addr).add (i.toNat*te.size)=⟨b,off+i.toNat*te.size,none⟩:=by unfold Addr.add;split<;>simp_all
   refine⟨.pointer (some ⟨b,off+i.toNat*te.size,none⟩),?_,?_⟩
   ·have hb:0<=i/\i<(l.length:Int):=⟨h0,by omega⟩
    have hrun:(Instr.indexAt st (.slice (some ⟨b,off,none⟩) l.length cap) (.int k i)).run P w=.ok (.pointer (some ⟨b,off+i.toNat*te.size,none⟩)) w:=by
     simp[Instr.indexAt,asIntOf,Sem.run_bind,run_underlying hu,hb,hsz,hadd]
    simp[execOp,<- hp,h2,Sem.run_bind,hrun]
   ·have:=V.eptr (w:=w) (g:=g) (fr:=fr) v.cells 0 b (off+i.toNat*te.size) (fun j=>us (i.toNat*te.size+j)) (fun j hj=>by rw[Nat.add_assoc];exact hc _ (by omega)) (fun j hj=>by rw[Nat.add_assoc];exact hw _ (by omega)) (fun j x hx=>by
     have hj:=(List.getElem?_eq_some_iff.1 hx).1
     exact hvv _ x ((hU.at_ hv j (by omega)).trans hx))
    simpa using this
  | slE A cap h=>injection hq with hq;subst hq;simp at hlt
  | _=>cases hq) kk
theorem IU [Known][Dfr]{x y:Operand}{st:Nat}{k:IntKind}{i:Int}{s:List UInt8}{ti:Ti}{c:UInt8}(hT:chk P T=true)(hx:ev tm x=.str s)(hy:ev tm y=.int k i)(ht:tl T st=some ti)(hk:ti.kd=.str)(htd:Nat.blt t n=true)
  (h0:0<=i) (hv:s[i.toNat]?=some c)
  (kk:AL P ops rest ⟨n,(t,.int .u8 (c.toNat:Int))::tm,bx,fr,ee⟩ Q):AL P ops (⟨some t,.index st x y,ty,pos,after,none⟩::rest) ⟨n,tm,bx,fr,ee⟩ Q:=
 ZR _ htd (fun g a w hi=>by
  have h1:V w g fr (ev tm x) (a.eval x):=hi.ev x
  rw[hx]at h1
  have h1:=h1.str_inv.1
  have h2:V w g fr (ev tm y) (a.eval y):=hi.ev y
  rw[hy]at h2
  have h2:=h2.int_inv
  have hlt:i.toNat<s.length:=(List.getElem?_eq_some_iff.1 hv).1
  have hc:=(List.getElem?_eq_some_iff.1 hv).2
  refine⟨.int .u8 (c.toNat:Int),?_,.int _ _⟩
  have hg:(⟨s.toArray⟩:ByteArray)[i.toNat]?=some c:=by
   have hlt':i.toNat<(⟨s.toArray⟩:ByteArray).size:=by show _<s.toArray.size;simpa using hlt
   rw[show((⟨s.toArray⟩:ByteArray)[i.toNat]?)=if h:i.toNat<(⟨s.toArray⟩:ByteArray).size then some ((⟨s.toArray⟩:ByteArray)[i.toNat]) else none from rfl,dif_pos hlt']
   congr 1
  have hrun:(Instr.index st (.string ⟨s.toArray⟩) (.int k i)).run P w=.ok (.int .u8 (c.toNat:Int)) w:=by
   simp[Instr.index,asIntOf,Sem.run_bind,run_underlying ((ZF hT ht).str hk),h0,hg]
  simp[execOp,h1,h2,Sem.run_bind,hrun]) kk
theorem Zn [Known][Dfr]{x:Operand}{st:Nat}{tk:Tok}{l:List E}{ti:Ti}{e:Nat}(hT:chk P T=true)(hx:ev tm x=.sl tk l)(ht:tl T st=some ti)(hk:ti.kd=.slice e)(htd:Nat.blt t n=true)
  (kk:AL P ops rest ⟨n,(t,.int .i64 (l.length:Int))::tm,bx,fr,ee⟩ Q):AL P ops (⟨some t,.call { callee:=.builtin .len,args := #[x],argTypes := #[st] },ty,pos,after,none⟩::rest) ⟨n,tm,bx,fr,ee⟩ Q:=
 ZR _ htd (fun g a w hi=>by
  have h1:V w g fr (ev tm x) (a.eval x):=hi.ev x
  rw[hx]at h1
  obtain⟨a1,_⟩:=Wz h1
  obtain⟨A,cap,hv⟩:∃ A cap,a.eval x=.slice A l.length cap:=by
   generalize hq:E.sl l=q at a1
   generalize a.eval x=v at a1
   cases a1 with
   | slC l' b off cap us _ _ _ _ _=>injection hq with hq;subst hq;exact⟨_,cap,rfl⟩
   | slE A cap h=>injection hq with hq;subst hq;exact⟨A,cap,rfl⟩
   | _=>cases hq
  refine⟨.int .i64 (l.length:Int),?_,.int _ _⟩
  simp[execOp,resolve,invoke,builtin,Builtin.len_,Sem.run_bind,hv,run_underlying ((ZF hT ht).slice hk),goInt]) kk
theorem WY [Known][Dfr]{x:Operand}{st:Nat}{s:List UInt8}{ti:Ti}(hT:chk P T=true)(hx:ev tm x=.str s)(ht:tl T st=some ti)(hk:ti.kd=.str)(htd:Nat.blt t n=true)
  (kk:AL P ops rest ⟨n,(t,.int .i64 (s.length:Int))::tm,bx,fr,ee⟩ Q):AL P ops (⟨some t,.call { callee:=.builtin .len,args := #[x],argTypes := #[st] },ty,pos,after,none⟩::rest) ⟨n,tm,bx,fr,ee⟩ Q:=
 ZR _ htd (fun g a w hi=>by
  have h1:V w g fr (ev tm x) (a.eval x):=hi.ev x
  rw[hx]at h1
  have h1:=h1.str_inv.1
  refine⟨.int .i64 (s.length:Int),?_,.int _ _⟩
  have hs:(⟨s.toArray⟩:ByteArray).size=s.length:=by show s.toArray.size=_;simp
  simp[execOp,resolve,invoke,builtin,Builtin.len_,Sem.run_bind,h1,run_underlying ((ZF hT ht).str hk),goInt,hs]) kk
inductive Bnd (tm:List (Nat × D)):Option Operand->Nat->Nat->Prop
 | dft (d:Nat):Bnd tm none d d
 | lit (x:Operand) (d:Nat) (k:IntKind) (i:Int) (h:ev tm x=.int k i) (h0:0<=i):Bnd tm (some x) d i.toNat
theorem Bnd.val [Known][Dfr]{S:St}{x:Operand}{k:IntKind}{i:Int}(hi:Inv b0 S g a w)(h:ev S.tm x=.int k i):a.eval x=.int k i:=by
 have h1:V w g S.fr (ev S.tm x) (a.eval x):=hi.ev x
 rw[h]at h1
 exact h1.int_inv
theorem Bnd.runs [Known][Dfr]{S:St}{lo hi':Option Operand}{p q len cap:Nat}(hlo:Bnd S.tm lo 0 p)(hhi:Bnd S.tm hi' len q)(hi:Inv b0 S g a w)(hpq:p<=q)(hq:q<=cap)(b:Bool) :
  (Instr.sliceBounds b len cap (lo.map a.eval) (hi'.map a.eval) none).run P w=.ok (p,q,cap) w:=by
 cases hlo with
 | dft=>
  cases hhi with
  | dft=>rfl
  | lit y _ k' j h' h0'=>
   have hb:0<=j/\j<=(cap:Int):=⟨h0',by omega⟩
   simp[Instr.sliceBounds,Bnd.val hi h',Instr.sliceBound,asIntOf,Sem.run_bind,hb]
 | lit x _ k i h h0=>
  cases hhi with
  | dft=>
   have hb:0<=i/\i<=(q:Int):=⟨h0,by omega⟩
   simp[Instr.sliceBounds,Bnd.val hi h,Instr.sliceBound,asIntOf,Sem.run_bind,hb]
  | lit y _ k' j h' h0'=>
   have hb:0<=j/\j<=(cap:Int):=⟨h0',by omega⟩
   have hb2:0<=i/\i<=((j.toNat:Nat):Int):=⟨h0,by omega⟩
   simp only[Instr.sliceBounds,Option.map_some,Bnd.val hi h,Bnd.val hi h',Instr.sliceBound,asIntOf,Sem.run_bind,Sem.run_pure,Result.andThen_ok,if_pos hb,if_pos hb2]
theorem JR [Known][Dfr](hT:chk P T=true){x:Operand}{st e:Nat}{tk:Tok}{l l2:List E}{lo hi':Option Operand}{p q:Nat}{ti te:Ti}(hx:ev tm x=.sl tk l)(ht:tl T st=some ti)(hk:ti.kd=.slice e)(hte:tl T e=some te)(htd:Nat.blt t n=true)
  (hlo:Bnd tm lo 0 p) (hhi:Bnd tm hi' l.length q) (hpq:p<=q) (hq:q<=l.length) (hU:Uni te.size l) (hl2:(l.take q).drop p=l2)
  (kk:AL P ops rest ⟨n,(t,.sl .ext l2)::tm,bx,fr,ee⟩ Q):AL P ops (⟨some t,.slice st x lo hi' none,ty,pos,after,none⟩::rest) ⟨n,tm,bx,fr,ee⟩ Q:=
 ZR _ htd (fun g a w hi=>by
  have h1:V w g fr (ev tm x) (a.eval x):=hi.ev x
  rw[hx]at h1
  obtain⟨a1,_⟩:=Wz h1
  have hu:=(ZF hT ht).slice hk
  have hsz:=Z1 (P:=P) (t:=e) (ZF hT hte).tSize w
  obtain⟨A,cap,hv,hcap⟩:∃ A cap,a.eval x=.slice A l.length cap/\l.length<=cap:=by
   generalize hq:E.sl l=q at a1
   generalize a.eval x=v at a1
   cases a1 with
   | slC l' b off cap us h1 _ _ _ _=>injection hq with hq;subst hq;exact⟨_,cap,rfl,h1⟩
   | slE A cap h=>injection hq with hq;subst hq;exact⟨A,cap,rfl,Nat.zero_le _⟩
   | _=>cases hq
  have hb:=Bnd.runs (S:=⟨n,tm,bx,fr,_⟩) (P:=P) (cap:=cap) hlo hhi hi hpq (by omega) true
  refine⟨.slice (if cap=p then A else A.map (·.add (p*te.size))) (q-p) (cap-p),?_,?_⟩
  ·have hrun:(Instr.sliceAt st (.slice A l.length cap) (lo.map a.eval) (hi'.map a.eval) none).run P w=.ok (.slice (if cap=p then A else A.map (·.add (p*te.size))) (q-p) (cap-p)) w:=by
    simp[Instr.sliceAt,Instr.slice,Sem.run_bind,run_underlying hu,hb,hsz]
   simp only[execOp,hv,Sem.run_bind,Option.map_none,hrun,Result.andThen_ok]
   rfl
  ·subst hl2
   have hlen:((l.take q).drop p).length=q-p:=by simp;omega
   refine .sl _ _ _ ?_ trivial
   by_cases he:q-p=0
   ·have hnil:(l.take q).drop p=[]:=List.eq_nil_of_length_eq_zero (by rw[hlen];exact he)
    rw[hnil,he]
    refine .slE _ _ ?_
    generalize hq':E.sl l=qq at a1
    rw[hv]at a1
    generalize hs:Value.slice A l.length cap=s at a1
    cases a1 with
    | slC l' b off cap us h1 h2 _ _ _=>injection hs with _ _ e;omega
    | slE A cap h=>injection hs with _ _ e;omega
    | _=>cases hq'
   ·have hpc:¬ cap=p:=by omega
    rw[if_neg hpc,<- hlen]
    generalize hq':E.sl l=qq at a1
    rw[hv]at a1
    generalize hs:Value.slice A l.length cap=s at a1
    cases a1 with
    | slC l' b off cap' us h1 h2 hc hw hvv=>
     injection hq' with hq';subst hq'
     injection hs with e1 _ e3
     subst e1 e3
     have hadd:(⟨b,off,none⟩:Addr).add (p*te.size)=⟨b,off+p*te.size,none⟩:=by unfold Addr.add;split<;>simp_all
     simp only[Option.map_some,hadd]
     have hU2:Uni te.size (l.take q):=hU.sub fun e h=>List.mem_of_mem_take h
     have hf:flat ((l.take q).drop p)=((flat l).take (q*te.size)).drop (p*te.size):=by rw[hU2.drop_flat,hU.take_flat]
     have hfl:=hU.flat
     have hql:q*te.size<=l.length*te.size:=Nat.mul_le_mul_right _ hq
     have hfl2:(flat ((l.take q).drop p)).length=q*te.size-p*te.size:=by rw[hf];simp;omega
     refine .slC _ b (off+p*te.size) (cap-p) (fun j=>us (p*te.size+j)) (by omega) (by omega) (fun j hj=>by rw[Nat.add_assoc];exact hc _ (by omega)) (fun j hj=>by rw[Nat.add_assoc];exact hw _ (by omega)) (fun j x hx=>hvv _ x ?_)
     have hj:=(List.getElem?_eq_some_iff.1 hx).1
     rw[hf,List.getElem?_drop,List.getElem?_take,if_pos (by omega)]at hx
     exact hx
    | slE A cap' h=>injection hs with _ e;omega
    | _=>cases hq') kk
end
end Go.Av
end
section
open Go.RowKit Go.Pl
namespace Go.Av
def Us (fs:List Fd):List D->List (Nat × D)->Option (List D)
 | cs,[]=>some cs
 | cs,(i,d)::rest=>match fs[i]? with
  | some fd=>match Nat.beq d.cellsOf.length fd.size,Nat.ble (fd.off+fd.size) cs.length,D.ones d.cellsOf with
   | true,true,true=>Us fs (YY cs fd.off d.cellsOf) rest
   | _,_,_=>none
  | none=>none
section
variable {P:Program} {Q:X->St->Prop} {n:Nat} {ee:Nat × Nat} {tm:List (Nat × D)} {bx bx':List (List D)} {fr fr':List Fr} {b0:Bs} {g:G} {w:World} {a:Act} {T:Tab}
variable {ops:Array Oper} {rest:List Oper} {t ty:Nat} {pos:String} {after:Array Edge}
theorem U8 {place:Nat->Option (Nat × Nat)}{fs:List Fd}(hp:∀(i:Nat) (fd:Fd),fs[i]?=some fd->place i=some (fd.off,fd.size)) :
  ∀(ds:List (Nat × D)) (vs:List Value) (cs cs':List D) (cells:Array Value),Us fs cs ds=some cs'->vs.length=ds.length->(∀(j:Nat) (p:Nat × D) (v:Value),ds[j]?=some p->vs[j]?=some v->V w g fr p.2 v) ->
   cells.size=cs.length->(∀(j:Nat) (d:D) (v:Value),cs[j]?=some d->cells[j]?=some v->V w g fr d v) ->
   ∃ out:Array Value,Instr.fill place cells ((ds.map (·.1)).zip vs)=some out/\out.size=cs'.length/\∀(j:Nat) (d:D) (v:Value),cs'[j]?=some d->out[j]?=some v->V w g fr d v
 | [],[],cs,cs',cells,h,_,_,hs,hv=>by simp[Us]at h;subst h;exact⟨cells,rfl,hs,hv⟩
 | (i,d)::ds,v::vs,cs,cs',cells,h,hl,hV,hs,hv=>by
  simp only[Us]at h
  cases hfd:fs[i]? with
  | none=>simp[hfd]at h
  | some fd=>
   simp only[hfd]at h
   cases h1:Nat.beq d.cellsOf.length fd.size with
   | false=>simp[h1]at h
   | true=>
    cases h2:Nat.ble (fd.off+fd.size) cs.length with
    | false=>simp[h1,h2]at h
    | true=>
     cases h3:D.ones d.cellsOf with
     | false=>simp[h1,h2,h3]at h
     | true=>
      simp only[h1,h2,h3]at h
      have h1':=Nat.eq_of_beq_eq_true h1
      have h2':=Nat.le_of_ble_eq_true h2
      obtain⟨us,q1,q2,q3⟩:=(hV 0 (i,d) v rfl rfl).cells h3
      dsimp only at q2 q3
      obtain⟨c',e1,e2⟩:=QV (place:=place) (cells:=cells) (rest:=(ds.map (·.1)).zip vs) (hp i fd hfd) q1 (by rw[q2,h1']) (by rw[hs];exact h2')
      have hcs:cells.toList.length=cs.length:=by simpa using hs
      have hc':c'.size=(YY cs fd.off d.cellsOf).length:=by
       rw[<- Array.length_toList,e2];simp[YY,q2,h1',hs]
      obtain⟨out,o1,o2,o3⟩:=U8 hp ds vs (YY cs fd.off d.cellsOf) cs' c' h (by simpa using hl) (fun j p v hp hv=>hV (j+1) p v (by simpa using hp) (by simpa using hv)) hc' (fun j c u hc hu=>by
       have hu:(cells.toList.take fd.off++(us++cells.toList.drop (fd.off+fd.size)))[j]?=some u:=by rw[<- e2];simpa using hu
       simp only[YY]at hc
       rcases Nat.lt_or_ge j fd.off with hj|hj
       ·rw[List.getElem?_append_left (by simp;omega),List.getElem?_take,if_pos hj]at hc hu
        exact hv j c u hc (by simpa using hu)
       ·rw[List.getElem?_append_right (by simp;omega)]at hc hu
        simp only[List.length_take,hcs,Nat.min_eq_left (show fd.off<=cs.length by omega)]at hc hu
        rcases Nat.lt_or_ge (j-fd.off) us.length with hj2|hj2
        ·rw[List.getElem?_append_left (by omega)]at hc
         rw[List.getElem?_append_left hj2]at hu
         exact q3 _ c u hc hu
        ·rw[List.getElem?_append_right (by omega),List.getElem?_drop]at hc
         rw[List.getElem?_append_right hj2,List.getElem?_drop]at hu
         rw[q2]at hu
         rw[h1']at hc hu
         exact hv _ c u hc (by simpa using hu))
      exact⟨out,by rw[List.map_cons,List.zip_cons_cons,e1,o1],o2,o3⟩
 | [],_::_,_,_,_,_,hl,_,_,_=>by simp at hl
 | _::_,[],_,_,_,_,hl,_,_,_=>by simp at hl
theorem OH [Known][Dfr](hT:chk P T=true){st:Nat}{parts:Array (Nat × Operand)}{ds:List (Nat × D)}{cs cs':List D}{ti:Ti}{fs:List Fd}(ht:tl T st=some ti)(hk:ti.kd=.struct fs)
  (hds:parts.toList.map (fun p=>(p.1,ev tm p.2))=ds) (hb:Us fs (ti.zero.map ZK.d) ds=some cs) (hn:nfs cs=some cs') (htd:Nat.blt t n=true)
  (k:AL P ops rest ⟨n,(t,.agg cs')::tm,bx,fr,ee⟩ Q):AL P ops (⟨some t,.build st parts,ty,pos,after,none⟩::rest) ⟨n,tm,bx,fr,ee⟩ Q:=
 ZR _ htd (fun g a w hi=>by
  have hti:=ZF hT ht
  obtain⟨z,hz1,hz2⟩:=hti.zero w
  obtain⟨z3,z4⟩:=YX (w:=w) (g:=g) (fr:=fr) hz2
  obtain⟨fields,f1,f2,f3⟩:=hti.struct' hk
  have hplaces:(fields.mapM (fun f=>do pure (f.offset,<- sizeOf f.type)):Sem (Array (Nat × Nat))).run P w=.ok (fs.map fun fd=>(fd.off,fd.size)).toArray w:=by
   have hl:∀ l:List Field,(∀ f ∈ l,(Go.Av.tSize P f.type).isSome=true/\(Go.Av.tAgg P f.type).isSome=true)->(l.mapM (fun f=>do pure (f.offset,<- sizeOf f.type)):Sem (List (Nat × Nat))).run P w=.ok ((l.map fun f=>(⟨f.offset,(Go.Av.tSize P f.type).getD 0,(Go.Av.tAgg P f.type).getD false,f.type⟩:Fd)).map fun fd=>(fd.off,fd.size)) w:=by
    intro l
    induction l with
    | nil=>intro _;rfl
    | cons f l ih=>
     intro h
     obtain⟨s,hs⟩:=Option.isSome_iff_exists.1 (h f (by simp)).1
     have:=ih fun f hf=>h f (by simp[hf])
     simp only[List.mapM_cons,Sem.run_bind,Z1 hs,Result.andThen_ok,Sem.run_pure,this,List.map_cons,hs,Option.getD_some]
   have h1:=hl fields.toList f3
   rw[<- f2]at h1
   have e:fields=fields.toList.toArray:=by simp
   rw[e,List.mapM_toArray,show(List.toArray <$> fields.toList.mapM (fun f=>do pure (f.offset,<- sizeOf f.type)):Sem (Array (Nat × Nat)))=(fields.toList.mapM (fun f=>do pure (f.offset,<- sizeOf f.type)) >>= fun l=>pure l.toArray) from rfl,Sem.run_bind,h1]
   rfl
  obtain⟨out,o1,o2,o3⟩:=U8 (w:=w) (g:=g) (fr:=fr) (place:=fun i=>((fs.map fun fd=>(fd.off,fd.size)).toArray)[i]?) (fs:=fs) (fun i fd h=>by simp[h]) ds (parts.toList.map fun p=>a.eval p.2) (ti.zero.map ZK.d) cs z.cells hb (by rw[<- hds];simp) (fun j p v hp hv=>by
   rw[<- hds,List.getElem?_map]at hp
   rw[List.getElem?_map]at hv
   cases hj:parts.toList[j]? with
   | none=>simp only[hj,Option.map_none]at hp;cases hp
   | some x=>simp only[hj,Option.map_some,Option.some.injEq]at hp hv;subst hp hv;exact hi.ev x.2) (by rw[<- Array.length_toList,z3];simp) (fun j d v hd hv=>(z4 j d v hd (by simpa using hv)).1)
  refine⟨.agg out,?_,?_⟩
  ·have hzip:(ds.map (·.1)).zip (parts.toList.map fun p=>a.eval p.2)=(parts.map fun p=>(p.1,a.eval p.2)).toList:=by
    rw[<- hds];simp[List.zip_map',Function.comp_def]
   rw[hzip]at o1
   have hrun:(Instr.build st (parts.map fun p=>(p.1,a.eval p.2))).run P w=.ok (.agg out) w:=by
    simp only[Instr.build,Sem.run_bind,hz1,Result.andThen_ok,run_underlying f1,hplaces]
    rw[o1]
    rfl
   simp only[execOp,Sem.run_bind]
   rw[show(fun(x:Nat × Operand)=>match x with|(i,x)=>(i,a.eval x))=fun(p:Nat × Operand)=>(p.1,a.eval p.2) from rfl,hrun]
   rfl
  ·have:=V.agg (w:=w) (g:=g) (fr:=fr) cs out.toList (by simpa using o2) (fun j d v hd hv=>o3 j d v hd (by simpa using hv))
   rw[Y7 hn]at this
   simpa using this) k
theorem JS [Known][Dfr]{f:FuncId}{caps:Array Operand}{ds:List D}(hds:nfs (caps.toList.map (ev tm))=some ds)(htd:Nat.blt t n=true)
  (k:AL P ops rest ⟨n,(t,.fn f ds)::tm,bx,fr,ee⟩ Q):AL P ops (⟨some t,.makeFunc (.func f) #[] caps,ty,pos,after,none⟩::rest) ⟨n,tm,bx,fr,ee⟩ Q:=
 ZR _ htd (fun g a w hi=>by
  have e:=Y7 hds
  refine⟨.func (.func f) #[] (caps.toList.map a.eval).toArray,by have e2:caps.map a.eval=(caps.toList.map a.eval).toArray:=by { rw[<- Array.toList_map,Array.toArray_toList] };simp only[execOp,Instr.makeFunc,e2,Sem.run_bind,Sem.run_pure,Result.andThen_ok];simp,.fn _ _ _ (by rw[<- e];simp) fun j d v hd hv=>?_⟩
  rw[<- e]at hd
  exact evs hi caps j d v hd hv) k
theorem Kp [Known][Dfr]{c x y:Operand}{b:Bool}{d:D}(hc:ev tm c=.bool b)(hd:nf (match b with|true=>ev tm x|false=>ev tm y)=some d)(htd:Nat.blt t n=true)
  (k:AL P ops rest ⟨n,(t,d)::tm,bx,fr,ee⟩ Q):AL P ops (⟨some t,.pick c x y,ty,pos,after,none⟩::rest) ⟨n,tm,bx,fr,ee⟩ Q:=
 ZR _ htd (fun g a w hi=>by
  have h1:V w g fr (ev tm c) (a.eval c):=hi.ev c
  rw[hc]at h1
  have h1:=h1.bool_inv
  rw[<- Yj hd]
  cases b with
  | true=>exact⟨a.eval x,by simp[execOp,h1,asBool,Sem.run_bind],hi.ev x⟩
  | false=>exact⟨a.eval y,by simp[execOp,h1,asBool,Sem.run_bind],hi.ev y⟩) k
def XQ (op:BinOp)(x y:List UInt8):D:=
 match op with
 | .add=>.str (x++y)
 | .eql=>.bool (x==y)
 | .neq=>.bool (x != y)
 | .lss=>.bool (Op.bytesLess x y)
 | .leq=>.bool (Op.bytesLess x y||x==y)
 | .gtr=>.bool (!(Op.bytesLess x y||x==y))
 | .geq=>.bool (!Op.bytesLess x y)
 | _=>.junk
theorem Ut (s:List UInt8):(⟨s.toArray⟩:ByteArray).toList=s:=by simp
theorem GM [Known][Dfr]{op:BinOp}{x y:Operand}{xt yt:Nat}{p q:List UInt8}{d:D}(hx:ev tm x=.str p)(hy:ev tm y=.str q)(ho:(match op with | .eql | .neq | .lss | .leq | .gtr | .geq=>true|_=>false)=true)(hd:nf (XQ op p q)=some d)(htd:Nat.blt t n=true)
  (k:AL P ops rest ⟨n,(t,d)::tm,bx,fr,ee⟩ Q):AL P ops (⟨some t,.binOp op xt x y yt,ty,pos,after,none⟩::rest) ⟨n,tm,bx,fr,ee⟩ Q:=
 ZR _ htd (fun g a w hi=>by
  have h1:V w g fr (ev tm x) (a.eval x):=hi.ev x
  rw[hx]at h1
  have h2:V w g fr (ev tm y) (a.eval y):=hi.ev y
  rw[hy]at h2
  have h1:=h1.str_inv.1
  have h2:=h2.str_inv.1
  have hd:=Yj hd
  subst hd
  have hrun:∃ b,(Op.stringOp op ⟨p.toArray⟩ ⟨q.toArray⟩).run P w=.ok (.bool b) w/\XQ op p q=.bool b:=by
   unfold Op.stringOp
   simp only[Ut]
   cases op<;>simp at ho<;>exact⟨_,rfl,rfl⟩
  obtain⟨b,hb,e⟩:=hrun
  rw[e]
  have hbin:binOp op xt (.string ⟨p.toArray⟩) (.string ⟨q.toArray⟩)=Op.stringOp op ⟨p.toArray⟩ ⟨q.toArray⟩:=by cases op<;>simp at ho<;>rfl
  exact⟨.bool b,by simp only[execOp,h1,h2,Sem.run_bind,hbin];cases op<;>simp at ho<;>simp[eqGuard,hb],.bool _⟩) k
theorem GN [Known][Dfr]{x y:Operand}{xt yt:Nat}{p q:List UInt8}(hx:ev tm x=.str p)(hy:ev tm y=.str q)(hl:p.length+q.length<=maxLen)(htd:Nat.blt t n=true)
  (k:AL P ops rest ⟨n,(t,.str (p++q))::tm,bx,fr,ee⟩ Q):AL P ops (⟨some t,.binOp .add xt x y yt,ty,pos,after,none⟩::rest) ⟨n,tm,bx,fr,ee⟩ Q:=
 ZR _ htd (fun g a w hi=>by
  have h1:V w g fr (ev tm x) (a.eval x):=hi.ev x
  rw[hx]at h1
  have h2:V w g fr (ev tm y) (a.eval y):=hi.ev y
  rw[hy]at h2
  have h1:=h1.str_inv.1
  have h2:=h2.str_inv.1
  have hs:∀ s:List UInt8,(⟨s.toArray⟩:ByteArray).size=s.length:=fun s=>by show s.toArray.size=_;simp
  have hcat:(⟨p.toArray⟩:ByteArray)++⟨q.toArray⟩=⟨(p++q).toArray⟩:=by
   apply ByteArray.ext
   simp[ByteArray.data_append]
  have hle:¬ (9223372036854775807<(p.length:Int)+(q.length:Int)):=by simp only[maxLen]at hl;omega
  exact⟨.string ⟨(p++q).toArray⟩,by simp[execOp,h1,h2,eqGuard,binOp,Op.stringOp,Sem.run_bind,hs,hle,hcat],.str _ (by simpa using hl)⟩) k
theorem GO [Known][Dfr](hT:chk P T=true){op:BinOp}{x y:Operand}{xt yt:Nat}{p q:Bool}{d:D}{ti:Ti}(hx:ev tm x=.bool p)(hy:ev tm y=.bool q)(ht:tl T xt=some ti)(hk:ti.kd=.bool)(hd:(match op with | .eql=>some (D.bool (p==q)) | .neq=>some (D.bool (!(p==q)))|_=>none)=some d)(htd:Nat.blt t n=true)
  (k:AL P ops rest ⟨n,(t,d)::tm,bx,fr,ee⟩ Q):AL P ops (⟨some t,.binOp op xt x y yt,ty,pos,after,none⟩::rest) ⟨n,tm,bx,fr,ee⟩ Q:=
 ZR _ htd (fun g a w hi=>by
  have h1:V w g fr (ev tm x) (a.eval x):=hi.ev x
  rw[hx]at h1
  have h2:V w g fr (ev tm y) (a.eval y):=hi.ev y
  rw[hy]at h2
  have h1:=h1.bool_inv
  have h2:=h2.bool_inv
  obtain⟨u,hu,hku⟩:=(ZF hT ht).under
  rw[hk]at hku
  have hub:P.underlying xt=some .bool:=by
   rw[hu];cases u<;>simp only[UX]at hku<;>first|(split at hku<;>cases hku;done)|cases hku
   rfl
  have hrun:(Op.equal xt (.bool p) (.bool q)).run P w=.ok (p==q) w:=run_equalIn_bool w 9999 xt p q hub
  cases op<;>simp at hd<;>subst hd<;>first|exact⟨.bool (p==q),by simp[execOp,h1,h2,eqGuard,binOp,Sem.run_bind,hrun],.bool _⟩ | exact⟨.bool (!(p==q)),by simp[execOp,h1,h2,eqGuard,binOp,Sem.run_bind,hrun],.bool _⟩) k
def GP:D->Option Bool
 | .nilp=>some true
 | .ptr _ _=>some false
 | .eptr _ _=>some false
 | .gptr _ _=>some false
 | _=>none
theorem IV [Known][Dfr](hT:chk P T=true){op:BinOp}{x y:Operand}{xt yt e:Nat}{p:Bool}{d:D}{ti:Ti}(hx:GP (ev tm x)=some p)(hy:ev tm y=.nilp)(ht:tl T xt=some ti)(hk:ti.kd=.ptr e)(hd:(match op with | .eql=>some (D.bool p) | .neq=>some (D.bool (!p))|_=>none)=some d)(htd:Nat.blt t n=true)
  (k:AL P ops rest ⟨n,(t,d)::tm,bx,fr,ee⟩ Q):AL P ops (⟨some t,.binOp op xt x y yt,ty,pos,after,none⟩::rest) ⟨n,tm,bx,fr,ee⟩ Q:=
 ZR _ htd (fun g a w hi=>by
  have h1:V w g fr (ev tm x) (a.eval x):=hi.ev x
  have h2:V w g fr (ev tm y) (a.eval y):=hi.ev y
  rw[hy]at h2
  have h2:a.eval y=.pointer none:=by
   generalize a.eval y=v at h2
   cases h2 with|nilp=>rfl
  obtain⟨u,hu,hku⟩:=(ZF hT ht).under
  rw[hk]at hku
  have hub:P.underlying xt=some (.pointer e):=by
   rw[hu];cases u<;>simp only[UX]at hku<;>first|(split at hku<;>cases hku;done)|cases hku
   rfl
  obtain⟨v,hv⟩:∃ v,v=a.eval x:=⟨_,rfl⟩
  rw[<- hv]at h1
  have hp:∃ A,v=.pointer A/\A.isNone=p:=by
   cases hd':ev tm x<;>rw[hd']at hx h1<;>simp[GP]at hx<;>subst hx<;>cases h1<;>exact⟨_,rfl,rfl⟩
  obtain⟨A,rfl,hA⟩:=hp
  have hrun:(Op.equal xt (.pointer A) (.pointer none)).run P w=.ok p w:=by
   rw[<- hA]
   exact run_equal_pointer_nil w xt A (by rw[hub];simp[Program.pointee,hub])
  cases op<;>simp at hd<;>subst hd<;>first|exact⟨.bool p,by simp[execOp,<- hv,h2,eqGuard,binOp,Sem.run_bind,hrun],.bool _⟩ | exact⟨.bool (!p),by simp[execOp,<- hv,h2,eqGuard,binOp,Sem.run_bind,hrun],.bool _⟩) k
theorem KT {l:List E}{bs:List UInt8}{A:Option Addr}{m cap:Nat}(hl:l=bs.map E.byte)(h:VE w g.C (.sl l) (.slice A m cap)):m=bs.length/\(bs=[]\/∃ b off,A=some ⟨b,off,none⟩/\∀ j (hj:j<bs.length),w.cell? ⟨b,off+j,none⟩=some (.int .u8 (bs[j].toNat:Int))):=by
 have hf:∀ l:List UInt8,flat (l.map E.byte)=l.map E.byte:=fun l=>by induction l with|nil=>rfl|cons x l ih=>simp[E.cells,ih]
 generalize hq:E.sl l=q at h
 generalize hs:Value.slice A m cap=s at h
 cases h with
 | slC l' b off cap us h1 h2 hc hw hv=>
  injection hq with hq;subst hq
  injection hs with e1 e2 e3
  subst hl
  refine⟨by rw[e2];simp,.inr ⟨b,off,e1,fun j hj=>?_⟩⟩
  have hj':j<(flat (bs.map E.byte)).length:=by rw[hf];simpa using hj
  rw[hw j hj']
  have hx:(flat (bs.map E.byte))[j]?=some (E.byte bs[j]):=by rw[hf];simp[hj]
  have:=hv j _ hx
  generalize us j=u at this
  cases this
  rfl
 | slE A cap h=>
  injection hq with hq;subst hq
  injection hs with _ e2 _
  have:bs=[]:=by cases bs<;>simp at hl;rfl
  exact⟨by rw[e2,this];rfl,.inl this⟩
 | _=>cases hq
theorem OI [Known][Dfr](hT:chk P T=true){x:Operand}{src dst e:Nat}{tk:Tok}{l:List E}{bs:List UInt8}{ti td te:Ti}(hx:ev tm x=.sl tk l)(hl:l=bs.map E.byte)(ht:tl T src=some ti)(hk:ti.kd=.slice e)(hte:tl T e=some te)(hke:te.kd=.int .u8)(htds:tl T dst=some td)(hkd:td.kd=.str)(htd:Nat.blt t n=true)
  (k:AL P ops rest ⟨n,(t,.str bs)::tm,bx,fr,ee⟩ Q):AL P ops (⟨some t,.convert src dst x,ty,pos,after,none⟩::rest) ⟨n,tm,bx,fr,ee⟩ Q:=
 ZR _ htd (fun g a w hi=>by
  have h1:V w g fr (ev tm x) (a.eval x):=hi.ev x
  rw[hx]at h1
  obtain⟨a1,_⟩:=Wz h1
  obtain⟨A,m,cap,hv,hcm,hmc⟩:∃ A m cap,a.eval x=.slice A m cap/\cap<=maxLen/\m<=cap:=by
   generalize hq:E.sl l=q at a1
   generalize a.eval x=v at a1
   cases a1 with
   | slC l' b off cap us h1 h2 _ _ _=>exact⟨_,_,cap,rfl,h2,h1⟩
   | slE A cap h=>exact⟨A,0,cap,rfl,h,Nat.zero_le _⟩
   | _=>cases hq
  rw[hv]at a1
  obtain⟨hm,hc⟩:=KT hl a1
  subst hm
  refine⟨.string ⟨bs.toArray⟩,?_,.str _ (by omega)⟩
  have hrun:=IG (P:=P) (w:=w) (S:=fun _=>True) (v:=.slice A bs.length cap) (l:=bs) src dst e ((ZF hT ht).slice hk) ((ZF hT hte).int hke) ((ZF hT htds).str hkd) (SlB.mk rfl (by omega) hcm fun hne=>by
   rcases hc with hc|⟨b,off,hA,hc⟩
   ·exact(hne hc).elim
   ·exact⟨b,off,hA,trivial,hc⟩)
  simp[execOp,hv,Sem.run_bind,hrun]) k
theorem JT [Known][Dfr]{o:Op}{td:Option Nat}{j:Nat}{want b:Bool}{gt:Nat}(hj:((ops[j]?).bind (·.dst))=some gt)(hb:look tm gt=.bool b)(htd:(match td with|some t=>Nat.blt t n|none=>true)=true)
  (h1:b=want->AL P ops (⟨td,o,ty,pos,after,none⟩::rest) ⟨n,tm,bx,fr,ee⟩ Q)
  (h2:b = !want->AL P ops rest ⟨n,match td with|some t=>(t,.tup [])::tm|none=>tm,bx,fr,ee⟩ Q):AL P ops (⟨td,o,ty,pos,after,some (j,want)⟩::rest) ⟨n,tm,bx,fr,ee⟩ Q:=⟨fun b0 g a w hi=>by
 have hv:V w g fr (look tm gt) (a.tmps.getD gt undef):=hi.tm gt
 rw[hb]at hv
 have hv:=hv.bool_inv
 have hy:yielded ops a.tmps j=some b:=by
  have hlt:gt<a.tmps.size:=by
   rcases Nat.lt_or_ge gt a.tmps.size with h|h
   ·exact h
   ·have:a.tmps.getD gt undef=undef:=by simp[Nat.not_lt.2 h]
    rw[this]at hv;cases hv
  have he:a.tmps[gt]?=some (.bool b):=by
   rw[Array.getElem?_eq_getElem hlt,<- hv]
   simp[hlt]
  unfold yielded
  rw[hj]
  show(match(some gt).bind (a.tmps[·]?) with|some (.bool b)=>some b|_=>none)=some b
  simp only[Option.bind_some,he]
 by_cases e:b=want
 ·have:=(h1 e).run b0 g a w hi
  unfold wpList at this ⊢
  have hw:Region.wanted ⟨td,o,ty,pos,after,some (j,want)⟩ (yielded ops a.tmps)=true:=by simp[Region.wanted,hy,e]
  have hw':Region.wanted ⟨td,o,ty,pos,after,none⟩ (yielded ops a.tmps)=true:=rfl
  rw[if_pos hw]
  rw[if_pos hw']at this
  exact this
 ·have e':b = !want:=by cases b<;>cases want<;>simp_all
  have:=h2 e'
  unfold wpList
  have hw:Region.wanted ⟨td,o,ty,pos,after,some (j,want)⟩ (yielded ops a.tmps)=false:=by simp[Region.wanted,hy,e]
  rw[if_neg (by rw[hw];simp)]
  cases td with
  | none=>exact this.run b0 g a w hi
  | some t=>exact this.run b0 g _ w (hi.put htd (.tup [] [] rfl fun j d v h=>by simp at h))⟩
theorem OJ [Known][Dfr](hT:chk P T=true){x:Operand}{src dst:Nat}{k k':IntKind}{q:Int}{ti td:Ti}(hx:ev tm x=.int k q)(hs:tl T src=some ti)(hd:tl T dst=some td)(hk:td.kd=.int k')(htd:Nat.blt t n=true)
  (kk:AL P ops rest ⟨n,(t,.int k' (k'.wrap q))::tm,bx,fr,ee⟩ Q):AL P ops (⟨some t,.convert src dst x,ty,pos,after,none⟩::rest) ⟨n,tm,bx,fr,ee⟩ Q:=by
 obtain⟨u,hu,_⟩:=(ZF hT hs).under
 exact IL hx (by rw[hu]) (by rw[(ZF hT hd).int hk]) htd kk
theorem Zi [Known][Dfr]{o:Op}{td:Option Nat}{j:Nat}{want b:Bool}{gt:Nat}(hj:((ops[j]?).bind (·.dst))=some gt)(hb:look tm gt=.bool b)(htd:(match td with|some t=>Nat.blt t n|none=>true)=true)(hw:b=want)
  (h1:AL P ops (⟨td,o,ty,pos,after,none⟩::rest) ⟨n,tm,bx,fr,ee⟩ Q):AL P ops (⟨td,o,ty,pos,after,some (j,want)⟩::rest) ⟨n,tm,bx,fr,ee⟩ Q:=
 JT hj hb htd (fun _=>h1) (fun h=>by subst hw;cases b<;>cases h)
theorem QW [Known][Dfr]{o:Op}{t:Nat}{j:Nat}{want b b':Bool}{gt:Nat}(hj:((ops[j]?).bind (·.dst))=some gt)(hb:look tm gt=.bool b)(htd:Nat.blt t n=true)(hw:b=b')(hne:(b' != want)=true)
  (h1:AL P ops rest ⟨n,(t,.tup [])::tm,bx,fr,ee⟩ Q):AL P ops (⟨some t,o,ty,pos,after,some (j,want)⟩::rest) ⟨n,tm,bx,fr,ee⟩ Q:=
 JT hj hb htd (fun h=>by subst hw;subst h;simp at hne) (fun _=>h1)
theorem ZE [Known][Dfr]{o:Op}{t:Nat}{j:Nat}{b:Bool}{gt:Nat}(hj:((ops[j]?).bind (·.dst))=some gt)(hb:look tm gt=.bool b)(htd:Nat.blt t n=true)(hw:b=false)
  (h1:AL P ops rest ⟨n,(t,.tup [])::tm,bx,fr,ee⟩ Q):AL P ops (⟨some t,o,ty,pos,after,some (j,true)⟩::rest) ⟨n,tm,bx,fr,ee⟩ Q:=QW hj hb htd hw rfl h1
theorem Zw [Known][Dfr]{o:Op}{t:Nat}{j:Nat}{b:Bool}{gt:Nat}(hj:((ops[j]?).bind (·.dst))=some gt)(hb:look tm gt=.bool b)(htd:Nat.blt t n=true)(hw:b=true)
  (h1:AL P ops rest ⟨n,(t,.tup [])::tm,bx,fr,ee⟩ Q):AL P ops (⟨some t,o,ty,pos,after,some (j,false)⟩::rest) ⟨n,tm,bx,fr,ee⟩ Q:=QW hj hb htd hw rfl h1
theorem WP [Known][Dfr]{o:Op}{td:Option Nat}{j:Nat}{want b:Bool}{gt:Nat}(hj:((ops[j]?).bind (·.dst))=some gt)(hb:look tm gt=.bool b)
  (h1:b=true->AL P ops (⟨td,o,ty,pos,after,some (j,want)⟩::rest) ⟨n,tm,bx,fr,ee⟩ Q) (h2:b=false->AL P ops (⟨td,o,ty,pos,after,some (j,want)⟩::rest) ⟨n,tm,bx,fr,ee⟩ Q) :
  AL P ops (⟨td,o,ty,pos,after,some (j,want)⟩::rest) ⟨n,tm,bx,fr,ee⟩ Q:=by
 cases b with
 | true=>exact h1 rfl
 | false=>exact h2 rfl
theorem Zp [Known][Dfr]{c x y:Operand}{b:Bool}{d:D}(hc:ev tm c=.bool b)(hb:b=true)(hd:nf (ev tm x)=some d)(htd:Nat.blt t n=true)
  (k:AL P ops rest ⟨n,(t,d)::tm,bx,fr,ee⟩ Q):AL P ops (⟨some t,.pick c x y,ty,pos,after,none⟩::rest) ⟨n,tm,bx,fr,ee⟩ Q:=by
 subst hb;exact Kp hc hd htd k
theorem Zk [Known][Dfr]{c x y:Operand}{b:Bool}{d:D}(hc:ev tm c=.bool b)(hb:b=false)(hd:nf (ev tm y)=some d)(htd:Nat.blt t n=true)
  (k:AL P ops rest ⟨n,(t,d)::tm,bx,fr,ee⟩ Q):AL P ops (⟨some t,.pick c x y,ty,pos,after,none⟩::rest) ⟨n,tm,bx,fr,ee⟩ Q:=by
 subst hb;exact Kp hc hd htd k
end
theorem Zd [Known][Dfr]{P:Program}{Q:X->St->Prop}{n:Nat}{ee:Nat × Nat}{tm:List (Nat × D)}{bx:List (List D)}{fr:List Fr}{x y:Code}{b:Bool}{t:Nat}(hd:look tm t=.bool b)(hb:b=true)(h1:AW P x ⟨n,tm,bx,fr,ee⟩ Q):AW P (.cond (.tmp t) x y) ⟨n,tm,bx,fr,ee⟩ Q:=Oz (hb ▸ hd) h1
theorem Ze [Known][Dfr]{P:Program}{Q:X->St->Prop}{n:Nat}{ee:Nat × Nat}{tm:List (Nat × D)}{bx:List (List D)}{fr:List Fr}{x y:Code}{b:Bool}{t:Nat}(hd:look tm t=.bool b)(hb:b=false)(h1:AW P y ⟨n,tm,bx,fr,ee⟩ Q):AW P (.cond (.tmp t) x y) ⟨n,tm,bx,fr,ee⟩ Q:=OA (hb ▸ hd) h1
theorem bn:(!true)=false/\(!false)=true:=⟨rfl,rfl⟩
end Go.Av
end
section
open Go.RowKit Go.Pl
namespace Go.Av
def eq1:ZK->D->D->Option Bool
 | .b,.bool a,.bool b=>some (a==b)
 | .i k,.int k1 a,.int k2 b=>if k1=k then if k2=k then some (a==b) else none else none
 | .s,.str a,.str b=>some (a==b)
 | _,_,_=>none
def eqL:List ZK->List D->List D->Option Bool
 | [],[],[]=>some true
 | k::ks,a::l,b::l'=>match eq1 k a b,eqL ks l l' with
  | some p,some q=>some (p&&q)
  | _,_=>none
 | _,_,_=>none
def kgo (P:Program)(kd:TypeId->Option (List ZK)):List ZK->List Field->Option (List ZK)
 | acc,[]=>some acc
 | acc,f::fs=>if f.name ≠ "_" /\ f.offset=acc.length then match kd f.type with
   | some ks=>if tSize P f.type=some ks.length then kgo P kd (acc++ks) fs else none
   | none=>none
  else none
def Vk (P:Program):Nat->TypeId->Option (List ZK)
 | 0,_=>none
 | d+1,t=>match P.underlying t with
  | some .bool=>some [.b]
  | some (.int k)=>some [.i k]
  | some .string=>some [.s]
  | some (.struct fs)=>if P.stoodInHeld t=true then none else kgo P (Vk P d) [] fs.toList
  | _=>none
theorem Kq {P:Program}{kd:TypeId->Option (List ZK)}:∀ {fs:List Field} {acc full:List ZK},kgo P kd acc fs=some full->∃ rest,full=acc++rest
 | [],acc,full,h=>⟨[],by simp[kgo]at h;simp[h]⟩
 | f::fs,acc,full,h=>by
  simp only[kgo]at h
  split at h
  ·cases hk:kd f.type with
   | none=>simp[hk]at h
   | some ks=>
    simp only[hk]at h
    split at h
    ·obtain⟨rest,hr⟩:=Kq h
     exact⟨ks++rest,by rw[hr,List.append_assoc]⟩
    ·cases h
  ·cases h
theorem Kr:∀ {ks ks':List ZK} {a b:List D} {r:Bool},eqL (ks++ks') a b=some r->∃ p q,eqL ks (a.take ks.length) (b.take ks.length)=some p/\eqL ks' (a.drop ks.length) (b.drop ks.length)=some q/\r=(p&&q)
 | [],ks',a,b,r,h=>⟨true,r,by simp[eqL],by simpa using h,by simp⟩
 | k::ks,ks',x::a,y::b,r,h=>by
  simp only[List.cons_append,eqL]at h
  cases h1:eq1 k x y with
  | none=>simp[h1]at h
  | some p=>
   cases h2:eqL (ks++ks') a b with
   | none=>simp[h1,h2]at h
   | some q=>
    simp[h1,h2]at h
    subst h
    obtain⟨p',q',e1,e2,e3⟩:=Kr h2
    exact⟨p&&p',q',by simp[eqL,h1,e1],by simpa using e2,by rw[e3,Bool.and_assoc]⟩
 | k::ks,ks',[],b,r,h=>by simp[eqL]at h
 | k::ks,ks',x::a,[],r,h=>by simp[eqL]at h
theorem V6:∀ {ks:List ZK} {a b:List D} {r:Bool},eqL ks a b=some r->a.length=ks.length/\b.length=ks.length
 | [],[],[],r,h=>⟨rfl,rfl⟩
 | k::ks,x::a,y::b,r,h=>by
  simp only[eqL]at h
  cases h1:eq1 k x y with
  | none=>simp[h1]at h
  | some p=>
   cases h2:eqL ks a b with
   | none=>simp[h1,h2]at h
   | some q=>
    obtain⟨h3,h4⟩:=V6 h2
    exact⟨by simp[h3],by simp[h4]⟩
 | [],_::_,_,r,h=>by simp[eqL]at h
 | [],[],_::_,r,h=>by simp[eqL]at h
 | k::ks,[],b,r,h=>by simp[eqL]at h
 | k::ks,x::a,[],r,h=>by simp[eqL]at h
section
variable {P:Program} {Q:X->St->Prop} {n:Nat} {ee:Nat × Nat} {tm:List (Nat × D)} {bx bx':List (List D)} {fr fr':List Fr} {b0:Bs} {g:G} {w:World} {a:Act} {T:Tab}
variable {ops:Array Oper} {rest:List Oper} {t ty:Nat} {pos:String} {after:Array Edge}
def Holds (w:World)(g:G)(fr:List Fr)(l:List D)(vs:List Value):Prop:=vs.length=l.length/\∀(j:Nat) (d:D) (v:Value),l[j]?=some d->vs[j]?=some v->V w g fr d v
theorem Holds.sub {l:List D}{vs:List Value}(h:Holds w g fr l vs)(o k:Nat):Holds w g fr ((l.drop o).take k) ((vs.drop o).take k):=by
 refine⟨by simp[h.1],fun j d v hd hv=>?_⟩
 have hd':j<k/\l[o+j]?=some d:=by simpa[List.getElem?_take]using hd
 have hv':j<k/\vs[o+j]?=some v:=by simpa[List.getElem?_take]using hv
 exact h.2 _ d v hd'.2 hv'.2
theorem KU:∀(d:Nat) (t:TypeId) (dd:Nat) (ks:List ZK) (l l':List D) (vs vs':List Value) (x y:Value) (r:Bool),Vk P d t=some ks->d<=dd->Holds w g fr l vs->Holds w g fr l' vs'->eqL ks l l'=some r ->
  (tAgg P t=some true->x=.agg vs.toArray/\y=.agg vs'.toArray)->(tAgg P t=some false->vs=[x]/\vs'=[y])->(Op.equalIn dd t x y).run P w=.ok r w:=by
 intro d
 induction d with
 | zero=>intro t dd ks l l' vs vs' x y r h;simp[Vk]at h
 | succ d ih=>
  intro t dd ks l l' vs vs' x y r h hdd hl hl' he hA hS
  obtain⟨dd,rfl⟩:∃ k,dd=k+1:=⟨dd-1,by omega⟩
  have sc:∀ k,ks=[k]->tAgg P t=some false->∃ p q,V w g fr p x/\V w g fr q y/\eq1 k p q=some r:=fun k hk hAf=>by
   subst hk
   obtain⟨rfl,rfl⟩:=hS hAf
   obtain⟨h1,h2⟩:=V6 he
   match l,l',h1,h2 with
   | [p],[q],_,_=>
    refine⟨p,q,hl.2 0 p x rfl rfl,hl'.2 0 q y rfl rfl,?_⟩
    cases h5:eq1 k p q with
    | none=>simp[eqL,h5]at he
    | some b=>simp[eqL,h5]at he;rw[he]
  unfold Vk at h
  cases hu:P.underlying t with
  | none=>simp[hu]at h
  | some u=>
   cases u<;>simp[hu]at h
   case bool=>
    obtain⟨p,q,hp,hq,he⟩:=sc .b h.symm (by simp[Go.Av.tAgg,hu])
    cases p<;>cases q<;>simp[eq1]at he
    cases hp;cases hq;subst he
    exact run_equalIn_bool w dd t _ _ hu
   case int k=>
    obtain⟨p,q,hp,hq,he⟩:=sc (.i k) h.symm (by simp[Go.Av.tAgg,hu])
    cases p<;>cases q<;>simp[eq1]at he
    obtain⟨rfl,rfl,he⟩:=he
    cases hp;cases hq;subst he
    exact run_equalIn_int w dd t _ _ _ _ hu
   case string=>
    obtain⟨p,q,hp,hq,he⟩:=sc .s h.symm (by simp[Go.Av.tAgg,hu])
    cases p<;>cases q<;>simp[eq1]at he
    have h1:=hp.str_inv.1
    have h2:=hq.str_inv.1
    subst h1 h2 he
    rw[run_equalIn_string w dd t _ _ hu,Ut,Ut]
   case struct fs=>
    obtain⟨hst,h⟩:=h
    obtain⟨rfl,rfl⟩:=hA (by simp[Go.Av.tAgg,hu])
    have hfs:P.fieldsOf t=fs:=by simp[Program.fieldsOf,hu]
    rw[run_equalIn_struct w dd t _ _ (by rw[hfs];exact hu) hst,hfs]
    obtain⟨hL,hL'⟩:=V6 he
    have key:∀(fl:List Field) (acc:List ZK) (r:Bool),kgo P (Vk P d) acc fl=some ks->eqL (ks.drop acc.length) (l.drop acc.length) (l'.drop acc.length)=some r->(Op.eqFields dd vs.toArray vs'.toArray fl).run P w=.ok r w:=by
     intro fl
     induction fl with
     | nil=>
      intro acc r h he
      simp[kgo]at h
      subst h
      have:eqL [] (l.drop acc.length) (l'.drop acc.length)=some r:=by simpa using he
      obtain⟨h1,h2⟩:=V6 this
      have e1:l.drop acc.length=[]:=List.eq_nil_of_length_eq_zero h1
      have e2:l'.drop acc.length=[]:=List.eq_nil_of_length_eq_zero h2
      rw[e1,e2]at this
      simp[eqL]at this
      subst this
      rfl
     | cons f fl ihf=>
      intro acc r h he
      simp only[kgo]at h
      split at h
      ·rename_i hn
       cases hk:Vk P d f.type with
       | none=>simp[hk]at h
       | some kf=>
        simp only[hk]at h
        split at h
        ·rename_i hsz
         obtain⟨rest,hr⟩:=Kq h
         have hd:ks.drop acc.length=kf++rest:=by rw[hr];simp
         rw[hd]at he
         obtain⟨p,q,e1,e2,e3⟩:=Kr he
         obtain⟨q1,q2⟩:=V6 e1
         have hks:ks.length=acc.length+kf.length+rest.length:=by rw[hr];simp;omega
         have hlen:acc.length+kf.length<=l.length:=by omega
         have hlen':acc.length+kf.length<=l'.length:=by omega
         have hvl:=hl.1
         have hvl':=hl'.1
         have hpart:∃ x y,(part f.type vs.toArray f.offset).run P w=.ok x w/\(part f.type vs'.toArray f.offset).run P w=.ok y w/\(tAgg P f.type=some true->x=.agg ((vs.drop acc.length).take kf.length).toArray/\y=.agg ((vs'.drop acc.length).take kf.length).toArray)/\(tAgg P f.type=some false->(vs.drop acc.length).take kf.length=[x]/\(vs'.drop acc.length).take kf.length=[y]):=by
          cases hag:tAgg P f.type with
          | none=>
           exfalso
           cases d with
           | zero=>simp[Vk]at hk
           | succ d=>
            unfold Vk at hk
            unfold Go.Av.tAgg at hag
            cases hu2:P.underlying f.type with
            | none=>simp[hu2]at hk
            | some u2=>cases u2<;>simp[hu2]at hag
          | some b=>
           rw[hn.2]
           cases b with
           | true=>
            refine⟨.agg (vs.toArray.extract acc.length (acc.length+kf.length)),.agg (vs'.toArray.extract acc.length (acc.length+kf.length)),by simp[part,Sem.run_bind,Y8 hag,Z1 hsz],by simp[part,Sem.run_bind,Y8 hag,Z1 hsz],fun _=>⟨?_,?_⟩,fun h=>by cases h⟩
            ·congr 1;apply Array.ext';simp[List.drop_take,Nat.add_sub_cancel_left]
            ·congr 1;apply Array.ext';simp[List.drop_take,Nat.add_sub_cancel_left]
           | false=>
            have hk1:kf.length=1:=by
             cases d with
             | zero=>simp[Vk]at hk
             | succ d=>
              unfold Vk at hk
              unfold Go.Av.tAgg at hag
              cases hu2:P.underlying f.type with
              | none=>simp[hu2]at hk
              | some u2=>cases u2<;>simp[hu2]at hag hk<;>subst hk<;>rfl
            have h1:acc.length<vs.length:=by omega
            have h2:acc.length<vs'.length:=by omega
            refine⟨vs[acc.length],vs'[acc.length],by simp[part,Sem.run_bind,Y8 hag,h1],by simp[part,Sem.run_bind,Y8 hag,h2],(fun h=>by cases h),fun _=>⟨?_,?_⟩⟩
            ·rw[hk1,List.drop_eq_getElem_cons h1];rfl
            ·rw[hk1,List.drop_eq_getElem_cons h2];rfl
         obtain⟨x,y,p1,p2,p3,p4⟩:=hpart
         have hrec:=ih f.type dd kf _ _ _ _ x y p hk (by omega) (hl.sub acc.length kf.length) (hl'.sub acc.length kf.length) e1 p3 p4
         have hnext:=ihf (acc++kf) q h (by
          rw[List.length_append,<- List.drop_drop,hd,<- List.drop_drop,<- List.drop_drop]
          simpa using e2)
         simp only[Op.eqFields,Sem.run_bind,Sem.run_ite,if_pos hn.1,p1,p2,Result.andThen_ok,hrec]
         subst e3
         cases p with
         | true=>simpa using hnext
         | false=>simp
        ·cases h
      ·cases h
    exact key fs.toList [] r h (by simpa using he)
theorem Vl [Known][Dfr]{op:BinOp}{x y:Operand}{xt yt:Nat}{l l':List D}{ti:Ti}{d:D}{r:Bool}(hT:chk P T=true)(hx:ev tm x=.agg l)(hy:ev tm y=.agg l')(ht:tl T xt=some ti)(ha:ti.kd.agg=true)(hk:Vk P 9 xt=some ti.zero)(hg:P.eqGuardType P.depth xt=false)(he:eqL ti.zero l l'=some r)
  (hd:(match op with | .eql=>some (D.bool r) | .neq=>some (D.bool (!r))|_=>none)=some d) (htd:Nat.blt t n=true)
  (k:AL P ops rest ⟨n,(t,d)::tm,bx,fr,ee⟩ Q):AL P ops (⟨some t,.binOp op xt x y yt,ty,pos,after,none⟩::rest) ⟨n,tm,bx,fr,ee⟩ Q:=
 ZR _ htd (fun g a w hi=>by
  have h1:V w g fr (ev tm x) (a.eval x):=hi.ev x
  rw[hx]at h1
  have h2:V w g fr (ev tm y) (a.eval y):=hi.ev y
  rw[hy]at h2
  obtain⟨vs,v1,v2,v3⟩:=V4 h1
  obtain⟨vs',u1,u2,u3⟩:=V4 h2
  have hrun:(Op.equal xt (.agg vs.toArray) (.agg vs'.toArray)).run P w=.ok r w:=
   KU 9 xt 10000 ti.zero l l' vs vs' _ _ r hk (by omega) ⟨v2,v3⟩ ⟨u2,u3⟩ he (fun _=>⟨rfl,rfl⟩) (fun h=>by rw[(ZF hT ht).tAgg,ha]at h;cases h)
  have hguard:=fun op=>run_eqGuard_agg (P:=P) w op xt x y vs.toArray vs'.toArray hg
  cases op<;>simp at hd<;>subst hd
  ·exact⟨.bool r,by simp[execOp,v1,u1,binOp,Sem.run_bind,hguard,hrun],.bool _⟩
  ·exact⟨.bool (!r),by simp[execOp,v1,u1,binOp,Sem.run_bind,hguard,hrun],.bool _⟩) k
end
end Go.Av
end

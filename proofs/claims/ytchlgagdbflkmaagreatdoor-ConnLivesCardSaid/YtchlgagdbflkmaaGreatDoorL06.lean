/- More operations: structs built, texts, conversions, tests, guards, panics, calls of function values. -/
import Derived.Test.YtchlgagdbflkmaaGreatDoorL05
set_option linter.unusedSimpArgs false
set_option linter.unusedVariables false
section
open Go.RowKit Go.Pl
namespace Go.Av
def Jl (fs:List Fd):List D->List (Nat × D)->Option (List D)
 | cs,[]=>some cs
 | cs,(i,d)::rest=>match fs[i]? with
  | some fd=>match Nat.beq d.cellsOf.length fd.size,Nat.ble (fd.off+fd.size) cs.length,D.ones d.cellsOf with
   | true,true,true=>Jl fs (Vp cs fd.off d.cellsOf) rest
   | _,_,_=>none
  | none=>none
section
variable {P:Program} {Q:X->St->Prop} {n:Nat} {ee:Nat × Nat} {tm:List (Nat × D)} {bx bx':List (List D)} {fr fr':List Fr} {b0:Bs} {g:G} {w:World} {a:Act} {T:Tab}
variable {ops:Array Oper} {rest:List Oper} {t ty:Nat} {pos:String} {after:Array Edge}
theorem J7 {place:Nat->Option (Nat × Nat)}{fs:List Fd}(hp:∀(i:Nat) (fd:Fd),fs[i]?=some fd->place i=some (fd.off,fd.size)) :
  ∀(ds:List (Nat × D)) (vs:List Value) (cs cs':List D) (cells:Array Value),Jl fs cs ds=some cs'->vs.length=ds.length->(∀(j:Nat) (p:Nat × D) (v:Value),ds[j]?=some p->vs[j]?=some v->V w g fr p.2 v) ->
   cells.size=cs.length->(∀(j:Nat) (d:D) (v:Value),cs[j]?=some d->cells[j]?=some v->V w g fr d v) ->
   ∃ out:Array Value,Instr.fill place cells ((ds.map (·.1)).zip vs)=some out/\out.size=cs'.length/\∀(j:Nat) (d:D) (v:Value),cs'[j]?=some d->out[j]?=some v->V w g fr d v
 | [],[],cs,cs',cells,h,_,_,hs,hv=>by simp[Jl]at h;subst h;exact⟨cells,rfl,hs,hv⟩
 | (i,d)::ds,v::vs,cs,cs',cells,h,hl,hV,hs,hv=>by
  simp only[Jl]at h
  cases hfd:fs[i]? with
  | none=>simp[hfd]at h
  | some fd=>
   simp only[hfd]at h
   cases h1:Nat.beq d.cellsOf.length fd.size with
   | false=>simp[h1]at h
   | true=>
    cases h2:Nat.ble (fd.off+fd.size) cs.length with
    | false=>simp[h1,h2]at h
    | true=>
     cases h3:D.ones d.cellsOf with
     | false=>simp[h1,h2,h3]at h
     | true=>
      simp only[h1,h2,h3]at h
      have h1':=Nat.eq_of_beq_eq_true h1
      have h2':=Nat.le_of_ble_eq_true h2
      obtain⟨us,q1,q2,q3⟩:=(hV 0 (i,d) v rfl rfl).cells h3
      dsimp only at q2 q3
      obtain⟨c',e1,e2⟩:=XK (place:=place) (cells:=cells) (rest:=(ds.map (·.1)).zip vs) (hp i fd hfd) q1 (by rw[q2,h1']) (by rw[hs];exact h2')
      have hcs:cells.toList.length=cs.length:=by simpa using hs
      have hc':c'.size=(Vp cs fd.off d.cellsOf).length:=by
       rw[<- Array.length_toList,e2];simp[Vp,q2,h1',hs]
      obtain⟨out,o1,o2,o3⟩:=J7 hp ds vs (Vp cs fd.off d.cellsOf) cs' c' h (by simpa using hl) (fun j p v hp hv=>hV (j+1) p v (by simpa using hp) (by simpa using hv)) hc' (fun j c u hc hu=>by
       have hu:(cells.toList.take fd.off++(us++cells.toList.drop (fd.off+fd.size)))[j]?=some u:=by rw[<- e2];simpa using hu
       simp only[Vp]at hc
       rcases Nat.lt_or_ge j fd.off with hj|hj
       ·rw[List.getElem?_append_left (by simp;omega),List.getElem?_take,if_pos hj]at hc hu
        exact hv j c u hc (by simpa using hu)
       ·rw[List.getElem?_append_right (by simp;omega)]at hc hu
        simp only[List.length_take,hcs,Nat.min_eq_left (show fd.off<=cs.length by omega)]at hc hu
        rcases Nat.lt_or_ge (j-fd.off) us.length with hj2|hj2
        ·rw[List.getElem?_append_left (by omega)]at hc
         rw[List.getElem?_append_left hj2]at hu
         exact q3 _ c u hc hu
        ·rw[List.getElem?_append_right (by omega),List.getElem?_drop]at hc
         rw[List.getElem?_append_right hj2,List.getElem?_drop]at hu
         rw[q2]at hu
         rw[h1']at hc hu
         exact hv _ c u hc (by simpa using hu))
      exact⟨out,by rw[List.map_cons,List.zip_cons_cons,e1,o1],o2,o3⟩
 | [],_::_,_,_,_,_,hl,_,_,_=>by simp at hl
 | _::_,[],_,_,_,_,hl,_,_,_=>by simp at hl
theorem Wn [Known][Dfr](hT:chk P T=true){st:Nat}{parts:Array (Nat × Operand)}{ds:List (Nat × D)}{cs cs':List D}{ti:Ti}{fs:List Fd}(ht:tl T st=some ti)(hk:ti.kd=.struct fs)
  (hds:parts.toList.map (fun p=>(p.1,ev tm p.2))=ds) (hb:Jl fs (ti.zero.map ZK.d) ds=some cs) (hn:nfs cs=some cs') (htd:Nat.blt t n=true)
  (k:AL P ops rest ⟨n,(t,.agg cs')::tm,bx,fr,ee⟩ Q):AL P ops (⟨some t,.build st parts,ty,pos,after,none⟩::rest) ⟨n,tm,bx,fr,ee⟩ Q:=
 Z6 _ htd (fun g a w hi=>by
  have hti:=Z9 hT ht
  obtain⟨z,hz1,hz2⟩:=hti.zero w
  obtain⟨z3,z4⟩:=Ji (w:=w) (g:=g) (fr:=fr) hz2
  obtain⟨fields,f1,f2,f3⟩:=hti.struct' hk
  have hplaces:(fields.mapM (fun f=>do pure (f.offset,<- sizeOf f.type)):Sem (Array (Nat × Nat))).run P w=.ok (fs.map fun fd=>(fd.off,fd.size)).toArray w:=by
   have hl:∀ l:List Field,(∀ f ∈ l,(Go.Av.tSize P f.type).isSome=true/\(Go.Av.tAgg P f.type).isSome=true)->(l.mapM (fun f=>do pure (f.offset,<- sizeOf f.type)):Sem (List (Nat × Nat))).run P w=.ok ((l.map fun f=>(⟨f.offset,(Go.Av.tSize P f.type).getD 0,(Go.Av.tAgg P f.type).getD false,f.type⟩:Fd)).map fun fd=>(fd.off,fd.size)) w:=by
    intro l
    induction l with
    | nil=>intro _;rfl
    | cons f l ih=>
     intro h
     obtain⟨s,hs⟩:=Option.isSome_iff_exists.1 (h f (by simp)).1
     have:=ih fun f hf=>h f (by simp[hf])
     simp only[List.mapM_cons,Sem.run_bind,Y1 hs,Result.andThen_ok,Sem.run_pure,this,List.map_cons,hs,Option.getD_some]
   have h1:=hl fields.toList f3
   rw[<- f2]at h1
   have e:fields=fields.toList.toArray:=by simp
   rw[e,List.mapM_toArray,show(List.toArray <$> fields.toList.mapM (fun f=>do pure (f.offset,<- sizeOf f.type)):Sem (Array (Nat × Nat)))=(fields.toList.mapM (fun f=>do pure (f.offset,<- sizeOf f.type)) >>= fun l=>pure l.toArray) from rfl,Sem.run_bind,h1]
   rfl
  obtain⟨out,o1,o2,o3⟩:=J7 (w:=w) (g:=g) (fr:=fr) (place:=fun i=>((fs.map fun fd=>(fd.off,fd.size)).toArray)[i]?) (fs:=fs) (fun i fd h=>by simp[h]) ds (parts.toList.map fun p=>a.eval p.2) (ti.zero.map ZK.d) cs z.cells hb (by rw[<- hds];simp) (fun j p v hp hv=>by
   rw[<- hds,List.getElem?_map]at hp
   rw[List.getElem?_map]at hv
   cases hj:parts.toList[j]? with
   | none=>simp only[hj,Option.map_none]at hp;cases hp
   | some x=>simp only[hj,Option.map_some,Option.some.injEq]at hp hv;subst hp hv;exact hi.ev x.2) (by rw[<- Array.length_toList,z3];simp) (fun j d v hd hv=>(z4 j d v hd (by simpa using hv)).1)
  refine⟨.agg out,?_,?_⟩
  ·have hzip:(ds.map (·.1)).zip (parts.toList.map fun p=>a.eval p.2)=(parts.map fun p=>(p.1,a.eval p.2)).toList:=by
    rw[<- hds];simp[List.zip_map',Function.comp_def]
   rw[hzip]at o1
   have hrun:(Instr.build st (parts.map fun p=>(p.1,a.eval p.2))).run P w=.ok (.agg out) w:=by
    simp only[Instr.build,Sem.run_bind,hz1,Result.andThen_ok,run_underlying f1,hplaces]
    rw[o1]
    rfl
   simp only[execOp,Sem.run_bind]
   rw[show(fun(x:Nat × Operand)=>match x with|(i,x)=>(i,a.eval x))=fun(p:Nat × Operand)=>(p.1,a.eval p.2) from rfl,hrun]
   rfl
  ·have:=V.agg (w:=w) (g:=g) (fr:=fr) cs out.toList (by simpa using o2) (fun j d v hd hv=>o3 j d v hd (by simpa using hv))
   rw[Vl hn]at this
   simpa using this) k
theorem Ym [Known][Dfr]{f:FuncId}{caps:Array Operand}{ds:List D}(hds:nfs (caps.toList.map (ev tm))=some ds)(htd:Nat.blt t n=true)
  (k:AL P ops rest ⟨n,(t,.fn f ds)::tm,bx,fr,ee⟩ Q):AL P ops (⟨some t,.makeFunc (.func f) #[] caps,ty,pos,after,none⟩::rest) ⟨n,tm,bx,fr,ee⟩ Q:=
 Z6 _ htd (fun g a w hi=>by
  have e:=Vl hds
  refine⟨.func (.func f) #[] (caps.toList.map a.eval).toArray,by have e2:caps.map a.eval=(caps.toList.map a.eval).toArray:=by { rw[<- Array.toList_map,Array.toArray_toList] };simp only[execOp,Instr.makeFunc,e2,Sem.run_bind,Sem.run_pure,Result.andThen_ok];simp,.fn _ _ _ (by rw[<- e];simp) fun j d v hd hv=>?_⟩
  rw[<- e]at hd
  exact evs hi caps j d v hd hv) k
theorem OW [Known][Dfr]{c x y:Operand}{b:Bool}{d:D}(hc:ev tm c=.bool b)(hd:nf (match b with|true=>ev tm x|false=>ev tm y)=some d)(htd:Nat.blt t n=true)
  (k:AL P ops rest ⟨n,(t,d)::tm,bx,fr,ee⟩ Q):AL P ops (⟨some t,.pick c x y,ty,pos,after,none⟩::rest) ⟨n,tm,bx,fr,ee⟩ Q:=
 Z6 _ htd (fun g a w hi=>by
  have h1:V w g fr (ev tm c) (a.eval c):=hi.ev c
  rw[hc]at h1
  have h1:=h1.bool_inv
  rw[<- YZ hd]
  cases b with
  | true=>exact⟨a.eval x,by simp[execOp,h1,asBool,Sem.run_bind],hi.ev x⟩
  | false=>exact⟨a.eval y,by simp[execOp,h1,asBool,Sem.run_bind],hi.ev y⟩) k
def On (op:BinOp)(x y:List UInt8):D:=
 match op with
 | .add=>.str (x++y)
 | .eql=>.bool (x==y)
 | .neq=>.bool (x != y)
 | .lss=>.bool (Op.bytesLess x y)
 | .leq=>.bool (Op.bytesLess x y||x==y)
 | .gtr=>.bool (!(Op.bytesLess x y||x==y))
 | .geq=>.bool (!Op.bytesLess x y)
 | _=>.junk
theorem Jm (s:List UInt8):(⟨s.toArray⟩:ByteArray).toList=s:=by simp
theorem Vq [Known][Dfr]{op:BinOp}{x y:Operand}{xt yt:Nat}{p q:List UInt8}{d:D}(hx:ev tm x=.str p)(hy:ev tm y=.str q)(ho:(match op with | .eql | .neq | .lss | .leq | .gtr | .geq=>true|_=>false)=true)(hd:nf (On op p q)=some d)(htd:Nat.blt t n=true)
  (k:AL P ops rest ⟨n,(t,d)::tm,bx,fr,ee⟩ Q):AL P ops (⟨some t,.binOp op xt x y yt,ty,pos,after,none⟩::rest) ⟨n,tm,bx,fr,ee⟩ Q:=
 Z6 _ htd (fun g a w hi=>by
  have h1:V w g fr (ev tm x) (a.eval x):=hi.ev x
  rw[hx]at h1
  have h2:V w g fr (ev tm y) (a.eval y):=hi.ev y
  rw[hy]at h2
  have h1:=h1.str_inv.1
  have h2:=h2.str_inv.1
  have hd:=YZ hd
  subst hd
  have hrun:∃ b,(Op.stringOp op ⟨p.toArray⟩ ⟨q.toArray⟩).run P w=.ok (.bool b) w/\On op p q=.bool b:=by
   unfold Op.stringOp
   simp only[Jm]
   cases op<;>simp at ho<;>exact⟨_,rfl,rfl⟩
  obtain⟨b,hb,e⟩:=hrun
  rw[e]
  have hbin:binOp op xt (.string ⟨p.toArray⟩) (.string ⟨q.toArray⟩)=Op.stringOp op ⟨p.toArray⟩ ⟨q.toArray⟩:=by cases op<;>simp at ho<;>rfl
  exact⟨.bool b,by simp only[execOp,h1,h2,Sem.run_bind,hbin];cases op<;>simp at ho<;>simp[eqGuard,hb],.bool _⟩) k
theorem QW [Known][Dfr]{x y:Operand}{xt yt:Nat}{p q:List UInt8}(hx:ev tm x=.str p)(hy:ev tm y=.str q)(hl:p.length+q.length<=maxLen)(htd:Nat.blt t n=true)
  (k:AL P ops rest ⟨n,(t,.str (p++q))::tm,bx,fr,ee⟩ Q):AL P ops (⟨some t,.binOp .add xt x y yt,ty,pos,after,none⟩::rest) ⟨n,tm,bx,fr,ee⟩ Q:=
 Z6 _ htd (fun g a w hi=>by
  have h1:V w g fr (ev tm x) (a.eval x):=hi.ev x
  rw[hx]at h1
  have h2:V w g fr (ev tm y) (a.eval y):=hi.ev y
  rw[hy]at h2
  have h1:=h1.str_inv.1
  have h2:=h2.str_inv.1
  have hs:∀ s:List UInt8,(⟨s.toArray⟩:ByteArray).size=s.length:=fun s=>by show s.toArray.size=_;simp
  have hcat:(⟨p.toArray⟩:ByteArray)++⟨q.toArray⟩=⟨(p++q).toArray⟩:=by
   apply ByteArray.ext
   simp[ByteArray.data_append]
  have hle:¬ (9223372036854775807<(p.length:Int)+(q.length:Int)):=by simp only[maxLen]at hl;omega
  exact⟨.string ⟨(p++q).toArray⟩,by simp[execOp,h1,h2,eqGuard,binOp,Op.stringOp,Sem.run_bind,hs,hle,hcat],.str _ (by simpa using hl)⟩) k
theorem Vz [Known][Dfr](hT:chk P T=true){op:BinOp}{x y:Operand}{xt yt:Nat}{p q:Bool}{d:D}{ti:Ti}(hx:ev tm x=.bool p)(hy:ev tm y=.bool q)(ht:tl T xt=some ti)(hk:ti.kd=.bool)(hd:(match op with | .eql=>some (D.bool (p==q)) | .neq=>some (D.bool (!(p==q)))|_=>none)=some d)(htd:Nat.blt t n=true)
  (k:AL P ops rest ⟨n,(t,d)::tm,bx,fr,ee⟩ Q):AL P ops (⟨some t,.binOp op xt x y yt,ty,pos,after,none⟩::rest) ⟨n,tm,bx,fr,ee⟩ Q:=
 Z6 _ htd (fun g a w hi=>by
  have h1:V w g fr (ev tm x) (a.eval x):=hi.ev x
  rw[hx]at h1
  have h2:V w g fr (ev tm y) (a.eval y):=hi.ev y
  rw[hy]at h2
  have h1:=h1.bool_inv
  have h2:=h2.bool_inv
  obtain⟨u,hu,hku⟩:=(Z9 hT ht).under
  rw[hk]at hku
  have hub:P.underlying xt=some .bool:=by
   rw[hu];cases u<;>simp only[JO]at hku<;>first|(split at hku<;>cases hku;done)|cases hku
   rfl
  have hrun:(Op.equal xt (.bool p) (.bool q)).run P w=.ok (p==q) w:=run_equalIn_bool w 9999 xt p q hub
  cases op<;>simp at hd<;>subst hd<;>first|exact⟨.bool (p==q),by simp[execOp,h1,h2,eqGuard,binOp,Sem.run_bind,hrun],.bool _⟩ | exact⟨.bool (!(p==q)),by simp[execOp,h1,h2,eqGuard,binOp,Sem.run_bind,hrun],.bool _⟩) k
def H7:D->Option Bool
 | .nilp=>some true
 | .ptr _ _=>some false
 | .eptr _ _=>some false
 | .gptr _ _=>some false
 | _=>none
theorem WZ [Known][Dfr](hT:chk P T=true){op:BinOp}{x y:Operand}{xt yt e:Nat}{p:Bool}{d:D}{ti:Ti}(hx:H7 (ev tm x)=some p)(hy:ev tm y=.nilp)(ht:tl T xt=some ti)(hk:ti.kd=.ptr e)(hd:(match op with | .eql=>some (D.bool p) | .neq=>some (D.bool (!p))|_=>none)=some d)(htd:Nat.blt t n=true)
  (k:AL P ops rest ⟨n,(t,d)::tm,bx,fr,ee⟩ Q):AL P ops (⟨some t,.binOp op xt x y yt,ty,pos,after,none⟩::rest) ⟨n,tm,bx,fr,ee⟩ Q:=
 Z6 _ htd (fun g a w hi=>by
  have h1:V w g fr (ev tm x) (a.eval x):=hi.ev x
  have h2:V w g fr (ev tm y) (a.eval y):=hi.ev y
  rw[hy]at h2
  have h2:a.eval y=.pointer none:=by
   generalize a.eval y=v at h2
   cases h2 with|nilp=>rfl
  obtain⟨u,hu,hku⟩:=(Z9 hT ht).under
  rw[hk]at hku
  have hub:P.underlying xt=some (.pointer e):=by
   rw[hu];cases u<;>simp only[JO]at hku<;>first|(split at hku<;>cases hku;done)|cases hku
   rfl
  obtain⟨v,hv⟩:∃ v,v=a.eval x:=⟨_,rfl⟩
  rw[<- hv]at h1
  have hp:∃ A,v=.pointer A/\A.isNone=p:=by
   cases hd':ev tm x<;>rw[hd']at hx h1<;>simp[H7]at hx<;>subst hx<;>cases h1<;>exact⟨_,rfl,rfl⟩
  obtain⟨A,rfl,hA⟩:=hp
  have hrun:(Op.equal xt (.pointer A) (.pointer none)).run P w=.ok p w:=by
   rw[<- hA]
   exact run_equal_pointer_nil w xt A (by rw[hub];simp[Program.pointee,hub])
  cases op<;>simp at hd<;>subst hd<;>first|exact⟨.bool p,by simp[execOp,<- hv,h2,eqGuard,binOp,Sem.run_bind,hrun],.bool _⟩ | exact⟨.bool (!p),by simp[execOp,<- hv,h2,eqGuard,binOp,Sem.run_bind,hrun],.bool _⟩) k
theorem Ip {l:List E}{bs:List UInt8}{A:Option Addr}{m cap:Nat}(hl:l=bs.map E.byte)(h:VE w g.C (.sl l) (.slice A m cap)):m=bs.length/\(bs=[]\/∃ b off,A=some ⟨b,off,none⟩/\∀ j (hj:j<bs.length),w.cell? ⟨b,off+j,none⟩=some (.int .u8 (bs[j].toNat:Int))):=by
 have hf:∀ l:List UInt8,flat (l.map E.byte)=l.map E.byte:=fun l=>by induction l with|nil=>rfl|cons x l ih=>simp[E.cells,ih]
 generalize hq:E.sl l=q at h
 generalize hs:Value.slice A m cap=s at h
 cases h with
 | slC l' b off cap us h1 h2 hc hw hv=>
  injection hq with hq;subst hq
  injection hs with e1 e2 e3
  subst hl
  refine⟨by rw[e2];simp,.inr ⟨b,off,e1,fun j hj=>?_⟩⟩
  have hj':j<(flat (bs.map E.byte)).length:=by rw[hf];simpa using hj
  rw[hw j hj']
  have hx:(flat (bs.map E.byte))[j]?=some (E.byte bs[j]):=by rw[hf];simp[hj]
  have:=hv j _ hx
  generalize us j=u at this
  cases this
  rfl
 | slE A cap h=>
  injection hq with hq;subst hq
  injection hs with _ e2 _
  have:bs=[]:=by cases bs<;>simp at hl;rfl
  exact⟨by rw[e2,this];rfl,.inl this⟩
 | _=>cases hq
theorem Z0 [Known][Dfr](hT:chk P T=true){x:Operand}{src dst e:Nat}{tk:Tok}{l:List E}{bs:List UInt8}{ti td te:Ti}(hx:ev tm x=.sl tk l)(hl:l=bs.map E.byte)(ht:tl T src=some ti)(hk:ti.kd=.slice e)(hte:tl T e=some te)(hke:te.kd=.int .u8)(htds:tl T dst=some td)(hkd:td.kd=.str)(htd:Nat.blt t n=true)
  (k:AL P ops rest ⟨n,(t,.str bs)::tm,bx,fr,ee⟩ Q):AL P ops (⟨some t,.convert src dst x,ty,pos,after,none⟩::rest) ⟨n,tm,bx,fr,ee⟩ Q:=
 Z6 _ htd (fun g a w hi=>by
  have h1:V w g fr (ev tm x) (a.eval x):=hi.ev x
  rw[hx]at h1
  obtain⟨a1,_⟩:=WO h1
  obtain⟨A,m,cap,hv,hcm,hmc⟩:∃ A m cap,a.eval x=.slice A m cap/\cap<=maxLen/\m<=cap:=by
   generalize hq:E.sl l=q at a1
   generalize a.eval x=v at a1
   cases a1 with
   | slC l' b off cap us h1 h2 _ _ _=>exact⟨_,_,cap,rfl,h2,h1⟩
   | slE A cap h=>exact⟨A,0,cap,rfl,h,Nat.zero_le _⟩
   | _=>cases hq
  rw[hv]at a1
  obtain⟨hm,hc⟩:=Ip hl a1
  subst hm
  refine⟨.string ⟨bs.toArray⟩,?_,.str _ (by omega)⟩
  have hrun:=G5 (P:=P) (w:=w) (S:=fun _=>True) (v:=.slice A bs.length cap) (l:=bs) src dst e ((Z9 hT ht).slice hk) ((Z9 hT hte).int hke) ((Z9 hT htds).str hkd) (SlB.mk rfl (by omega) hcm fun hne=>by
   rcases hc with hc|⟨b,off,hA,hc⟩
   ·exact(hne hc).elim
   ·exact⟨b,off,hA,trivial,hc⟩)
  simp[execOp,hv,Sem.run_bind,hrun]) k
theorem KB [Known][Dfr]{o:Op}{td:Option Nat}{j:Nat}{want b:Bool}{gt:Nat}(hj:((ops[j]?).bind (·.dst))=some gt)(hb:look tm gt=.bool b)(htd:(match td with|some t=>Nat.blt t n|none=>true)=true)
  (h1:b=want->AL P ops (⟨td,o,ty,pos,after,none⟩::rest) ⟨n,tm,bx,fr,ee⟩ Q)
  (h2:b = !want->AL P ops rest ⟨n,match td with|some t=>(t,.tup [])::tm|none=>tm,bx,fr,ee⟩ Q):AL P ops (⟨td,o,ty,pos,after,some (j,want)⟩::rest) ⟨n,tm,bx,fr,ee⟩ Q:=⟨fun b0 g a w hi=>by
 have hv:V w g fr (look tm gt) (a.tmps.getD gt undef):=hi.tm gt
 rw[hb]at hv
 have hv:=hv.bool_inv
 have hy:yielded ops a.tmps j=some b:=by
  have hlt:gt<a.tmps.size:=by
   rcases Nat.lt_or_ge gt a.tmps.size with h|h
   ·exact h
   ·have:a.tmps.getD gt undef=undef:=by simp[Nat.not_lt.2 h]
    rw[this]at hv;cases hv
  have he:a.tmps[gt]?=some (.bool b):=by
   rw[Array.getElem?_eq_getElem hlt,<- hv]
   simp[hlt]
  unfold yielded
  rw[hj]
  show(match(some gt).bind (a.tmps[·]?) with|some (.bool b)=>some b|_=>none)=some b
  simp only[Option.bind_some,he]
 by_cases e:b=want
 ·have:=(h1 e).run b0 g a w hi
  unfold wpList at this ⊢
  have hw:Region.wanted ⟨td,o,ty,pos,after,some (j,want)⟩ (yielded ops a.tmps)=true:=by simp[Region.wanted,hy,e]
  have hw':Region.wanted ⟨td,o,ty,pos,after,none⟩ (yielded ops a.tmps)=true:=rfl
  rw[if_pos hw]
  rw[if_pos hw']at this
  exact this
 ·have e':b = !want:=by cases b<;>cases want<;>simp_all
  have:=h2 e'
  unfold wpList
  have hw:Region.wanted ⟨td,o,ty,pos,after,some (j,want)⟩ (yielded ops a.tmps)=false:=by simp[Region.wanted,hy,e]
  rw[if_neg (by rw[hw];simp)]
  cases td with
  | none=>exact this.run b0 g a w hi
  | some t=>exact this.run b0 g _ w (hi.put htd (.tup [] [] rfl fun j d v h=>by simp at h))⟩
theorem Yh [Known][Dfr]{o:Op}{t:Nat}{j:Nat}{want:Bool}{gt:Nat}(hj:((ops[j]?).bind (·.dst))=some gt)(hb:look tm gt=.tup [])(htd:Nat.blt t n=true)
  (h2:AL P ops rest ⟨n,(t,.tup [])::tm,bx,fr,ee⟩ Q):AL P ops (⟨some t,o,ty,pos,after,some (j,want)⟩::rest) ⟨n,tm,bx,fr,ee⟩ Q:=⟨fun b0 g a w hi=>by
 have hv:V w g fr (look tm gt) (a.tmps.getD gt undef):=hi.tm gt
 rw[hb]at hv
 obtain⟨vs,hv,hl,_⟩:=OS hv
 obtain rfl:vs=[]:=List.length_eq_zero_iff.1 hl
 have hy:yielded ops a.tmps j=none:=by
  unfold yielded
  rw[hj]
  show(match(some gt).bind (a.tmps[·]?) with|some (.bool b)=>some b|_=>none)=none
  rw[Option.bind_some]
  cases hg:a.tmps[gt]? with
  | none=>rfl
  | some v=>
   have:a.tmps.getD gt undef=v:=by simp[Array.getD_getElem?,hg]
   rw[this]at hv
   subst hv
   rfl
 unfold wpList
 have hw:Region.wanted ⟨some t,o,ty,pos,after,some (j,want)⟩ (yielded ops a.tmps)=false:=by simp[Region.wanted,hy]
 rw[if_neg (by rw[hw];simp)]
 exact h2.run b0 g _ w (hi.put htd (.tup [] [] rfl fun j d v h=>by simp at h))⟩
theorem Wo [Known][Dfr](hT:chk P T=true){x:Operand}{src dst:Nat}{k k':IntKind}{q:Int}{ti td:Ti}(hx:ev tm x=.int k q)(hs:tl T src=some ti)(hd:tl T dst=some td)(hk:td.kd=.int k')(htd:Nat.blt t n=true)
  (kk:AL P ops rest ⟨n,(t,.int k' (k'.wrap q))::tm,bx,fr,ee⟩ Q):AL P ops (⟨some t,.convert src dst x,ty,pos,after,none⟩::rest) ⟨n,tm,bx,fr,ee⟩ Q:=by
 obtain⟨u,hu,_⟩:=(Z9 hT hs).under
 exact G9 hx (by rw[hu]) (by rw[(Z9 hT hd).int hk]) htd kk
theorem Zi [Known][Dfr]{o:Op}{td:Option Nat}{j:Nat}{want b:Bool}{gt:Nat}(hj:((ops[j]?).bind (·.dst))=some gt)(hb:look tm gt=.bool b)(htd:(match td with|some t=>Nat.blt t n|none=>true)=true)(hw:b=want)
  (h1:AL P ops (⟨td,o,ty,pos,after,none⟩::rest) ⟨n,tm,bx,fr,ee⟩ Q):AL P ops (⟨td,o,ty,pos,after,some (j,want)⟩::rest) ⟨n,tm,bx,fr,ee⟩ Q:=
 KB hj hb htd (fun _=>h1) (fun h=>by subst hw;cases b<;>cases h)
theorem XL [Known][Dfr]{o:Op}{t:Nat}{j:Nat}{want b b':Bool}{gt:Nat}(hj:((ops[j]?).bind (·.dst))=some gt)(hb:look tm gt=.bool b)(htd:Nat.blt t n=true)(hw:b=b')(hne:(b' != want)=true)
  (h1:AL P ops rest ⟨n,(t,.tup [])::tm,bx,fr,ee⟩ Q):AL P ops (⟨some t,o,ty,pos,after,some (j,want)⟩::rest) ⟨n,tm,bx,fr,ee⟩ Q:=
 KB hj hb htd (fun h=>by subst hw;subst h;simp at hne) (fun _=>h1)
theorem Zs [Known][Dfr]{o:Op}{t:Nat}{j:Nat}{b:Bool}{gt:Nat}(hj:((ops[j]?).bind (·.dst))=some gt)(hb:look tm gt=.bool b)(htd:Nat.blt t n=true)(hw:b=false)
  (h1:AL P ops rest ⟨n,(t,.tup [])::tm,bx,fr,ee⟩ Q):AL P ops (⟨some t,o,ty,pos,after,some (j,true)⟩::rest) ⟨n,tm,bx,fr,ee⟩ Q:=XL hj hb htd hw rfl h1
theorem Zq [Known][Dfr]{o:Op}{t:Nat}{j:Nat}{b:Bool}{gt:Nat}(hj:((ops[j]?).bind (·.dst))=some gt)(hb:look tm gt=.bool b)(htd:Nat.blt t n=true)(hw:b=true)
  (h1:AL P ops rest ⟨n,(t,.tup [])::tm,bx,fr,ee⟩ Q):AL P ops (⟨some t,o,ty,pos,after,some (j,false)⟩::rest) ⟨n,tm,bx,fr,ee⟩ Q:=XL hj hb htd hw rfl h1
theorem ZZ [Known][Dfr]{o:Op}{td:Option Nat}{j:Nat}{want b:Bool}{gt:Nat}(hj:((ops[j]?).bind (·.dst))=some gt)(hb:look tm gt=.bool b)
  (h1:b=true->AL P ops (⟨td,o,ty,pos,after,some (j,want)⟩::rest) ⟨n,tm,bx,fr,ee⟩ Q) (h2:b=false->AL P ops (⟨td,o,ty,pos,after,some (j,want)⟩::rest) ⟨n,tm,bx,fr,ee⟩ Q) :
  AL P ops (⟨td,o,ty,pos,after,some (j,want)⟩::rest) ⟨n,tm,bx,fr,ee⟩ Q:=by
 cases b with
 | true=>exact h1 rfl
 | false=>exact h2 rfl
theorem Zo [Known][Dfr]{c x y:Operand}{b:Bool}{d:D}(hc:ev tm c=.bool b)(hb:b=true)(hd:nf (ev tm x)=some d)(htd:Nat.blt t n=true)
  (k:AL P ops rest ⟨n,(t,d)::tm,bx,fr,ee⟩ Q):AL P ops (⟨some t,.pick c x y,ty,pos,after,none⟩::rest) ⟨n,tm,bx,fr,ee⟩ Q:=by
 subst hb;exact OW hc hd htd k
theorem Zn [Known][Dfr]{c x y:Operand}{b:Bool}{d:D}(hc:ev tm c=.bool b)(hb:b=false)(hd:nf (ev tm y)=some d)(htd:Nat.blt t n=true)
  (k:AL P ops rest ⟨n,(t,d)::tm,bx,fr,ee⟩ Q):AL P ops (⟨some t,.pick c x y,ty,pos,after,none⟩::rest) ⟨n,tm,bx,fr,ee⟩ Q:=by
 subst hb;exact OW hc hd htd k
end
theorem Zf [Known][Dfr]{P:Program}{Q:X->St->Prop}{n:Nat}{ee:Nat × Nat}{tm:List (Nat × D)}{bx:List (List D)}{fr:List Fr}{x y:Code}{b:Bool}{t:Nat}(hd:look tm t=.bool b)(hb:b=true)(h1:AW P x ⟨n,tm,bx,fr,ee⟩ Q):AW P (.cond (.tmp t) x y) ⟨n,tm,bx,fr,ee⟩ Q:=IS (hb ▸ hd) h1
theorem Zg [Known][Dfr]{P:Program}{Q:X->St->Prop}{n:Nat}{ee:Nat × Nat}{tm:List (Nat × D)}{bx:List (List D)}{fr:List Fr}{x y:Code}{b:Bool}{t:Nat}(hd:look tm t=.bool b)(hb:b=false)(h1:AW P y ⟨n,tm,bx,fr,ee⟩ Q):AW P (.cond (.tmp t) x y) ⟨n,tm,bx,fr,ee⟩ Q:=IT (hb ▸ hd) h1
theorem bn:(!true)=false/\(!false)=true:=⟨rfl,rfl⟩
end Go.Av
end
section
open Go.RowKit Go.Pl
namespace Go.Av
def eq1:ZK->D->D->Option Bool
 | .b,.bool a,.bool b=>some (a==b)
 | .i k,.int k1 a,.int k2 b=>if k1=k then if k2=k then some (a==b) else none else none
 | .s,.str a,.str b=>some (a==b)
 | _,_,_=>none
def eqL:List ZK->List D->List D->Option Bool
 | [],[],[]=>some true
 | k::ks,a::l,b::l'=>match eq1 k a b,eqL ks l l' with
  | some p,some q=>some (p&&q)
  | _,_=>none
 | _,_,_=>none
def kgo (P:Program)(kd:TypeId->Option (List ZK)):List ZK->List Field->Option (List ZK)
 | acc,[]=>some acc
 | acc,f::fs=>if f.name ≠ "_" /\ f.offset=acc.length then match kd f.type with
   | some ks=>if tSize P f.type=some ks.length then kgo P kd (acc++ks) fs else none
   | none=>none
  else none
def Qs (P:Program):Nat->TypeId->Option (List ZK)
 | 0,_=>none
 | d+1,t=>match P.underlying t with
  | some .bool=>some [.b]
  | some (.int k)=>some [.i k]
  | some .string=>some [.s]
  | some (.struct fs)=>if P.stoodInHeld t=true then none else kgo P (Qs P d) [] fs.toList
  | _=>none
theorem OX {P:Program}{kd:TypeId->Option (List ZK)}:∀ {fs:List Field} {acc full:List ZK},kgo P kd acc fs=some full->∃ rest,full=acc++rest
 | [],acc,full,h=>⟨[],by simp[kgo]at h;simp[h]⟩
 | f::fs,acc,full,h=>by
  simp only[kgo]at h
  split at h
  ·cases hk:kd f.type with
   | none=>simp[hk]at h
   | some ks=>
    simp only[hk]at h
    split at h
    ·obtain⟨rest,hr⟩:=OX h
     exact⟨ks++rest,by rw[hr,List.append_assoc]⟩
    ·cases h
  ·cases h
theorem OY:∀ {ks ks':List ZK} {a b:List D} {r:Bool},eqL (ks++ks') a b=some r->∃ p q,eqL ks (a.take ks.length) (b.take ks.length)=some p/\eqL ks' (a.drop ks.length) (b.drop ks.length)=some q/\r=(p&&q)
 | [],ks',a,b,r,h=>⟨true,r,by simp[eqL],by simpa using h,by simp⟩
 | k::ks,ks',x::a,y::b,r,h=>by
  simp only[List.cons_append,eqL]at h
  cases h1:eq1 k x y with
  | none=>simp[h1]at h
  | some p=>
   cases h2:eqL (ks++ks') a b with
   | none=>simp[h1,h2]at h
   | some q=>
    simp[h1,h2]at h
    subst h
    obtain⟨p',q',e1,e2,e3⟩:=OY h2
    exact⟨p&&p',q',by simp[eqL,h1,e1],by simpa using e2,by rw[e3,Bool.and_assoc]⟩
 | k::ks,ks',[],b,r,h=>by simp[eqL]at h
 | k::ks,ks',x::a,[],r,h=>by simp[eqL]at h
theorem Q9:∀ {ks:List ZK} {a b:List D} {r:Bool},eqL ks a b=some r->a.length=ks.length/\b.length=ks.length
 | [],[],[],r,h=>⟨rfl,rfl⟩
 | k::ks,x::a,y::b,r,h=>by
  simp only[eqL]at h
  cases h1:eq1 k x y with
  | none=>simp[h1]at h
  | some p=>
   cases h2:eqL ks a b with
   | none=>simp[h1,h2]at h
   | some q=>
    obtain⟨h3,h4⟩:=Q9 h2
    exact⟨by simp[h3],by simp[h4]⟩
 | [],_::_,_,r,h=>by simp[eqL]at h
 | [],[],_::_,r,h=>by simp[eqL]at h
 | k::ks,[],b,r,h=>by simp[eqL]at h
 | k::ks,x::a,[],r,h=>by simp[eqL]at h
section
variable {P:Program} {Q:X->St->Prop} {n:Nat} {ee:Nat × Nat} {tm:List (Nat × D)} {bx bx':List (List D)} {fr fr':List Fr} {b0:Bs} {g:G} {w:World} {a:Act} {T:Tab}
variable {ops:Array Oper} {rest:List Oper} {t ty:Nat} {pos:String} {after:Array Edge}
def Holds (w:World)(g:G)(fr:List Fr)(l:List D)(vs:List Value):Prop:=vs.length=l.length/\∀(j:Nat) (d:D) (v:Value),l[j]?=some d->vs[j]?=some v->V w g fr d v
theorem Holds.sub {l:List D}{vs:List Value}(h:Holds w g fr l vs)(o k:Nat):Holds w g fr ((l.drop o).take k) ((vs.drop o).take k):=by
 refine⟨by simp[h.1],fun j d v hd hv=>?_⟩
 have hd':j<k/\l[o+j]?=some d:=by simpa[List.getElem?_take]using hd
 have hv':j<k/\vs[o+j]?=some v:=by simpa[List.getElem?_take]using hv
 exact h.2 _ d v hd'.2 hv'.2
theorem Iq:∀(d:Nat) (t:TypeId) (dd:Nat) (ks:List ZK) (l l':List D) (vs vs':List Value) (x y:Value) (r:Bool),Qs P d t=some ks->d<=dd->Holds w g fr l vs->Holds w g fr l' vs'->eqL ks l l'=some r ->
  (tAgg P t=some true->x=.agg vs.toArray/\y=.agg vs'.toArray)->(tAgg P t=some false->vs=[x]/\vs'=[y])->(Op.equalIn dd t x y).run P w=.ok r w:=by
 intro d
 induction d with
 | zero=>intro t dd ks l l' vs vs' x y r h;simp[Qs]at h
 | succ d ih=>
  intro t dd ks l l' vs vs' x y r h hdd hl hl' he hA hS
  obtain⟨dd,rfl⟩:∃ k,dd=k+1:=⟨dd-1,by omega⟩
  have sc:∀ k,ks=[k]->tAgg P t=some false->∃ p q,V w g fr p x/\V w g fr q y/\eq1 k p q=some r:=fun k hk hAf=>by
   subst hk
   obtain⟨rfl,rfl⟩:=hS hAf
   obtain⟨h1,h2⟩:=Q9 he
   match l,l',h1,h2 with
   | [p],[q],_,_=>
    refine⟨p,q,hl.2 0 p x rfl rfl,hl'.2 0 q y rfl rfl,?_⟩
    cases h5:eq1 k p q with
    | none=>simp[eqL,h5]at he
    | some b=>simp[eqL,h5]at he;rw[he]
  unfold Qs at h
  cases hu:P.underlying t with
  | none=>simp[hu]at h
  | some u=>
   cases u<;>simp[hu]at h
   case bool=>
    obtain⟨p,q,hp,hq,he⟩:=sc .b h.symm (by simp[Go.Av.tAgg,hu])
    cases p<;>cases q<;>simp[eq1]at he
    cases hp;cases hq;subst he
    exact run_equalIn_bool w dd t _ _ hu
   case int k=>
    obtain⟨p,q,hp,hq,he⟩:=sc (.i k) h.symm (by simp[Go.Av.tAgg,hu])
    cases p<;>cases q<;>simp[eq1]at he
    obtain⟨rfl,rfl,he⟩:=he
    cases hp;cases hq;subst he
    exact run_equalIn_int w dd t _ _ _ _ hu
   case string=>
    obtain⟨p,q,hp,hq,he⟩:=sc .s h.symm (by simp[Go.Av.tAgg,hu])
    cases p<;>cases q<;>simp[eq1]at he
    have h1:=hp.str_inv.1
    have h2:=hq.str_inv.1
    subst h1 h2 he
    rw[run_equalIn_string w dd t _ _ hu,Jm,Jm]
   case struct fs=>
    obtain⟨hst,h⟩:=h
    obtain⟨rfl,rfl⟩:=hA (by simp[Go.Av.tAgg,hu])
    have hfs:P.fieldsOf t=fs:=by simp[Program.fieldsOf,hu]
    rw[run_equalIn_struct w dd t _ _ (by rw[hfs];exact hu) hst,hfs]
    obtain⟨hL,hL'⟩:=Q9 he
    have key:∀(fl:List Field) (acc:List ZK) (r:Bool),kgo P (Qs P d) acc fl=some ks->eqL (ks.drop acc.length) (l.drop acc.length) (l'.drop acc.length)=some r->(Op.eqFields dd vs.toArray vs'.toArray fl).run P w=.ok r w:=by
     intro fl
     induction fl with
     | nil=>
      intro acc r h he
      simp[kgo]at h
      subst h
      have:eqL [] (l.drop acc.length) (l'.drop acc.length)=some r:=by simpa using he
      obtain⟨h1,h2⟩:=Q9 this
      have e1:l.drop acc.length=[]:=List.eq_nil_of_length_eq_zero h1
      have e2:l'.drop acc.length=[]:=List.eq_nil_of_length_eq_zero h2
      rw[e1,e2]at this
      simp[eqL]at this
      subst this
      rfl
     | cons f fl ihf=>
      intro acc r h he
      simp only[kgo]at h
      split at h
      ·rename_i hn
       cases hk:Qs P d f.type with
       | none=>simp[hk]at h
       | some kf=>
        simp only[hk]at h
        split at h
        ·rename_i hsz
         obtain⟨rest,hr⟩:=OX h
         have hd:ks.drop acc.length=kf++rest:=by rw[hr];simp
         rw[hd]at he
         obtain⟨p,q,e1,e2,e3⟩:=OY he
         obtain⟨q1,q2⟩:=Q9 e1
         have hks:ks.length=acc.length+kf.length+rest.length:=by rw[hr];simp;omega
         have hlen:acc.length+kf.length<=l.length:=by omega
         have hlen':acc.length+kf.length<=l'.length:=by omega
         have hvl:=hl.1
         have hvl':=hl'.1
         have hpart:∃ x y,(part f.type vs.toArray f.offset).run P w=.ok x w/\(part f.type vs'.toArray f.offset).run P w=.ok y w/\(tAgg P f.type=some true->x=.agg ((vs.drop acc.length).take kf.length).toArray/\y=.agg ((vs'.drop acc.length).take kf.length).toArray)/\(tAgg P f.type=some false->(vs.drop acc.length).take kf.length=[x]/\(vs'.drop acc.length).take kf.length=[y]):=by
          cases hag:tAgg P f.type with
          | none=>
           exfalso
           cases d with
           | zero=>simp[Qs]at hk
           | succ d=>
            unfold Qs at hk
            unfold Go.Av.tAgg at hag
            cases hu2:P.underlying f.type with
            | none=>simp[hu2]at hk
            | some u2=>cases u2<;>simp[hu2]at hag
          | some b=>
           rw[hn.2]
           cases b with
           | true=>
            refine⟨.agg (vs.toArray.extract acc.length (acc.length+kf.length)),.agg (vs'.toArray.extract acc.length (acc.length+kf.length)),by simp[part,Sem.run_bind,Vx hag,Y1 hsz],by simp[part,Sem.run_bind,Vx hag,Y1 hsz],fun _=>⟨?_,?_⟩,fun h=>by cases h⟩
            ·congr 1;apply Array.ext';simp[List.drop_take,Nat.add_sub_cancel_left]
            ·congr 1;apply Array.ext';simp[List.drop_take,Nat.add_sub_cancel_left]
           | false=>
            have hk1:kf.length=1:=by
             cases d with
             | zero=>simp[Qs]at hk
             | succ d=>
              unfold Qs at hk
              unfold Go.Av.tAgg at hag
              cases hu2:P.underlying f.type with
              | none=>simp[hu2]at hk
              | some u2=>cases u2<;>simp[hu2]at hag hk<;>subst hk<;>rfl
            have h1:acc.length<vs.length:=by omega
            have h2:acc.length<vs'.length:=by omega
            refine⟨vs[acc.length],vs'[acc.length],by simp[part,Sem.run_bind,Vx hag,h1],by simp[part,Sem.run_bind,Vx hag,h2],(fun h=>by cases h),fun _=>⟨?_,?_⟩⟩
            ·rw[hk1,List.drop_eq_getElem_cons h1];rfl
            ·rw[hk1,List.drop_eq_getElem_cons h2];rfl
         obtain⟨x,y,p1,p2,p3,p4⟩:=hpart
         have hrec:=ih f.type dd kf _ _ _ _ x y p hk (by omega) (hl.sub acc.length kf.length) (hl'.sub acc.length kf.length) e1 p3 p4
         have hnext:=ihf (acc++kf) q h (by
          rw[List.length_append,<- List.drop_drop,hd,<- List.drop_drop,<- List.drop_drop]
          simpa using e2)
         simp only[Op.eqFields,Sem.run_bind,Sem.run_ite,if_pos hn.1,p1,p2,Result.andThen_ok,hrec]
         subst e3
         cases p with
         | true=>simpa using hnext
         | false=>simp
        ·cases h
      ·cases h
    exact key fs.toList [] r h (by simpa using he)
theorem We [Known][Dfr]{op:BinOp}{x y:Operand}{xt yt:Nat}{l l':List D}{ti:Ti}{d:D}{r:Bool}(hT:chk P T=true)(hx:ev tm x=.agg l)(hy:ev tm y=.agg l')(ht:tl T xt=some ti)(ha:ti.kd.agg=true)(hk:Qs P 9 xt=some ti.zero)(hg:P.eqGuardType P.depth xt=false)(he:eqL ti.zero l l'=some r)
  (hd:(match op with | .eql=>some (D.bool r) | .neq=>some (D.bool (!r))|_=>none)=some d) (htd:Nat.blt t n=true)
  (k:AL P ops rest ⟨n,(t,d)::tm,bx,fr,ee⟩ Q):AL P ops (⟨some t,.binOp op xt x y yt,ty,pos,after,none⟩::rest) ⟨n,tm,bx,fr,ee⟩ Q:=
 Z6 _ htd (fun g a w hi=>by
  have h1:V w g fr (ev tm x) (a.eval x):=hi.ev x
  rw[hx]at h1
  have h2:V w g fr (ev tm y) (a.eval y):=hi.ev y
  rw[hy]at h2
  obtain⟨vs,v1,v2,v3⟩:=Q7 h1
  obtain⟨vs',u1,u2,u3⟩:=Q7 h2
  have hrun:(Op.equal xt (.agg vs.toArray) (.agg vs'.toArray)).run P w=.ok r w:=
   Iq 9 xt 10000 ti.zero l l' vs vs' _ _ r hk (by omega) ⟨v2,v3⟩ ⟨u2,u3⟩ he (fun _=>⟨rfl,rfl⟩) (fun h=>by rw[(Z9 hT ht).tAgg,ha]at h;cases h)
  have hguard:=fun op=>run_eqGuard_agg (P:=P) w op xt x y vs.toArray vs'.toArray hg
  cases op<;>simp at hd<;>subst hd
  ·exact⟨.bool r,by simp[execOp,v1,u1,binOp,Sem.run_bind,hguard,hrun],.bool _⟩
  ·exact⟨.bool (!r),by simp[execOp,v1,u1,binOp,Sem.run_bind,hguard,hrun],.bool _⟩) k
end
end Go.Av
end
section
open Go.RowKit Go.Pl
namespace Go.Av
mutual
def D.wk:D->D
 | .bool b=>.bool b
 | .int k n=>.int k n
 | .str s=>.str s
 | .sl _ l=>.sl .ext l
 | .nilp=>.nilp
 | .ptr b o=>.ptr b o
 | .eptr cs o=>.eptr cs o
 | .gptr k o=>.gptr k o
 | .bsl b o n c=>.bsl b o n c
 | .agg l=>.agg (D.wks l)
 | .tup l=>.tup (D.wks l)
 | .fn i l=>.fn i (D.wks l)
 | .nilf=>.nilf
 | .iface t d=>.iface t (D.wk d)
 | .nili=>.nili
 | .yl l=>.yl l
 | .mix l ds=>.mix l (D.wks ds)
 | .junk=>.junk
 | .row z l=>.row z l
def D.wks:List D->List D
 | []=>[]
 | d::l=>D.wk d::D.wks l
end
theorem WL (l:List D):D.wks l=l.map D.wk:=by
 induction l with
 | nil=>rfl
 | cons d l ih=>simp[D.wks,ih]
theorem V.wk {w:World}{g:G}{fr:List Fr}{d:D}{v:Value}(hV:V w g fr d v):V w g fr d.wk v:=by
 have key:∀ {l:List D} {vs:List Value},(∀(j:Nat) (d:D) (v:Value),l[j]?=some d->vs[j]?=some v->V w g fr d.wk v)->∀(j:Nat) (d:D) (v:Value),(D.wks l)[j]?=some d->vs[j]?=some v->V w g fr d v:=by
  intro l vs h j d v hd hv
  rw[WL,List.getElem?_map]at hd
  cases hj:l[j]? with
  | none=>simp[hj]at hd
  | some d0=>simp[hj]at hd;subst hd;exact h j d0 v hj hv
 induction hV with
 | bool b=>exact .bool b
 | int k n=>exact .int k n
 | str s h=>exact .str s h
 | sl t l v h hk=>exact .sl .ext l v h trivial
 | nilp=>exact .nilp
 | ptr b o blk h=>exact .ptr b o blk h
 | eptr cs o blk off us hc hw' hv=>exact .eptr cs o blk off us hc hw' hv
 | gptr k o=>exact .gptr k o
 | bsl b o n c blk cap hb h1 h2 h3=>exact .bsl b o n c blk cap hb h1 h2 h3
 | agg l vs hl _ ih=>exact .agg _ vs (by rw[WL];simpa using hl) (key ih)
 | tup l vs hl _ ih=>exact .tup _ vs (by rw[WL];simpa using hl) (key ih)
 | fn f l vs hl _ ih=>exact .fn f _ vs (by rw[WL];simpa using hl) (key ih)
 | nilf=>exact .nilf
 | iface t d v _ ih=>exact .iface t _ v ih
 | nili=>exact .nili
 | yl l=>exact .yl l
 | mix l ds v vs hl _ ih=>exact .mix l _ v vs (by rw[WL];simpa using hl) (key ih)
 | junk v=>exact .junk v
 | row z l v=>exact .row z l v
inductive Sub (tm:List (Nat × D)):List (Nat × D)->Prop
 | nil:Sub tm []
 | cons {t:Nat} {d:D} {l:List (Nat × D)} (h:look tm t=d) (k:Sub tm l):Sub tm ((t,d)::l)
 | wk {t:Nat} {d:D} {l:List (Nat × D)} (h:(look tm t).wk=d) (k:Sub tm l):Sub tm ((t,d)::l)
theorem Sub.look {tm:List (Nat × D)}{l:List (Nat × D)}(hs:Sub tm l)(t:Nat):look l t=.junk\/look l t=look tm t\/look l t=(look tm t).wk:=by
 induction hs with
 | nil=>exact .inl rfl
 | @cons k d l h s ih=>
  simp only[Go.Av.look]
  cases hb:Nat.beq k t with
  | true=>
   have:=Nat.eq_of_beq_eq_true hb
   subst this
   exact .inr (.inl h.symm)
  | false=>exact ih
 | @wk k d l h s ih=>
  simp only[Go.Av.look]
  cases hb:Nat.beq k t with
  | true=>
   have:=Nat.eq_of_beq_eq_true hb
   subst this
   exact .inr (.inr h.symm)
  | false=>exact ih
theorem Inv.sub [Known][Dfr]{b0:Bs}{n:Nat}{ee:Nat × Nat}{tm tm2:List (Nat × D)}{bx:List (List D)}{fr:List Fr}{g:G}{a:Act}{w:World}(h:Inv b0 ⟨n,tm,bx,fr,ee⟩ g a w)(hs:Sub tm tm2):Inv b0 ⟨n,tm2,bx,fr,ee⟩ g a w:=by
 refine⟨h.size,h.defers,h.mem,fun t=>?_,h.evo,h.bd⟩
 rcases hs.look t with e|e|e
 ·dsimp only;rw[e];exact .junk _
 ·dsimp only;rw[e];exact h.tm t
 ·dsimp only;rw[e];exact(h.tm t).wk
mutual
def D.lt (k m:Nat):D->Bool
 | .sl (.own i) _=>Nat.blt i m
 | .ptr b _=>Nat.blt b k
 | .bsl b _ _ _=>Nat.blt b k
 | .agg l=>D.lts k m l
 | .tup l=>D.lts k m l
 | .fn _ l=>D.lts k m l
 | .iface _ d=>D.lt k m d
 | .mix _ ds=>D.lts k m ds
 | _=>true
def D.lts (k m:Nat):List D->Bool
 | []=>true
 | d::l=>match D.lt k m d with
  | true=>D.lts k m l
  | false=>false
end
theorem UQ {k m:Nat}:∀ {l:List D} {j:Nat} {d:D},D.lts k m l=true->l[j]?=some d->D.lt k m d=true
 | [],j,d,_,h=>by simp at h
 | x::l,j,d,hl,h=>by
  simp only[D.lts]at hl
  cases hx:D.lt k m x with
  | false=>simp[hx]at hl
  | true=>
   simp only[hx]at hl
   cases j with
   | zero=>simp at h;subst h;exact hx
   | succ j=>simp at h;exact UQ hl h
theorem V.cutB {w:World}{g:G}{fr:List Fr}{d:D}{v:Value}{k m:Nat}(h:V w g fr d v)(hd:D.lt k m d=true):V w ⟨g.C,g.ρ.take k,g.τ.take m⟩ (fr.take m) d v:=by
 induction h with
 | bool b=>exact .bool b
 | int k n=>exact .int k n
 | str s h=>exact .str s h
 | sl t l v h hk=>
  refine .sl t l v h ?_
  cases t with
  | ext=>trivial
  | nil=>exact hk
  | zero=>exact hk
  | own i=>
   simp only[D.lt,Nat.blt_eq]at hd
   obtain⟨f,h1,h2,h3⟩:=hk
   refine⟨f,by rw[List.getElem?_take,if_pos hd];exact h1,h2,fun e=>?_⟩
   have q:(g.τ.take m)[i]?=g.τ[i]? := by rw[List.getElem?_take,if_pos hd]
   dsimp only
   rw[q]
   exact h3 e
 | nilp=>exact .nilp
 | ptr b o blk h=>
  simp only[D.lt,Nat.blt_eq]at hd
  exact .ptr b o blk (by show(g.ρ.take k)[b]?=_;rw[List.getElem?_take,if_pos hd];exact h)
 | eptr cs o blk off us hc hw' hv=>exact .eptr cs o blk off us hc hw' hv
 | gptr k o=>exact .gptr k o
 | bsl b o n c blk cap h h1 h2 h3=>
  simp only[D.lt,Nat.blt_eq]at hd
  exact .bsl b o n c blk cap (by show(g.ρ.take k)[b]?=_;rw[List.getElem?_take,if_pos hd];exact h) h1 h2 h3
 | agg l vs hl _ ih=>exact .agg l vs hl fun j d v hj hv=>ih j d v hj hv (UQ hd hj)
 | tup l vs hl _ ih=>exact .tup l vs hl fun j d v hj hv=>ih j d v hj hv (UQ hd hj)
 | fn f l vs hl _ ih=>exact .fn f l vs hl fun j d v hj hv=>ih j d v hj hv (UQ hd hj)
 | nilf=>exact .nilf
 | iface t d v _ ih=>exact .iface t d v (ih hd)
 | nili=>exact .nili
 | yl l=>exact .yl l
 | mix l ds v vs hl _ ih=>exact .mix l ds v vs hl fun j d v hj hv=>ih j d v hj hv (UQ hd hj)
 | junk v=>exact .junk v
 | row z l v=>exact .row z l v
def allLt (k m:Nat):List (List D)->Bool
 | []=>true
 | l::ls=>match D.lts k m l with
  | true=>allLt k m ls
  | false=>false
theorem XM {k m:Nat}:∀ {ls:List (List D)} {i:Nat} {l:List D},allLt k m ls=true->ls[i]?=some l->D.lts k m l=true
 | [],i,l,_,h=>by simp at h
 | x::ls,i,l,hl,h=>by
  simp only[allLt]at hl
  cases hx:D.lts k m x with
  | false=>simp[hx]at hl
  | true=>
   simp only[hx]at hl
   cases i with
   | zero=>simp at h;subst h;exact hx
   | succ i=>simp at h;exact XM hl h
def Kj (k m:Nat):List (Nat × D)->Bool
 | []=>true
 | p::l=>match D.lt k m p.2 with
  | true=>Kj k m l
  | false=>false
theorem Jn {k m:Nat}:∀ {l:List (Nat × D)} (t:Nat),Kj k m l=true->D.lt k m (look l t)=true
 | [],t,_=>rfl
 | (x,d)::l,t,h=>by
  simp only[Kj]at h
  cases hd:D.lt k m d with
  | false=>simp[hd]at h
  | true=>
   simp only[hd]at h
   simp only[Go.Av.look]
   cases hb:Nat.beq x t with
   | true=>exact hd
   | false=>exact Jn t h
theorem H8 (k m:Nat)(e:E):D.lt k m (D.ofC e)=true:=by
 cases e<;>simp only[D.ofC,D.lt]
theorem TV {k m:Nat}{cs:List D}{j:Nat}{d:D}(h:D.lts k m cs=true)(hd:(D.ex cs)[j]?=some d):D.lt k m d=true:=by
 cases hr:D.isRow cs with
 | false=>rw[Qo hr]at hd;exact UQ h hd
 | true=>
  have key:∀(l:List E) (j:Nat),(l.map D.ofC)[j]?=some d->D.lt k m d=true:=fun l j hd=>by
   rw[List.getElem?_map]at hd
   cases hl:l[j]? with
   | none=>simp[hl]at hd
   | some e=>simp[hl]at hd;subst hd;exact H8 k m e
  rcases QU hr with⟨z,l,rfl⟩ | ⟨l,ds,rfl⟩
  ·exact key l j hd
  ·have hd:(l.map D.ofC++ds)[j]?=some d:=hd
   have h2:D.lts k m ds=true:=by
    simp only[D.lts,D.lt]at h
    cases hx:D.lts k m ds with
    | true=>rfl
    | false=>rw[hx]at h;cases h
   rcases Nat.lt_or_ge j (l.map D.ofC).length with hj|hj
   ·rw[List.getElem?_append_left hj]at hd;exact key l j hd
   ·rw[List.getElem?_append_right hj]at hd;exact UQ h2 hd
theorem Inv.cut [Known][Dfr]{b0:Bs}{n k m:Nat}{ee:Nat × Nat}{tm:List (Nat × D)}{bx:List (List D)}{fr:List Fr}{g:G}{a:Act}{w:World}(h:Inv b0 ⟨n,tm,bx,fr,ee⟩ g a w)(hk:ee.1<=k)(hm:ee.2<=m)(htm:Kj k m tm=true)(hbx:allLt k m (bx.take k)=true) :
  Inv b0 ⟨n,tm,bx.take k,fr.take m,ee⟩ ⟨g.C,g.ρ.take k,g.τ.take m⟩ a w:=by
 have hM:=h.mem
 have hbd:=h.bd
 dsimp only at hbd
 have hρ:∀(i b:Nat),(g.ρ.take k)[i]?=some b->i<k/\g.ρ[i]?=some b:=fun i b h=>by simpa[List.getElem?_take]using h
 have hτ:∀(i:Nat) (p:Option (Nat × Nat × Nat)),(g.τ.take m)[i]?=some p->i<m/\g.τ[i]?=some p:=fun i p h=>by simpa[List.getElem?_take]using h
 refine⟨h.size,h.defers,?_,fun t=>(h.tm t).cutB (Jn t htm),?_,h.bd⟩
 ·constructor
  ·have:=hM.bl;simp at this ⊢;omega
  ·intro i blk cs h1 h2
   obtain⟨hi,h1⟩:=hρ i blk h1
   have h2' : bx[i]? = some cs := by have : i < k /\ bx[i]? = some cs := by simpa [List.getElem?_take] using h2
                                     exact this.2
   obtain⟨vs,ty,q1,q2,q3⟩:=hM.bat i blk cs h1 h2'
   exact⟨vs,ty,q1,q2,fun j d v hd hv=>(q3 j d v hd hv).cutB (TV (XM hbx h2) hd)⟩
  ·intro blk o hb
   obtain⟨i,hi⟩:=List.getElem?_of_mem hb
   exact hM.bC blk o (List.mem_of_getElem? (hρ i blk hi).2)
  ·intro i j b h1 h2
   exact hM.bN i j b (hρ i b h1).2 (hρ j b h2).2
  ·have:=hM.tl;simp at this ⊢;omega
  ·intro i blk cap f h1 h2
   obtain⟨hi,h1⟩:=hτ i _ h1
   have h2:i<m/\fr[i]?=some f:=by simpa[List.getElem?_take]using h2
   exact(hM.tat i blk cap f h1 h2.2).same fun _ h=>h
  ·intro i j b c c' h1 h2
   exact hM.tN i j b c c' (hτ i _ h1).2 (hτ j _ h2).2
  ·intro b c h1 h2
   obtain⟨i,hi⟩:=List.getElem?_of_mem h1
   obtain⟨j,hj⟩:=List.getElem?_of_mem h2
   exact hM.tρ b c (List.mem_of_getElem? (hτ i _ hi).2) (List.mem_of_getElem? (hρ j b hj).2)
  ·exact hM.Clt
  ·exact hM.gl
 ·have he:=h.evo
  refine⟨he.os,he.tape,he.output,he.size,he.block,he.C,he.cell,he.newC,fun i b hb=>?_,fun b hb=>?_,fun b c hb=>?_,fun i f hf=>?_⟩
  ·have:=(List.getElem?_eq_some_iff.1 hb).1
   show(g.ρ.take k)[i]?=_
   rw[List.getElem?_take,if_pos (by omega)];exact he.ρp i b hb
  ·exact he.ρn b (List.mem_of_mem_take hb)
  ·exact he.τn b c (List.mem_of_mem_take hb)
  ·have:=(List.getElem?_eq_some_iff.1 hf).1
   obtain⟨f',h1,h2,h3⟩:=he.tok i f hf
   refine⟨f',by show(fr.take m)[i]?=_;rw[List.getElem?_take,if_pos (by omega)];exact h1,h2,fun e=>?_⟩
   show(g.τ.take m)[i]?=_
   rw[List.getElem?_take,if_pos (by omega)];exact h3 e
theorem Qx {k m:Nat}:∀ {l:List D},(∀(j:Nat) (d:D),l[j]?=some d->D.lt k m d=true)->D.lts k m l=true
 | [],_=>rfl
 | d::l,h=>by
  simp only[D.lts,h 0 d rfl]
  exact Qx fun j d hd=>h (j+1) d (by simpa using hd)
theorem V.lt {w:World}{g:G}{fr:List Fr}{d:D}{v:Value}{k:Nat}(h:V w g fr d v)(hk:g.ρ.length=k):D.lt k fr.length d=true:=by
 induction h with
 | sl t l v h hk=>
  cases t with
  | own i=>
   obtain⟨f,h1,_⟩:=hk
   simp only[D.lt,Nat.blt_eq]
   exact(List.getElem?_eq_some_iff.1 h1).1
  | _=>rfl
 | ptr b o blk h=>
  simp only[D.lt,Nat.blt_eq]
  have:=(List.getElem?_eq_some_iff.1 h).1
  omega
 | bsl b o n c blk cap h h1 h2 h3=>
  simp only[D.lt,Nat.blt_eq]
  have:=(List.getElem?_eq_some_iff.1 h).1
  omega
 | agg l vs hl _ ih=>
  simp only[D.lt]
  exact Qx fun j d hd=>ih j d _ hd (List.getElem?_eq_getElem (by have:=(List.getElem?_eq_some_iff.1 hd).1;omega))
 | tup l vs hl _ ih=>
  simp only[D.lt]
  exact Qx fun j d hd=>ih j d _ hd (List.getElem?_eq_getElem (by have:=(List.getElem?_eq_some_iff.1 hd).1;omega))
 | fn f l vs hl _ ih=>
  simp only[D.lt]
  exact Qx fun j d hd=>ih j d _ hd (List.getElem?_eq_getElem (by have:=(List.getElem?_eq_some_iff.1 hd).1;omega))
 | iface t d v _ ih=>exact ih
 | mix l ds v vs hl _ ih=>
  simp only[D.lt]
  exact Qx fun j d hd=>ih j d _ hd (List.getElem?_eq_getElem (by have:=(List.getElem?_eq_some_iff.1 hd).1;omega))
 | _=>rfl
theorem XN {k m:Nat}:∀ {ls:List (List D)},(∀(i:Nat) (l:List D),ls[i]?=some l->D.lts k m l=true)->allLt k m ls=true
 | [],_=>rfl
 | l::ls,h=>by
  simp only[allLt,h 0 l rfl]
  exact XN fun i l hl=>h (i+1) l (by simpa using hl)
theorem Mem.allLt [Known]{g:G}{bx:List (List D)}{fr:List Fr}{w:World}(hm:Mem g bx fr w):Go.Av.allLt bx.length fr.length bx=true:=
 XN fun i l hl=>Qx fun j d hd=>by
  have hi:=(List.getElem?_eq_some_iff.1 hl).1
  have hρ:i<g.ρ.length:=by rw[hm.bl];exact hi
  obtain⟨vs,ty,_,q2,q3⟩:=hm.bat0 i _ l (List.getElem?_eq_getElem hρ) hl
  have hj:=(List.getElem?_eq_some_iff.1 hd).1
  exact(q3 j d vs[j] hd (Array.getElem?_eq_getElem (by omega))).lt hm.bl
end Go.Av
end

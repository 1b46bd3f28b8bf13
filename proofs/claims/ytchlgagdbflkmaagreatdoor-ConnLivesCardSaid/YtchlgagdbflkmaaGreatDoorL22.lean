/- Variables and tokens chosen anew: a loop's round lets go of some in the middle. -/
import Derived.Test.YtchlgagdbflkmaaGreatDoorL08
import Derived.Test.YtchlgagdbflkmaaGreatDoorL10
import Derived.Test.YtchlgagdbflkmaaGreatDoorL12
import Derived.Test.YtchlgagdbflkmaaGreatDoorL15
import Derived.Test.YtchlgagdbflkmaaGreatDoorL17
import Derived.Test.YtchlgagdbflkmaaGreatDoorL21
set_option linter.unusedSimpArgs false
set_option linter.unusedVariables false
section
open Go.RowKit Go.Pl
namespace Go.Av
theorem Xt (f h:Nat->Option Nat):∀(tm:List (Nat × D)) (t:Nat),look (tm.map fun p=>(p.1,p.2.ren f h)) t=(look tm t).ren f h
 | [],t=>rfl
 | (x,d)::l,t=>by
  simp only[List.map_cons,Go.Av.look]
  cases hb:Nat.beq x t with
  | true=>rfl
  | false=>exact Xt f h l t
theorem Inv.sel [Known][Dfr]{b0:Bs}{n:Nat}{ee:Nat × Nat}{tm:List (Nat × D)}{bx:List (List D)}{fr:List Fr}{g:G}{a:Act}{w:World}{bs ts:List Nat}(h:Inv b0 ⟨n,tm,bx,fr,ee⟩ g a w)(hb:WK bs bx.length)(ht:WK ts fr.length)
  (hk:∀ i,i<ee.1->bs[i]?=some i) (hm:∀ i,i<ee.2->ts[i]?=some i):Inv b0 ⟨n,tm.map fun p=>(p.1,p.2.ren (idx bs) (idx ts)),Qp bs ts bx,VY ts fr,ee⟩ (g.sel bs ts) a w:=by
 have hM:=h.mem
 have hbd:=h.bd
 dsimp only at hM hbd
 refine⟨h.size,h.defers,hM.sel hb ht,fun t=>?_,?_,h.bd⟩
 ·dsimp only
  rw[Xt]
  exact V.sel hM hb ht (h.tm t)
 ·have he:=h.evo
  refine⟨he.os,he.tape,he.output,he.size,he.block,he.C,he.cell,he.newC,fun i b hi=>?_,fun b hb'=>?_,fun b c hb'=>?_,fun i f hf=>?_⟩
  ·have h1:=(List.getElem?_eq_some_iff.1 hi).1
   have h2:=he.ρp i b hi
   show(bs.map fun i=>g.ρ.getD i 0)[i]?=some b
   rw[List.getElem?_map,hk i (by omega)]
   have h2:g.ρ[i]?=some b:=h2
   simp[List.getD,h2]
  ·obtain⟨i,hi⟩:=List.getElem?_of_mem hb'
   obtain⟨j,_,hj⟩:=QQ hM hb hi
   exact he.ρn b (List.mem_of_getElem? hj)
  ·obtain⟨i,hi⟩:=List.getElem?_of_mem hb'
   obtain⟨j,_,hj⟩:=Q4 hM ht hi
   exact he.τn b c (List.mem_of_getElem? hj)
  ·have h1:=(List.getElem?_eq_some_iff.1 hf).1
   obtain⟨f',q1,q2,q3⟩:=he.tok i f hf
   have q1:fr[i]?=some f':=q1
   refine⟨f',?_,q2,fun e=>?_⟩
   ·show(ts.map fun i=>fr.getD i default)[i]?=some f'
    rw[List.getElem?_map,hm i (by omega)]
    simp[List.getD,q1]
   ·have q3:=q3 e
    show(ts.map fun i=>g.τ.getD i none)[i]?=_
    rw[<- q3,List.getElem?_map,hm i (by omega)]
    have hl:i<g.τ.length:=by rw[hM.tl];exact(List.getElem?_eq_some_iff.1 q1).1
    show some (g.τ.getD i none)=g.τ[i]?
    exact(getD_some hl).symm
def QY (l:List Nat):Nat->Bool
 | 0=>true
 | k+1=>(l[k]? == some k)&&QY l k
theorem JD {l:List Nat}:∀ {k:Nat},QY l k=true->∀ i,i<k->l[i]?=some i
 | 0,_,i,hi=>by omega
 | k+1,h,i,hi=>by
  simp only[QY,Bool.and_eq_true,beq_iff_eq]at h
  rcases Nat.lt_or_ge i k with h1|h1
  ·exact JD h.2 i h1
  ·have:i=k:=by omega
   subst this
   exact h.1
structure LandS (J:Nat->List (Nat × D)->List (List D)->List Fr->Prop) (n:Nat) (ee:Nat × Nat) (k:Nat) (S:St):Prop where
 out:∃ m bs ts tm tm1 bx fr,m<k/\J m tm bx fr/\S.n=n/\S.e=ee/\Vv bs S.bx.length=true/\Vv ts S.fr.length=true/\QY bs ee.1=true/\QY ts ee.2=true/\Sub S.tm tm1/\(tm1.map fun p=>(p.1,p.2.ren (idx bs) (idx ts)))=tm/\Qp bs ts S.bx=bx/\VY ts S.fr=fr
theorem LandS.mk' {J:Nat->List (Nat × D)->List (List D)->List Fr->Prop}{n k m:Nat}{ee:Nat × Nat}{tm0 tm tm1:List (Nat × D)}{bx0 bx:List (List D)}{fr0 fr:List Fr}(bs ts:List Nat)(hm:m<k)(hJ:J m tm bx fr)(h1:Vv bs bx0.length=true)(h2:Vv ts fr0.length=true)(h3:QY bs ee.1=true)(h4:QY ts ee.2=true)
  (hs:Sub tm0 tm1) (ht:(tm1.map fun p=>(p.1,p.2.ren (idx bs) (idx ts)))=tm) (hbx:Qp bs ts bx0=bx) (hfr:VY ts fr0=fr):LandS J n ee k ⟨n,tm0,bx0,fr0,ee⟩:=
 ⟨m,bs,ts,tm,tm1,bx,fr,hm,hJ,rfl,rfl,h1,h2,h3,h4,hs,ht,hbx,hfr⟩
theorem LandS.inv [Known][Dfr]{J:Nat->List (Nat × D)->List (List D)->List Fr->Prop}{n k:Nat}{ee:Nat × Nat}{S:St}(h:LandS J n ee k S){b0:Bs}{g:G}{a:Act}{w:World}(hi:Inv b0 S g a w):∃ m,m<k/\∃ tm bx fr g',J m tm bx fr/\Inv b0 ⟨n,tm,bx,fr,ee⟩ g' a w:=by
 obtain⟨m,bs,ts,tm,tm1,bx,fr,h1,h2,h3,h4,h5,h6,h7,h8,h9,h10,h11,h12⟩:=h.out
 obtain⟨n',tm',bx',fr',ee'⟩:=S
 dsimp only at h3 h4 h5 h6 h9 h11 h12
 subst h3 h4
 have:=(hi.sub h9).sel (Wq h5) (Wq h6) (JD h7) (JD h8)
 rw[h10,h11,h12]at this
 exact⟨m,h1,tm,bx,fr,_,h2,this⟩
end Go.Av
end
section
open Go.RowKit Go.Pl
namespace Go.Av
section
variable {P:Program} {Q:X->St->Prop} {n:Nat} {ee:Nat × Nat} {tm:List (Nat × D)} {bx bx':List (List D)} {fr fr':List Fr} {b0:Bs} {g:G} {w:World} {a:Act} {T:Tab}
variable {ops:Array Oper} {rest:List Oper} {t ty:Nat} {pos:String} {after:Array Edge}
def nft:List (Nat × D)->Option (List (Nat × D))
 | []=>some []
 | (k,d)::l=>match nf d,nft l with
  | some d',some l'=>some ((k,d')::l')
  | _,_=>none
theorem Gy:∀ {l l':List (Nat × D)},nft l=some l'->l=l'
 | [],l',h=>by simpa[nft]using h
 | (k,d)::l,l',h=>by
  cases hd:nf d with
  | none=>simp[nft,hd]at h
  | some d'=>
   cases hl:nft l with
   | none=>simp[nft,hd,hl]at h
   | some l''=>simp[nft,hd,hl]at h;rw[<- h,YZ hd,Gy hl]
theorem Tv [Known][Dfr]{o:Op}(h:∀ b0 g a w,Inv b0 ⟨n,tm,bx,fr,ee⟩ g a w->∃ v w' tm' bx' fr' g' d,(execOp a.eval ⟨some t,o,ty,pos,after,none⟩).run P w=.ok (.value v) w'/\Inv b0 ⟨n,tm',bx',fr',ee⟩ g' a w'/\V w' g' fr' d v/\AL P ops rest ⟨n,(t,d)::tm',bx',fr',ee⟩ Q)(htd:Nat.blt t n=true) :
  AL P ops (⟨some t,o,ty,pos,after,none⟩::rest) ⟨n,tm,bx,fr,ee⟩ Q:=⟨fun b0 g a w hi=>
 wpList_plain rfl fun K hK=>by
  obtain⟨v,w',tm',bx',fr',g',d,hr,hi2,hv,k⟩:=h b0 g a w hi
  unfold Oper.wp
  rw[hr]
  exact hK _ _ (k.run b0 g' _ w' (hi2.put htd hv))⟩
end
end Go.Av
end
section
open Go.RowKit Go.Pl
namespace Go.Av
section
variable {P:Program} {Q:X->St->Prop} {n:Nat} {ee:Nat × Nat} {tm:List (Nat × D)} {bx bx':List (List D)} {fr fr':List Fr} {b0:Bs} {g:G} {w:World} {a:Act} {T:Tab}
variable {ops:Array Oper} {rest:List Oper} {t ty:Nat} {pos:String} {after:Array Edge}
theorem VE.from {l:List E}{sz blk s0 cap p:Nat}(h:VE w g.C (.sl l) (.slice (some ⟨blk,s0,none⟩) l.length cap))(hU:Uni sz l)(hp:p<=l.length)(hc:cap<=maxLen):VE w g.C (.sl (l.drop p)) (.slice (some ⟨blk,s0+p*sz,none⟩) (l.length-p) (cap-p)):=by
 have hfl:=hU.flat
 have hdl:(l.drop p).length=l.length-p:=List.length_drop ..
 by_cases hz:l.length-p=0
 ·have:l.drop p=[]:=List.eq_nil_of_length_eq_zero (by omega)
  rw[this,hz]
  exact .slE _ _ (by omega)
 generalize hq:E.sl l=q at h
 generalize hs:Value.slice (some ⟨blk,s0,none⟩) l.length cap=s at h
 cases h with
 | slC l' b off cap us h1 h2 hC hw hv=>
  injection hq with hq;subst hq
  injection hs with e1 e2 e3
  injection e1 with e1
  injection e1 with e1 e4
  subst e1 e4 e3
  rw[<- hdl]
  have hf:flat (l.drop p)=(flat l).drop (p*sz):=hU.drop_flat ..
  have hm:=Nat.mul_le_mul_right sz hp
  refine .slC _ _ _ _ (fun j=>us (p*sz+j)) (by omega) (by omega) (fun j hj=>?_) (fun j hj=>?_) (fun j x hx=>?_)
  ·rw[hf,List.length_drop]at hj
   rw[Nat.add_assoc];exact hC _ (by omega)
  ·rw[hf,List.length_drop]at hj
   rw[Nat.add_assoc];exact hw _ (by omega)
  ·rw[hf,List.getElem?_drop]at hx
   exact hv _ x hx
 | slE A cap h=>
  injection hq with hq;subst hq
  simp at hz
 | _=>cases hq
def dropT (i:Nat)(j:Nat):Option Nat:=match Nat.beq j i with
 | true=>none
 | false=>some j
abbrev D.dropT (i:Nat)(d:D):D:=d.ren some (Go.Av.dropT i)
theorem OL {i j k:Nat}(h:dropT i j=some k):j=k/\j ≠ i:=by
 unfold dropT at h
 cases hb:Nat.beq j i with
 | true=>simp[hb]at h
 | false=>
  simp only[hb,Option.some.injEq]at h
  exact⟨h,fun e=>by subst e;rw[Nat.beq_refl]at hb;cases hb⟩
theorem Inv.retok [Known][Dfr]{i:Nat}{f':Fr}{tt tt':Option (Nat × Nat × Nat)}(hi:Inv b0 ⟨n,tm,bx,fr,ee⟩ g a w)(hτ:g.τ[i]?=some tt)(hge:ee.2<=i)(hsame:∀ k c,tt'=some (k,c)->∃ c0,tt=some (k,c0))
  (hT:∀ k c,tt'=some (k,c)->TokAt w g k c f') :
  Inv b0 ⟨n,tm.map (fun p=>(p.1,p.2.dropT i)),bx.map (D.rens some (dropT i)),fr.set i f',ee⟩ ⟨g.C,g.ρ,g.τ.set i tt'⟩ a w/\(∀ {d v},V w g fr d v->V w ⟨g.C,g.ρ,g.τ.set i tt'⟩ (fr.set i f') (d.dropT i) v):=by
 have hm:=hi.mem
 have hlt:i<g.τ.length:=(List.getElem?_eq_some_iff.1 hτ).1
 have hltf:i<fr.length:=by have:=hm.tl;dsimp only at this;omega
 have hV:∀ {d v},V w g fr d v->V w ⟨g.C,g.ρ,g.τ.set i tt'⟩ (fr.set i f') (d.dropT i) v:=fun {d v} h=>by
  refine h.ren _ _ (fun _ _ h=>h) (fun x y k hx hk=>?_) (fun x y f0 hxy hf0=>?_)
  ·injection hx with e;subst e;exact hk
  ·obtain⟨rfl,hne⟩:=OL hxy
   refine⟨⟨f0,by rw[List.getElem?_set_ne (Ne.symm hne)];exact hf0,rfl⟩,?_⟩
   show(g.τ.set i tt')[x]?=_
   rw[List.getElem?_set_ne (Ne.symm hne)]
 have hget:∀(x:Nat) (p:Option (Nat × Nat × Nat)),(g.τ.set i tt')[x]?=some p->(x=i/\p=tt')\/(x ≠ i/\g.τ[x]?=some p):=fun x p h=>by
  by_cases e:i=x
  ·subst e
   rw[List.getElem?_set_self hlt]at h
   injection h with h
   exact .inl ⟨rfl,h.symm⟩
  ·rw[List.getElem?_set_ne e]at h
   exact .inr ⟨Ne.symm e,h⟩
 have hold:∀(x k:Nat) (c:Nat × Nat),(g.τ.set i tt')[x]?=some (some (k,c))->∃ c0,g.τ[x]?=some (some (k,c0)):=fun x k c h=>by
  rcases hget x _ h with⟨rfl,e⟩ | ⟨_,h⟩
  ·obtain⟨c0,rfl⟩:=hsame k c e.symm
   exact⟨c0,hτ⟩
  ·exact⟨c,h⟩
 have he:=hi.evo
 refine⟨⟨hi.size,hi.defers,⟨?_,?_,hm.bC,hm.bN,?_,?_,?_,?_,hm.Clt,hm.gl⟩,fun x=>?_,⟨he.os,he.tape,he.output,he.size,he.block,he.C,he.cell,he.newC,he.ρp,he.ρn,fun k c h=>?_,fun x f hf=>?_⟩,hi.bd⟩,hV⟩
 ·simp[hm.bl]
 ·intro x k cs h1 h2
  rw[List.getElem?_map]at h2
  cases hc:bx[x]? with
  | none=>simp[hc]at h2
  | some cs0=>
   simp[hc]at h2
   subst h2
   obtain⟨us,ut,q1,q2,q3⟩:=hm.bat x k cs0 h1 hc
   refine⟨us,ut,q1,J4 q2,fun j d v hd hv'=>?_⟩
   rw[Kf,YG,List.getElem?_map]at hd
   cases hj:(D.ex cs0)[j]? with
   | none=>simp[hj]at hd
   | some d0=>simp[hj]at hd;subst hd;exact hV (q3 j d0 v hj hv')
 ·have:=hm.tl;simp at this ⊢;exact this
 ·intro x k c f h1 h2
  rcases hget x _ h1 with⟨rfl,e⟩ | ⟨hne,h3⟩
  ·rw[List.getElem?_set_self hltf]at h2
   injection h2 with h2
   subst h2
   have:=hT k c e.symm
   exact⟨this.row,this.le,this.max,this.far⟩
  ·rw[List.getElem?_set_ne (Ne.symm hne)]at h2
   have:=hm.tat x k c f h3 h2
   exact⟨this.row,this.le,this.max,this.far⟩
 ·intro x y k c c' h1 h2
  obtain⟨c0,h3⟩:=hold x k c h1
  obtain⟨c1,h4⟩:=hold y k c' h2
  exact hm.tN x y k c0 c1 h3 h4
 ·intro k c h
  obtain⟨x,hx⟩:=List.getElem?_of_mem h
  obtain⟨c0,h3⟩:=hold x k c hx
  exact hm.tρ k c0 (List.mem_of_getElem? h3)
 ·dsimp only
  rw[Xt]
  exact hV (hi.tm x)
 ·obtain⟨x,hx⟩:=List.getElem?_of_mem h
  obtain⟨c0,h3⟩:=hold x k c hx
  exact he.τn k c0 (List.mem_of_getElem? h3)
 ·have h1:=(List.getElem?_eq_some_iff.1 hf).1
  have hbd:=hi.bd
  dsimp only at hbd
  have hne:i ≠ x:=by omega
  obtain⟨f2,q1,q2,q3⟩:=he.tok x f hf
  refine⟨f2,by rw[List.getElem?_set_ne hne];exact q1,q2,fun e=>?_⟩
  show(g.τ.set i tt')[x]?=_
  rw[List.getElem?_set_ne hne]
  exact q3 e
theorem Gz [Known][Dfr](hT:chk P T=true){x lo:Operand}{st e i p:Nat}{l l2:List E}{ti te:Ti}{f:Fr}{tm2:List (Nat × D)}{bx2:List (List D)}{fr2:List Fr}(hx:ev tm x=.sl (.own i) l)(ht:tl T st=some ti)(hk:ti.kd=.slice e)(hte:tl T e=some te)(htd:Nat.blt t n=true)
  (hlo:Bnd tm (some lo) 0 p) (hp:p<=l.length) (hge:Nat.ble ee.2 i=true) (hf:fr[i]?=some f) (hfn:f.n=l.length) (hfs:f.sz=te.size) (hU:Uni te.size l) (hl2:l.drop p=l2)
  (htm:nft (tm.map fun p=>(p.1,p.2.dropT i))=some tm2) (hbx:nfb (bx.map (D.rens some (dropT i)))=some bx2) (hfr:nfl (fr.set i ⟨l2.length,f.sz,f.e⟩)=some fr2)
  (kk:AL P ops rest ⟨n,(t,.sl (.own i) l2)::tm2,bx2,fr2,ee⟩ Q):AL P ops (⟨some t,.slice st x (some lo) none none,ty,pos,after,none⟩::rest) ⟨n,tm,bx,fr,ee⟩ Q:=
 Tv (fun b0 g a w hi=>by
  have h1:V w g fr (ev tm x) (a.eval x):=hi.ev x
  rw[hx]at h1
  obtain⟨a1,f',hf',_,hfv⟩:=WO h1
  rw[hf]at hf';injection hf' with hf';subst hf'
  have hu:=(Z9 hT ht).slice hk
  have hsz:=Y1 (P:=P) (t:=e) (Z9 hT hte).tSize w
  have hm:=hi.mem
  have hge:ee.2<=i:=Nat.le_of_ble_eq_true hge
  have hltf:i<fr.length:=(List.getElem?_eq_some_iff.1 hf).1
  have hltτ:i<g.τ.length:=by have:=hm.tl;dsimp only at this;omega
  have hl2l:l2.length=l.length-p:=by rw[<- hl2,List.length_drop]
  obtain⟨A,cap,hv,hcap⟩:∃ A cap,a.eval x=.slice A l.length cap/\l.length<=cap:=by
   generalize hq:E.sl l=q at a1
   generalize a.eval x=v at a1
   cases a1 with
   | slC l' b off cap us h1 _ _ _ _=>injection hq with hq;subst hq;exact⟨_,cap,rfl,h1⟩
   | slE A cap h=>injection hq with hq;subst hq;exact⟨A,cap,rfl,Nat.zero_le _⟩
   | _=>cases hq
  have hb:=Bnd.runs (S:=⟨n,tm,bx,fr,_⟩) (P:=P) (cap:=cap) hlo (.dft l.length) hi hp hcap true
  have hrun:(Instr.sliceAt st (.slice A l.length cap) (some (a.eval lo)) none none).run P w=.ok (.slice (if cap=p then A else A.map (·.add (p*te.size))) (l.length-p) (cap-p)) w:=by
   simp only[Option.map_some,Option.map_none]at hb
   simp[Instr.sliceAt,Instr.slice,Sem.run_bind,run_underlying hu,hb,hsz]
  have hex:(execOp a.eval ⟨some t,.slice st x (some lo) none none,ty,pos,after,none⟩).run P w=.ok (.value (.slice (if cap=p then A else A.map (·.add (p*te.size))) (l.length-p) (cap-p))) w:=by
   simp only[execOp,hv,Sem.run_bind,Option.map_none,Option.map_some,hrun,Result.andThen_ok]
   rfl
  rw[<- Gy htm,<- Vo hbx,<- YO hfr]at kk
  by_cases hcp:cap=p
  ·
   have hln:l.length-p=0:=by omega
   have hnil:l2=[]:=List.eq_nil_of_length_eq_zero (by omega)
   obtain⟨tt,hτ⟩:∃ tt,g.τ[i]?=some tt:=⟨_,List.getElem?_eq_getElem hltτ⟩
   obtain⟨q1,q2⟩:=hi.retok (f':=⟨l2.length,f.sz,f.e⟩) (tt':=none) hτ hge (fun _ _ h=>by cases h) (fun _ _ h=>by cases h)
   rw[if_pos hcp,hln,show cap-p=0 by omega]at hex
   refine⟨_,w,_,_,_,_,_,hex,q1,.sl (.own i) l2 _ (by rw[hnil];exact .slE _ _ (Nat.zero_le _)) ⟨_,List.getElem?_set_self hltf,Nat.le_refl _,fun _=>.inl ⟨A,rfl,List.getElem?_set_self hltτ⟩⟩,kk⟩
  rcases hfv hfn with⟨A',hxv,hτ⟩ | ⟨blk,cap',s0,hxv,hτ⟩
  ·rw[hv]at hxv
   injection hxv with e1 e2 e3
   omega
  rw[hv]at hxv
  injection hxv with e1 e2 e3
  subst e1 e3
  have hTk:=hm.tat i blk (cap,s0) f hτ hf
  have hle:f.n<=cap:=hTk.le
  have hmax:cap<=maxLen:=hTk.max
  have hplt:p<cap:=by omega
  have hmul:cap*te.size=p*te.size+(cap-p)*te.size:=by rw[<- Nat.add_mul];congr 1;omega
  have hmul2:l.length*te.size=p*te.size+(l.length-p)*te.size:=by rw[<- Nat.add_mul];congr 1;omega
  obtain⟨q1,q2⟩:=hi.retok (f':=⟨l2.length,f.sz,f.e⟩) (tt':=some (blk,cap-p,s0+p*te.size)) hτ hge (fun k c h=>by injection h with h;injection h with h;subst h;exact⟨_,rfl⟩) (fun k c h=>by
   injection h with h
   injection h with h h'
   subst h h'
   obtain⟨cur,r1,r2⟩:=hTk.row
   refine⟨⟨cur,r1,?_⟩,?_,?_,fun o ho=>hTk.far o ?_⟩
   ·show cur.size=s0+p*te.size+(cap-p)*f.sz
    have r2:cur.size=s0+cap*f.sz:=r2
    rw[hfs]at r2 ⊢
    omega
   ·show l2.length<=cap-p
    omega
   ·show cap-p<=maxLen
    omega
   ·have ho:s0+p*te.size+l2.length*f.sz<=o:=ho
    show s0+f.n*f.sz<=o
    rw[hl2l,hfs]at ho
    rw[hfn,hfs]
    omega)
  rw[if_neg hcp]at hex
  have hadd:(some (⟨blk,s0,none⟩:Addr)).map (·.add (p*te.size))=some ⟨blk,s0+p*te.size,none⟩:=by simp[Addr.add_mid]
  rw[hadd]at hex
  rw[hv]at a1
  have a2:=a1.from hU hp hmax
  rw[hl2]at a2
  refine⟨_,w,_,_,_,_,_,hex,q1,.sl (.own i) l2 _ a2 ⟨_,List.getElem?_set_self hltf,Nat.le_refl _,fun _=>.inr ⟨blk,cap-p,s0+p*te.size,by rw[hl2l],List.getElem?_set_self hltτ⟩⟩,kk⟩) htd
theorem Evo.few {b0:Bs}{g:G}{fr:List Fr}{w:World}{m:Nat}(h:Evo b0 ⟨g,fr,w⟩)(hm:b0.fr.length<=m):Evo b0 ⟨g,fr.take m,w⟩:=
 ⟨h.os,h.tape,h.output,h.size,h.block,h.C,h.cell,h.newC,h.ρp,h.ρn,h.τn,fun i f hf=>by
  have h1:=(List.getElem?_eq_some_iff.1 hf).1
  obtain⟨f',q1,q2,q3⟩:=h.tok i f hf
  exact⟨f',by show(fr.take m)[i]?=_;rw[List.getElem?_take,if_pos (by omega)];exact q1,q2,q3⟩⟩
theorem V.few {w w':World}{g g':G}{fr fr':List Fr}{d:D}{v:Value}{k m:Nat}(h:V w g fr d v)(hd:D.lt k m d=true)(hk:g.ρ.length<=k)(e:Evo ⟨g,fr.take m,w⟩ ⟨g',fr',w'⟩):V w' g' fr' d v:=by
 have h1:=h.cutB hd
 rw[List.take_of_length_le hk]at h1
 refine h1.mono e.C e.cell e.ρp fun i f hf=>?_
 obtain⟨f',q1,q2,q3⟩:=e.tok i f hf
 refine⟨f',q1,q2,fun e'=>(q3 e').trans ?_⟩
 have:i<m:=by
  have:=(List.getElem?_eq_some_iff.1 hf).1
  rw[List.length_take]at this
  omega
 show g.τ[i]?=(g.τ.take m)[i]?
 rw[List.getElem?_take,if_pos this]
theorem Tw [Known](m:Nat){t:Option Nat}{ty:Nat}{pos:String}{after:Array Edge}{f:FuncId}{ars:Array Operand}{ats:Array TypeId}{fn:Func}{c:Code}{n' i:Nat}{rs:List ResultVar}{cds:List D}{tm2:List (Nat × D)}
  (hf:P.funcs[f]?=some fn) (hn:fn.ntmps=n') (hb:fn.body=some c) (hr:fn.results=rs.toArray) (hif:Jh P f=true) (hc:nfs (ars.toList.map (ev tm))=some cds) (hl:Nat.ble cds.length n'=true) (ht:Ta t n=true) (hil:UT bx=some i) (htm:nfl (VZ 0 cds)=some tm2)
  (hem:Nat.ble ee.2 m=true) (htl:Kj i m tm=true)
  (h:AW P c ⟨n',tm2,bx,fr,(i,m)⟩ (Kl P rs t n tm ee ops rest Q)):AL P ops (⟨t,.call { callee:=.value (.func f),args:=ars,argTypes:=ats },ty,pos,after,none⟩::rest) ⟨n,tm,bx,fr,ee⟩ Q:=by
 rw[<- YO htm]at h
 have hil:=WM hil
 subst hil
 refine⟨fun b0 g a w hi=>?_⟩
 refine wpList_plain rfl fun K hK=>?_
 have hrun:(execOp a.eval ⟨t,.call { callee:=.value (.func f),args:=ars,argTypes:=ats },ty,pos,after,none⟩).run P w=.ok (.enter f (ars.toList.map a.eval).toArray) w:=by
  have e:ars.map a.eval=(ars.toList.map a.eval).toArray:=by rw[<- Array.toList_map,Array.toArray_toList]
  have hz:=VK hif (ars.toList.map a.eval).toArray w
  rw[<- e]at hz ⊢
  simpa[execOp,resolve,Act.eval,Deferred.ofValue,invoke,Sem.run_bind]using hz
 unfold Oper.wp
 rw[hrun]
 have hm:=hi.mem
 have hρl:g.ρ.length<=bx.length:=by rw[hm.bl];exact Nat.le_refl _
 have hbm:b0.fr.length<=m:=Nat.le_trans hi.bd.2 (Nat.le_of_ble_eq_true hem)
 have hcds:=Vl hc
 have hle:=Nat.le_of_ble_eq_true hl
 have hlen:(ars.toList.map a.eval).length=cds.length:=by rw[<- hcds];simp
 have hv:=evs hi ars
 rw[hcds]at hv
 show Calls P f _ w _
 clear hrun
 generalize ars.toList.map a.eval=vs at hlen hv
 refine calls_of_wp hf hb ?_
 have hi2:Inv ⟨g,fr.take m,w⟩ ⟨n',VZ 0 cds,bx,fr,(bx.length,m)⟩ g { tmps:=vs.toArray++Array.replicate (fn.ntmps-vs.toArray.size) undef,defers:=[] } w:=by
  refine⟨by simp[hn];omega,rfl,hm,fun t=>?_,⟨rfl,rfl,rfl,Nat.le_refl _,fun _ _ _=>rfl,fun _ _ h=>h,fun _ _ _=>rfl,fun _ _ h=>.inl h,fun _ _ h=>h,fun _ h=>.inl h,fun _ c h=>.inl ⟨c,h⟩,fun i f hf=>⟨f,?_,Nat.le_refl _,fun _=>rfl⟩⟩,hρl,by rw[List.length_take];exact Nat.min_le_left _ _⟩
  ·rw[Qq]
   simp only[Nat.zero_le,if_true,Nat.sub_zero]
   cases htt:cds[t]? with
   | none=>exact .junk _
   | some d=>
    have hlt:t<cds.length:=(List.getElem?_eq_some_iff.1 htt).1
    refine hv t d _ htt ?_
    have hlt2:t<vs.length:=by omega
    simp[Array.getD_getElem?,Array.getElem?_append,hlt2]
  ·have hf:(fr.take m)[i]?=some f:=hf
   have:i<m/\fr[i]?=some f:=by simpa[List.getElem?_take]using hf
   exact this.2
 refine wp_mono (h.run ⟨g,fr.take m,w⟩ g _ w hi2) fun e a' w' hcc=>?_
 have back:∀(S:St) g',Inv ⟨g,fr.take m,w⟩ S g' a' w'->Inv b0 ⟨n,tm,S.bx,S.fr,ee⟩ g' a w':=fun S g' hi'=>
  ⟨hi.size,hi.defers,hi'.mem,fun t=>(hi.tm t).few (Jn t htl) hρl hi'.evo,(hi.evo.few hbm).trans hi'.evo,hi.bd⟩
 have fin:∀ S g',Inv ⟨g,fr.take m,w⟩ S g' a' w'->(∃ ds d,ResL P S rs ds/\Q5 ds=d/\AL P ops rest ⟨n,Hf t d tm,S.bx,S.fr,ee⟩ Q)->∃ v,(results fn a'.tmps).run P w'=.ok v w'/\K (a.put t v) w':=by
  intro S g' hi' hq
  obtain⟨ds,d,hrs,hd,hk⟩:=hq
  obtain⟨v,hrun,hv⟩:=Qr hi' hr hrs
  rw[hd]at hv
  refine⟨v,hrun,hK _ _ (hk.run b0 g' _ w' ?_)⟩
  have hi3:=back S g' hi'
  cases t with
  | none=>exact hi3
  | some t=>exact hi3.put ht hv
 cases e with
 | normal=>
  obtain⟨S,g',hi',hq⟩:=hcc
  obtain⟨v,h1,h2⟩:=fin S g' hi' hq
  exact⟨hi'.defers,v,h1,h2⟩
 | ret=>
  obtain⟨S,g',hi',hq⟩:=hcc
  obtain⟨v,h1,h2⟩:=fin S g' hi' hq
  exact⟨hi'.defers,v,h1,h2⟩
 | panic chain=>
  obtain⟨S,g',v,d,hi',rfl,hd,hq⟩:=hcc
  exact⟨hi'.defers,⟨n,tm,S.bx,S.fr,ee⟩,g',v,d,back S g' hi',rfl,hd,hq⟩
 | exit id=>obtain⟨S,g',hi',hq⟩:=hcc;exact hq.elim
 | goto l=>obtain⟨S,g',hi',hq⟩:=hcc;exact hq.elim
 | outgrown=>exact hcc.elim
inductive Cv (lo hi:Nat):D->D->Prop
 | same (d:D):Cv lo hi d d
 | nil (j:Nat) (h1:Nat.ble lo j=true) (h2:Nat.blt j hi=true):Cv lo hi (.sl .nil []) (.sl (.own j) [])
 | zero (j:Nat) (h1:Nat.ble lo j=true) (h2:Nat.blt j hi=true):Cv lo hi (.sl .zero []) (.sl (.own j) [])
inductive Cvs (lo hi:Nat):List D->List D->Prop
 | nil:Cvs lo hi [] []
 | cons {d d':D} {l l':List D} (h:Cv lo hi d d') (t:Cvs lo hi l l'):Cvs lo hi (d::l) (d'::l')
inductive Cvb (lo hi:Nat):List (List D)->List (List D)->Prop
 | nil:Cvb lo hi [] []
 | same {c:List D} {l l':List (List D)} (t:Cvb lo hi l l'):Cvb lo hi (c::l) (c::l')
 | cons {c c':List D} {l l':List (List D)} (h:Cvs lo hi c c') (hr:D.isRow c=false) (hr':D.isRow c'=false) (t:Cvb lo hi l l'):Cvb lo hi (c::l) (c'::l')
theorem Cvs.get {lo hi:Nat}{l l':List D}(h:Cvs lo hi l l'):l.length=l'.length/\∀(j:Nat) (d':D),l'[j]?=some d'->∃ d,l[j]?=some d/\Cv lo hi d d':=by
 induction h with
 | nil=>exact⟨rfl,fun j d' h=>by simp at h⟩
 | cons h t ih=>
  refine⟨by simp[ih.1],fun j d' hj=>?_⟩
  cases j with
  | zero=>simp at hj;subst hj;exact⟨_,rfl,h⟩
  | succ j=>exact ih.2 j d' (by simpa using hj)
theorem Cvb.get {lo hi:Nat}{l l':List (List D)}(h:Cvb lo hi l l'):l.length=l'.length/\∀(j:Nat) (c':List D),l'[j]?=some c'->∃ c,l[j]?=some c/\(c=c'\/(Cvs lo hi c c'/\D.isRow c=false/\D.isRow c'=false)):=by
 induction h with
 | nil=>exact⟨rfl,fun j d' h=>by simp at h⟩
 | same t ih=>
  refine⟨by simp[ih.1],fun j d' hj=>?_⟩
  cases j with
  | zero=>simp at hj;subst hj;exact⟨_,rfl,.inl rfl⟩
  | succ j=>exact ih.2 j d' (by simpa using hj)
 | cons h hr hr' t ih=>
  refine⟨by simp[ih.1],fun j d' hj=>?_⟩
  cases j with
  | zero=>simp at hj;subst hj;exact⟨_,rfl,.inr ⟨h,hr,hr'⟩⟩
  | succ j=>exact ih.2 j d' (by simpa using hj)
theorem V.cv {vs:List Fr}{d d':D}{v:Value}(h:V w g fr d v)(hz:∀ f ∈ vs,f.n=0)(hl:g.τ.length=fr.length)(c:Cv fr.length (fr.length+vs.length) d d'):V w ⟨g.C,g.ρ,g.τ++vs.map fun _=>none⟩ (fr++vs) d' v:=by
 have hup:V w ⟨g.C,g.ρ,g.τ++vs.map fun _=>none⟩ (fr++vs) d v:=h.mono (fun _ _ h=>h) (fun _ _ _=>rfl) (fun _ _ h=>h) fun i f hf=>by
  have h1:=(List.getElem?_eq_some_iff.1 hf).1
  refine⟨f,by rw[List.getElem?_append_left h1];exact hf,Nat.le_refl _,fun _=>?_⟩
  show(g.τ++_)[i]?=_
  rw[List.getElem?_append_left (by omega)]
 have key:∀(j:Nat) (A:Option Addr),Nat.ble fr.length j=true->Nat.blt j (fr.length+vs.length)=true->V w ⟨g.C,g.ρ,g.τ++vs.map fun _=>none⟩ (fr++vs) (.sl (.own j) []) (.slice A 0 0):=fun j A h1 h2=>by
  have h1:=Nat.le_of_ble_eq_true h1
  have h2:j<fr.length+vs.length:=by simpa[Nat.blt_eq]using h2
  have hj:j-fr.length<vs.length:=by omega
  refine .sl _ _ _ (.slE _ _ (Nat.zero_le _)) ⟨vs[j-fr.length],by rw[List.getElem?_append_right h1];exact List.getElem?_eq_getElem hj,Nat.zero_le _,fun _=>.inl ⟨A,rfl,?_⟩⟩
  show(g.τ++_)[j]?=_
  rw[List.getElem?_append_right (by omega),List.getElem?_map,hl,List.getElem?_eq_getElem hj]
  rfl
 cases c with
 | same=>exact hup
 | nil j h1 h2=>
  obtain⟨_,hv⟩:=WO h
  have hv:v=.slice none 0 0:=hv
  subst hv
  exact key j none h1 h2
 | zero j h1 h2=>
  obtain⟨_,A,hv⟩:=WO h
  subst hv
  exact key j A h1 h2
theorem Inv.vir [Known][Dfr]{vs:List Fr}{bx2:List (List D)}(hi:Inv b0 ⟨n,tm,bx,fr,ee⟩ g a w)(hz:∀ f ∈ vs,f.n=0)(hc:Cvb fr.length (fr.length+vs.length) bx bx2):Inv b0 ⟨n,tm,bx2,fr++vs,ee⟩ ⟨g.C,g.ρ,g.τ++vs.map fun _=>none⟩ a w:=by
 have hm:=hi.mem
 have hl:g.τ.length=fr.length:=hm.tl
 have hget:∀(x k:Nat) (c:Nat × Nat),(g.τ++vs.map fun _=>(none:Option (Nat × Nat × Nat)))[x]?=some (some (k,c))->g.τ[x]?=some (some (k,c)):=fun x k c h=>by
  rcases Nat.lt_or_ge x g.τ.length with h1|h1
  ·rwa [List.getElem?_append_left h1]at h
  ·rw[List.getElem?_append_right h1,List.getElem?_map]at h
   cases hv:vs[x-g.τ.length]? with
   | none=>rw[hv]at h;cases h
   | some f=>rw[hv]at h;cases h
 have he:=hi.evo
 refine⟨hi.size,hi.defers,⟨?_,?_,hm.bC,hm.bN,?_,?_,?_,?_,hm.Clt,hm.gl⟩,fun x=>(hi.tm x).cv hz hl (.same _),⟨he.os,he.tape,he.output,he.size,he.block,he.C,he.cell,he.newC,he.ρp,he.ρn,fun k c h=>?_,fun x f hf=>?_⟩,hi.bd⟩
 ·rw[<- hc.get.1];exact hm.bl
 ·intro x k cs h1 h2
  obtain⟨cs0,h3,h4⟩:=hc.get.2 x cs h2
  obtain⟨us,ut,q1,q2,q3⟩:=hm.bat x k cs0 h1 h3
  rcases h4 with rfl|⟨h4,hr,hr'⟩
  ·exact⟨us,ut,q1,q2,fun j d v hd hv=>(q3 j d v hd hv).cv hz hl (.same _)⟩
  ·refine⟨us,ut,q1,Kc (by rw[<- h4.get.1];exact q2.1) hr',fun j d v hd hv=>?_⟩
   rw[Qo hr']at hd
   rw[Qo hr]at q3
   obtain⟨d0,h5,h6⟩:=h4.get.2 j d hd
   exact(q3 j d0 v h5 hv).cv hz hl h6
 ·simp[hl]
 ·intro x k c f h1 h2
  have h3:=hget x k c h1
  have h4:=(List.getElem?_eq_some_iff.1 h3).1
  rw[List.getElem?_append_left (by omega)]at h2
  have:=hm.tat x k c f h3 h2
  exact⟨this.row,this.le,this.max,this.far⟩
 ·intro x y k c c' h1 h2
  exact hm.tN x y k c c' (hget x k c h1) (hget y k c' h2)
 ·intro k c h
  obtain⟨x,hx⟩:=List.getElem?_of_mem h
  exact hm.tρ k c (List.mem_of_getElem? (hget x k c hx))
 ·obtain⟨x,hx⟩:=List.getElem?_of_mem h
  exact he.τn k c (List.mem_of_getElem? (hget x k c hx))
 ·obtain⟨f2,q1,q2,q3⟩:=he.tok x f hf
  have q1:fr[x]?=some f2:=q1
  have h1:=(List.getElem?_eq_some_iff.1 q1).1
  refine⟨f2,by show(fr++vs)[x]?=_;rw[List.getElem?_append_left h1];exact q1,q2,fun e=>?_⟩
  show(g.τ++_)[x]?=_
  rw[List.getElem?_append_left (by omega)]
  exact q3 e
end
structure LandV (J:Nat->List (Nat × D)->List (List D)->List Fr->Prop) (n:Nat) (ee:Nat × Nat) (k:Nat) (S:St):Prop where
 out:∃ vs bx2,(∀ f ∈ vs,Fr.n f=0)/\Cvb S.fr.length (S.fr.length+vs.length) S.bx bx2/\LandS J n ee k ⟨S.n,S.tm,bx2,S.fr++vs,S.e⟩
theorem LandV.mk' {J:Nat->List (Nat × D)->List (List D)->List Fr->Prop}{n k:Nat}{ee:Nat × Nat}{tm0:List (Nat × D)}{bx0:List (List D)}{fr0:List Fr}(vs:List Fr)(bx2:List (List D))(hz:(vs.all fun f=>Nat.beq f.n 0)=true)(hc:Cvb fr0.length (fr0.length+vs.length) bx0 bx2)
  (h:LandS J n ee k ⟨n,tm0,bx2,fr0++vs,ee⟩):LandV J n ee k ⟨n,tm0,bx0,fr0,ee⟩:=
 ⟨vs,bx2,fun f hf=>Nat.eq_of_beq_eq_true (List.all_eq_true.1 hz f hf),hc,h⟩
theorem Cvb.refl (lo hi:Nat):∀ l:List (List D),Cvb lo hi l l
 | []=>.nil
 | _::l=>.same (Cvb.refl lo hi l)
theorem LandV.of {J:Nat->List (Nat × D)->List (List D)->List Fr->Prop}{n k:Nat}{ee:Nat × Nat}{S:St}(h:LandS J n ee k S):LandV J n ee k S:=
 ⟨[],S.bx,fun f hf=>by simp at hf,Cvb.refl _ _ _,by rw[List.append_nil];exact h⟩
theorem LandV.inv [Known][Dfr]{J:Nat->List (Nat × D)->List (List D)->List Fr->Prop}{n k:Nat}{ee:Nat × Nat}{S:St}(h:LandV J n ee k S){b0:Bs}{g:G}{a:Act}{w:World}(hi:Inv b0 S g a w):∃ m,m<k/\∃ tm bx fr g',J m tm bx fr/\Inv b0 ⟨n,tm,bx,fr,ee⟩ g' a w:=by
 obtain⟨vs,bx2,h1,h2,h3⟩:=h.out
 exact h3.inv (hi.vir h1 h2)
theorem GA [Known][Dfr]{P:Program}{Q:X->St->Prop}{c:Code}{n:Nat}{ee:Nat × Nat}{tm0:List (Nat × D)}{bx0:List (List D)}{fr0:List Fr}(J:Nat->List (Nat × D)->List (List D)->List Fr->Prop)
  (k0:Nat) (h0:LandV J n ee k0 ⟨n,tm0,bx0,fr0,ee⟩) (hr:∀ k tm bx fr,J k tm bx fr->AW P c ⟨n,tm,bx,fr,ee⟩ (X.then (LandV J n ee k) Q)):AW P (.loop c) ⟨n,tm0,bx0,fr0,ee⟩ Q:=by
 refine⟨fun b0 g a w hi=>?_⟩
 obtain⟨m,_,tm,bx,fr,g',hJ,hi'⟩:=h0.inv hi
 refine wp_loop_ghost (fun k a w=>∃ tm bx fr g,J k tm bx fr/\Inv b0 ⟨n,tm,bx,fr,ee⟩ g a w) m ⟨tm,bx,fr,g',hJ,hi'⟩ fun k a w hI=>?_
 obtain⟨tm,bx,fr,g,hJ,hi⟩:=hI
 refine wp_mono ((hr k tm bx fr hJ).run b0 g a w hi) fun e a w hc=>?_
 cases e<;>simp only[UP,X.then,Exit.then]at hc ⊢
 ·obtain⟨S',g',hi',hL⟩:=hc
  obtain⟨m,hm,tm,bx,fr,g',hJ,hi'⟩:=hL.inv hi'
  exact⟨m,hm,tm,bx,fr,g',hJ,hi'⟩
 all_goals exact hc
end Go.Av
end
section
open Go.RowKit Go.Pl Go.Av
namespace Go.Proofs.YtchlgagdbflkmaaGreatDoor
set_option maxHeartbeats 4000000
abbrev rqE (x:RqV):E:=.agg [.int .u64 (x.id:Int),.int .i64 x.kd,.bool x.ep.i,.int .u64 (x.ep.n:Int),.int .u64 (x.ep.s:Int),.str x.ep.h,.str x.ep.d,.bool x.ds.i,.int .u64 (x.ds.n:Int),.int .u64 (x.ds.s:Int),.str x.ds.h,.str x.ds.d,.int .i64 x.pol,.int .i64 x.num,.int .i64 x.tik,.sl (x.pay.map E.byte),.int .u64 (x.life:Int),.int .u64 (x.tok:Int),.bool x.on]
theorem Ib (l:List RqV):Uni 19 (l.map rqE):=Uni.map (f:=rqE) (fun _=>rfl) l
abbrev cvO (o:List E):D:=.sl (.own 1) o
abbrev cvS (w:D)(s:Int)(o:D)(e:Int)(left:List UInt8)(br:Int):List (List D):=[[.bool true,.sl .ext (left.map E.byte),.int .i64 br],[.ptr 0 0,w,.int .i64 s,o,.int .i64 e]]
abbrev cvF (c oc:Nat):List Fr:=[⟨c,19,41⟩,⟨oc,1,5⟩]
abbrev cvW (L:List E):D:=.sl (.own 0) L
abbrev cvN:D:=.sl .nil []
theorem kcl [Known](L o:List E)(c oc:Nat)(s e:Int)(l:List UInt8)(br:Int):AT Tryz.prog 25 [.ptr 1 0] (cvS (cvW L) s (cvO o) e l br) (cvF c oc) (.int .i64 e) (cvS (cvW L) s (cvO o) e l br) (cvF c oc):=by
 refine Zp Tryz.func25 rfl Tryz.ntmps25 rfl rfl ?_
 repeat'(first|(apply Zr Tryz.func54 Tryz.ntmps54;exact Z;exact Z;kernel_rfl;(iterate 6 exact Z))|(apply Z4;(apply Zd Zb;exact Z);exact Z)|(apply Zl Zb;exact Z)|(apply Zj Zb;exact Z)|(apply Zt Zb;exact Z)|(apply Zi;(iterate 3 exact Z);(first|with_reducible assumption|decide +kernel|(solve|simp only[bn])))|(apply Zo;exact Z;(first|with_reducible assumption|decide +kernel|(solve|simp only[bn]));exact Z;exact Z)|(apply Zg;exact Z;(first|with_reducible assumption|decide +kernel|(solve|simp only[bn]))))
 all_goals(apply Yc [0,1] [0,1];(apply Zd Zb;exact Z);(iterate 7 exact Z))
 all_goals rfl
theorem H3 [Known](L o:List E)(c oc:Nat)(s e:Int)(l:List UInt8)(br:Int):AT Tryz.prog 23 [.ptr 1 0] (cvS (cvW L) s (cvO o) e l br) (cvF c oc) (.int .i64 (L.length:Int)) (cvS (cvW L) s (cvO o) e l br) (cvF c oc):=by
 refine Zp Tryz.func23 rfl Tryz.ntmps23 rfl rfl ?_
 repeat'(first|(apply Zl Zb;exact Z)|(apply Zj Zb;exact Z)|(apply Zg;exact Z;(first|with_reducible assumption|decide +kernel|(solve|simp only[bn])))|refine Zz Zb Z Z Z Z ?_)
 all_goals(apply Yc [0,1] [0,1];(apply Zd Zb;exact Z);(iterate 7 exact Z))
 all_goals rfl
theorem tkO [Known][KnownSc][KnownPow](f:List UInt8)(hf:f.length<=1000)(h:WI f=true)(w:List RqV)(h8:¬ 8<=w.length)(o:List E)(oc:Nat)(s:Int)(l:List UInt8)(br:Int)(w2:List RqV)(hw2:w2=w++[(ZM f).1]):AT Tryz.prog 49 [.ptr 1 0,byE f] (cvS (cvW (w.map rqE)) s (cvO o) 0 l br) (cvF w.length oc) (.int .i64 0) (cvS (cvW (w2.map rqE)) s (cvO o) 0 l br) (cvF w2.length oc):=by
 have hR:=JC f hf
 rw[Y4 h]at hR
 rw[hw2,List.map_append,List.length_append]
 clear hw2 h
 generalize (ZM f).1=x at *
 have hU:=Ib w
 have hL:(w.map rqE).length=w.length:=List.length_map ..
 generalize w.map rqE=L at *
 rw[<- hL]at h8 ⊢
 obtain⟨id,kd,⟨ei,en,es,eh,ed⟩,⟨di,dn,dq,dh,dd⟩,pol,num,tik,pay,life,tok,on⟩:=x
 have d1:decide ((L.length:Int) ≥ 8)=false:=decide_eq_false (by omega)
 have d2:L.length+1<=maxLen:=by unfold maxLen;omega
 have d3:(L.length+1)*240<=140737488355328:=by omega
 refine Zp Tryz.func49 rfl Tryz.ntmps49 rfl rfl ?_
 repeat'(first|exact YC (t:=30) rfl rfl|(apply Zc (hR);kernel_rfl;(iterate 4 exact Z))|(apply Zl Zb;exact Z)|(apply Zj Zb;exact Z)|(apply Zt Zb;exact Z)|(apply Zg;exact Z;(first|with_reducible assumption|decide +kernel|(solve|simp only[bn])))|refine Zz Zb Z Z Z Z ?_|refine Z8 Zb Z Z Z Z Z Z Z Z Z Z Z Z ?_|(apply Za 8 Ze;decide +kernel;kernel_rfl;kernel_rfl;kernel_rfl;exact Z;exact Z)|(apply Zv;(iterate 4 exact Z))|exact AE.nil _ _ _ _|(apply ZB;exact Z)|(apply Z1;exact Z)|(apply ZD;exact Z;exact Z;decide +kernel;exact Z)|(apply ZE;exact Z)|(apply Ye;exact Z)|exact AO.nil _ _ _|(apply Zu;(decide +kernel))|(apply ZP;(iterate 3 exact Z))|exact AOs.nil|exact ZR rfl rfl|exact Uh rfl rfl rfl rfl rfl|(apply ZJ Zb;(iterate 6 exact Z);(first|with_reducible assumption|decide +kernel|exact Z|rotate_left);exact Z;exact Z;(first|exact Zk rfl|with_reducible assumption|decide +kernel|rotate_left);(first|exact Zk rfl|with_reducible assumption|decide +kernel|rotate_left);(first|exact Qt|rotate_left);(first|exact Qt|rotate_left);(first|exact Qt|rotate_left);exact Z;exact Z))
 all_goals first|(apply Yc [0,1] [0,1];(apply Zd Zb;exact Z);(iterate 7 exact Z))|skip
 all_goals first|rfl|(show L.length+1<=maxLen;exact d2)|(show(L.length+1)*200<=140737488355328;omega)
theorem tkB [Known][KnownSc][KnownPow](f:List UInt8)(hf:f.length<=1000)(h:WI f=false)(L o:List E)(c oc:Nat)(s:Int)(l:List UInt8)(br:Int):AT Tryz.prog 49 [.ptr 1 0,byE f] (cvS (cvW L) s (cvO o) 0 l br) (cvF c oc) (.int .i64 3) (cvS (cvW L) s (cvO o) 0 l br) (cvF c oc):=by
 have hR:=JC f hf
 rw[ZT h]at hR
 clear h
 refine Zp Tryz.func49 rfl Tryz.ntmps49 rfl rfl ?_
 repeat'(first|(apply Zc (hR);kernel_rfl;(iterate 4 exact Z))|(apply Zl Zb;exact Z)|(apply Zj Zb;exact Z)|(apply Zt Zb;exact Z)|(apply Zf;exact Z;(first|with_reducible assumption|decide +kernel|(solve|simp only[bn]))))
 all_goals(apply Yc [0,1] [0,1];(apply Zd Zb;exact Z);(iterate 7 exact Z))
 all_goals rfl
theorem tkF [Known][KnownSc][KnownPow](f:List UInt8)(hf:f.length<=1000)(h:WI f=true)(L o:List E)(c oc:Nat)(h8:8<=L.length)(s:Int)(l:List UInt8)(br:Int):AT Tryz.prog 49 [.ptr 1 0,byE f] (cvS (cvW L) s (cvO o) 0 l br) (cvF c oc) (.int .i64 5) (cvS (cvW L) s (cvO o) 0 l br) (cvF c oc):=by
 have hR:=JC f hf
 rw[Y4 h]at hR
 generalize (ZM f).1=x at *
 clear h
 obtain⟨id,kd,⟨ei,en,es,eh,ed⟩,⟨di,dn,dq,dh,dd⟩,pol,num,tik,pay,life,tok,on⟩:=x
 have d1:decide ((L.length:Int) ≥ 8)=true:=decide_eq_true (by omega)
 refine Zp Tryz.func49 rfl Tryz.ntmps49 rfl rfl ?_
 repeat'(first|(apply Zc (hR);kernel_rfl;(iterate 4 exact Z))|(apply Zl Zb;exact Z)|(apply Zj Zb;exact Z)|(apply Zt Zb;exact Z)|(apply Zf;exact Z;(first|with_reducible assumption|decide +kernel|(solve|simp only[bn])))|(apply Zg;exact Z;(first|with_reducible assumption|decide +kernel|(solve|simp only[bn])))|refine Zz Zb Z Z Z Z ?_)
 all_goals(apply Yc [0,1] [0,1];(apply Zd Zb;exact Z);(iterate 7 exact Z))
 all_goals rfl
theorem kc [Known](e:Nat)(he:e ≠ 0)(L o:List E)(c oc:Nat)(s:Int)(l:List UInt8)(br:Int):AT Tryz.prog 21 [.ptr 1 0,.int .i64 (e:Int)] (cvS (cvW L) s (cvO o) 0 l br) (cvF c oc) (.tup []) (cvS cvN s (cvO o) (e:Int) l br) (cvF c oc):=by
 have hC:=kcl L o c oc s 0 l br
 have d1:((e:Int)==0)=false:=by simp;omega
 refine Zp Tryz.func21 rfl Tryz.ntmps21 rfl rfl ?_
 repeat'(first|(apply Zm [0,1] [0,1] (hC);kernel_rfl;(iterate 10 exact Z))|(apply Zl Zb;exact Z)|(apply Zj Zb;exact Z)|(apply Zt Zb;exact Z)|(apply Zg;exact Z;(first|with_reducible assumption|decide +kernel|(solve|simp only[bn]))))
 all_goals(apply Vh [0,1] [0,1];(apply Zd Zb;exact Z);(iterate 7 exact Z))
 all_goals rfl
theorem kfX [Known](b:List UInt8)(e:Nat)(he:e ≠ 0)(L o:List E)(c oc:Nat)(s:Int)(l:List UInt8)(br:Int):AT Tryz.prog 9 [.ptr 1 0,byE b] (cvS (cvW L) s (cvO o) (e:Int) l br) (cvF c oc) (.int .i64 (e:Int)) (cvS (cvW L) s (cvO o) (e:Int) l br) (cvF c oc):=by
 have hC:=kcl L o c oc s (e:Int) l br
 have d1:((e:Int) != 0)=true:=by simp;omega
 refine Zp Tryz.func9 rfl Tryz.ntmps9 rfl rfl ?_
 repeat'(first|(apply Zm [0,1] [0,1] (hC);kernel_rfl;(iterate 10 exact Z))|(apply Zl Zb;exact Z)|(apply Zj Zb;exact Z)|(apply Zt Zb;exact Z)|(apply Zf;exact Z;(first|with_reducible assumption|decide +kernel|(solve|simp only[bn]))))
 all_goals(apply Yc [0,1] [0,1];(apply Zd Zb;exact Z);(iterate 7 exact Z))
 all_goals rfl
def FdW (r:List UInt8 × List RqV × Nat × Nat)(w:D):Prop:=(r.2.2.1 ≠ 0/\w=cvN)\/(r.2.2.1=0/\w=cvW (r.2.1.map rqE))
theorem Ks {α:Type}{l:List α}{i:Nat}{x:α}(h:l[i]?=some x):l=l.take i++x::l.drop (i+1):=by
 have hi:i<l.length:=by
  rcases Nat.lt_or_ge i l.length with h1|h1
  ·exact h1
  ·rw[List.getElem?_eq_none h1]at h;cases h
 rw[List.getElem?_eq_getElem hi]at h
 injection h with h
 rw[<- h,List.getElem_cons_drop,List.take_append_drop]
def FdJ (fs:List (List UInt8))(w0:List RqV)(o:List E)(oc:Nat)(s:Int)(l':List UInt8)(br:Nat)(k:Nat)(tm:List (Nat × D))(bx:List (List D))(fr:List Fr):Prop:=
 ∃(i:Nat) (w:List RqV),k+i=fs.length/\YJ w0 (fs.take i)=(w,0)/\tm=[(0,.ptr 1 0),(7,.int .i64 ((br:Nat):Int)),(26,XA fs),(27,.int .i64 ((fs.length:Nat):Int)),(28,.int .i64 (i:Int))]/\bx=cvS (cvW (w.map rqE)) s (cvO o) 0 l' (br:Int)/\w.length<=8/\fr=cvF w.length oc
theorem Ic {fs:List (List UInt8)}{w0 w:List RqV}{i:Nat}{f:List UInt8}(hx:fs[i]?=some f)(ht:YJ w0 (fs.take i)=(w,0)):YJ w0 fs=YJ w (f::fs.drop (i+1)):=by
 have h:=(X3 (fs.take i) (f::fs.drop (i+1)) w0).1 (by rw[ht])
 rw[<- Ks hx,ht]at h
 exact h
theorem Ie {fs:List (List UInt8)}{w0 w:List RqV}{i:Nat}{f:List UInt8}(hx:fs[i]?=some f)(ht:YJ w0 (fs.take i)=(w,0))(ho:WI f=true)(h8:¬ 8<=w.length):YJ w0 (fs.take (i+1))=(w++[(ZM f).1],0):=by
 have h:=(X3 (fs.take i) [f] w0).1 (by rw[ht])
 rw[List.take_add_one,hx]
 simp only[Option.toList]
 rw[h,ht,QC [] ho h8,Jw]
theorem kfO [Known][KnownSc][KnownPow](l b:List UInt8)(w0:List RqV)(hw8:w0.length<=8)(hl:l.length+b.length<=1099511627776)(o:List E)(oc:Nat)(s:Int)(wq:D)(r:List UInt8 × List RqV × Nat × Nat)(hr:r=Ul l w0 b)(hq:FdW r wq):AT Tryz.prog 9 [.ptr 1 0,byE b] (cvS (cvW (w0.map rqE)) s (cvO o) 0 l 0) (cvF w0.length oc) (.int .i64 ((r.2.2.1:Nat):Int)) (cvS wq s (cvO o) ((r.2.2.1:Nat):Int) r.1 ((r.2.2.2:Nat):Int)) (cvF r.2.1.length oc):=by
 have hC:=kcl (w0.map rqE) o w0.length oc s 0 l 0
 have hF:=JX l b hl
 obtain⟨fs,l',br,hT⟩:∃ fs l' br,ZS (l++b)=(fs,l',br):=⟨_,_,_,rfl⟩
 have hsm:=JL (l++b)
 have hfc:=JH (l++b)
 rw[List.length_append]at hfc
 unfold Ul at hr
 rw[hT]at hF hr hsm hfc
 dsimp only at hF hr hsm hfc
 have hfl:(fs.map E.bys).length=fs.length:=List.length_map ..
 have hUf:=KL fs
 refine Zp Tryz.func9 rfl Tryz.ntmps9 rfl rfl ?_
 repeat'(first|(apply Zh [0] (hF);kernel_rfl;(iterate 7 exact Z))|(apply Zm [0,1] [0,1] (hC);kernel_rfl;(iterate 10 exact Z))|(apply Zl Zb;exact Z)|(apply Zj Zb;exact Z)|(apply Zg;exact Z;(first|with_reducible assumption|decide +kernel|(solve|simp only[bn])))|refine Zz Zb Z Z Z Z ?_)
 refine Yr (FdJ fs w0 o oc s l' br) (fs.length+1) (Lands.mk' (m:=fs.length) (Nat.lt_succ_self _) ⟨0,w0,rfl,Jw _,rfl,rfl,hw8,rfl⟩ ?_ rfl rfl rfl rfl rfl rfl) ?_
 ·exact .cons rfl (.cons rfl (.cons rfl (.cons (congrArg (fun n:Nat=>D.int .i64 (n:Int)) hfl) (.cons rfl .nil))))
 clear hF hC
 rintro k tm bx fr ⟨i,w,hk,ht,rfl,rfl,hwl,rfl⟩
 rcases Nat.lt_or_ge i fs.length with hlt|hge
 ·have hd:decide ((i:Int)<((fs.length:Nat):Int))=true:=decide_eq_true (by omega)
  obtain⟨f,hx⟩:∃ f,fs[i]?=some f:=⟨_,List.getElem?_eq_getElem hlt⟩
  have hxe:(fs.map E.bys)[((i:Nat):Int).toNat]?=some (E.bys f):=by rw[Int.toNat_natCast,List.getElem?_map,hx];rfl
  have hfs:=hsm f (List.mem_of_getElem? hx)
  have ei:IntKind.i64.wrap ((i:Int)+1)=((i+1:Nat):Int):=by rw[IntWalk.i64_in _ (by omega)];omega
  have hlast:=Ic hx ht
  ·cases ho:WI f with
   | true=>
    by_cases h8:8<=w.length
    ·rw[V5 _ ho h8]at hlast
     rw[hlast]at hr
     dsimp only at hr
     rw[if_neg (by decide)]at hr
     subst hr
     have hk1:=tkF f hfs ho (w.map rqE) o w.length oc (by rw[List.length_map];exact h8) s l' (br:Int)
     have hk2:=kc 5 (by decide) (w.map rqE) o w.length oc s l' (br:Int)
     rcases hq with⟨_,rfl⟩ | ⟨h,_⟩
     ·repeat'(first|(apply Zm [0,1] [0,1] (hk1);kernel_rfl;(iterate 10 exact Z))|(apply Zm [0,1] [0,1] (hk2);kernel_rfl;(iterate 10 exact Z))|(apply Zl Zb;exact Z)|(apply Zj Zb;exact Z)|(apply Zf;exact Z;(first|with_reducible assumption|decide +kernel|(solve|simp only[bn])))|(apply ZF Zb;(iterate 6 exact Z);(first|exact Qt|rotate_left);(first|with_reducible assumption|decide +kernel|exact Z);(first|exact Zk rfl|with_reducible assumption|decide +kernel|rotate_left)))
      all_goals(apply Yc [0,1] [0,1];(apply Zd Zb;exact Z);(iterate 7 exact Z))
      all_goals rfl
     ·cases h
    ·obtain⟨w2,hw2⟩:∃ w2,w2=w++[(ZM f).1]:=⟨_,rfl⟩
     have hk1:=tkO f hfs ho w h8 o oc s l' (br:Int) w2 hw2
     have hst:=Ie hx ht ho h8
     rw[<- hw2]at hst
     have hl2:w2.length<=8:=by rw[hw2,List.length_append];simp;omega
     clear hq hr hlast hw2
     repeat'(first|(apply Zm [0,1] [0,1] (hk1);kernel_rfl;(iterate 10 exact Z))|rw[ei]|(apply Zl Zb;exact Z)|(apply Zj Zb;exact Z)|(apply Zf;exact Z;(first|with_reducible assumption|decide +kernel|(solve|simp only[bn])))|(apply Zg;exact Z;(first|with_reducible assumption|decide +kernel|(solve|simp only[bn])))|(apply ZF Zb;(iterate 6 exact Z);(first|exact Qt|rotate_left);(first|with_reducible assumption|decide +kernel|exact Z);(first|exact Zk rfl|with_reducible assumption|decide +kernel|rotate_left)))
     refine Lands.mk' (m:=k-1) (by omega) ⟨i+1,w2,by omega,hst,rfl,rfl,hl2,rfl⟩ ?_ rfl rfl rfl rfl rfl rfl
     exact .cons rfl (.cons rfl (.cons rfl (.cons rfl (.cons rfl .nil))))
   | false=>
    rw[UD _ ho]at hlast
    rw[hlast]at hr
    dsimp only at hr
    rw[if_neg (by decide)]at hr
    subst hr
    have hk1:=tkB f hfs ho (w.map rqE) o w.length oc s l' (br:Int)
    have hk2:=kc 3 (by decide) (w.map rqE) o w.length oc s l' (br:Int)
    rcases hq with⟨_,rfl⟩ | ⟨h,_⟩
    ·repeat'(first|(apply Zm [0,1] [0,1] (hk1);kernel_rfl;(iterate 10 exact Z))|(apply Zm [0,1] [0,1] (hk2);kernel_rfl;(iterate 10 exact Z))|(apply Zl Zb;exact Z)|(apply Zj Zb;exact Z)|(apply Zf;exact Z;(first|with_reducible assumption|decide +kernel|(solve|simp only[bn])))|(apply ZF Zb;(iterate 6 exact Z);(first|exact Qt|rotate_left);(first|with_reducible assumption|decide +kernel|exact Z);(first|exact Zk rfl|with_reducible assumption|decide +kernel|rotate_left)))
     all_goals(apply Yc [0,1] [0,1];(apply Zd Zb;exact Z);(iterate 7 exact Z))
     all_goals rfl
    ·cases h
 ·have hd:decide ((i:Int)<((fs.length:Nat):Int))=false:=decide_eq_false (by omega)
  rw[List.take_of_length_le hge]at ht
  rw[ht]at hr
  dsimp only at hr
  rw[if_pos rfl]at hr
  subst hr
  by_cases hbr:br=0
  ·subst hbr
   have t0:(((0:Nat):Int) != 0)=false:=rfl
   ·rcases hq with⟨h,_⟩ | ⟨_,rfl⟩
    ·exact(h rfl).elim
    ·repeat'(first|(apply Zj Zb;exact Z)|(apply Zg;exact Z;(first|with_reducible assumption|decide +kernel|(solve|simp only[bn]))))
     all_goals(apply Yc [0,1] [0,1];(apply Zd Zb;exact Z);(iterate 7 exact Z))
     all_goals rfl
  ·have t0:((br:Int) != 0)=true:=by simp;omega
   ·rcases hq with⟨_,rfl⟩ | ⟨h,_⟩
    ·have hk2:=kc br hbr (w.map rqE) o w.length oc s l' (br:Int)
     repeat'(first|(apply Zm [0,1] [0,1] (hk2);kernel_rfl;(iterate 10 exact Z))|(apply Zl Zb;exact Z)|(apply Zj Zb;exact Z)|(apply Zf;exact Z;(first|with_reducible assumption|decide +kernel|(solve|simp only[bn])))|(apply Zg;exact Z;(first|with_reducible assumption|decide +kernel|(solve|simp only[bn]))))
     all_goals(apply Yc [0,1] [0,1];(apply Zd Zb;exact Z);(iterate 7 exact Z))
     all_goals rfl
    ·exact(hbr h).elim
end Go.Proofs.YtchlgagdbflkmaaGreatDoor
end

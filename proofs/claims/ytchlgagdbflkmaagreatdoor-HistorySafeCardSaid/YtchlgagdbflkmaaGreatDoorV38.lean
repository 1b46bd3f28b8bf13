/- Ranges over a function: rounds walked by the rules of abstract states; a loop whose iterator yields places of a row; functions that hold such loops. -/
import Derived.Test.YtchlgagdbflkmaaGreatDoorV37
import Derived.Test.YtchlgagdbflkmaaGreatDoorK25
import Derived.RangeFuncNested
import Derived.OrdersIn
set_option linter.unusedSimpArgs false
set_option linter.unusedVariables false
section
open Go.RowKit Go.Pl
namespace Go.Av
def Wd (r:Option Nat):Fence := { Fence.wide with round:=r }
theorem L1 {P:Program}{row:String}{args:Array Value}{w:World}{R:Value->World->Prop}{r:Option Nat}{n:Nat}(h:Rows P row args w R):RowsIn (Wd r) n P row args w R:=
 fun c cs _=>let⟨v,w',r,s⟩:=h c cs;⟨v,w',r,stepsIn_wide.2 s⟩
theorem MN {P:Program}{f:FuncId}{args:Array Value}{w:World}{R:Ending->World->Prop}{r:Option Nat}{n:Nat}(h:Calls P f args w R):CallsIn (Wd r) n P f args w R:=
 (callsIn_wide (n:=n)).2 h
theorem To {P:Program}{o:Oper}{a:Act}{next:Act->World->Prop}{Q Q':Exit->Act->World->Prop}(rn:Option Nat)(n:Nat)(hQ:¬ LetsOut Q)(hp:∀ c a w,Q (.panic c) a w->Q' (.panic c) a w)(r:Result Next)(h:o.upon P a next Q r):o.uponIn (Wd rn) n P a next Q' r:=by
 cases r with
 | ok x w=>
  cases x with
  | value v=>exact h
  | skip=>exact h
  | defer d=>exact h
  | enter f args=>
   refine⟨(fun h=>by cases h),?_⟩
   have h:Calls P f args w _:=h
   refine(MN h).mono fun e w' hr=>?_
   cases e with
   | returned v=>exact hr
   | panicked c=>exact hp _ _ _ hr
   | outgrown=>exact absurd hr hQ
  | row row args=>exact⟨(fun h=>by cases h),L1 h⟩
  | _=>exact h.elim
 | halt x w=>
  cases x with
  | panic v=>exact hp _ _ _ h
  | _=>exact h.elim
def Wo:List Oper->Bool
 | []=>true
 | o::l=>(match o.op with | .defer _=>false|_=>true)&&Wo l
theorem Qv {P:Program}{ops:Array Oper}{Q Q':Exit->Act->World->Prop}(rn:Option Nat)(n:Nat)(hQ:¬ LetsOut Q)(hp:∀ c a w,Q (.panic c) a w->Q' (.panic c) a w)(l':List Oper)(hn:∀ a w,Q .normal a w->wpListIn (Wd rn) n P ops Q' l' a w) :
  ∀(os:List Oper) (a:Act) (w:World),Wo os=true->wpList P ops Q os a w->wpListIn (Wd rn) n P ops Q' (os++l') a w
 | [],a,w,_,h=>hn a w h
 | o::os,a,w,hd,h=>by
  simp only[Wo,Bool.and_eq_true]at hd
  unfold wpList at h
  rw[List.cons_append]
  unfold wpListIn
  by_cases hw:Region.wanted o (yielded ops a.tmps)=true
  ·rw[if_pos hw]at h ⊢
   rcases h with h|h
   ·refine⟨fun _ _=>trivial,?_⟩
    have h2:o.wp P a w (wpListIn (Wd rn) n P ops Q' (os++l')) Q:=Oper.wp_mono (fun a w h=>Qv rn n hQ hp l' hn os a w hd.2 h) h
    rw[Oper.semAt_eq _ _ _ (fun c hc=>by rw[hc]at hd;cases hd.1)]
    exact To rn n hQ hp _ h2
   ·exact absurd h.2 hQ
  ·rw[if_neg hw]at h ⊢
   exact⟨fun _ _=>trivial,Qv rn n hQ hp l' hn os _ w hd.2 h⟩
theorem L3 {P:Program}{ops:Array Oper}{Q:Exit->Act->World->Prop}(rn:Option Nat)(n:Nat)(hQ:¬ LetsOut Q)(os:List Oper)(a:Act)(w:World)(hd:Wo os=true)(h:wpList P ops Q os a w):wpListIn (Wd rn) n P ops Q os a w:=by
 have:=Qv (ops:=ops) rn n hQ (fun _ _ _ h=>h) [] (fun a w h=>h) os a w hd h
 rwa [List.append_nil]at this
structure AWr [Known][Dfr](P:Program) (c:Code) (S:St) (Q:X->St->Prop):Prop where
 run:∀ l n b0 g a w,Inv b0 S g a w->c.wpIn (Fence.wide.inRound l) n P (Wk b0 Q) a w
section
variable {P:Program} {Q:X->St->Prop} {S:St}
theorem XL [Known][Dfr](b0:Bs)(Q:X->St->Prop):¬ LetsOut (Wk b0 Q):=fun⟨_,_,h⟩=>h
theorem KF [Known][Dfr](h:Q .norm S):AWr P .skip S Q:=⟨fun _ _ _ g _ _ hi=>wpIn_skip ⟨S,g,hi,h⟩⟩
theorem Wx [Known][Dfr]{id:Nat}{l:List Oper}(hn:Wo l=true)(h:AL P l.toArray l S Q):AWr P (.region id l.toArray false) S Q:=
 ⟨fun r n b0 g a w hi=>wpIn_region_lit (L3 (some r) n (XL b0 Q) l a w hn (h.run b0 g a w hi))⟩
theorem L4 [Known][Dfr]{x y:Code}(h:∀ K:St->Prop,(∀ S,AWr P y S Q->K S)->AWr P x S (X.then K Q)):AWr P (.seq x y) S Q:=⟨fun l n b0 g a w hi=>wpIn_seq <| wpIn_mono ((h (fun S=>AWr P y S Q) (fun _ h=>h)).run l n b0 g a w hi) fun e a w hc=>by
 cases e<;>simp only[Wk,X.then,Exit.then]at hc ⊢
 ·obtain⟨S,g,h1,h2⟩:=hc;exact h2.run l n b0 g a w h1
 all_goals exact hc⟩
theorem Gy [Known][Dfr]{c:Operand}{x y:Code}{b:Bool}{t:Nat}(hc:c=.tmp t)(hd:look S.tm t=.bool b)(h1:b=true->AWr P x S Q)(h2:b=false->AWr P y S Q):AWr P (.cond c x y) S Q:=⟨fun l n b0 g a w hi=>by
 subst hc
 have hv:=hi.tm t
 rw[hd]at hv
 have:a.eval (.tmp t)=.bool b:=by
  generalize he:a.tmps.getD t undef=u at hv
  show a.tmps.getD t undef=_
  rw[he];cases hv;rfl
 cases b with
 | true=>exact wpIn_cond_true this ((h1 rfl).run l n b0 g a w hi)
 | false=>exact wpIn_cond_false this ((h2 rfl).run l n b0 g a w hi)⟩
end
theorem UD {w:World}{l:Nat}{o o':Obj}(h:w.heap[l]?=some o)(ho:o.isCells=false)(ho':o'.isCells=false)(b p:Nat):(w.putObj l o').cell? ⟨b,p,none⟩=w.cell? ⟨b,p,none⟩:=by
 by_cases e:b=l
 ·subst e
  unfold World.cell?
  dsimp only
  rw[World.putObj_heap_same (Array.getElem?_eq_some_iff.1 h).1,h]
  cases o<;>cases o'<;>first|rfl|(simp[Obj.isCells]at ho ho')
 ·exact World.cell?_of_block (World.putObj_heap_other e)
theorem OP {w:World}{l k:Nat}{o o':Obj}{vs:Array Value}{ty:TypeId}{fz:Nat × Nat}(h:w.heap[l]?=some o)(ho:o.isCells=false)(hk:w.heap[k]?=some (.cells vs ty fz)):(w.putObj l o').heap[k]?=some (.cells vs ty fz):=by
 refine(World.putObj_heap_other fun e=>?_).trans hk
 subst e
 rw[h]at hk
 cases hk
 cases ho
section
variable {g:G} {bx:List (List D)} {fr:List Fr} {w:World} {l:Nat} {o o':Obj}
theorem V.put (h:w.heap[l]?=some o)(ho:o.isCells=false)(ho':o'.isCells=false){d:D}{v:Value}(hv:V w g fr d v):V (w.putObj l o') g fr d v:=
 hv.mono (fun _ _ h=>h) (fun b p _=>UD h ho ho' b p) (fun _ _ h=>h) (WF.refl _ _)
theorem Mem.put [Known](hm:Mem g bx fr w)(h:w.heap[l]?=some o)(ho:o.isCells=false)(ho':o'.isCells=false):Mem g bx fr (w.putObj l o') where
 bl:=hm.bl
 bat i k cs' h1 h2:=by
  obtain⟨us,ty,k1,k2,k3⟩:=hm.bat i k cs' h1 h2
  exact⟨us,ty,OP h ho k1,k2,fun j d v hd hv=>(k3 j d v hd hv).put h ho ho'⟩
 bC:=hm.bC
 bN:=hm.bN
 tl:=hm.tl
 tat i k c f h1 h2:=by
  have hT:=hm.tat i k c f h1 h2
  obtain⟨cur,r1,r2⟩:=hT.row
  exact⟨⟨cur,OP h ho r1,r2⟩,hT.le,hT.max,hT.pos,hT.far⟩
 tN:=hm.tN
 tρ:=hm.tρ
 Clt k p hC:=by
  have:=hm.Clt k p hC
  simp;omega
 gl:=⟨fun k cs hk j v hv=>⟨(hm.gl.1 k cs hk j v hv).1,(UD h ho ho' _ _).trans (hm.gl.1 k cs hk j v hv).2⟩,
  fun k t hk=>⟨(hm.gl.2 k t hk).1,(hm.gl.2 k t hk).2.imp fun v hv=>(UD h ho ho' _ _).trans hv⟩⟩
theorem Evo.put {b:Bs}(hb:b.w.heap.size<=l)(e:Evo b ⟨g,fr,w⟩)(h:w.heap[l]?=some o)(ho:o.isCells=false)(ho':o'.isCells=false):Evo b ⟨g,fr,w.putObj l o'⟩ where
 os:=e.os
 tape:=e.tape
 output:=e.output
 size:=by have:=e.size;simp;omega
 block k hk hn:=(World.putObj_heap_other (by omega)).trans (e.block k hk hn)
 C:=e.C
 cell k p hC:=(UD h ho ho' _ _).trans (e.cell k p hC)
 newC:=e.newC
 ρp:=e.ρp
 ρn:=e.ρn
 τn:=e.τn
 tok:=e.tok
theorem Mem.other [Known](hm:Mem g bx fr w)(h:w.heap[l]?=some o)(ho:o.isCells=false):¬ M g l:=by
 rintro(hk|⟨c,hk⟩)
 ·obtain⟨i,hi⟩:=List.getElem?_of_mem hk
  have hlt:i<bx.length:=by rw[<- hm.bl];exact(List.getElem?_eq_some_iff.1 hi).1
  obtain⟨vs,ty,k1,_⟩:=hm.bat i l _ hi (List.getElem?_eq_getElem hlt)
  rw[h]at k1;cases k1;cases ho
 ·obtain⟨i,hi⟩:=List.getElem?_of_mem hk
  have hlt:i<fr.length:=by rw[<- hm.tl];exact(List.getElem?_eq_some_iff.1 hi).1
  obtain⟨cur,r1,_⟩:=(hm.tat i l c _ hi (List.getElem?_eq_getElem hlt)).row
  rw[h]at r1;cases r1;cases ho
end
theorem Evo.round {g1 g3:G}{fr1 fr3:List Fr}{w1 w3:World}{l:Nat}{o0 o1 o3:Obj}(e:Evo ⟨g1,fr1,w1.putObj l o1⟩ ⟨g3,fr3,w3⟩)(h1:w1.heap[l]?=some o0)(h0:o0.isCells=false)(h01:o1.isCells=false)(h3:w3.heap[l]?=some o3)(h03:o3.isCells=false) :
  Evo ⟨g1,fr1,w1⟩ ⟨g3,fr3,w3.putObj l o0⟩ where
 os:=e.os
 tape:=e.tape
 output:=e.output
 size:=by have:=e.size;simp at this ⊢;omega
 block k hk hn:=by
  by_cases hkl:k=l
  ·subst hkl
   exact(World.putObj_heap_same (Array.getElem?_eq_some_iff.1 h3).1).trans h1.symm
  ·have:=e.block k (by simp;exact hk) hn
   exact(World.putObj_heap_other hkl).trans (this.trans (World.putObj_heap_other hkl))
 C:=e.C
 cell k p hC:=(UD h3 h03 h0 k p).trans ((e.cell k p hC).trans (UD h1 h0 h01 k p))
 newC k p hC:=by
  have:=e.newC k p hC
  simpa using this
 ρp:=e.ρp
 ρn k hk:=by
  have:=e.ρn k hk
  simpa using this
 τn k c hk:=by
  have:=e.τn k c hk
  simpa using this
 tok:=e.tok
def Hr (D:Nat):Deferred := { target:=.collected D,args := #[] }
def Xa (lo:Nat)(ds:List Deferred)(w:World):Prop:=∃ Ds:List Nat,ds=Ds.map Hr/\Ds.Nodup/\∀ D ∈ Ds,lo<=D/\w.heap[D]?=some (.deferred (some []))
theorem UE [Known]{b b':Bs}{bx:List (List D)}(hm:Mem b.g bx b.fr b.w)(e:Evo b b'){k:Nat}{o:Obj}(h:b.w.heap[k]?=some o)(ho:o.isCells=false):b'.w.heap[k]?=some o:=
 (e.block k (Array.getElem?_eq_some_iff.1 h).1 (hm.other h ho)).trans h
theorem Xa.evo [Known]{lo:Nat}{ds:List Deferred}{b:Bs}{b':Bs}{bx:List (List D)}(h:Xa lo ds b.w)(hm:Mem b.g bx b.fr b.w)(e:Evo b b'):Xa lo ds b'.w:=by
 obtain⟨Ds,h1,h2,h3⟩:=h
 exact⟨Ds,h1,h2,fun D hD=>⟨(h3 D hD).1,UE hm e (h3 D hD).2 rfl⟩⟩
theorem Xa.put {lo:Nat}{ds:List Deferred}{w:World}{l:Nat}{r:Loop}{o':Obj}(h:Xa lo ds w)(hl:w.heap[l]?=some (.loop r)):Xa lo ds (w.putObj l o'):=by
 obtain⟨Ds,h1,h2,h3⟩:=h
 refine⟨Ds,h1,h2,fun D hD=>⟨(h3 D hD).1,?_⟩⟩
 have:=(h3 D hD).2
 refine(World.putObj_heap_other fun e=>?_).trans this
 subst e
 rw[hl]at this;cases this
def U1 [Known](R:List Deferred->World->Prop):Prop:=∀(ds:List Deferred) (b b':Bs) (bx:List (List D)),Mem b.g bx b.fr b.w->R ds b.w->Evo b b'->R ds b'.w
theorem Yl [Known](lo:Nat):U1 (Xa lo):=fun _ _ _ _ hm hr he=>hr.evo hm he
structure InvD [Known](b0:Bs) (S:St) (g:G) (a:Act) (w:World):Prop where
 size:a.tmps.size=S.n
 mem:Mem g S.bx S.fr w
 tm:∀ t,V w g S.fr (look S.tm t) (a.tmps.getD t undef)
 evo:Evo b0 ⟨g,S.fr,w⟩
 bd:b0.g.ρ.length<=S.e.1/\b0.fr.length<=S.e.2
theorem InvD.inv [Known]{b0:Bs}{S:St}{g:G}{a:Act}{w:World}(h:InvD b0 S g a w) : @Inv _ ⟨a.defers⟩ b0 S g a w:=@Inv.mk _ ⟨a.defers⟩ _ _ _ _ _ h.size rfl h.mem h.tm h.evo h.bd
theorem InvD.of [Known][d:Dfr]{b0:Bs}{S:St}{g:G}{a:Act}{w:World}(h:Inv b0 S g a w):InvD b0 S g a w:=⟨h.size,h.mem,h.tm,h.evo,h.bd⟩
def KG [Known](R:List Deferred->World->Prop)(b0:Bs)(Q:X->St->Prop):Exit->Act->World->Prop
 | .normal,a,w=>∃ S g,InvD b0 S g a w/\R a.defers w/\Q .norm S
 | .exit id,a,w=>∃ S g,InvD b0 S g a w/\R a.defers w/\Q (.exit id) S
 | .goto l,a,w=>∃ S g,InvD b0 S g a w/\R a.defers w/\Q (.goto l) S
 | .ret,a,w=>∃ S g,InvD b0 S g a w/\R a.defers w/\Q .ret S
 | .panic _,_,_=>False
 | .outgrown,_,_=>False
structure AWm [Known](R:List Deferred->World->Prop) (b0:Bs) (P:Program) (c:Code) (S:St) (Q:X->St->Prop):Prop where
 run:∀ g a w,InvD b0 S g a w->R a.defers w->c.wp P (KG R b0 Q) a w
def St.here (S:St):St:=⟨S.n,S.tm,S.bx,S.fr,(S.bx.length,S.fr.length)⟩
def St.at (S:St)(e:Nat × Nat):St:=⟨S.n,S.tm,S.bx,S.fr,e⟩
def X.at (Q:X->St->Prop)(e:Nat × Nat):X->St->Prop
 | .pan _,_=>False
 | x,S=>Q x (S.at e)
theorem InvD.here [Known]{b0:Bs}{S:St}{g:G}{a:Act}{w:World}(h:InvD b0 S g a w)(ds:List Deferred)(hd:a.defers=ds) : @Inv _ ⟨ds⟩ ⟨g,S.fr,w⟩ S.here g a w:=
 @Inv.mk _ ⟨ds⟩ _ _ _ _ _ h.size hd h.mem h.tm (Evo.refl _) (by
  show g.ρ.length<=S.bx.length/\S.fr.length<=S.fr.length
  rw[h.mem.bl];exact⟨Nat.le_refl _,Nat.le_refl _⟩)
theorem InvD.back [Known]{R:List Deferred->World->Prop}(hR:U1 R){b0:Bs}{S S':St}{g g':G}{a a':Act}{w w':World}(h:InvD b0 S g a w)(hr:R a.defers w)(h' : @Inv _ ⟨a.defers⟩ ⟨g,S.fr,w⟩ S' g' a' w') :
  InvD b0 (S'.at S.e) g' a' w'/\R a'.defers w':=by
 have hp:=@Inv.parts _ ⟨a.defers⟩ _ _ _ _ _ h'
 have hd:a'.defers=a.defers:=@Inv.dl _ ⟨a.defers⟩ _ _ _ _ _ h'
 refine⟨⟨hp.1,hp.2.1,hp.2.2.1,h.evo.trans hp.2.2.2,h.bd⟩,?_⟩
 rw[hd]
 exact hR _ ⟨g,S.fr,w⟩ ⟨g',S'.fr,w'⟩ _ h.mem hr hp.2.2.2
theorem Sv [Known]{R:List Deferred->World->Prop}(hR:U1 R){b0:Bs}{P:Program}{c:Code}{S:St}{Q:X->St->Prop}(h:∀ d:Dfr,@AW _ d P c S.here (X.at Q S.e)):AWm R b0 P c S Q:=by
 refine⟨fun g a w hi hr=>?_⟩
 refine wp_mono (@AW.run _ ⟨a.defers⟩ _ _ _ _ (h ⟨a.defers⟩) ⟨g,S.fr,w⟩ g a w (hi.here _ rfl)) fun e a' w' hc=>?_
 cases e with
 | normal=>obtain⟨S',g',h2,h3⟩:=hc;exact⟨_,g',(hi.back hR hr h2).1,(hi.back hR hr h2).2,h3⟩
 | exit id=>obtain⟨S',g',h2,h3⟩:=hc;exact⟨_,g',(hi.back hR hr h2).1,(hi.back hR hr h2).2,h3⟩
 | goto id=>obtain⟨S',g',h2,h3⟩:=hc;exact⟨_,g',(hi.back hR hr h2).1,(hi.back hR hr h2).2,h3⟩
 | ret=>obtain⟨S',g',h2,h3⟩:=hc;exact⟨_,g',(hi.back hR hr h2).1,(hi.back hR hr h2).2,h3⟩
 | panic ch=>obtain⟨S',g',v,d,h2,h3,h4,h5⟩:=hc;exact h5.elim
 | outgrown=>exact hc.elim
section
variable {R:List Deferred->World->Prop} {b0:Bs} {P:Program} {Q:X->St->Prop} {S:St}
theorem L5 [Known]{x y:Code}(K:St->Prop)(h:AWm R b0 P x S (X.then K Q))(hk:∀ S,K S->AWm R b0 P y S Q):AWm R b0 P (.seq x y) S Q:=⟨fun g a w hi hr=>wp_seq <| wp_mono (h.run g a w hi hr) fun e a w hc=>by
 cases e<;>simp only[KG,X.then,Exit.then]at hc ⊢
 ·obtain⟨S,g,h1,h2,h3⟩:=hc;exact(hk S h3).run g a w h1 h2
 all_goals exact hc⟩
theorem VG [Known](h:Q .ret S):AWm R b0 P .ret S Q:=⟨fun g _ _ hi hr=>wp_ret ⟨S,g,hi,hr,h⟩⟩
theorem YJ [Known](h:Q .norm S):AWm R b0 P .skip S Q:=⟨fun g _ _ hi hr=>wp_skip ⟨S,g,hi,hr,h⟩⟩
theorem V3 [Known]{id:Nat}(h:Q (.exit id) S):AWm R b0 P (.exit id) S Q:=⟨fun g _ _ hi hr=>wp_exit ⟨S,g,hi,hr,h⟩⟩
theorem Z0 [Known]{id:Nat}{c:Code}(h:AWm R b0 P c S (X.inBlock id Q)):AWm R b0 P (.block id c) S Q:=⟨fun g a w hi hr=>wp_block <| wp_mono (h.run g a w hi hr) fun e a w hc=>by
 cases e<;>simp only[KG,X.inBlock,Exit.inBlock]at hc ⊢
 case exit i=>
  by_cases hid:i=id
  ·simp only[hid,if_true]at hc ⊢;exact hc
  ·simp only[hid,if_false]at hc ⊢;exact hc
 all_goals exact hc⟩
theorem Gz [Known]{c:Operand}{x y:Code}{b:Bool}{t:Nat}(hc:c=.tmp t)(hd:look S.tm t=.bool b)(h1:b=true->AWm R b0 P x S Q)(h2:b=false->AWm R b0 P y S Q):AWm R b0 P (.cond c x y) S Q:=⟨fun g a w hi hr=>by
 subst hc
 have hv:=hi.tm t
 rw[hd]at hv
 have:a.eval (.tmp t)=.bool b:=by
  generalize he:a.tmps.getD t undef=u at hv
  show a.tmps.getD t undef=_
  rw[he];cases hv;rfl
 cases b with
 | true=>exact wp_cond_true this ((h1 rfl).run g a w hi hr)
 | false=>exact wp_cond_false this ((h2 rfl).run g a w hi hr)⟩
theorem UF [Known]{c:Code}{n:Nat}{ee:Nat × Nat}{tm0:List (Nat × D)}{bx0:List (List D)}{fr0:List Fr}(J:Nat->List (Nat × D)->List (List D)->List Fr->Prop)
  (k0:Nat) (h0:LandS J n ee k0 ⟨n,tm0,bx0,fr0,ee⟩) (hr:∀ k tm bx fr,J k tm bx fr->AWm R b0 P c ⟨n,tm,bx,fr,ee⟩ (X.then (LandS J n ee k) Q)):AWm R b0 P (.loop c) ⟨n,tm0,bx0,fr0,ee⟩ Q:=by
 refine⟨fun g a w hi hw=>?_⟩
 obtain⟨m,_,tm,bx,fr,g',hJ,hi'⟩:=@LandS.inv _ ⟨a.defers⟩ _ _ _ _ _ h0 _ _ _ _ hi.inv
 refine wp_loop_ghost (fun k a w=>∃ tm bx fr g,J k tm bx fr/\InvD b0 ⟨n,tm,bx,fr,ee⟩ g a w/\R a.defers w) m ⟨tm,bx,fr,g',hJ,@InvD.of _ ⟨a.defers⟩ _ _ _ _ _ hi',hw⟩ fun k a w hI=>?_
 obtain⟨tm,bx,fr,g,hJ,hi,hw⟩:=hI
 refine wp_mono ((hr k tm bx fr hJ).run g a w hi hw) fun e a w hc=>?_
 cases e<;>simp only[KG,X.then,Exit.then]at hc ⊢
 ·obtain⟨S',g',hi',hw',hL⟩:=hc
  obtain⟨m,hm,tm,bx,fr,g',hJ,hi''⟩:=@LandS.inv _ ⟨a.defers⟩ _ _ _ _ _ hL _ _ _ _ hi'.inv
  exact⟨m,hm,tm,bx,fr,g',hJ,@InvD.of _ ⟨a.defers⟩ _ _ _ _ _ hi'',hw'⟩
 all_goals exact hc
end
theorem Qw [Known]{P:Program}{f:FuncId}{fn:Func}{c:Code}{args:List D}{bx:List (List D)}{fr:List Fr}{post:R->List (List D)->List Fr->Prop}{n:Nat}{rs:List ResultVar}(hf:P.funcs[f]?=some fn)(hb:fn.body=some c)(hn:fn.ntmps=n)(hr:fn.results=rs.toArray)
  (hl:Nat.ble args.length n=true) (h:∀ b0,AWm (Xa b0.w.heap.size) b0 P c ⟨n,Ve 0 args,bx,fr,(bx.length,fr.length)⟩ (VO P rs bx.length fr.length post)):AC P f args bx fr post:=by
 refine⟨fun g w vs hm hlen hv=>?_⟩
 have hle:=Nat.le_of_ble_eq_true hl
 refine(callsIn_wide (n:=0)).1 (callsIn_of_wp_marks hf hb trivial ((wpIn_wide (n:=0)).2 ?_))
 have hi:InvD ⟨g,fr,w⟩ ⟨n,Ve 0 args,bx,fr,(bx.length,fr.length)⟩ g { tmps:=vs.toArray++Array.replicate (fn.ntmps-vs.toArray.size) undef,defers:=[] } w:=by
  refine⟨by simp[hn];omega,hm,fun t=>?_,Evo.refl _,by rw[hm.bl];exact⟨Nat.le_refl _,Nat.le_refl _⟩⟩
  rw[V6]
  simp only[Nat.zero_le,if_true,Nat.sub_zero]
  cases ht:args[t]? with
  | none=>exact .junk _
  | some d=>
   have hlt:t<args.length:=(List.getElem?_eq_some_iff.1 ht).1
   refine hv t d _ ht ?_
   have hlt2:t<vs.length:=by omega
   simp[Array.getD_getElem?,Array.getElem?_append,hlt2]
 refine wp_mono ((h ⟨g,fr,w⟩).run g _ w hi ⟨[],rfl,List.nodup_nil,fun D hD=>by cases hD⟩) fun e a' w' hc=>?_
 have fin:∀ S,HF P rs bx.length fr.length post S->∀(Ds:List Nat) (g':G) (w':World),Ds.Nodup->(∀ D ∈ Ds,w.heap.size<=D/\w'.heap[D]?=some (.deferred (some [])))->InvD ⟨g,fr,w⟩ S g' a' w' ->
   LeavesInM Fence.wide 0 P fn a'.tmps (fun e w'=>∃ g' bx' fr' r,Evo ⟨g,fr,w⟩ ⟨g',fr',w'⟩/\Mem g' bx' fr' w'/\r.is w' g' fr' e/\post r bx' fr') (Ds.map Hr) .returning w':=by
  intro S hq Ds
  induction Ds with
  | nil=>
   intro g' w' _ _ hi'
   obtain⟨ds,bs,ts,hrs,k1,k2,k3,k4,hp⟩:=hq
   obtain⟨v,hrun,hv⟩:=@V7 _ ⟨a'.defers⟩ _ _ _ _ _ _ hi'.inv _ _ hr _ hrs
   exact⟨v,hrun,_,_,_,.ret _,hi'.evo.sel hi'.mem k1 k2 (by rw[hm.bl];exact k3) k4,hi'.mem.sel k1 k2,⟨v,rfl,hv.sel hi'.mem k1 k2⟩,hp⟩
  | cons D Ds ih=>
   intro g' w' hN hD hi'
   have h1:=hD D (List.mem_cons_self ..)
   refine⟨by simp,.inl ⟨D,_,rfl,run_takeDeferred h1.2,?_⟩⟩
   refine ih g' _ (List.nodup_cons.1 hN).2 (fun D' hD'=>⟨(hD D' (List.mem_cons_of_mem _ hD')).1,?_⟩) ⟨hi'.size,hi'.mem.put h1.2 rfl rfl,fun t=>(hi'.tm t).put h1.2 rfl rfl,hi'.evo.put h1.1 h1.2 rfl rfl,hi'.bd⟩
   refine(World.putObj_heap_other fun e=>?_).trans (hD D' (List.mem_cons_of_mem _ hD')).2
   subst e
   exact(List.nodup_cons.1 hN).1 hD'
 cases e with
 | normal=>
  obtain⟨S,g',hi',⟨Ds,h1,h2,h3⟩,hq⟩:=hc
  show LeavesInM _ _ _ _ _ _ a'.defers _ _
  rw[h1];exact fin S hq Ds g' w' h2 h3 hi'
 | ret=>
  obtain⟨S,g',hi',⟨Ds,h1,h2,h3⟩,hq⟩:=hc
  show LeavesInM _ _ _ _ _ _ a'.defers _ _
  rw[h1];exact fin S hq Ds g' w' h2 h3 hi'
 | panic chain=>exact hc.elim
 | exit id=>obtain⟨S,g',hi',_,hq⟩:=hc;exact hq.elim
 | goto l=>obtain⟨S,g',hi',_,hq⟩:=hc;exact hq.elim
 | outgrown=>exact hc.elim
end Go.Av
end
section
open Go.RowKit Go.Pl
namespace Go.Av
theorem Nd [Known][Dfr]{b0:Bs}{S:St}{g:G}{a:Act}{w:World}{ops:Array Oper}{o:Oper}{j gt:Nat}(hi:Inv b0 S g a w)(hg:o.guard=some (j,true))(hj:((ops[j]?).bind (·.dst))=some gt)(hb:look S.tm gt=.bool true):Region.wanted o (yielded ops a.tmps)=true:=by
 have hv:V w g S.fr (look S.tm gt) (a.tmps.getD gt undef):=hi.tm gt
 rw[hb]at hv
 have hv:=hv.bool_inv
 have hy:yielded ops a.tmps j=some true:=by
  have hlt:gt<a.tmps.size:=by
   rcases Nat.lt_or_ge gt a.tmps.size with h|h
   ·exact h
   ·have:a.tmps.getD gt undef=undef:=by simp[Nat.not_lt.2 h]
    rw[this]at hv;cases hv
  have he:a.tmps[gt]?=some (.bool true):=by
   rw[Array.getElem?_eq_getElem hlt,<- hv]
   simp[hlt]
  unfold yielded
  rw[hj]
  show(match(some gt).bind (a.tmps[·]?) with|some (.bool b)=>some b|_=>none)=some true
  simp only[Option.bind_some,he]
 simp[Region.wanted,hg,hy]
theorem Nf [Known]{R:List Deferred->World->Prop}(hR:U1 R){b0:Bs}{P:Program}{Q:X->St->Prop}{id n l i tf tn dst j gt ty:Nat}{pos:String}{after:Array Edge}{aty:Array TypeId}{l1 l2:List Oper}{tm tmK:List (Nat × D)}{bx bxK:List (List D)}{fr frK:List Fr}{ee:Nat × Nat}(Jn:List (List D)->List Fr->Prop)
  (hd1:Wo l1=true) (hd2:Wo l2=true) {os:List Oper} (hos:os=l1++⟨some dst,.call { callee:=.value (.tmp tf),args := #[.tmp tn],argTypes:=aty },ty,pos,after,some (j,true)⟩::l2)
  (h1:∀ d:Dfr,@AL _ d P os.toArray l1 (St.here ⟨n,tm,bx,fr,ee⟩) (X.then (fun S'=>LandS (fun _ tm bx fr=>tm=tmK/\bx=bxK/\fr=frK) n ee 1 (S'.at ee)) fun _ _=>False))
  (hlt:Nat.blt dst n=true) (hj:((os.toArray[j]?).bind (·.dst))=some gt) (hb:look tmK gt=.bool true) (hf:look tmK tf=.yl l) (hn:look tmK tn=.int .i64 (i:Int))
  (hy:∀ ds g w,Mem g bxK frK w->Evo b0 ⟨g,frK,w⟩->R ds w->YieldAt Fence.wide 0 P l #[.int .i64 (i:Int)] w fun e w'=>e=.returned (.bool true)/\∃ g' bx' fr',Mem g' bx' fr' w'/\Jn bx' fr'/\Evo ⟨g,frK,w⟩ ⟨g',fr',w'⟩/\R ds w')
  (h2:∀ bx' fr',Jn bx' fr'->∀ d:Dfr,@AL _ d P os.toArray l2 (St.here ⟨n,(dst,.bool true)::tmK,bx',fr',ee⟩) (X.at Q ee)) :
  AWm R b0 P (.region id os.toArray false) ⟨n,tm,bx,fr,ee⟩ Q:=by
 refine⟨fun g a w hi hr=>(wpIn_wide (n:=0)).1 (wpIn_region_lit ?_)⟩
 have hl1:=(@AL.run _ ⟨a.defers⟩ _ _ _ _ _ (h1 ⟨a.defers⟩)) ⟨g,fr,w⟩ g a w (hi.here _ rfl)
 have key:∀ a1 w1,@Wk _ ⟨a.defers⟩ ⟨g,fr,w⟩ (X.then (fun S'=>LandS (fun _ tm bx fr=>tm=tmK/\bx=bxK/\fr=frK) n ee 1 (S'.at ee)) fun _ _=>False) .normal a1 w1 ->
   wpListIn (Wd none) 0 P os.toArray (KG R b0 Q) (⟨some dst,.call { callee:=.value (.tmp tf),args := #[.tmp tn],argTypes:=aty },ty,pos,after,some (j,true)⟩::l2) a1 w1:=by
  rintro a1 w1 ⟨S1,g1,hi1,hL⟩
  have hd:a1.defers=a.defers:=@Inv.dl _ ⟨a.defers⟩ _ _ _ _ _ hi1
  obtain⟨q1,q3⟩:=hi.back hR hr hi1
  obtain⟨_,_,tm2,bx2,fr2,g2,⟨e1,e2,e3⟩,hi2⟩:=@LandS.inv _ ⟨a1.defers⟩ _ _ _ _ _ hL _ _ _ _ q1.inv
  rw[e1,e2,e3]at hi2
  clear e1 e2 e3
  replace hi2:=@InvD.of _ ⟨a1.defers⟩ _ _ _ _ _ hi2
  unfold wpListIn
  rw[if_pos (@Nd _ ⟨a1.defers⟩ _ _ _ _ _ _ _ _ _ hi2.inv rfl hj hb)]
  refine⟨fun _ _=>trivial,?_⟩
  have vf:=hi2.tm tf
  have vn:=hi2.tm tn
  dsimp only at vf vn
  rw[hf]at vf
  rw[hn]at vn
  have ef:a1.eval (.tmp tf)=.func (.yield l) #[] #[]:=by
   show a1.tmps.getD tf undef=_
   generalize a1.tmps.getD tf undef=u at vf
   cases vf;rfl
  have en:a1.eval (.tmp tn)=.int .i64 (i:Int):=by
   show a1.tmps.getD tn undef=_
   generalize a1.tmps.getD tn undef=u at vn
   cases vn;rfl
  have en2:a1.tmps[tn]?.getD undef=.int .i64 (i:Int):=by rw[<- Array.getD_eq_getD_getElem?];exact en
  obtain⟨fn,tmps,assign,body,hyr,hround⟩:=hy _ g2 w1 hi2.mem hi2.evo q3
  have hrun:(Oper.semAt (Wd none).round a1.eval ⟨some dst,.call { callee:=.value (.tmp tf),args := #[.tmp tn],argTypes:=aty },ty,pos,after,some (j,true)⟩).run P w1=.ok (.round l fn tmps assign body) w1:=by
   rw[Oper.semAt_eq _ _ _ (fun c hc=>by cases hc)]
   simp only[execOp,resolve,ef,Deferred.ofValue,invoke]
   simp[go_sem,en2,hyr]
  rw[hrun,Oper.uponIn_round]
  refine⟨(fun h=>by cases h),?_⟩
  refine RoundIn.mono (F:=Wd none) hround ?_
  rintro e w3 ⟨rfl,g3,bx3,fr3,hm3,hJ,he3,hr3⟩
  show wpListIn _ _ _ _ _ _ _ _
  have hi3:InvD b0 ⟨n,(dst,.bool true)::tmK,bx3,fr3,ee⟩ g3 (a1.put (some dst) (.bool true)) w3:=by
   have h0:InvD b0 ⟨n,tmK,bx3,fr3,ee⟩ g3 a1 w3:=⟨hi2.size,hm3,fun t=>(hi2.tm t).evo he3,hi2.evo.trans he3,hi2.bd⟩
   exact @InvD.of _ ⟨a1.defers⟩ _ _ _ _ _ (@Inv.put _ _ _ _ _ _ ⟨a1.defers⟩ _ _ _ h0.inv hlt (.bool true))
  have hl2:=(@AL.run _ ⟨a1.defers⟩ _ _ _ _ _ (h2 bx3 fr3 hJ ⟨a1.defers⟩)) ⟨g3,fr3,w3⟩ g3 _ w3 (hi3.here _ rfl)
  have:=Qv (Q':=KG R b0 Q) (ops:=os.toArray) none 0 (@XL _ ⟨a1.defers⟩ _ _) (fun c a w hc=>by obtain⟨_,_,_,_,_,_,_,hf⟩:=hc;exact hf.elim) [] (fun a4 w4 hc=>by
   obtain⟨S4,g4,hi4,hq⟩:=hc
   have:=hi3.back hR hr3 hi4
   exact⟨_,g4,this.1,this.2,hq⟩) l2 _ _ hd2 hl2
  rwa [List.append_nil]at this
 have:=Qv (Q':=KG R b0 Q) (ops:=os.toArray) none 0 (@XL _ ⟨a.defers⟩ _ _) (fun c a w hc=>by obtain⟨_,_,_,_,_,_,_,hf⟩:=hc;exact hf.elim) _ key l1 a w hd1 hl1
 rw[<- hos]at this
 exact this
structure ItOk [Known](P:Program) (f:FuncId) (cap:List D) (J:Nat->List (List D)->List Fr->Prop) (by_:Nat->Bool) (N:Nat):Prop where
 run:∀(R:World->Prop) (l:Nat) (g0:G) (bx0:List (List D)) (fr0:List Fr) (w0:World) (vs:List Value),U1 (fun _=>R)->vs.length=cap.length->Mem g0 bx0 fr0 w0->J 0 bx0 fr0->R w0 ->
  (∀(j:Nat) (d:D) (v:Value),cap[j]?=some d->vs[j]?=some v->V w0 g0 fr0 d v) ->
  (∀ i g bx fr w,i<N->by_ i=false->Mem g bx fr w->J i bx fr->Evo ⟨g0,fr0,w0⟩ ⟨g,fr,w⟩->R w->YieldAt Fence.wide 0 P l #[.int .i64 (i:Int)] w fun e w'=>e=.returned (.bool true)/\∃ g' bx' fr',Mem g' bx' fr' w'/\J (i+1) bx' fr'/\Evo ⟨g,fr,w⟩ ⟨g',fr',w'⟩/\R w') ->
  Calls P f (.func (.yield l) #[] #[]::vs).toArray w0 fun e w'=>(∃ v,e=.returned v)/\∃ g' bx' fr',Mem g' bx' fr' w'/\J N bx' fr'/\Evo ⟨g0,fr0,w0⟩ ⟨g',fr',w'⟩/\R w'
theorem Ng [Known]{b0:Bs}{P:Program}{Q:X->St->Prop}{n:Nat}{tm:List (Nat × D)}{bx:List (List D)}{fr:List Fr}{ee:Nat × Nat}{t p f:Nat}{cap:List D}{assign body:Code}(J:Nat->List (List D)->List Fr->Prop)(by_:Nat->Bool)(N:Nat)(tmA:Nat->List (Nat × D))
  (hd:look tm t=.fn f cap) (hent:∀ args w,(callFunc f args).run P w=.ok (.enter f args) w) (hp:Nat.blt p n=true) (h0:J 0 bx fr)
  (hit:ItOk P f cap J by_ N)
  (ha:∀ i bx' fr',i<N->J i bx' fr' -> @AWr _ dfr0 P assign ⟨n,(p,.int .i64 (i:Int))::tm,bx',fr',(bx'.length,fr'.length)⟩ (X.then (fun S=>S=⟨n,tmA i,bx',fr',(bx'.length,fr'.length)⟩) fun _ _=>False))
  (hb:∀ i bx' fr',i<N->by_ i=false->J i bx' fr' -> @AWr _ dfr0 P body ⟨n,tmA i,bx',fr',(bx'.length,fr'.length)⟩ (X.then (LandS (fun _ _ bx fr=>J (i+1) bx fr) n (bx'.length,fr'.length) 1) fun _ _=>False))
  (hq:∀ bx' fr',J N bx' fr'->Q .norm ⟨n,tm,bx',fr',ee⟩):AWm (Xa b0.w.heap.size) b0 P (.rangeFunc (.tmp t) #[p] assign body) ⟨n,tm,bx,fr,ee⟩ Q:=by
 refine⟨fun g a w hi hmk=>?_⟩
 refine(wpIn_wide (n:=0)).1 ?_
 refine wpIn_rangeFunc ?_
 intro fn _
 have hv:=hi.tm t
 dsimp only at hv
 rw[hd]at hv
 obtain⟨vs,hvl,hve,hvs⟩:∃ vs:List Value,vs.length=cap.length/\a.tmps.getD t undef=.func (.func f) #[] vs.toArray/\∀(j:Nat) (d:D) (v:Value),cap[j]?=some d->vs[j]?=some v->V w g fr d v:=by
  generalize a.tmps.getD t undef=u at hv
  cases hv with
  | fn f l vs hl h=>exact⟨vs,hl,rfl,h⟩
 have hev:a.eval (.tmp t)=.func (.func f) #[] vs.toArray:=hve
 have hm:=hi.mem
 have hsz:=hi.size
 dsimp only at hm hsz
 obtain⟨rec,hrec⟩:∃ rec:LoopState->Loop,rec=fun st => { state:=st,pending:=none,fn,tmps:=a.tmps,params := #[p],assign,body,defers:=w.heap.size }:=⟨_,rfl⟩
 obtain⟨W1,hW1⟩:∃ W1,(w.alloc (.deferred (some []))).alloc (.loop (rec .ready))=W1:=⟨_,rfl⟩
 have hm0:Mem g bx fr (w.alloc (.deferred (some []))):=hm.al _
 have hm1:Mem g bx fr W1:=by rw[<- hW1];exact hm0.al _
 have he1:Evo ⟨g,fr,w⟩ ⟨g,fr,W1⟩:=by rw[<- hW1];exact(Evo.al hm _).trans (Evo.al hm0 _)
 have hL1:W1.heap[w.heap.size+1]?=some (.loop (rec .ready)):=by
  rw[<- hW1];have:=World.alloc_heap_new (w.alloc (.deferred (some []))) (.loop (rec .ready));rwa [World.size_alloc]at this
 have hK1:W1.heap[w.heap.size]?=some (.deferred (some [])):=by
  rw[<- hW1];exact(Below.heap_alloc _ _ _ (by simp)).trans (World.alloc_heap_new w _)
 let R:World->Prop:=fun W=>W.heap[w.heap.size+1]?=some (.loop (rec .ready))/\W.heap[w.heap.size]?=some (.deferred (some []))/\Xa b0.w.heap.size a.defers W
 have hR:U1 (fun _=>R):=fun _ b b' bx hm hr e=>⟨UE hm e hr.1 rfl,UE hm e hr.2.1 rfl,hr.2.2.evo hm e⟩
 refine⟨w.heap.size+1,[Hr w.heap.size],W1,{ target:=.fn (.func f) vs.toArray,args := #[.func (.yield (w.heap.size+1)) #[] #[]] },W1,f,(.func (.yield (w.heap.size+1)) #[] #[]::vs).toArray,W1,?_,?_,fun _ _=>trivial,?_,(fun h=>by cases h),?_⟩
 ·rw[<- hW1,hrec];exact run_enterLoop_outer _ _ _ _ _
 ·simp only[resolve,hev,Deferred.ofValue]
  simp[go_sem]
 ·have e : #[Value.func (.yield (w.heap.size+1)) #[] #[]]++vs.toArray=(Value.func (.yield (w.heap.size+1)) #[] #[]::vs).toArray:=by simp
  simp only[invoke,e]
  exact hent _ _
 ·refine(callsIn_wide (n:=0)).2 ?_
  refine(hit.run R (w.heap.size+1) g bx fr W1 vs hR hvl hm1 h0 ⟨hL1,hK1,hmk.evo hm he1⟩ (fun j d v h1 h2=>(hvs j d v h1 h2).evo he1) ?_).mono ?_
  ·
   intro i g2 bx2 fr2 w2 hiN hby hm2 hJ2 he2 hr2
   have hy:=run_yield (P:=P) (args := #[.int .i64 (i:Int)]) hr2.1 (by rw[hrec];rfl)
   rw[hrec]at hy
   refine⟨fn,_,assign,body,hy,roundIn_of_wpIn trivial ?_⟩
   clear hy
   have hi2 : @Inv _ dfr0 ⟨g2,fr2,w2⟩ ⟨n,(p,.int .i64 (i:Int))::tm,bx2,fr2,(bx2.length,fr2.length)⟩ g2 (Act.put { tmps:=a.tmps,defers:=[] } (some p) (.int .i64 (i:Int))) w2:=by
    refine @Inv.put ⟨n,tm,bx2,fr2,(bx2.length,fr2.length)⟩ ⟨g2,fr2,w2⟩ g2 w2 { tmps:=a.tmps,defers:=[] } _ dfr0 p _ _ ?_ hp (.int _ _)
    refine @Inv.mk _ dfr0 _ _ _ _ _ hsz rfl hm2 (fun t=>((hi.tm t).evo (he1.trans he2))) (Evo.refl _) ?_
    show g2.ρ.length<=bx2.length/\fr2.length<=fr2.length
    rw[hm2.bl];exact⟨Nat.le_refl _,Nat.le_refl _⟩
   have hact:({ tmps:=(Array.zip #[p] #[Value.int .i64 (i:Int)]).foldl (fun tmps (t,a)=>tmps.setIfInBounds t a) a.tmps,defers:=[] }:Act)=Act.put { tmps:=a.tmps,defers:=[] } (some p) (.int .i64 (i:Int)):=by
    simp[Act.put]
   have hassign:=(@AWr.run _ dfr0 _ _ _ _ (ha i bx2 fr2 hiN hJ2)) (w.heap.size+1) 0 ⟨g2,fr2,w2⟩ g2 _ w2 hi2
   rw[<- hact]at hassign
   refine wpIn_mono hassign ?_
   intro e a3 w3 hc
   cases e with
   | normal=>
    obtain⟨S3,g3,hi3,rfl⟩:=hc
    have hp3:=@Inv.parts _ dfr0 _ _ _ _ _ hi3
    obtain⟨s3,m3,t3,e3⟩:=hp3
    dsimp only at s3 m3 t3 e3
    have hr3:=hR [] ⟨g2,fr2,w2⟩ ⟨g3,fr2,w3⟩ _ hm2 hr2 e3
    refine⟨_,run_beginRound hr3.1 (by rw[hrec]),?_⟩
    have hd3:a3.defers=[]:=@Inv.dl _ dfr0 _ _ _ _ _ hi3
    have hi4 : @Inv _ dfr0 ⟨g3,fr2,w3.putObj (w.heap.size+1) (.loop { rec .ready with state:=.busy })⟩ ⟨n,tmA i,bx2,fr2,(bx2.length,fr2.length)⟩ g3 a3 (w3.putObj (w.heap.size+1) (.loop { rec .ready with state:=.busy })):=by
     refine @Inv.mk _ dfr0 _ _ _ _ _ s3 hd3 (m3.put hr3.1 rfl rfl) (fun t=>(t3 t).put hr3.1 rfl rfl) (Evo.refl _) ?_
     show g3.ρ.length<=bx2.length/\fr2.length<=fr2.length
     rw[m3.bl];exact⟨Nat.le_refl _,Nat.le_refl _⟩
    refine wpIn_mono ((@AWr.run _ dfr0 _ _ _ _ (hb i bx2 fr2 hiN hby hJ2)) (w.heap.size+1) 0 _ g3 a3 _ hi4) ?_
    intro e a5 w5 hc
    cases e with
    | normal=>
     obtain⟨S5,g5,hi5,hL⟩:=hc
     obtain⟨_,_,_,bx6,fr6,g6,hJ6,hi6⟩:=@LandS.inv _ dfr0 _ _ _ _ _ hL _ _ _ _ hi5
     obtain⟨s6,m6,t6,e6⟩:=@Inv.parts _ dfr0 _ _ _ _ _ hi6
     dsimp only at s6 m6 t6 e6
     have hb5:w5.heap[w.heap.size+1]?=some (.loop { rec .ready with state:=.busy }):=UE (m3.put (o':=.loop { rec .ready with state:=.busy }) hr3.1 rfl rfl) e6 (World.putObj_heap_same (Array.getElem?_eq_some_iff.1 hr3.1).1) rfl
     have hend:=run_endRound (P:=P) none hb5
     refine⟨_,_,hend,rfl,g6,bx6,fr6,m6.put hb5 rfl rfl,hJ6,?_,?_⟩
     ·have:=(Evo.round e6 hr3.1 rfl rfl hb5 rfl)
      refine e3.trans ?_
      rw[hrec]at this ⊢
      exact this
     ·refine⟨?_,?_,?_⟩
      ·rw[World.putObj_heap_same (Array.getElem?_eq_some_iff.1 hb5).1,hrec];rfl
      ·refine(World.putObj_heap_other (by omega)).trans (UE (m3.put (o':=.loop { rec .ready with state:=.busy }) hr3.1 rfl rfl) e6 ?_ rfl)
       exact(World.putObj_heap_other (by omega)).trans hr3.2.1
      ·refine Xa.put ?_ hb5
       exact(Xa.put (o':=.loop { rec .ready with state:=.busy }) hr3.2.2 hr3.1).evo (b:=⟨g3,fr2,w3.putObj (w.heap.size+1) (.loop { rec .ready with state:=.busy })⟩) (m3.put hr3.1 rfl rfl) e6
    | ret=>obtain⟨_,_,_,h⟩:=hc;exact h.elim
    | exit id=>obtain⟨_,_,_,h⟩:=hc;exact h.elim
    | goto l=>obtain⟨_,_,_,h⟩:=hc;exact h.elim
    | panic c=>obtain⟨_,_,_,_,_,_,_,h⟩:=hc;exact h.elim
    | outgrown=>exact hc.elim
   | ret=>obtain⟨_,_,_,h⟩:=hc;exact h.elim
   | exit id=>obtain⟨_,_,_,h⟩:=hc;exact h.elim
   | goto l=>obtain⟨_,_,_,h⟩:=hc;exact h.elim
   | panic c=>obtain⟨_,_,_,_,_,_,_,h⟩:=hc;exact h.elim
   | outgrown=>exact hc.elim
  ·
   rintro e w2 ⟨⟨v,rfl⟩,g2,bx2,fr2,hm2,hJ2,he2,hr2⟩
   have hend:=run_endLoop (P:=P) hr2.1 (by rw[hrec];simp)
   refine⟨none,_,by rw[hrec]at hend;exact hend,?_⟩
   have hle:b0.w.heap.size<=w.heap.size:=hi.evo.size
   have hl:=hr2.1
   rw[hrec]at hl
   have hee:=(he1.trans he2)
   refine⟨⟨n,tm,bx2,fr2,ee⟩,g2,⟨hsz,hm2.put hl rfl rfl,fun t=>((hi.tm t).evo hee).put hl rfl rfl,(hi.evo.trans hee).put (by omega) hl rfl rfl,hi.bd⟩,?_,hq bx2 fr2 hJ2⟩
   obtain⟨Ds,q1,q2,q3⟩:=hmk
   refine⟨w.heap.size::Ds,by show [Hr w.heap.size]++a.defers=_;rw[q1];rfl,List.nodup_cons.2 ⟨fun hD=>?_,q2⟩,fun D hD=>?_⟩
   ·have:=(Array.getElem?_eq_some_iff.1 (q3 _ hD).2).1
    omega
   ·rcases List.mem_cons.1 hD with rfl|hD
    ·exact⟨hle,(World.putObj_heap_other (by omega)).trans hr2.2.1⟩
    ·have hDlt:=(Array.getElem?_eq_some_iff.1 (q3 D hD).2).1
     obtain⟨Ds',k1,k2,k3⟩:=hr2.2.2
     have hDs:Ds'=Ds:=by
      have:Ds'.map Hr=Ds.map Hr:=by rw[<- k1,<- q1]
      exact(List.map_inj_right (fun a b h=>by simpa[Hr]using h)).1 this
     subst hDs
     exact⟨(k3 D hD).1,(World.putObj_heap_other (by omega)).trans (k3 D hD).2⟩
def BI (J:List (List D)->List Fr->Prop)(n:Nat)(e:Nat × Nat):X->St->Prop
 | .norm,S=>LandS (fun _ _ bx fr=>J bx fr) n e 1 S
 | .ret,S=>LandS (fun _ _ bx fr=>J bx fr) n e 1 S
 | _,_=>False
theorem QN [Known]{P:Program}{f:FuncId}{fn:Func}{c:Code}{n:Nat}{cap:List D}{J:Nat->List (List D)->List Fr->Prop}{by_:Nat->Bool}{N:Nat}(hf:P.funcs[f]?=some fn)(hb:fn.body=some c)(hn:fn.ntmps=n)(hr:fn.results = #[])(hl:Nat.ble (cap.length+1) n=true)
  (h:∀(R:List Deferred->World->Prop) (l:Nat) (b0:Bs) (bx:List (List D)) (fr:List Fr),U1 R->J 0 bx fr ->
   (∀ i ds g bx fr w,i<N->by_ i=false->J i bx fr->Mem g bx fr w->Evo b0 ⟨g,fr,w⟩->R ds w->YieldAt Fence.wide 0 P l #[.int .i64 (i:Int)] w fun e w'=>e=.returned (.bool true)/\∃ g' bx' fr',Mem g' bx' fr' w'/\J (i+1) bx' fr'/\Evo ⟨g,fr,w⟩ ⟨g',fr',w'⟩/\R ds w') ->
   AWm R b0 P c ⟨n,Ve 0 (.yl l::cap),bx,fr,(bx.length,fr.length)⟩ (BI (J N) n (bx.length,fr.length))):ItOk P f cap J by_ N:=by
 refine⟨fun R l g0 bx0 fr0 w0 vs hR hlen hm hJ hr0 hv hy=>?_⟩
 have hle:=Nat.le_of_ble_eq_true hl
 have hK:U1 (fun ds w=>ds=[]/\R w):=fun ds b b' bx hm hr he=>⟨hr.1,hR ds b b' bx hm hr.2 he⟩
 have hA:=h (fun ds w=>ds=[]/\R w) l ⟨g0,fr0,w0⟩ bx0 fr0 hK hJ (fun i ds g bx fr w hi hby hJ hm he hr=>by
  obtain⟨fn,tmps,asg,bd,hy1,hy2⟩:=hy i g bx fr w hi hby hm hJ he hr.2
  exact⟨fn,tmps,asg,bd,hy1,hy2.mono fun e w' ⟨h1,g',bx',fr',h2,h3,h4,h5⟩=>⟨h1,g',bx',fr',h2,h3,h4,hr.1,h5⟩⟩)
 refine calls_of_wp hf hb ?_
 have hi:InvD ⟨g0,fr0,w0⟩ ⟨n,Ve 0 (.yl l::cap),bx0,fr0,(bx0.length,fr0.length)⟩ g0 { tmps:=(Value.func (.yield l) #[] #[]::vs).toArray++Array.replicate (fn.ntmps-(Value.func (.yield l) #[] #[]::vs).toArray.size) undef,defers:=[] } w0:=by
  refine⟨by simp[hn];omega,hm,fun t=>?_,Evo.refl _,by rw[hm.bl];exact⟨Nat.le_refl _,Nat.le_refl _⟩⟩
  rw[V6]
  simp only[Nat.zero_le,if_true,Nat.sub_zero]
  cases ht:(D.yl l::cap)[t]? with
  | none=>exact .junk _
  | some d=>
   have hlt:t<(D.yl l::cap).length:=(List.getElem?_eq_some_iff.1 ht).1
   have hlt2:t<(Value.func (.yield l) #[] #[]::vs).length:=by simp at hlt ⊢;omega
   have e:(((Value.func (.yield l) #[] #[]::vs).toArray++Array.replicate (fn.ntmps-(Value.func (.yield l) #[] #[]::vs).toArray.size) undef).getD t undef)=(Value.func (.yield l) #[] #[]::vs)[t]:=by
    rw[Array.getD_eq_getD_getElem?,Array.getElem?_append,if_pos (by simpa using hlt2)]
    simp only[List.getElem?_toArray,List.getElem?_eq_getElem hlt2,Option.getD_some]
   show V w0 g0 fr0 _ (Array.getD _ t undef)
   rw[e]
   cases t with
   | zero=>simp at ht;subst ht;exact .yl l
   | succ t=>exact hv t d _ (by simpa using ht) (by simp at hlt2 ⊢)
 refine wp_mono (hA.run g0 _ w0 hi ⟨rfl,hr0⟩) fun e a' w' hc=>?_
 have fin:∀ S g',InvD ⟨g0,fr0,w0⟩ S g' a' w'->a'.defers=[]/\R w'->LandS (fun _ _ bx fr=>J N bx fr) n (bx0.length,fr0.length) 1 S ->
   a'.defers=[]/\∃ v,(results fn a'.tmps).run P w'=.ok v w'/\(∃ v',Ending.returned v=.returned v')/\∃ g' bx' fr',Mem g' bx' fr' w'/\J N bx' fr'/\Evo ⟨g0,fr0,w0⟩ ⟨g',fr',w'⟩/\R w':=by
  intro S g' hi' hr' hL
  obtain⟨_,_,_,bx6,fr6,g6,hJ6,hi6⟩:=@LandS.inv _ ⟨a'.defers⟩ _ _ _ _ _ hL _ _ _ _ hi'.inv
  replace hi6:=@InvD.of _ ⟨a'.defers⟩ _ _ _ _ _ hi6
  obtain⟨v,hrun,_⟩:=@V7 _ ⟨a'.defers⟩ P _ _ _ _ _ hi6.inv fn [] hr _ .nil
  exact⟨hr'.1,v,hrun,⟨v,rfl⟩,g6,bx6,fr6,hi6.mem,hJ6,hi6.evo,hr'.2⟩
 cases e with
 | normal=>
  obtain⟨S,g',hi',hr',hq⟩:=hc
  exact fin S g' hi' hr' hq
 | ret=>
  obtain⟨S,g',hi',hr',hq⟩:=hc
  exact fin S g' hi' hr' hq
 | panic chain=>exact hc.elim
 | exit id=>obtain⟨S,g',hi',_,hq⟩:=hc;exact hq.elim
 | goto l=>obtain⟨S,g',hi',_,hq⟩:=hc;exact hq.elim
 | outgrown=>exact hc.elim
end Go.Av
end
section
open Go.RowKit Go.Pl
namespace Go.Av
theorem BJ {P:Program}{ops:Array Oper}{Q:Exit->Act->World->Prop}(rn:Option Nat)(n:Nat)(hQ:¬ LetsOut Q){i:Nat}{K K':Act->World->Prop}{a:Act}{w:World}(hd:∀ o:Oper,ops[i]?=some o->∀ c,o.op ≠ .defer c)(hK:∀ a w,K a w->K' a w)(h:wpOp P ops Q i K a w):wpOpIn (Wd rn) n P ops Q i K' a w:=by
 unfold wpOp at h
 unfold wpOpIn
 cases ho:ops[i]? with
 | none=>rw[ho]at h;exact hK _ _ h
 | some o=>
  rw[ho]at h
  dsimp only at h ⊢
  by_cases hw:Region.wanted o (yielded ops a.tmps)=true
  ·rw[if_pos hw]at h ⊢
   rcases h with h|h
   ·refine⟨fun _ _=>trivial,?_⟩
    rw[Oper.semAt_eq _ _ _ (hd o ho)]
    exact To rn n hQ (fun _ _ _ h=>h) _ (Oper.wp_mono hK h)
   ·exact absurd h.2 hQ
  ·rw[if_neg hw]at h ⊢
   exact⟨fun _ _=>trivial,hK _ _ h⟩
theorem MO {P:Program}{md:Region.Mode}{ops:Array Oper}{Q:Exit->Act->World->Prop}(rn:Option Nat)(n:Nat)(hQ:¬ LetsOut Q)(hd:∀(i:Nat) (o:Oper),ops[i]?=some o->∀ c,o.op ≠ .defer c):∀(fuel:Nat) (listed:Array Bool) (a:Act) (w:World),wpAny P md ops Q fuel listed a w->wpAnyIn (Wd rn) n P md ops Q fuel listed a w
 | 0,listed,a,w,h=>h
 | fuel+1,listed,a,w,h=>⟨h.1,fun i hi=>BJ rn n hQ (hd i) (fun a w h=>MO rn n hQ hd fuel _ a w h) (h.2 i hi)⟩
theorem KH:∀ {l:List Oper},Wo l=true->∀(i:Nat) (o:Oper),l[i]?=some o->∀ c,o.op ≠ .defer c
 | [],_,i,o,h=>by simp at h
 | o0::l,hd,0,o,h=>by
  simp at h
  subst h
  intro c hc
  simp only[Wo,Bool.and_eq_true]at hd
  rw[hc]at hd
  cases hd.1
 | o0::l,hd,i+1,o,h=>by
  simp only[Wo,Bool.and_eq_true]at hd
  exact KH hd.2 i o (by simpa using h)
section
variable {P:Program} {Q:X->St->Prop} {S:St} {n:Nat} {ee:Nat × Nat} {tm:List (Nat × D)} {bx:List (List D)} {fr:List Fr}
theorem L6 [Known][Dfr]{id:Nat}{l:List Oper}(hm:P.follows .mixedOrders=true)(hd:Wo l=true)(h:AY P l S Q):AWr P (.region id l.toArray true) S Q:=
 ⟨fun r n b0 g a w hi=>wpIn_region_any (F:=Wd (some r)) hm (MO (some r) n (XL b0 Q) (fun i o ho=>KH hd i o (by simpa using ho)) _ _ _ _ (h.run b0 g a w hi))⟩
theorem Xb [Known][Dfr]{id:Nat}(m:Nat){l acts:List Oper}{ys:List Y}{tm':List (Nat × D)}{bx':List (List D)}{fr':List Fr}(hm:P.follows .mixedOrders=true)(hd:Wo l=true)(hch:Wf l m=true)(hchk:Yt l=true)(hlk:Qa n l=true)(hE:QQ l=true)(hlen:Nat.beq (l.take m).length m=true)(hacts:nfl (l.drop m)=some acts)(h:AE P l n 0 (l.take m) tm bx fr ys tm' bx' fr')(hO:AOt P l n (l.take m) ys tm bx fr)(k:AL P l.toArray acts ⟨n,tm',bx',fr',ee⟩ Q) :
  AWr P (.region id l.toArray true) ⟨n,tm,bx,fr,ee⟩ Q:=L6 hm hd (K6 hchk hlk hE hch (Nat.eq_of_beq_eq_true hlen) (Yn hacts) h hO k)
theorem V4 [Known][Dfr]{x y:Code}(h:AWr P x S (X.then (fun S=>AWr P y S Q) Q)):AWr P (.seq x y) S Q:=L4 fun K hK=>⟨fun l n b0 g a w hi=>wpIn_mono (h.run l n b0 g a w hi) fun e a w hc=>by
 cases e<;>simp only[Wk,X.then]at hc ⊢
 ·obtain⟨S,g,h1,h2⟩:=hc;exact⟨S,g,h1,hK _ h2⟩
 all_goals exact hc⟩
theorem WE [Known][Dfr]{id:Nat}{c:Code}(h:AWr P c S (X.inBlock id Q)):AWr P (.block id c) S Q:=⟨fun l n b0 g a w hi=>wpIn_block <| wpIn_mono (h.run l n b0 g a w hi) fun e a w hc=>by
 cases e<;>simp only[Wk,X.inBlock,Exit.inBlock]at hc ⊢
 case exit i=>
  by_cases hid:i=id
  ·simp only[hid,if_true]at hc ⊢;exact hc
  ·simp only[hid,if_false]at hc ⊢;exact hc
 all_goals exact hc⟩
theorem Xc [Known][Dfr]{x y:Code}{b:Bool}{t:Nat}(hd:look tm t=.bool b)(hb:b=true)(h1:AWr P x ⟨n,tm,bx,fr,ee⟩ Q):AWr P (.cond (.tmp t) x y) ⟨n,tm,bx,fr,ee⟩ Q:=Gy rfl hd (fun _=>h1) (fun h=>by rw[hb]at h;cases h)
theorem Xd [Known][Dfr]{x y:Code}{b:Bool}{t:Nat}(hd:look tm t=.bool b)(hb:b=false)(h1:AWr P y ⟨n,tm,bx,fr,ee⟩ Q):AWr P (.cond (.tmp t) x y) ⟨n,tm,bx,fr,ee⟩ Q:=Gy rfl hd (fun h=>by rw[hb]at h;cases h) (fun _=>h1)
theorem YX {e e':Nat × Nat}(h:Q .norm ⟨n,tm,bx,fr,e⟩):X.at Q e .norm ⟨n,tm,bx,fr,e'⟩:=h
variable {R:List Deferred->World->Prop} {b0:Bs}
theorem ZN [Known]{x y:Code}(h:AWm R b0 P x S (X.then (fun S=>AWm R b0 P y S Q) Q)):AWm R b0 P (.seq x y) S Q:=L5 _ h fun S h=>h
theorem MP [Known](hR:U1 R){c:Code}(h:∀ d:Dfr,@AW _ d P c ⟨n,tm,bx,fr,(bx.length,fr.length)⟩ (X.at Q ee)):AWm R b0 P c ⟨n,tm,bx,fr,ee⟩ Q:=
 Sv hR h
theorem ZE [Known](hR:U1 R){id:Nat}{l:List Oper}(h:∀ d:Dfr,@AL _ d P l.toArray l ⟨n,tm,bx,fr,(bx.length,fr.length)⟩ (X.at Q ee)):AWm R b0 P (.region id l.toArray false) ⟨n,tm,bx,fr,ee⟩ Q:=
 MP hR fun d=>Qx (h d)
theorem Xp [Known](hR:U1 R){id:Nat}{l:List Oper}(h:∀ d:Dfr,@AW _ d P (.region id l.toArray true) ⟨n,tm,bx,fr,(bx.length,fr.length)⟩ (X.at Q ee)):AWm R b0 P (.region id l.toArray true) ⟨n,tm,bx,fr,ee⟩ Q:=MP hR h
theorem YE [Known]{x y:Code}{b:Bool}{t:Nat}(hd:look tm t=.bool b)(hb:b=true)(h1:AWm R b0 P x ⟨n,tm,bx,fr,ee⟩ Q):AWm R b0 P (.cond (.tmp t) x y) ⟨n,tm,bx,fr,ee⟩ Q:=Gz rfl hd (fun _=>h1) (fun h=>by rw[hb]at h;cases h)
theorem Z1 [Known]{x y:Code}{b:Bool}{t:Nat}(hd:look tm t=.bool b)(hb:b=false)(h1:AWm R b0 P y ⟨n,tm,bx,fr,ee⟩ Q):AWm R b0 P (.cond (.tmp t) x y) ⟨n,tm,bx,fr,ee⟩ Q:=Gz rfl hd (fun h=>by rw[hb]at h;cases h) (fun _=>h1)
theorem US [Known]{id n l i tf tn dst j gt ty:Nat}{pos:String}{after:Array Edge}{aty:Array TypeId}{l1 l2:List Oper}{tm tmK:List (Nat × D)}{bx bxK:List (List D)}{fr frK:List Fr}{ee:Nat × Nat}{os:List Oper}(k:Nat)(hR:U1 R)(Jn:List (List D)->List Fr->Prop)(hk1:os.take k=l1)(hk2:os.drop k=⟨some dst,.call { callee:=.value (.tmp tf),args := #[.tmp tn],argTypes:=aty },ty,pos,after,some (j,true)⟩::l2)
  (hd1:Wo l1=true) (hd2:Wo l2=true)
  (h1:∀ d:Dfr,@AL _ d P os.toArray l1 ⟨n,tm,bx,fr,(bx.length,fr.length)⟩ (X.then (fun S'=>LandS (fun _ tm bx fr=>tm=tmK/\bx=bxK/\fr=frK) n ee 1 (S'.at ee)) fun _ _=>False))
  (hlt:Nat.blt dst n=true) (hj:((os.toArray[j]?).bind (·.dst))=some gt) (hb:look tmK gt=.bool true) (hf:look tmK tf=.yl l) (hn:look tmK tn=.int .i64 (i:Int))
  (hy:∀ ds g w,Mem g bxK frK w->Evo b0 ⟨g,frK,w⟩->R ds w->YieldAt Fence.wide 0 P l #[.int .i64 (i:Int)] w fun e w'=>e=.returned (.bool true)/\∃ g' bx' fr',Mem g' bx' fr' w'/\Jn bx' fr'/\Evo ⟨g,frK,w⟩ ⟨g',fr',w'⟩/\R ds w')
  (h2:∀ bx' fr',Jn bx' fr'->∀ d:Dfr,@AL _ d P os.toArray l2 ⟨n,(dst,.bool true)::tmK,bx',fr',(bx'.length,fr'.length)⟩ (X.at Q ee)) :
  AWm R b0 P (.region id os.toArray false) ⟨n,tm,bx,fr,ee⟩ Q:=
 Nf hR Jn hd1 hd2 (by rw[<- hk1,<- hk2,List.take_append_drop]) h1 hlt hj hb hf hn hy h2
theorem YZ [Known]{t p q f ty aid:Nat}{pos:String}{after:Array Edge}{cap:List D}{body:Code}(J:Nat->List (List D)->List Fr->Prop)(by_:Nat->Bool)(N:Nat)(hf:QP P f=true)(hp:Nat.blt p n=true)(hq1:Nat.blt q n=true)
  (hd:look tm t=.fn f cap) (h0:J 0 bx fr) (hit:ItOk P f cap J by_ N)
  (hb:∀ i bx' fr',i<N->by_ i=false->J i bx' fr' -> @AWr _ dfr0 P body ⟨n,(q,.int .i64 (i:Int))::(p,.int .i64 (i:Int))::tm,bx',fr',(bx'.length,fr'.length)⟩ (X.then (LandS (fun _ _ bx fr=>J (i+1) bx fr) n (bx'.length,fr'.length) 1) fun _ _=>False))
  (hq:∀ bx' fr',J N bx' fr'->Q .norm ⟨n,tm,bx',fr',ee⟩):AWm (Xa b0.w.heap.size) b0 P (.rangeFunc (.tmp t) #[p] (.region aid (List.toArray [⟨some q,.assign (.tmp p),ty,pos,after,none⟩]) false) body) ⟨n,tm,bx,fr,ee⟩ Q:=
 Ng J by_ N (fun i=>(q,.int .i64 (i:Int))::(p,.int .i64 (i:Int))::tm) hd (Vm hf) hp h0 hit (fun i bx' fr' _ _=>by
  refine @Wx _ _ _ _ dfr0 _ _ rfl ?_
  have hl:nf (ev ((p,D.int .i64 (i:Int))::tm) (.tmp p))=some (.int .i64 (i:Int)):=by
   show nf (look ((p,D.int .i64 (i:Int))::tm) p)=some (.int .i64 (i:Int))
   simp[look,nf]
  exact KT hl hq1 (XR rfl)) hb hq
end
end Go.Av
end

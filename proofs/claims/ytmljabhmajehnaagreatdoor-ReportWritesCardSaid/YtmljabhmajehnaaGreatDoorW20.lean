/- The document's answers for names: a number in a text. -/
import Derived.Test.YtmljabhmajehnaaGreatDoorW19
import Derived.Test.YtmljabhmajehnaaGreatDoorW12
set_option linter.unusedVariables false
set_option linter.unusedSimpArgs false
section
open Go.RowKit Go.Pl Go.Av
namespace Go.Proofs.YtmljabhmajehnaaGreatDoor
set_option maxHeartbeats 1000000
theorem Iw:∀(f a:Nat) (r:List UInt8),(Wb f a r).2<=r.length/\(Wb f a r).2<=f
 | 0,a,r=>by simp[Wb]
 | f+1,a,[]=>by simp[Wb]
 | f+1,a,c::r=>by
  rw[Wb]
  split
  ·have:=Iw f (10*a+(c.toNat-48)) r
   simp;omega
  ·simp
theorem KO [Known](s:List UInt8)(at0:Nat)(hs:s.length<=1099511627776)(h0:at0<=s.length):AP Tryz.prog 178 [.str s,.int .i64 (at0:Int)] (.tup [.int .u64 ((Wb 11 0 (s.drop at0)).1:Int),.int .i64 ((at0+(Wb 11 0 (s.drop at0)).2:Nat):Int)]) []:=by
 refine AP.ofA (Zl Tryz.func178 Z Tryz.ntmps178 Z Z ?_)
 repeat'(first|(apply Zf Za;exact Z))
 refine ZQ (fun k tm bx fr=>∃(i n a:Nat),k+i=11/\n<10 ^ i/\a<=s.length/\(Wb k n (s.drop a)).1=(Wb 11 0 (s.drop at0)).1/\a+(Wb k n (s.drop a)).2=at0+(Wb 11 0 (s.drop at0)).2/\tm=[(0,.str s),(1,.int .i64 (a:Int)),(4,.int .u64 0),(5,.int .i64 0),(6,.int .u64 (n:Int)),(7,.int .i64 (i:Int))]/\bx=[]/\fr=[]) 12 (Lands.mk' (m:=11) (by omega) ⟨0,0,at0,rfl,by decide,h0,rfl,rfl,rfl,rfl,rfl⟩ ?_ rfl rfl rfl rfl rfl rfl) ?_
 ·exact .cons rfl (.cons rfl (.cons rfl (.cons rfl (.cons rfl (.cons rfl .nil)))))
 rintro k tm bx fr ⟨i,n,a,hk,hn,ha,hv,hc,rfl,rfl,rfl⟩
 have hnb:n<100000000000:=Nat.lt_of_lt_of_le hn (Nat.pow_le_pow_right (by decide) (by omega:i<=11))
 cases k with
 | zero=>
  have t1:decide ((i:Int)<11)=false:=decide_eq_false (by omega)
  repeat'(first|(apply Zi Za;exact Z)|(apply Zf Za;exact Z)|(apply Zp Za;exact Z)|refine Zt Z Z Z Qt ?_|refine Zh Z Qt Z Z ?_|refine Zg Z Qt ?_)
  all_goals(apply Zq [];(apply Zc Za;exact Z);(iterate 4 exact Z))
  ·rw[<- hv,<- hc];rfl
  all_goals rfl
 | succ k=>
  have t1:decide ((i:Int)<11)=true:=decide_eq_true (by omega)
  rcases Nat.lt_or_ge a s.length with hlt|hge
  ·have t2:decide ((a:Int)<(s.length:Int))=true:=decide_eq_true (by omega)
   obtain⟨c,hsc⟩:∃ c,s[a]?=some c:=⟨_,List.getElem?_eq_getElem hlt⟩
   have hidx:s[((a:Nat):Int).toNat]?=some c:=by simpa using hsc
   have hdr:s.drop a=c::s.drop (a+1):=by
    rw[List.drop_eq_getElem_cons hlt];congr 1
    exact(List.getElem?_eq_some_iff.1 hsc).2
   rw[hdr,Wb]at hv hc
   by_cases h48:48<=c.toNat
   ·have t3:decide ((c.toNat:Int) ≥ 48)=true:=decide_eq_true (by omega)
    by_cases h57:c.toNat<=57
    ·have t4:decide ((c.toNat:Int)<=57)=true:=decide_eq_true (by omega)
     rw[if_pos (Xn.2 ⟨h48,h57⟩)]at hv hc
     have e1:IntKind.u64.wrap (10*(n:Int))=((10*n:Nat):Int):=by rw[IntWalk.u64_in _ (by omega)];omega
     have e2:IntKind.u64.wrap (c.toNat:Int)=(c.toNat:Int):=IntWalk.u64_in _ (by omega)
     have e3:IntKind.u64.wrap (((10*n:Nat):Int)+(c.toNat:Int))=((10*n+c.toNat:Nat):Int):=by rw[IntWalk.u64_in _ (by omega)];omega
     have e4:IntKind.u64.wrap (((10*n+c.toNat:Nat):Int)-48)=((10*n+(c.toNat-48):Nat):Int):=by rw[IntWalk.u64_in _ (by omega)];omega
     have e5:IntKind.i64.wrap ((a:Int)+1)=((a+1:Nat):Int):=by rw[IntWalk.i64_in _ (by omega)];omega
     have e6:IntKind.i64.wrap ((i:Int)+1)=((i+1:Nat):Int):=by rw[IntWalk.i64_in _ (by omega)];omega
     repeat'(first|rw[e1]|rw[e2]|rw[e3]|rw[e4]|rw[e5]|rw[e6]|refine Vq Za Z Z Z Z Z (Int.natCast_nonneg _) hidx ?_|(apply Zi Za;exact Z)|(apply Zf Za;exact Z)|(apply Zp Za;exact Z)|refine Ze Z Z Z Qt ?_|refine Zj Z Qt Z Z ?_|refine Zd Z Qt ?_|refine Yf Za Z Z Z Z ?_)
     refine Lands.mk' (m:=k) (by omega) ⟨i+1,10*n+(c.toNat-48),a+1,by omega,by rw[Nat.pow_succ];omega,by omega,hv,by omega,rfl,rfl,rfl⟩ ?_ rfl rfl rfl rfl rfl rfl
     exact .cons rfl (.cons rfl (.cons rfl (.cons rfl (.cons rfl (.cons rfl .nil)))))
    ·have t4:decide ((c.toNat:Int)<=57)=false:=decide_eq_false (by omega)
     rw[if_neg (fun h=>h57 (Xn.1 h).2)]at hv hc
     repeat'(first|refine Vq Za Z Z Z Z Z (Int.natCast_nonneg _) hidx ?_|(apply Zi Za;exact Z)|(apply Zf Za;exact Z)|(apply Zp Za;exact Z)|refine Ze Z Z Z Qt ?_|refine Zj Z Qt Z Z ?_|refine Zg Z Qt ?_|refine Yf Za Z Z Z Z ?_)
     all_goals(apply Zq [];(apply Zc Za;exact Z);(iterate 4 exact Z))
     ·rw[<- hv,<- hc];rfl
     all_goals rfl
   ·have t3:decide ((c.toNat:Int) ≥ 48)=false:=decide_eq_false (by omega)
    rw[if_neg (fun h=>h48 (Xn.1 h).1)]at hv hc
    repeat'(first|refine Vq Za Z Z Z Z Z (Int.natCast_nonneg _) hidx ?_|(apply Zi Za;exact Z)|(apply Zf Za;exact Z)|(apply Zp Za;exact Z)|refine Ze Z Z Z Qt ?_|refine Zt Z Z Z Qt ?_|refine Zj Z Qt Z Z ?_|refine Zh Z Qt Z Z ?_|refine Zg Z Qt ?_|refine Yf Za Z Z Z Z ?_)
    all_goals(apply Zq [];(apply Zc Za;exact Z);(iterate 4 exact Z))
    ·rw[<- hv,<- hc];rfl
    all_goals rfl
  ·have t2:decide ((a:Int)<(s.length:Int))=false:=decide_eq_false (by omega)
   rw[List.drop_of_length_le hge,Wb]at hv hc
   repeat'(first|(apply Zi Za;exact Z)|(apply Zf Za;exact Z)|(apply Zp Za;exact Z)|refine Ze Z Z Z Qt ?_|refine Zt Z Z Z Qt ?_|refine Zj Z Qt Z Z ?_|refine Zh Z Qt Z Z ?_|refine Zg Z Qt ?_|refine Yf Za Z Z Z Z ?_)
   all_goals(apply Zq [];(apply Zc Za;exact Z);(iterate 4 exact Z))
   ·rw[<- hv,<- hc];rfl
   all_goals rfl
end Go.Proofs.YtmljabhmajehnaaGreatDoor
end
section
open Go.RowKit Go.Pl
namespace Go.Av
inductive Zy where
 | pu (d:D)
 | al (cs:List D)
def z0 (p:Nat × Zy):Nat × D:=(p.1,match p.2 with | .pu d=>d | .al _=>.junk)
def LZ:Nat->List (Nat × Zy)->List (Nat × D)->List (Nat × D)
 | _,[],tm=>tm
 | m,(_,.pu _)::zs,tm=>LZ m zs tm
 | m,(t,.al _)::zs,tm=>LZ (m+1) zs ((t,.ptr m 0)::tm)
def zcs:List (Nat × Zy)->List (List D)
 | []=>[]
 | (_,.pu _)::zs=>zcs zs
 | (_,.al cs)::zs=>cs::zcs zs
section
variable {P:Program} {T:Tab} {Q:X->St->Prop} {n:Nat} {ee:Nat × Nat} {tm tm':List (Nat × D)} {bx:List (List D)} {fr:List Fr} {b0:Bs} {g g':G} {w w':World} {a:Act}
inductive AZ [Known][Dfr](P:Program) (T:Tab) (l:List Oper) (n:Nat) (bx:List (List D)) (fr:List Fr):List Oper->List (Nat × D)->List (Nat × Zy)->List (Nat × D)->Prop
 | nil (tm:List (Nat × D)):AZ P T l n bx fr [] tm [] tm
 | pu (o:Oper) (rest:List Oper) (t:Nat) (d:D) (tm:List (Nat × D)) (zs:List (Nat × Zy)) (tm':List (Nat × D)) (hd:o.dst=some t) (ht:Nat.blt t n=true) (h:AL P l.toArray [o] ⟨n,Yq l o tm,bx,fr,(bx.length,fr.length)⟩ (qY o bx fr (.pu d))) (k:AZ P T l n bx fr rest ((t,d)::tm) zs tm'):AZ P T l n bx fr (o::rest) tm ((t,.pu d)::zs) tm'
 | al (t:Nat) (e:TypeId) (ty:Nat) (pos:String) (after:Array Edge) (rest:List Oper) (ti:Ti) (tm:List (Nat × D)) (zs:List (Nat × Zy)) (tm':List (Nat × D)) (ht:Nat.blt t n=true) (hti:tl T e=some ti) (k:AZ P T l n bx fr rest ((t,.junk)::tm) zs tm'):AZ P T l n bx fr (⟨some t,.alloc e,ty,pos,after,none⟩::rest) tm ((t,.al (ti.zero.map ZK.d))::zs) tm'
theorem Uv (l:List Oper)(o:Oper):∀ tm:List (Nat × D),Yq l o tm=tm.filter fun p=>(Wo l o).contains p.1
 | []=>rfl
 | p::tm=>by
  rw[Yq,List.filter_cons,Uv l o tm]
  cases(Wo l o).contains p.1<;>rfl
theorem Evo.al [Known](hm:Mem g bx fr w)(o:Obj):Evo ⟨g,fr,w⟩ ⟨g,fr,w.alloc o⟩:=
 ⟨rfl,rfl,rfl,by simp,fun k hk _=>Below.heap_alloc w _ k hk,fun _ _ h=>h,fun k p h=>W1 w _ (hm.Clt k p h) p,fun _ _ h=>.inl h,fun _ _ h=>h,fun _ h=>.inl h,fun k c h=>.inl ⟨c,h⟩,WI.refl _ _⟩
theorem Mem.al [Known](hm:Mem g bx fr w)(o:Obj):Mem g bx fr (w.alloc o) where
 bl:=hm.bl
 bat i k cs' h1 h2:=by
  obtain⟨us,ty,k1,k2,k3⟩:=hm.bat i k cs' h1 h2
  exact⟨us,ty,(Below.heap_alloc w _ k (Array.getElem?_eq_some_iff.1 k1).1).trans k1,k2,fun j d v hd hv=>(k3 j d v hd hv).evo (Evo.al hm o)⟩
 bC:=hm.bC
 bN:=hm.bN
 tl:=hm.tl
 tat i k c f h1 h2:=by
  have hT:=hm.tat i k c f h1 h2
  obtain⟨cur,r1,r2⟩:=hT.row
  exact⟨⟨cur,(Below.heap_alloc w _ k (Array.getElem?_eq_some_iff.1 r1).1).trans r1,r2⟩,hT.le,hT.max,hT.pos,hT.far⟩
 tN:=hm.tN
 tρ:=hm.tρ
 Clt k p hC:=by
  have:=hm.Clt k p hC
  simp;omega
 gl:=hm.gl.evo (Evo.al hm o)
theorem NI {k k':Nat}(h:M ⟨g.C,g.ρ++[k],g.τ⟩ k'):M g k'\/k'=k:=by
 rcases h with h|h
 ·rcases List.mem_append.1 h with h|h
  ·exact .inl (.inl h)
  ·simp at h;exact .inr h
 ·exact .inl (.inr h)
structure AZk [Known][Dfr](P:Program) (l acts:List Oper) (n:Nat) (zs:List (Nat × Zy)) (tm:List (Nat × D)) (bx:List (List D)) (fr:List Fr) (ee:Nat × Nat) (Q:X->St->Prop):Prop where
 run:AL P l.toArray acts ⟨n,LZ bx.length zs tm,bx++zcs zs,fr,ee⟩ Q
end
end Go.Av
end
section
open Go.RowKit Go.Pl
namespace Go.Av
inductive Wy where
 | pu (d:D)
 | al (cs:List D)
 | st (t:Nat) (cs:List D)
def wK (K:Nat->Nat)(p:Nat × Wy):Nat × D:=(p.1,match p.2 with | .pu d=>d | .al _=>.gptr (K p.1) 0 | .st _ _=>.junk)
def wJ (p:Nat × Wy):Nat × D:=(p.1,match p.2 with | .pu d=>d | .al _=>.junk | .st _ _=>.junk)
def XR:Nat->List (Nat × Wy)->List (Nat × D)->List (Nat × D)
 | _,[],tm=>tm
 | m,(_,.pu _)::zs,tm=>XR m zs tm
 | m,(t,.al _)::zs,tm=>XR (m+1) zs ((t,.ptr m 0)::tm)
 | m,(_,.st _ _)::zs,tm=>XR m zs tm
def stO (p:Nat->Bool):Nat->List (Nat × Wy)->Nat->Option (List D)
 | _,[],_=>none
 | i,(_,.st t cs)::zs,x=>match Nat.beq t x&&p i with
  | true=>some cs
  | false=>stO p (i+1) zs x
 | i,(_,.pu _)::zs,x=>stO p (i+1) zs x
 | i,(_,.al _)::zs,x=>stO p (i+1) zs x
theorem VB {p q:Nat->Bool}{x:Nat}:∀ {zs:List (Nat × Wy)} {i:Nat},(∀ j u cs,zs[j]?=some (u,Wy.st x cs)->p (i+j)=q (i+j))->stO p i zs x=stO q i zs x
 | [],i,h=>rfl
 | (u,y)::zs,i,h=>by
  have h2:=VB (p:=p) (q:=q) (x:=x) (zs:=zs) (i:=i+1) fun j u cs hj=>by
   have:=h (j+1) u cs (by simpa using hj)
   rw[show i+1+j=i+(j+1) by omega];exact this
  cases y with
  | pu d=>simp only[stO];exact h2
  | al cs=>simp only[stO];exact h2
  | st t cs=>
   simp only[stO]
   cases hb:Nat.beq t x with
   | false=>simp only[Bool.false_and];exact h2
   | true=>
    have e:=Nat.eq_of_beq_eq_true hb
    subst e
    have:=h 0 u cs (by simp)
    simp only[Nat.add_zero]at this
    rw[this,h2]
theorem Ix {p:Nat->Bool}{x:Nat}{zs:List (Nat × Wy)}{i:Nat}(h:∀ j u cs,zs[j]?=some (u,Wy.st x cs)->p (i+j)=false):stO p i zs x=none:=by
 rw[VB (q:=fun _=>false) h]
 clear h
 induction zs generalizing i with
 | nil=>rfl
 | cons z zs ih=>
  obtain⟨u,y⟩:=z
  cases y<;>simp only[stO,Bool.and_false]<;>exact ih
theorem Iy {p:Nat->Bool}{x:Nat}{cs:List D}:∀ {zs:List (Nat × Wy)} {i j u:Nat},zs[j]?=some (u,Wy.st x cs)->p (i+j)=true->(∀ j' u' cs',zs[j']?=some (u',Wy.st x cs')->j'=j)->stO p i zs x=some cs
 | [],i,j,u,h,_,_=>by simp at h
 | (u0,y)::zs,i,0,u,h,hp,hu=>by
  simp at h
  obtain⟨rfl,rfl⟩:=h
  simp only[stO,Nat.beq_refl,Bool.true_and]
  rw[show p i=true from hp]
 | (u0,y)::zs,i,j+1,u,h,hp,hu=>by
  have ih:=Iy (p:=p) (x:=x) (cs:=cs) (zs:=zs) (i:=i+1) (j:=j) (u:=u) (by simpa using h) (by rw[show i+1+j=i+(j+1) by omega];exact hp) fun j' u' cs' hj=>by
   have:=hu (j'+1) u' cs' (by simpa using hj);omega
  cases y with
  | pu d=>simp only[stO];exact ih
  | al cs=>simp only[stO];exact ih
  | st t cs'=>
   simp only[stO]
   have hb:Nat.beq t x=false:=by
    cases hb:Nat.beq t x with
    | false=>rfl
    | true=>
     have e:=Nat.eq_of_beq_eq_true hb
     subst e
     have:=hu 0 u0 cs' (by simp)
     omega
   rw[hb,Bool.false_and]
   exact ih
def wcs (all:List (Nat × Wy)):List (Nat × Wy)->List (List D)
 | []=>[]
 | (_,.pu _)::zs=>wcs all zs
 | (t,.al cs)::zs=>((stO (fun _=>true) 0 all t).getD cs)::wcs all zs
 | (_,.st _ _)::zs=>wcs all zs
def Ht (o:Oper):Bool:=match o.op with
 | .alloc _=>true
 | _=>false
def Iz (o:Oper):Bool:=match o.op with
 | .store _ _ _=>true
 | _=>false
def RM (l:List Oper)(m:Nat):Bool:=(l.take m).all fun o=>match o.op,o.dst with
 | .alloc _,some t=>(l.take m).all fun o'=>!(Wo l o').contains t||Iz o'
 | _,_=>true
def RN (l:List Oper)(m:Nat):Bool:=(List.range m).all fun i=>match l[i]? with
 | some o=>(match o.op with
  | .store e (.tmp ts) y=>(Wo l o).contains ts&&((match y with | .tmp tv=>(Wo l o).contains tv|_=>true) &&
   (((List.range i).any fun j=>match l[j]? with
    | some oj=>(match oj.op,oj.dst with | .alloc e',some t=>Nat.beq t ts&&Nat.beq e e' | _,_=>false)
    | none=>false) &&
   (List.range m).all fun j=>Nat.beq j i||(match l[j]? with
    | some oj=>(match oj.op with | .store _ (.tmp ts') _=>!Nat.beq ts' ts|_=>true)
    | none=>true)))
  | _=>true)
 | none=>true
section
variable {P:Program} {T:Tab} {Q:X->St->Prop} {n:Nat} {ee:Nat × Nat} {tm tm':List (Nat × D)} {bx:List (List D)} {fr:List Fr} {b0:Bs} {g g':G} {w w':World} {a:Act}
inductive AV [Known][Dfr](P:Program) (T:Tab) (l:List Oper) (n:Nat) (bx:List (List D)) (fr:List Fr):Nat->List Oper->List (Nat × D)->List (Nat × Wy)->List (Nat × D)->Prop
 | nil (i:Nat) (tm:List (Nat × D)):AV P T l n bx fr i [] tm [] tm
 | pu (i:Nat) (o:Oper) (rest:List Oper) (t:Nat) (d:D) (tm:List (Nat × D)) (zs:List (Nat × Wy)) (tm':List (Nat × D)) (hd:o.dst=some t) (hna:Ht o=false) (ht:Nat.blt t n=true) (h:AL P l.toArray [o] ⟨n,Yq l o tm,bx,fr,(bx.length,fr.length)⟩ (qY o bx fr (.pu d))) (k:AV P T l n bx fr (i+1) rest ((t,d)::tm) zs tm'):AV P T l n bx fr i (o::rest) tm ((t,.pu d)::zs) tm'
 | al (i t:Nat) (e:TypeId) (ty:Nat) (pos:String) (after:Array Edge) (rest:List Oper) (ti:Ti) (tm:List (Nat × D)) (zs:List (Nat × Wy)) (tm':List (Nat × D)) (ht:Nat.blt t n=true) (hti:tl T e=some ti) (k:AV P T l n bx fr (i+1) rest ((t,.junk)::tm) zs tm'):AV P T l n bx fr i (⟨some t,.alloc e,ty,pos,after,none⟩::rest) tm ((t,.al (ti.zero.map ZK.d))::zs) tm'
 | st (i ts:Nat) (e:TypeId) (y:Operand) (ty:Nat) (pos:String) (after:Array Edge) (rest:List Oper) (ti:Ti) (d:D) (tm:List (Nat × D)) (zs:List (Nat × Wy)) (tm':List (Nat × D)) (hy:nf (ev tm y)=some d) (ho:D.ones d.cellsOf=true) (hti:tl T e=some ti) (hs:Nat.beq d.cellsOf.length ti.size=true) (k:AV P T l n bx fr (i+1) rest ((n+i,.junk)::tm) zs tm'):AV P T l n bx fr i (⟨none,.store e (.tmp ts) y,ty,pos,after,none⟩::rest) tm ((n+i,.st ts d.cellsOf)::zs) tm'
def Wof [Known][Dfr](P:Program)(T:Tab)(l:List Oper)(n:Nat)(bx:List (List D))(fr:List Fr)(A:List (Nat × D))(o:Oper):Wy->Prop
 | .pu d=>(∃ t,o.dst=some t)/\Ht o=false/\AL P l.toArray [o] ⟨n,Yq l o A,bx,fr,(bx.length,fr.length)⟩ (qY o bx fr (.pu d))
 | .al cs=>∃(t:Nat) (e:TypeId) (ty:Nat) (pos:String) (after:Array Edge) (ti:Ti),o=⟨some t,.alloc e,ty,pos,after,none⟩/\tl T e=some ti/\cs=ti.zero.map ZK.d
 | .st ts cs=>∃(e:TypeId) (y:Operand) (ty:Nat) (pos:String) (after:Array Edge) (ti:Ti) (d:D),o=⟨none,.store e (.tmp ts) y,ty,pos,after,none⟩/\nf (ev A y)=some d/\D.ones d.cellsOf=true/\tl T e=some ti/\d.cellsOf.length=ti.size/\cs=d.cellsOf
theorem AV.steps [Known][Dfr]{l rest:List Oper}{zs:List (Nat × Wy)}{i0:Nat}(h:AV P T l n bx fr i0 rest tm zs tm'):zs.length=rest.length/\tm'=(zs.map wJ).reverse++tm /\
  ∀(i:Nat) (o:Oper),rest[i]?=some o->∃ y,zs[i]?=some (YE n (i0+i) o,y)/\UP n o=true/\Wof P T l n bx fr (((zs.take i).map wJ).reverse++tm) o y:=by
 induction h with
 | nil i tm=>exact⟨rfl,rfl,fun i o h=>by simp at h⟩
 | pu i o rest t d tm zs tm' hd hna ht h k ih=>
  obtain⟨h1,h2,h3⟩:=ih
  refine⟨by simp[h1],by rw[h2];simp[wJ],fun j o' ho=>?_⟩
  cases j with
  | zero=>
   simp at ho;subst ho
   exact⟨.pu d,by simp[YE,hd],by simp only[UP,hd,ht],⟨t,hd⟩,hna,by simpa using h⟩
  | succ j=>
   simp at ho
   obtain⟨y,q1,q2,q3⟩:=h3 j o' ho
   refine⟨y,by rw[show i+(j+1)=i+1+j by omega];simpa using q1,q2,?_⟩
   have e:((((t,Wy.pu d)::zs).take (j+1)).map wJ).reverse++tm=((zs.take j).map wJ).reverse++((t,d)::tm):=by simp[wJ]
   rw[e];exact q3
 | al i t e ty pos after rest ti tm zs tm' ht hti k ih=>
  obtain⟨h1,h2,h3⟩:=ih
  refine⟨by simp[h1],by rw[h2];simp[wJ],fun j o' ho=>?_⟩
  cases j with
  | zero=>
   simp at ho;subst ho
   exact⟨.al _,by simp[YE],by simp only[UP,ht],t,e,ty,pos,after,ti,rfl,hti,rfl⟩
  | succ j=>
   simp at ho
   obtain⟨y,q1,q2,q3⟩:=h3 j o' ho
   refine⟨y,by rw[show i+(j+1)=i+1+j by omega];simpa using q1,q2,?_⟩
   have e:((((t,Wy.al (ti.zero.map ZK.d))::zs).take (j+1)).map wJ).reverse++tm=((zs.take j).map wJ).reverse++((t,.junk)::tm):=by simp[wJ]
   rw[e];exact q3
 | st i ts e y ty pos after rest ti d tm zs tm' hy ho hti hs k ih=>
  obtain⟨h1,h2,h3⟩:=ih
  refine⟨by simp[h1],by rw[h2];simp[wJ],fun j o' hoo=>?_⟩
  cases j with
  | zero=>
   simp at hoo;subst hoo
   exact⟨.st ts d.cellsOf,by simp[YE],rfl,e,y,ty,pos,after,ti,d,rfl,by simpa using hy,ho,hti,Nat.eq_of_beq_eq_true hs,rfl⟩
  | succ j=>
   simp at hoo
   obtain⟨y',q1,q2,q3⟩:=h3 j o' hoo
   refine⟨y',by rw[show i+(j+1)=i+1+j by omega];simpa using q1,q2,?_⟩
   have e:((((n+i,Wy.st ts d.cellsOf)::zs).take (j+1)).map wJ).reverse++tm=((zs.take j).map wJ).reverse++((n+i,.junk)::tm):=by simp[wJ]
   rw[e];exact q3
theorem NJ {l:List Oper}{o:Oper}{K:Nat->Nat}:∀ {zs:List (Nat × Wy)} {tm:List (Nat × D)},(∀ t cs,(t,Wy.al cs) ∈ zs->(Wo l o).contains t=false)->Yq l o ((zs.map (wK K)).reverse++tm)=Yq l o ((zs.map wJ).reverse++tm):=by
 intro zs tm h
 rw[Uv,Uv,List.filter_append,List.filter_append,List.filter_reverse,List.filter_reverse]
 congr 2
 induction zs with
 | nil=>rfl
 | cons p zs ih=>
  obtain⟨t,y⟩:=p
  rw[List.map_cons,List.map_cons,List.filter_cons,List.filter_cons,ih fun t cs hm=>h t cs (List.mem_cons_of_mem _ hm)]
  cases y with
  | pu d=>rfl
  | st t' cs=>rfl
  | al cs=>
   have:=h t cs (List.mem_cons_self ..)
   simp only[wK,wJ,this]
   rfl
theorem Oz {K:Nat->Nat}{x:Nat}{tm:List (Nat × D)}:∀(zs:List (Nat × Wy)),look (zs.map wJ++tm) x=look (zs.map (wK K)++tm) x\/look (zs.map wJ++tm) x=.junk
 | []=>.inl rfl
 | (t,y)::zs=>by
  rw[List.map_cons,List.map_cons,List.cons_append,List.cons_append]
  cases hb:Nat.beq t x with
  | true=>
   cases y with
   | pu d=>left;simp only[wJ,wK,look,hb]
   | al cs=>right;simp only[wJ,look,hb]
   | st t' cs=>right;simp only[wJ,look,hb]
  | false=>
   have h1:look (wJ (t,y)::(zs.map wJ++tm)) x=look (zs.map wJ++tm) x:=by simp only[wJ,look,hb]
   have h2:look (wK K (t,y)::(zs.map (wK K)++tm)) x=look (zs.map (wK K)++tm) x:=by simp only[wK,look,hb]
   rw[h1,h2]
   exact Oz zs
def Goo (b0:Bs)(g:G)(fr:List Fr)(w:World)(k:Nat)(cs:List D):Prop:=b0.w.heap.size<=k/\¬ M g k/\(∀ o,¬ g.C k o)/\∃ vs ty,w.heap[k]?=some (.cells vs ty (0,0))/\(vs.size=cs.length/\D.isRow cs=false)/\∀(j:Nat) (d:D) (v:Value),cs[j]?=some d->vs[j]?=some v->V w g fr d v
theorem Goo.lt {k:Nat}{cs:List D}(h:Goo b0 g fr w k cs):k<w.heap.size:=by
 obtain⟨_,_,_,vs,ty,h1,_⟩:=h
 exact(Array.getElem?_eq_some_iff.1 h1).1
theorem Goo.evo {k:Nat}{cs:List D}{fr':List Fr}(h:Goo b0 g fr w k cs)(e:Evo ⟨g,fr,w⟩ ⟨g',fr',w'⟩):Goo b0 g' fr' w' k cs:=by
 have hlt:=h.lt
 obtain⟨h1,h2,h3,vs,ty,h4,h5,h6⟩:=h
 refine⟨h1,fun hm=>?_,fun o hc=>?_,vs,ty,(e.block k hlt h2).trans h4,h5,fun j d v hd hv=>(h6 j d v hd hv).evo e⟩
 ·rcases e.own hm with hm|hm
  ·exact h2 hm
  ·exact absurd hlt (Nat.not_lt.2 hm)
 ·rcases e.newC k o hc with hc|hc|hc
  ·exact h3 o hc
  ·exact absurd hlt (Nat.not_lt.2 hc)
  ·exact h2 hc
theorem Inv.addW [Known][Dfr]{k t:Nat}{cs:List D}(hi:Inv b0 ⟨n,tm,bx,fr,ee⟩ g a w)(hG:Goo b0 g fr w k cs)(ht:a.tmps.getD t undef=.pointer (some ⟨k,0,none⟩)):Inv b0 ⟨n,(t,.ptr bx.length 0)::tm,bx++[cs],fr,ee⟩ ⟨g.C,g.ρ++[k],g.τ⟩ a w:=by
 obtain⟨h1,h2,h3,vs,ty,h4,h5,h6⟩:=hG
 have hm:=hi.mem
 have hρ:∀(i b:Nat),g.ρ[i]?=some b->(g.ρ++[k])[i]?=some b:=fun i b h=>(List.getElem?_append_left (List.getElem?_eq_some_iff.1 h).1).trans h
 have hV:∀ {d:D} {v:Value},V w g fr d v->V w ⟨g.C,g.ρ++[k],g.τ⟩ fr d v:=fun h=>h.mono (fun _ _ h=>h) (fun _ _ _=>rfl) hρ (WI.refl g fr)
 have hget:∀(i b:Nat),(g.ρ++[k])[i]?=some b->g.ρ[i]?=some b\/(i=g.ρ.length/\b=k):=fun i b h=>by
  rcases Nat.lt_or_ge i g.ρ.length with hlt|hge
  ·rw[List.getElem?_append_left hlt]at h;exact .inl h
  ·rw[List.getElem?_append_right hge]at h
   have h0:i-g.ρ.length=0:=by have:=(List.getElem?_eq_some_iff.1 h).1;simp at this;omega
   simp[h0]at h
   exact .inr ⟨by omega,h.symm⟩
 refine⟨hi.size,hi.defers,⟨?_,?_,?_,?_,hm.tl,?_,hm.tN,?_,hm.Clt,hm.gl⟩,fun x=>?_,⟨hi.evo.os,hi.evo.tape,hi.evo.output,hi.evo.size,hi.evo.block,hi.evo.C,hi.evo.cell,hi.evo.newC,fun i b h=>hρ i b (hi.evo.ρp i b h),fun b h=>?_,hi.evo.τn,hi.evo.tok⟩,hi.bd⟩
 ·simp[hm.bl]
 ·intro i b cs' e1 e2
  rcases hget i b e1 with e3|⟨rfl,rfl⟩
  ·have hlt:i<bx.length:=by rw[<- hm.bl];exact(List.getElem?_eq_some_iff.1 e3).1
   rw[List.getElem?_append_left hlt]at e2
   obtain⟨us,ty',k1,k2,k3⟩:=hm.bat i b cs' e3 e2
   exact⟨us,ty',k1,k2,fun j d v hd hv=>hV (k3 j d v hd hv)⟩
  ·rw[List.getElem?_append_right (by rw[hm.bl];exact Nat.le_refl _),hm.bl]at e2
   simp at e2;subst e2
   exact⟨vs,ty,h4,G0 h5.1 h5.2,fun j d v hd hv=>hV (h6 j d v (by rw[Qw h5.2]at hd;exact hd) hv)⟩
 ·intro b o hb hC
  rcases List.mem_append.1 hb with h|h
  ·exact hm.bC b o h hC
  ·simp at h;subst h
   exact h3 o hC
 ·intro i j b e1 e2
  have cross:∀ i:Nat,g.ρ[i]?=some b->b=k->False:=fun i e3 e=>by
   subst e;exact h2 (.inl (List.mem_of_getElem? e3))
  rcases hget i b e1 with e3|⟨e3,e3'⟩<;>rcases hget j b e2 with e4|⟨e4,e4'⟩
  ·exact hm.bN i j b e3 e4
  ·exact(cross i e3 e4').elim
  ·exact(cross j e4 e3').elim
  ·omega
 ·intro i b c f e1 e2
  have hT:=hm.tat i b c f e1 e2
  exact⟨hT.row,hT.le,hT.max,hT.pos,hT.far⟩
 ·intro b c hb hr
  rcases List.mem_append.1 hr with h|h
  ·exact hm.tρ b c hb h
  ·simp at h;subst h
   exact h2 (.inr ⟨c,hb⟩)
 ·cases hb:Nat.beq t x with
  | true=>
   have e:=Nat.eq_of_beq_eq_true hb
   subst e
   simp only[look,hb]
   rw[ht]
   exact .ptr _ _ _ (by rw[List.getElem?_append_right (by rw[hm.bl];exact Nat.le_refl _),hm.bl];simp)
  | false=>
   simp only[look,hb]
   exact hV (hi.tm x)
 ·rcases List.mem_append.1 h with h|h
  ·exact hi.evo.ρn b h
  ·simp at h;subst h;exact .inr h1
theorem Hu [Known][Dfr]{K:Nat->Nat}{all:List (Nat × Wy)}:∀(zs:List (Nat × Wy)) (tm:List (Nat × D)) (bx:List (List D)) (g:G),Inv b0 ⟨n,tm,bx,fr,ee⟩ g a w->(∀ t cs,(t,Wy.al cs) ∈ zs->a.tmps.getD t undef=.pointer (some ⟨K t,0,none⟩)/\Goo b0 g fr w (K t) ((stO (fun _=>true) 0 all t).getD cs))->zs.Pairwise (fun p q=>p.1 ≠ q.1)->(∀ t cs t' cs',(t,Wy.al cs) ∈ zs->(t',Wy.al cs') ∈ zs->K t=K t'->t=t')->∃ g',Inv b0 ⟨n,XR bx.length zs tm,bx++wcs all zs,fr,ee⟩ g' a w
 | [],tm,bx,g,hi,_,_,_=>⟨g,by rw[XR,wcs,List.append_nil];exact hi⟩
 | (t,.pu d)::zs,tm,bx,g,hi,hA,hN,hK=>by
  rw[XR,wcs]
  exact Hu zs tm bx g hi (fun t cs h=>hA t cs (List.mem_cons_of_mem _ h)) (List.pairwise_cons.1 hN).2 (fun t cs t' cs' h h'=>hK t cs t' cs' (List.mem_cons_of_mem _ h) (List.mem_cons_of_mem _ h'))
 | (t,.st x d)::zs,tm,bx,g,hi,hA,hN,hK=>by
  rw[XR,wcs]
  exact Hu zs tm bx g hi (fun t cs h=>hA t cs (List.mem_cons_of_mem _ h)) (List.pairwise_cons.1 hN).2 (fun t cs t' cs' h h'=>hK t cs t' cs' (List.mem_cons_of_mem _ h) (List.mem_cons_of_mem _ h'))
 | (t,.al cs)::zs,tm,bx,g,hi,hA,hN,hK=>by
  rw[XR,wcs]
  obtain⟨h1,h2⟩:=hA t cs (List.mem_cons_self ..)
  have h3:=hi.addW h2 h1
  have hlen:(bx++[(stO (fun _=>true) 0 all t).getD cs]).length=bx.length+1:=by simp
  have hρ:∀(i b:Nat),g.ρ[i]?=some b->(g.ρ++[K t])[i]?=some b:=fun i b h=>(List.getElem?_append_left (List.getElem?_eq_some_iff.1 h).1).trans h
  obtain⟨g',h4⟩:=Hu (all:=all) zs _ (bx++[(stO (fun _=>true) 0 all t).getD cs]) _ h3 (fun t' cs' h=>by
   obtain⟨q1,q2,q3,q4,vs,ty,q5,q6,q7⟩:=hA t' cs' (List.mem_cons_of_mem _ h)
   refine⟨q1,q2,fun hm=>?_,q4,vs,ty,q5,q6,fun j d v hd hv=>(q7 j d v hd hv).mono (fun _ _ h=>h) (fun _ _ _=>rfl) hρ (WI.refl g fr)⟩
   rcases NI hm with hm|hm
   ·exact q3 hm
   ·have:=hK t' cs' t cs (List.mem_cons_of_mem _ h) (List.mem_cons_self ..) hm
    exact(List.pairwise_cons.1 hN).1 _ h this.symm) (List.pairwise_cons.1 hN).2 (fun t cs t' cs' h h'=>hK t cs t' cs' (List.mem_cons_of_mem _ h) (List.mem_cons_of_mem _ h'))
  rw[hlen,List.append_assoc]at h4
  exact⟨g',h4⟩
structure Turn (w w':World) (k:Nat):Prop where
 os:w'.os=w.os
 tape:w'.tape=w.tape
 output:w'.output=w.output
 size:w'.heap.size=w.heap.size
 far:∀ b,b ≠ k->w'.heap[b]?=w.heap[b]?
theorem Turn.cell {k:Nat}(h:Turn w w' k)(hC:∀ o,¬ g.C k o)(b o:Nat)(hb:g.C b o):w'.cell? ⟨b,o,none⟩=w.cell? ⟨b,o,none⟩:=
 World.cell?_of_block (w:=w) (h.far b fun e=>by subst e;exact hC o hb)
theorem V.turn {k:Nat}{d:D}{v:Value}(hv:V w g fr d v)(h:Turn w w' k)(hC:∀ o,¬ g.C k o):V w' g fr d v:=hv.mono (fun _ _ h=>h) (fun b o hb=>h.cell hC b o hb) (fun _ _ h=>h) (WI.refl g fr)
theorem Evo.turn {k:Nat}(e:Evo b0 ⟨g,fr,w⟩)(h:Turn w w' k)(hC:∀ o,¬ g.C k o)(hk:b0.w.heap.size<=k):Evo b0 ⟨g,fr,w'⟩:=
 ⟨h.os.trans e.os,h.tape.trans e.tape,h.output.trans e.output,by show _<=w'.heap.size;rw[h.size];exact e.size,fun b hb hn=>(h.far b (by omega)).trans (e.block b hb hn),e.C,fun b o hb=>(h.cell hC b o (e.C b o hb)).trans (e.cell b o hb),e.newC,e.ρp,e.ρn,e.τn,e.tok⟩
theorem Mem.turn [Known]{k:Nat}(hm:Mem g bx fr w)(h:Turn w w' k)(hM:¬ M g k)(hC:∀ o,¬ g.C k o):Mem g bx fr w' where
 bl:=hm.bl
 bat i b cs' h1 h2:=by
  obtain⟨us,ty,k1,k2,k3⟩:=hm.bat i b cs' h1 h2
  exact⟨us,ty,(h.far b fun e=>by subst e;exact hM (.inl (List.mem_of_getElem? h1))).trans k1,k2,fun j d v hd hv=>(k3 j d v hd hv).turn h hC⟩
 bC:=hm.bC
 bN:=hm.bN
 tl:=hm.tl
 tat i b c f h1 h2:=by
  have hT:=hm.tat i b c f h1 h2
  obtain⟨cur,r1,r2⟩:=hT.row
  exact⟨⟨cur,(h.far b fun e=>by subst e;exact hM (.inr ⟨c,List.mem_of_getElem? h1⟩)).trans r1,r2⟩,hT.le,hT.max,hT.pos,hT.far⟩
 tN:=hm.tN
 tρ:=hm.tρ
 Clt b p hb:=by
  have:=hm.Clt b p hb
  rw[h.size];exact this
 gl:=⟨fun b cs hb j v hv=>⟨(hm.gl.1 b cs hb j v hv).1,(h.cell hC _ _ (hm.gl.1 b cs hb j v hv).1).trans (hm.gl.1 b cs hb j v hv).2⟩,fun b t hb=>⟨(hm.gl.2 b t hb).1,(hm.gl.2 b t hb).2.imp fun v hv=>(h.cell hC _ _ (hm.gl.2 b t hb).1).trans hv⟩⟩
theorem Vn {K:Nat->Nat}{zs:List (Nat × Wy)}{i:Nat}{t:Nat}{y:Wy}(h:zs[i]?=some (t,y)):(zs.map (wK K))[i]?=some (wK K (t,y)):=by rw[List.getElem?_map,h];rfl
end
end Go.Av
end

/- Package eid: an item's numbers; an item's name. -/
import Derived.Test.YtmljabhmajehnaaDoorP22
import Derived.Test.YtmljabhmajehnaaDoorP12
import Derived.Test.YtmljabhmajehnaaDoorP15
set_option linter.unusedVariables false
set_option linter.unusedSimpArgs false
section
open Go.RowKit Go.Pl Go.Av
namespace Go.Proofs.YtmljabhmajehnaaDoor
set_option maxHeartbeats 4000000
def WG (m:Nat)(x:It):Bool:=It.beq x (.mk 0 m [] [])
def U8:It->Option (Nat × Nat)
 | .mk k _ _ [y0,y1]=>if k=4 then(match WG y0.n y0&&WG y1.n y1 with|true=>some (y0.n,y1.n)|false=>none) else none
 | _=>none
def Lw:Option (Nat × Nat)->D
 | some (a,b)=>.tup [.sl .ext [.int .u64 (a:Int),.int .u64 (b:Int)],.bool true]
 | none=>.tup [.sl .ext [],.bool false]
theorem Vn [Known](x:It)(hw:wfI x)(m:Nat)(hm:m<18446744073709551616):AP Tryd.prog 42 [itD x,.agg [.int .i64 0,.int .u64 (m:Int),.sl .ext [],.sl .ext []]] (.bool (WG m x)) []:=
 Vz x hw (.mk 0 m [] []) (by simp[wfI,wfs];omega)
theorem Ug [Known](n:Nat):AP Tryd.prog 29 [.int .u64 (n:Int)] (.agg [.int .i64 0,.int .u64 (n:Int),.sl .ext [],.sl .ext []]) []:=YL n
theorem NT [Known](x:It)(hw:wfI x):AP Tryd.prog 62 [itD x,.int .i64 2] (Lw (U8 x)) []:=by
 obtain⟨k,n,b,l⟩:=x
 obtain⟨_,_,_,hws⟩:=hw
 by_cases hk:k=4
 case neg=>
  have t1:(k != 4)=true:=by simpa using hk
  have e:U8 (.mk k n b l)=none:=by unfold U8;split<;>simp_all
  rw[e]
  refine AP.ofA (Zl Tryd.func62 Z Tryd.ntmps62 Z Z ?_)
  repeat'(first|(apply Zh Za;exact Z)|(apply Zf Za;exact Z)|(apply Zt Za;exact Z)|refine Zo Z Z Z Qt ?_|refine Zk Z Qt Z Z ?_|refine Zd Z Qt ?_)
  all_goals exact Qe
 subst hk
 have t1:((4:Int) != 4)=false:=rfl
 by_cases hl:l.length=2
 case neg=>
  have t2:(((Zp l).length:Int) != 2)=true:=by rw[Zx];simp;omega
  have e:U8 (.mk 4 n b l)=none:=by unfold U8;split<;>simp_all
  rw[e]
  refine AP.ofA (Zl Tryd.func62 Z Tryd.ntmps62 Z Z ?_)
  repeat'(first|(apply Zh Za;exact Z)|(apply Zf Za;exact Z)|(apply Zt Za;exact Z)|refine Ze Z Z Z Qt ?_|refine Zi Z Qt Z Z ?_|refine Zd Z Qt ?_|refine Zm Za Z Z Z Z ?_)
  all_goals exact Qe
 match l,hl with
 | [⟨k0,n0,b0,l0⟩,⟨k1,n1,b1,l1⟩],_=>
  have hU:=YV [It.mk k0 n0 b0 l0,It.mk k1 n1 b1 l1]
  obtain⟨hw0,hw1,_⟩:=hws
  have m0:n0<18446744073709551616:=hw0.1
  have m1:n1<18446744073709551616:=hw1.1
  have h0:=Vn _ hw0 n0 m0
  have h1:=Vn _ hw1 n1 m1
  have a0:=Ug n0
  have a1:=Ug n1
  unfold U8
  simp only[It.n,if_true]
  have t2:(((Zp [It.mk k0 n0 b0 l0,It.mk k1 n1 b1 l1]).length:Int) != 2)=false:=rfl
  have t3:decide ((0:Int)<((Zp [It.mk k0 n0 b0 l0,It.mk k1 n1 b1 l1]).length:Int))=true:=rfl
  have t4:decide ((IntKind.i64.wrap (0+1):Int)<((Zp [It.mk k0 n0 b0 l0,It.mk k1 n1 b1 l1]).length:Int))=true:=rfl
  have t5:decide ((IntKind.i64.wrap (IntKind.i64.wrap (0+1)+1):Int)<((Zp [It.mk k0 n0 b0 l0,It.mk k1 n1 b1 l1]).length:Int))=false:=rfl
  have hv0:(Zp [It.mk k0 n0 b0 l0,It.mk k1 n1 b1 l1])[Int.toNat 0]?=some (.agg [.int .i64 k0,.int .u64 (n0:Int),.sl (b0.map E.byte),.sl (Zp l0)]):=rfl
  cases c0:WG n0 (.mk k0 n0 b0 l0) with
  | false=>
   rw[c0]at h0
   refine AP.ofA (Zl Tryd.func62 Z Tryd.ntmps62 Z Z ?_)
   repeat'(first|(apply Zb (h0);kernel_rfl;(iterate 4 exact Z))|(apply Zb (a0);kernel_rfl;(iterate 4 exact Z))|refine W1 70 ?_|refine Vy ?_|(apply Zh Za;exact Z)|(apply Zf Za;exact Z)|(apply Zt Za;exact Z)|refine Ze Z Z Z Qt ?_|refine Zi Z Qt Z Z ?_|refine Zd Z Qt ?_|refine Zg Z Qt ?_|refine VM ?_|refine Zm Za Z Z Z Z ?_|(apply Zn 4 ZF;decide +kernel;kernel_rfl;kernel_rfl;kernel_rfl;exact Z;exact Z)|(apply Zr;(iterate 4 exact Z))|exact AE.nil _ _ _ _|(apply Zv;exact Z)|(apply ZA;exact Z;exact Z;decide +kernel;exact Z)|(apply ZB;exact Z)|exact AO.nil _ _ _|(apply Zq;(decide +kernel))|exact AOs.nil|exact ZG rfl rfl|(apply Zu Za;(iterate 6 exact Z);(first|exact Qt|rotate_left);(first|with_reducible assumption|decide +kernel|exact Z);(first|exact Zj rfl|with_reducible assumption|decide +kernel|rotate_left)))
   all_goals exact Qe
  | true=>
   rw[c0]at h0
   cases c1:WG n1 (.mk k1 n1 b1 l1) with
   | false=>
    rw[c1]at h1
    refine AP.ofA (Zl Tryd.func62 Z Tryd.ntmps62 Z Z ?_)
    repeat'(first|(apply Zb (h0);kernel_rfl;(iterate 4 exact Z))|(apply Zb (a0);kernel_rfl;(iterate 4 exact Z))|(apply Zb (h1);kernel_rfl;(iterate 4 exact Z))|(apply Zb (a1);kernel_rfl;(iterate 4 exact Z))|refine W1 70 ?_|refine Vy ?_|refine Ya Za Z Z Z Z Z Z (Zj rfl) (List.cons_ne_nil _ _) Z Qd Qd Z Z Z ?_|(apply Zh Za;exact Z)|(apply Zf Za;exact Z)|(apply Zt Za;exact Z)|refine Ze Z Z Z Qt ?_|refine Zi Z Qt Z Z ?_|refine Zd Z Qt ?_|refine Zg Z Qt ?_|refine VM ?_|refine Zm Za Z Z Z Z ?_|refine ZS Za Z Z Z Z Z Z Z Z Z Z Z Z ?_|(apply Zn 4 ZF;decide +kernel;kernel_rfl;kernel_rfl;kernel_rfl;exact Z;exact Z)|(apply Zr;(iterate 4 exact Z))|exact AE.nil _ _ _ _|(apply Zv;exact Z)|(apply ZA;exact Z;exact Z;decide +kernel;exact Z)|(apply ZB;exact Z)|exact AO.nil _ _ _|(apply Zq;(decide +kernel))|exact AOs.nil|exact ZG rfl rfl|(apply Zu Za;(iterate 6 exact Z);(first|exact Qt|rotate_left);(first|with_reducible assumption|decide +kernel|exact Z);(first|exact Zj rfl|with_reducible assumption|decide +kernel|rotate_left)))
    all_goals exact Qe
   | true=>
    rw[c1]at h1
    refine AP.ofA (Zl Tryd.func62 Z Tryd.ntmps62 Z Z ?_)
    repeat'(first|(apply Zb (h0);kernel_rfl;(iterate 4 exact Z))|(apply Zb (a0);kernel_rfl;(iterate 4 exact Z))|(apply Zb (h1);kernel_rfl;(iterate 4 exact Z))|(apply Zb (a1);kernel_rfl;(iterate 4 exact Z))|refine W1 70 ?_|refine Vy ?_|refine Ua Za Z Z Z Z Z Z Z Z Z Z Z (Zj rfl) (Zj rfl) (List.cons_ne_nil _ _) Qd Qd Z Z ?_|refine Ya Za Z Z Z Z Z Z (Zj rfl) (List.cons_ne_nil _ _) Z Qd Qd Z Z Z ?_|(apply Zh Za;exact Z)|(apply Zf Za;exact Z)|(apply Zt Za;exact Z)|refine Ze Z Z Z Qt ?_|refine Zi Z Qt Z Z ?_|refine Zd Z Qt ?_|refine Zg Z Qt ?_|refine Zm Za Z Z Z Z ?_|refine ZS Za Z Z Z Z Z Z Z Z Z Z Z Z ?_|(apply Zn 4 ZF;decide +kernel;kernel_rfl;kernel_rfl;kernel_rfl;exact Z;exact Z)|(apply Zr;(iterate 4 exact Z))|exact AE.nil _ _ _ _|(apply Zv;exact Z)|(apply ZA;exact Z;exact Z;decide +kernel;exact Z)|(apply ZB;exact Z)|exact AO.nil _ _ _|(apply Zq;(decide +kernel))|exact AOs.nil|exact ZG rfl rfl|(apply Zu Za;(iterate 6 exact Z);(first|exact Qt|rotate_left);(first|with_reducible assumption|decide +kernel|exact Z);(first|exact Zj rfl|with_reducible assumption|decide +kernel|rotate_left)))
    all_goals exact Qe
end Go.Proofs.YtmljabhmajehnaaDoor
end
section
open Go.RowKit Go.Pl
namespace Go.Av
inductive Wy where
 | pu (d:D)
 | al (cs:List D)
 | st (t:Nat) (cs:List D)
def wK (K:Nat->Nat)(p:Nat × Wy):Nat × D:=(p.1,match p.2 with | .pu d=>d | .al _=>.gptr (K p.1) 0 | .st _ _=>.junk)
def wJ (p:Nat × Wy):Nat × D:=(p.1,match p.2 with | .pu d=>d | .al _=>.junk | .st _ _=>.junk)
def Xa:Nat->List (Nat × Wy)->List (Nat × D)->List (Nat × D)
 | _,[],tm=>tm
 | m,(_,.pu _)::zs,tm=>Xa m zs tm
 | m,(t,.al _)::zs,tm=>Xa (m+1) zs ((t,.ptr m 0)::tm)
 | m,(_,.st _ _)::zs,tm=>Xa m zs tm
def stO (p:Nat->Bool):Nat->List (Nat × Wy)->Nat->Option (List D)
 | _,[],_=>none
 | i,(_,.st t cs)::zs,x=>match Nat.beq t x&&p i with
  | true=>some cs
  | false=>stO p (i+1) zs x
 | i,(_,.pu _)::zs,x=>stO p (i+1) zs x
 | i,(_,.al _)::zs,x=>stO p (i+1) zs x
theorem Vf {p q:Nat->Bool}{x:Nat}:∀ {zs:List (Nat × Wy)} {i:Nat},(∀ j u cs,zs[j]?=some (u,Wy.st x cs)->p (i+j)=q (i+j))->stO p i zs x=stO q i zs x
 | [],i,h=>rfl
 | (u,y)::zs,i,h=>by
  have h2:=Vf (p:=p) (q:=q) (x:=x) (zs:=zs) (i:=i+1) fun j u cs hj=>by
   have:=h (j+1) u cs (by simpa using hj)
   rw[show i+1+j=i+(j+1) by omega];exact this
  cases y with
  | pu d=>simp only[stO];exact h2
  | al cs=>simp only[stO];exact h2
  | st t cs=>
   simp only[stO]
   cases hb:Nat.beq t x with
   | false=>simp only[Bool.false_and];exact h2
   | true=>
    have e:=Nat.eq_of_beq_eq_true hb
    subst e
    have:=h 0 u cs (by simp)
    simp only[Nat.add_zero]at this
    rw[this,h2]
theorem OO {p:Nat->Bool}{x:Nat}{zs:List (Nat × Wy)}{i:Nat}(h:∀ j u cs,zs[j]?=some (u,Wy.st x cs)->p (i+j)=false):stO p i zs x=none:=by
 rw[Vf (q:=fun _=>false) h]
 clear h
 induction zs generalizing i with
 | nil=>rfl
 | cons z zs ih=>
  obtain⟨u,y⟩:=z
  cases y<;>simp only[stO,Bool.and_false]<;>exact ih
theorem OP {p:Nat->Bool}{x:Nat}{cs:List D}:∀ {zs:List (Nat × Wy)} {i j u:Nat},zs[j]?=some (u,Wy.st x cs)->p (i+j)=true->(∀ j' u' cs',zs[j']?=some (u',Wy.st x cs')->j'=j)->stO p i zs x=some cs
 | [],i,j,u,h,_,_=>by simp at h
 | (u0,y)::zs,i,0,u,h,hp,hu=>by
  simp at h
  obtain⟨rfl,rfl⟩:=h
  simp only[stO,Nat.beq_refl,Bool.true_and]
  rw[show p i=true from hp]
 | (u0,y)::zs,i,j+1,u,h,hp,hu=>by
  have ih:=OP (p:=p) (x:=x) (cs:=cs) (zs:=zs) (i:=i+1) (j:=j) (u:=u) (by simpa using h) (by rw[show i+1+j=i+(j+1) by omega];exact hp) fun j' u' cs' hj=>by
   have:=hu (j'+1) u' cs' (by simpa using hj);omega
  cases y with
  | pu d=>simp only[stO];exact ih
  | al cs=>simp only[stO];exact ih
  | st t cs'=>
   simp only[stO]
   have hb:Nat.beq t x=false:=by
    cases hb:Nat.beq t x with
    | false=>rfl
    | true=>
     have e:=Nat.eq_of_beq_eq_true hb
     subst e
     have:=hu 0 u0 cs' (by simp)
     omega
   rw[hb,Bool.false_and]
   exact ih
def wcs (all:List (Nat × Wy)):List (Nat × Wy)->List (List D)
 | []=>[]
 | (_,.pu _)::zs=>wcs all zs
 | (t,.al cs)::zs=>((stO (fun _=>true) 0 all t).getD cs)::wcs all zs
 | (_,.st _ _)::zs=>wcs all zs
def Gq (o:Oper):Bool:=match o.op with
 | .alloc _=>true
 | _=>false
def OQ (o:Oper):Bool:=match o.op with
 | .store _ _ _=>true
 | _=>false
def Lx (l:List Oper)(m:Nat):Bool:=(l.take m).all fun o=>match o.op,o.dst with
 | .alloc _,some t=>(l.take m).all fun o'=>!(YQ l o').contains t||OQ o'
 | _,_=>true
def Ly (l:List Oper)(m:Nat):Bool:=(List.range m).all fun i=>match l[i]? with
 | some o=>(match o.op with
  | .store e (.tmp ts) y=>(YQ l o).contains ts&&((match y with | .tmp tv=>(YQ l o).contains tv|_=>true) &&
   (((List.range i).any fun j=>match l[j]? with
    | some oj=>(match oj.op,oj.dst with | .alloc e',some t=>Nat.beq t ts&&Nat.beq e e' | _,_=>false)
    | none=>false) &&
   (List.range m).all fun j=>Nat.beq j i||(match l[j]? with
    | some oj=>(match oj.op with | .store _ (.tmp ts') _=>!Nat.beq ts' ts|_=>true)
    | none=>true)))
  | _=>true)
 | none=>true
section
variable {P:Program} {T:Tab} {Q:X->St->Prop} {n:Nat} {ee:Nat × Nat} {tm tm':List (Nat × D)} {bx:List (List D)} {fr:List Fr} {b0:Bs} {g g':G} {w w':World} {a:Act}
inductive AV [Known][Dfr](P:Program) (T:Tab) (l:List Oper) (n:Nat) (bx:List (List D)) (fr:List Fr):Nat->List Oper->List (Nat × D)->List (Nat × Wy)->List (Nat × D)->Prop
 | nil (i:Nat) (tm:List (Nat × D)):AV P T l n bx fr i [] tm [] tm
 | pu (i:Nat) (o:Oper) (rest:List Oper) (t:Nat) (d:D) (tm:List (Nat × D)) (zs:List (Nat × Wy)) (tm':List (Nat × D)) (hd:o.dst=some t) (hna:Gq o=false) (ht:Nat.blt t n=true) (h:AL P l.toArray [o] ⟨n,Z6 l o tm,bx,fr,(bx.length,fr.length)⟩ (qY o bx fr (.pu d))) (k:AV P T l n bx fr (i+1) rest ((t,d)::tm) zs tm'):AV P T l n bx fr i (o::rest) tm ((t,.pu d)::zs) tm'
 | al (i t:Nat) (e:TypeId) (ty:Nat) (pos:String) (after:Array Edge) (rest:List Oper) (ti:Ti) (tm:List (Nat × D)) (zs:List (Nat × Wy)) (tm':List (Nat × D)) (ht:Nat.blt t n=true) (hti:tl T e=some ti) (k:AV P T l n bx fr (i+1) rest ((t,.junk)::tm) zs tm'):AV P T l n bx fr i (⟨some t,.alloc e,ty,pos,after,none⟩::rest) tm ((t,.al (ti.zero.map ZK.d))::zs) tm'
 | st (i ts:Nat) (e:TypeId) (y:Operand) (ty:Nat) (pos:String) (after:Array Edge) (rest:List Oper) (ti:Ti) (d:D) (tm:List (Nat × D)) (zs:List (Nat × Wy)) (tm':List (Nat × D)) (hy:nf (ev tm y)=some d) (ho:D.ones d.cellsOf=true) (hti:tl T e=some ti) (hs:Nat.beq d.cellsOf.length ti.size=true) (k:AV P T l n bx fr (i+1) rest ((n+i,.junk)::tm) zs tm'):AV P T l n bx fr i (⟨none,.store e (.tmp ts) y,ty,pos,after,none⟩::rest) tm ((n+i,.st ts d.cellsOf)::zs) tm'
def Wof [Known][Dfr](P:Program)(T:Tab)(l:List Oper)(n:Nat)(bx:List (List D))(fr:List Fr)(A:List (Nat × D))(o:Oper):Wy->Prop
 | .pu d=>(∃ t,o.dst=some t)/\Gq o=false/\AL P l.toArray [o] ⟨n,Z6 l o A,bx,fr,(bx.length,fr.length)⟩ (qY o bx fr (.pu d))
 | .al cs=>∃(t:Nat) (e:TypeId) (ty:Nat) (pos:String) (after:Array Edge) (ti:Ti),o=⟨some t,.alloc e,ty,pos,after,none⟩/\tl T e=some ti/\cs=ti.zero.map ZK.d
 | .st ts cs=>∃(e:TypeId) (y:Operand) (ty:Nat) (pos:String) (after:Array Edge) (ti:Ti) (d:D),o=⟨none,.store e (.tmp ts) y,ty,pos,after,none⟩/\nf (ev A y)=some d/\D.ones d.cellsOf=true/\tl T e=some ti/\d.cellsOf.length=ti.size/\cs=d.cellsOf
theorem AV.steps [Known][Dfr]{l rest:List Oper}{zs:List (Nat × Wy)}{i0:Nat}(h:AV P T l n bx fr i0 rest tm zs tm'):zs.length=rest.length/\tm'=(zs.map wJ).reverse++tm /\
  ∀(i:Nat) (o:Oper),rest[i]?=some o->∃ y,zs[i]?=some (Yk n (i0+i) o,y)/\Un n o=true/\Wof P T l n bx fr (((zs.take i).map wJ).reverse++tm) o y:=by
 induction h with
 | nil i tm=>exact⟨rfl,rfl,fun i o h=>by simp at h⟩
 | pu i o rest t d tm zs tm' hd hna ht h k ih=>
  obtain⟨h1,h2,h3⟩:=ih
  refine⟨by simp[h1],by rw[h2];simp[wJ],fun j o' ho=>?_⟩
  cases j with
  | zero=>
   simp at ho;subst ho
   exact⟨.pu d,by simp[Yk,hd],by simp only[Un,hd,ht],⟨t,hd⟩,hna,by simpa using h⟩
  | succ j=>
   simp at ho
   obtain⟨y,q1,q2,q3⟩:=h3 j o' ho
   refine⟨y,by rw[show i+(j+1)=i+1+j by omega];simpa using q1,q2,?_⟩
   have e:((((t,Wy.pu d)::zs).take (j+1)).map wJ).reverse++tm=((zs.take j).map wJ).reverse++((t,d)::tm):=by simp[wJ]
   rw[e];exact q3
 | al i t e ty pos after rest ti tm zs tm' ht hti k ih=>
  obtain⟨h1,h2,h3⟩:=ih
  refine⟨by simp[h1],by rw[h2];simp[wJ],fun j o' ho=>?_⟩
  cases j with
  | zero=>
   simp at ho;subst ho
   exact⟨.al _,by simp[Yk],by simp only[Un,ht],t,e,ty,pos,after,ti,rfl,hti,rfl⟩
  | succ j=>
   simp at ho
   obtain⟨y,q1,q2,q3⟩:=h3 j o' ho
   refine⟨y,by rw[show i+(j+1)=i+1+j by omega];simpa using q1,q2,?_⟩
   have e:((((t,Wy.al (ti.zero.map ZK.d))::zs).take (j+1)).map wJ).reverse++tm=((zs.take j).map wJ).reverse++((t,.junk)::tm):=by simp[wJ]
   rw[e];exact q3
 | st i ts e y ty pos after rest ti d tm zs tm' hy ho hti hs k ih=>
  obtain⟨h1,h2,h3⟩:=ih
  refine⟨by simp[h1],by rw[h2];simp[wJ],fun j o' hoo=>?_⟩
  cases j with
  | zero=>
   simp at hoo;subst hoo
   exact⟨.st ts d.cellsOf,by simp[Yk],rfl,e,y,ty,pos,after,ti,d,rfl,by simpa using hy,ho,hti,Nat.eq_of_beq_eq_true hs,rfl⟩
  | succ j=>
   simp at hoo
   obtain⟨y',q1,q2,q3⟩:=h3 j o' hoo
   refine⟨y',by rw[show i+(j+1)=i+1+j by omega];simpa using q1,q2,?_⟩
   have e:((((n+i,Wy.st ts d.cellsOf)::zs).take (j+1)).map wJ).reverse++tm=((zs.take j).map wJ).reverse++((n+i,.junk)::tm):=by simp[wJ]
   rw[e];exact q3
theorem TD {l:List Oper}{o:Oper}{K:Nat->Nat}:∀ {zs:List (Nat × Wy)} {tm:List (Nat × D)},(∀ t cs,(t,Wy.al cs) ∈ zs->(YQ l o).contains t=false)->Z6 l o ((zs.map (wK K)).reverse++tm)=Z6 l o ((zs.map wJ).reverse++tm):=by
 intro zs tm h
 rw[WF,WF,List.filter_append,List.filter_append,List.filter_reverse,List.filter_reverse]
 congr 2
 induction zs with
 | nil=>rfl
 | cons p zs ih=>
  obtain⟨t,y⟩:=p
  rw[List.map_cons,List.map_cons,List.filter_cons,List.filter_cons,ih fun t cs hm=>h t cs (List.mem_cons_of_mem _ hm)]
  cases y with
  | pu d=>rfl
  | st t' cs=>rfl
  | al cs=>
   have:=h t cs (List.mem_cons_self ..)
   simp only[wK,wJ,this]
   rfl
theorem KO {K:Nat->Nat}{x:Nat}{tm:List (Nat × D)}:∀(zs:List (Nat × Wy)),look (zs.map wJ++tm) x=look (zs.map (wK K)++tm) x\/look (zs.map wJ++tm) x=.junk
 | []=>.inl rfl
 | (t,y)::zs=>by
  rw[List.map_cons,List.map_cons,List.cons_append,List.cons_append]
  cases hb:Nat.beq t x with
  | true=>
   cases y with
   | pu d=>left;simp only[wJ,wK,look,hb]
   | al cs=>right;simp only[wJ,look,hb]
   | st t' cs=>right;simp only[wJ,look,hb]
  | false=>
   have h1:look (wJ (t,y)::(zs.map wJ++tm)) x=look (zs.map wJ++tm) x:=by simp only[wJ,look,hb]
   have h2:look (wK K (t,y)::(zs.map (wK K)++tm)) x=look (zs.map (wK K)++tm) x:=by simp only[wK,look,hb]
   rw[h1,h2]
   exact KO zs
def Goo (b0:Bs)(g:G)(fr:List Fr)(w:World)(k:Nat)(cs:List D):Prop:=b0.w.heap.size<=k/\¬ M g k/\(∀ o,¬ g.C k o)/\∃ vs ty,w.heap[k]?=some (.cells vs ty (0,0))/\(vs.size=cs.length/\D.isRow cs=false)/\∀(j:Nat) (d:D) (v:Value),cs[j]?=some d->vs[j]?=some v->V w g fr d v
theorem Goo.lt {k:Nat}{cs:List D}(h:Goo b0 g fr w k cs):k<w.heap.size:=by
 obtain⟨_,_,_,vs,ty,h1,_⟩:=h
 exact(Array.getElem?_eq_some_iff.1 h1).1
theorem Goo.evo {k:Nat}{cs:List D}{fr':List Fr}(h:Goo b0 g fr w k cs)(e:Evo ⟨g,fr,w⟩ ⟨g',fr',w'⟩):Goo b0 g' fr' w' k cs:=by
 have hlt:=h.lt
 obtain⟨h1,h2,h3,vs,ty,h4,h5,h6⟩:=h
 refine⟨h1,fun hm=>?_,fun o hc=>?_,vs,ty,(e.block k hlt h2).trans h4,h5,fun j d v hd hv=>(h6 j d v hd hv).evo e⟩
 ·rcases e.own hm with hm|hm
  ·exact h2 hm
  ·exact absurd hlt (Nat.not_lt.2 hm)
 ·rcases e.newC k o hc with hc|hc|hc
  ·exact h3 o hc
  ·exact absurd hlt (Nat.not_lt.2 hc)
  ·exact h2 hc
theorem Inv.addW [Known][Dfr]{k t:Nat}{cs:List D}(hi:Inv b0 ⟨n,tm,bx,fr,ee⟩ g a w)(hG:Goo b0 g fr w k cs)(ht:a.tmps.getD t undef=.pointer (some ⟨k,0,none⟩)):Inv b0 ⟨n,(t,.ptr bx.length 0)::tm,bx++[cs],fr,ee⟩ ⟨g.C,g.ρ++[k],g.τ⟩ a w:=by
 obtain⟨h1,h2,h3,vs,ty,h4,h5,h6⟩:=hG
 have hm:=hi.mem
 have hρ:∀(i b:Nat),g.ρ[i]?=some b->(g.ρ++[k])[i]?=some b:=fun i b h=>(List.getElem?_append_left (List.getElem?_eq_some_iff.1 h).1).trans h
 have hV:∀ {d:D} {v:Value},V w g fr d v->V w ⟨g.C,g.ρ++[k],g.τ⟩ fr d v:=fun h=>h.mono (fun _ _ h=>h) (fun _ _ _=>rfl) hρ (We.refl g fr)
 have hget:∀(i b:Nat),(g.ρ++[k])[i]?=some b->g.ρ[i]?=some b\/(i=g.ρ.length/\b=k):=fun i b h=>by
  rcases Nat.lt_or_ge i g.ρ.length with hlt|hge
  ·rw[List.getElem?_append_left hlt]at h;exact .inl h
  ·rw[List.getElem?_append_right hge]at h
   have h0:i-g.ρ.length=0:=by have:=(List.getElem?_eq_some_iff.1 h).1;simp at this;omega
   simp[h0]at h
   exact .inr ⟨by omega,h.symm⟩
 refine⟨hi.size,hi.defers,⟨?_,?_,?_,?_,hm.tl,?_,hm.tN,?_,hm.Clt,hm.gl⟩,fun x=>?_,⟨hi.evo.os,hi.evo.tape,hi.evo.output,hi.evo.size,hi.evo.block,hi.evo.C,hi.evo.cell,hi.evo.newC,fun i b h=>hρ i b (hi.evo.ρp i b h),fun b h=>?_,hi.evo.τn,hi.evo.tok⟩,hi.bd⟩
 ·simp[hm.bl]
 ·intro i b cs' e1 e2
  rcases hget i b e1 with e3|⟨rfl,rfl⟩
  ·have hlt:i<bx.length:=by rw[<- hm.bl];exact(List.getElem?_eq_some_iff.1 e3).1
   rw[List.getElem?_append_left hlt]at e2
   obtain⟨us,ty',k1,k2,k3⟩:=hm.bat i b cs' e3 e2
   exact⟨us,ty',k1,k2,fun j d v hd hv=>hV (k3 j d v hd hv)⟩
  ·rw[List.getElem?_append_right (by rw[hm.bl];exact Nat.le_refl _),hm.bl]at e2
   simp at e2;subst e2
   exact⟨vs,ty,h4,Kt h5.1 h5.2,fun j d v hd hv=>hV (h6 j d v (by rw[Vv h5.2]at hd;exact hd) hv)⟩
 ·intro b o hb hC
  rcases List.mem_append.1 hb with h|h
  ·exact hm.bC b o h hC
  ·simp at h;subst h
   exact h3 o hC
 ·intro i j b e1 e2
  have cross:∀ i:Nat,g.ρ[i]?=some b->b=k->False:=fun i e3 e=>by
   subst e;exact h2 (.inl (List.mem_of_getElem? e3))
  rcases hget i b e1 with e3|⟨e3,e3'⟩<;>rcases hget j b e2 with e4|⟨e4,e4'⟩
  ·exact hm.bN i j b e3 e4
  ·exact(cross i e3 e4').elim
  ·exact(cross j e4 e3').elim
  ·omega
 ·intro i b c f e1 e2
  have hT:=hm.tat i b c f e1 e2
  exact⟨hT.row,hT.le,hT.max,hT.pos,hT.far⟩
 ·intro b c hb hr
  rcases List.mem_append.1 hr with h|h
  ·exact hm.tρ b c hb h
  ·simp at h;subst h
   exact h2 (.inr ⟨c,hb⟩)
 ·cases hb:Nat.beq t x with
  | true=>
   have e:=Nat.eq_of_beq_eq_true hb
   subst e
   simp only[look,hb]
   rw[ht]
   exact .ptr _ _ _ (by rw[List.getElem?_append_right (by rw[hm.bl];exact Nat.le_refl _),hm.bl];simp)
  | false=>
   simp only[look,hb]
   exact hV (hi.tm x)
 ·rcases List.mem_append.1 h with h|h
  ·exact hi.evo.ρn b h
  ·simp at h;subst h;exact .inr h1
theorem Gr [Known][Dfr]{K:Nat->Nat}{all:List (Nat × Wy)}:∀(zs:List (Nat × Wy)) (tm:List (Nat × D)) (bx:List (List D)) (g:G),Inv b0 ⟨n,tm,bx,fr,ee⟩ g a w->(∀ t cs,(t,Wy.al cs) ∈ zs->a.tmps.getD t undef=.pointer (some ⟨K t,0,none⟩)/\Goo b0 g fr w (K t) ((stO (fun _=>true) 0 all t).getD cs))->zs.Pairwise (fun p q=>p.1 ≠ q.1)->(∀ t cs t' cs',(t,Wy.al cs) ∈ zs->(t',Wy.al cs') ∈ zs->K t=K t'->t=t')->∃ g',Inv b0 ⟨n,Xa bx.length zs tm,bx++wcs all zs,fr,ee⟩ g' a w
 | [],tm,bx,g,hi,_,_,_=>⟨g,by rw[Xa,wcs,List.append_nil];exact hi⟩
 | (t,.pu d)::zs,tm,bx,g,hi,hA,hN,hK=>by
  rw[Xa,wcs]
  exact Gr zs tm bx g hi (fun t cs h=>hA t cs (List.mem_cons_of_mem _ h)) (List.pairwise_cons.1 hN).2 (fun t cs t' cs' h h'=>hK t cs t' cs' (List.mem_cons_of_mem _ h) (List.mem_cons_of_mem _ h'))
 | (t,.st x d)::zs,tm,bx,g,hi,hA,hN,hK=>by
  rw[Xa,wcs]
  exact Gr zs tm bx g hi (fun t cs h=>hA t cs (List.mem_cons_of_mem _ h)) (List.pairwise_cons.1 hN).2 (fun t cs t' cs' h h'=>hK t cs t' cs' (List.mem_cons_of_mem _ h) (List.mem_cons_of_mem _ h'))
 | (t,.al cs)::zs,tm,bx,g,hi,hA,hN,hK=>by
  rw[Xa,wcs]
  obtain⟨h1,h2⟩:=hA t cs (List.mem_cons_self ..)
  have h3:=hi.addW h2 h1
  have hlen:(bx++[(stO (fun _=>true) 0 all t).getD cs]).length=bx.length+1:=by simp
  have hρ:∀(i b:Nat),g.ρ[i]?=some b->(g.ρ++[K t])[i]?=some b:=fun i b h=>(List.getElem?_append_left (List.getElem?_eq_some_iff.1 h).1).trans h
  obtain⟨g',h4⟩:=Gr (all:=all) zs _ (bx++[(stO (fun _=>true) 0 all t).getD cs]) _ h3 (fun t' cs' h=>by
   obtain⟨q1,q2,q3,q4,vs,ty,q5,q6,q7⟩:=hA t' cs' (List.mem_cons_of_mem _ h)
   refine⟨q1,q2,fun hm=>?_,q4,vs,ty,q5,q6,fun j d v hd hv=>(q7 j d v hd hv).mono (fun _ _ h=>h) (fun _ _ _=>rfl) hρ (We.refl g fr)⟩
   rcases TC hm with hm|hm
   ·exact q3 hm
   ·have:=hK t' cs' t cs (List.mem_cons_of_mem _ h) (List.mem_cons_self ..) hm
    exact(List.pairwise_cons.1 hN).1 _ h this.symm) (List.pairwise_cons.1 hN).2 (fun t cs t' cs' h h'=>hK t cs t' cs' (List.mem_cons_of_mem _ h) (List.mem_cons_of_mem _ h'))
  rw[hlen,List.append_assoc]at h4
  exact⟨g',h4⟩
structure Turn (w w':World) (k:Nat):Prop where
 os:w'.os=w.os
 tape:w'.tape=w.tape
 output:w'.output=w.output
 size:w'.heap.size=w.heap.size
 far:∀ b,b ≠ k->w'.heap[b]?=w.heap[b]?
theorem Turn.cell {k:Nat}(h:Turn w w' k)(hC:∀ o,¬ g.C k o)(b o:Nat)(hb:g.C b o):w'.cell? ⟨b,o,none⟩=w.cell? ⟨b,o,none⟩:=
 World.cell?_of_block (w:=w) (h.far b fun e=>by subst e;exact hC o hb)
theorem V.turn {k:Nat}{d:D}{v:Value}(hv:V w g fr d v)(h:Turn w w' k)(hC:∀ o,¬ g.C k o):V w' g fr d v:=hv.mono (fun _ _ h=>h) (fun b o hb=>h.cell hC b o hb) (fun _ _ h=>h) (We.refl g fr)
theorem Evo.turn {k:Nat}(e:Evo b0 ⟨g,fr,w⟩)(h:Turn w w' k)(hC:∀ o,¬ g.C k o)(hk:b0.w.heap.size<=k):Evo b0 ⟨g,fr,w'⟩:=
 ⟨h.os.trans e.os,h.tape.trans e.tape,h.output.trans e.output,by show _<=w'.heap.size;rw[h.size];exact e.size,fun b hb hn=>(h.far b (by omega)).trans (e.block b hb hn),e.C,fun b o hb=>(h.cell hC b o (e.C b o hb)).trans (e.cell b o hb),e.newC,e.ρp,e.ρn,e.τn,e.tok⟩
theorem Mem.turn [Known]{k:Nat}(hm:Mem g bx fr w)(h:Turn w w' k)(hM:¬ M g k)(hC:∀ o,¬ g.C k o):Mem g bx fr w' where
 bl:=hm.bl
 bat i b cs' h1 h2:=by
  obtain⟨us,ty,k1,k2,k3⟩:=hm.bat i b cs' h1 h2
  exact⟨us,ty,(h.far b fun e=>by subst e;exact hM (.inl (List.mem_of_getElem? h1))).trans k1,k2,fun j d v hd hv=>(k3 j d v hd hv).turn h hC⟩
 bC:=hm.bC
 bN:=hm.bN
 tl:=hm.tl
 tat i b c f h1 h2:=by
  have hT:=hm.tat i b c f h1 h2
  obtain⟨cur,r1,r2⟩:=hT.row
  exact⟨⟨cur,(h.far b fun e=>by subst e;exact hM (.inr ⟨c,List.mem_of_getElem? h1⟩)).trans r1,r2⟩,hT.le,hT.max,hT.pos,hT.far⟩
 tN:=hm.tN
 tρ:=hm.tρ
 Clt b p hb:=by
  have:=hm.Clt b p hb
  rw[h.size];exact this
 gl:=⟨fun b cs hb j v hv=>⟨(hm.gl.1 b cs hb j v hv).1,(h.cell hC _ _ (hm.gl.1 b cs hb j v hv).1).trans (hm.gl.1 b cs hb j v hv).2⟩,fun b t hb=>⟨(hm.gl.2 b t hb).1,(hm.gl.2 b t hb).2.imp fun v hv=>(h.cell hC _ _ (hm.gl.2 b t hb).1).trans hv⟩⟩
theorem W8 {K:Nat->Nat}{zs:List (Nat × Wy)}{i:Nat}{t:Nat}{y:Wy}(h:zs[i]?=some (t,y)):(zs.map (wK K))[i]?=some (wK K (t,y)):=by rw[List.getElem?_map,h];rfl
end
end Go.Av
end

/- BundleWrites: the walk, joined (bwgen.py). -/
import Derived.Test.YtmljabhmajehnaaGreatDoorB43
import Derived.Test.YtmljabhmajehnaaGreatDoorB44
import Derived.Test.YtmljabhmajehnaaGreatDoorB45
import Derived.Test.YtmljabhmajehnaaGreatDoorB01
import Derived.Test.YtmljabhmajehnaaGreatDoorB28
import Derived.Test.YtmljabhmajehnaaGreatDoorB07
import Derived.Test.YtmljabhmajehnaaGreatDoorB11
import Derived.Test.YtmljabhmajehnaaGreatDoorB26
import Derived.Test.YtmljabhmajehnaaGreatDoorB30
import Derived.Test.YtmljabhmajehnaaGreatDoorB37
import Derived.Test.YtmljabhmajehnaaGreatDoorProg
import Derived.Lib.LaidU8
set_option linter.unusedVariables false
set_option linter.unusedSimpArgs false
section
open Go.RowKit Go.Pl Go.Av
namespace Go.Proofs.YtmljabhmajehnaaGreatDoor
set_option maxHeartbeats 4000000
theorem X5 [Known][KnownU8](b c:BunV)(k:Nat)(hfb:b.p.fl<18446744073709551616/\∀ c ∈ b.bl,c.fl<18446744073709551616)(hf:Fit b.p.dest/\Fit b.p.rep/\Fit b.p.src):AP Tryz.prog 6 [.agg (bnC b),.agg (bnC c),.int .u64 (k:Int)] (.bool true) []:=by
 have hA:=ME
 have hG:=Io b
 have hH:=Io c
 cases g1:Jd b with
 | true=>
  rw[g1]at hG
  exact FB b c k hA hG
 | false=>
 rw[g1]at hG
 cases g2:Jd c with
 | true=>
  rw[g2]at hH
  exact FC b c k hA hG hH
 | false=>
 rw[g2]at hH
 have hb:BunOk b:=⟨hfb.1,by have:=(K8 g1).1;omega,fun c hc=>⟨hfb.2 c hc,Nat.le_trans ((K8 g1).2 c hc) (by omega)⟩⟩
 have hlc:c.bl.length<=1000000:=by have:=(K8 g2).1;omega
 have hD:=TC b hb hf.1 hf.2.1 hf.2.2
 have hW:=Uk b hb
 have hR:=K3 b hb
 have hF:=SK b k hb.len (fun c hc=>Nat.le_trans (hb.bl c hc).2 (by omega))
 have hN:=Mw b k hb.len
 have hq:=K4 (Qu k) b.bl 0
 have hP:=Rv b hb
 have hpay:(b.bl.length=0/\TF b=[]/\Yl b=false)\/(1<=b.bl.length/\∃ z,b.bl[b.bl.length-1]?=some z/\z.data=TF b):=by
  rcases Nat.lt_or_ge b.bl.length 1 with h|h
  ·have h0:b.bl=[]:=List.eq_nil_of_length_eq_zero (by omega)
   refine .inl ⟨by omega,by unfold TF;rw[h0];rfl,?_⟩
   cases hr:Yl b with
   | false=>rfl
   | true=>
    have:=((UV b).1 hr).1.one
    omega
  ·obtain⟨z,hz⟩:∃ y,b.bl[b.bl.length-1]?=some y:=⟨_,List.getElem?_eq_getElem (by omega)⟩
   exact .inr ⟨h,z,hz,by unfold TF;rw[hz]⟩
 have hdoc:∃ e P,AP Tryz.prog 35 [.agg (bnC b)] (.tup [byE P,.bool (Yl b)]) []/\AP Tryz.prog 15 [.agg (bnC b)] (.tup [byE P,.int .i64 e]) []/\((Yl b=true/\e=0)\/(Yl b=false/\e=3)):=by
  unfold Uj at hW
  cases hr:Yl b with
  | true=>
   rw[hr]at hW
   have e:=K2 ((UV b).1 hr)
   rw[Tt hr]at e
   rw[e]at hD
   exact⟨0,Vt b,hD,hW,.inl ⟨rfl,rfl⟩⟩
  | false=>
   rw[hr]at hW
   have e:Qi b=([],false):=by unfold Qi;rw[hr]
   rw[e]at hD
   exact⟨3,[],hD,hW,.inr ⟨rfl,rfl⟩⟩
 obtain⟨e,P,hD2,hW2,hr⟩:=hdoc
 have hfin:∃ w is,AP Tryz.prog 12 [.agg (bnC b),.int .u64 (k:Int)] (.tup [.agg (bkC w),.bool is]) []/\((is=false/\fiQ (Qu k) b.bl 0 = -1/\w=zBk)\/(is=true/\0<=fiQ (Qu k) b.bl 0/\b.bl[(fiQ (Qu k) b.bl 0).toNat]?=some w)):=by
  cases hf:b.bl.find? (Qu k) with
  | none=>
   rw[hf]at hF hq
   exact⟨zBk,false,hF,.inl ⟨rfl,hq,rfl⟩⟩
  | some w=>
   rw[hf]at hF hq
   obtain⟨j,h1,h2⟩:=hq
   exact⟨w,true,hF,.inr ⟨rfl,by rw[h1];omega,by rw[h1,Int.toNat_natCast,Nat.zero_add];exact h2⟩⟩
 obtain⟨w,is,hF2,hk⟩:=hfin
 exact FD b c k w is (Yl b) (XF b c) (fiQ (Qu k) b.bl 0) e (TF b) P hA hG hH (Rl b hb.len) (Rl c hlc) hD2 hW2 hF2 hN (Ri w) (Mn w) hP (Tw b c hb.len hlc) (Mx b c hb.len hlc) hR hk hpay hr hb.len
end Go.Proofs.YtmljabhmajehnaaGreatDoor
end
section
open Go.RowKit Go.Pl
namespace Go.Pl
def I0 {α:Type}(P:Program)(fs:Array Field)(i o:Nat)(R:Rep α):Prop:=
 ∀(H:Type) (enc:TypeId × Value->H) (W:World) (spare:Nat->Bool) (held:Bool) (n:Nat) (cs:List Value) (xs:List (DataW H × List MemPlace)),cs.length=o+R.n->xs.length=fs.size ->
  (∀(j:Nat) (f:Field),fs[j]?=some f->DataW.trod enc P W 0 spare held n f.type ((cs.drop f.offset).take (P.cellsOf f.type))=xs[j]?)->∃ x,R.ok W (· < W.heap.size) (cs.drop o) x
variable {P:Program} {t:TypeId} {fs:Array Field}
theorem Iq {α:Type}{R:Rep α}{i o:Nat}{f:Field}(hf:fs[i]?=some f)(ho:f.offset=o)(hc:P.cellsOf f.type=R.n)(h:Y8 P f.type R){H:Type}{enc:TypeId × Value->H}{W:World}{spare:Nat->Bool}{held:Bool}{n:Nat}{cs:List Value}{xs:List (DataW H × List MemPlace)}(hl:xs.length=fs.size)
  (hg:∀(j:Nat) (f:Field),fs[j]?=some f->DataW.trod enc P W 0 spare held n f.type ((cs.drop f.offset).take (P.cellsOf f.type))=xs[j]?):∃ x,R.ok W (· < W.heap.size) ((cs.drop o).take R.n) x:=by
 have e:=hg i f hf
 rw[ho,hc]at e
 have hi:i<xs.length:=by
  rw[hl]
  exact(Array.getElem?_eq_some_iff.1 hf).1
 exact h H enc W spare held n _ _ (e.trans (List.getElem?_eq_getElem hi))
theorem JE {α:Type}{R:Rep α}{i o:Nat}{f:Field}(hf:fs[i]?=some f)(ho:f.offset=o)(hc:P.cellsOf f.type=R.n)(h:Y8 P f.type R):I0 P fs i o R:=by
 intro H enc W spare held n cs xs hcl hl hg
 obtain⟨x,hx⟩:=Iq hf ho hc h hl hg
 rw[List.take_of_length_le (by rw[List.length_drop];omega)]at hx
 exact⟨x,hx⟩
theorem YY {α β:Type}{R:Rep α}{R':Rep β}{i o:Nat}{f:Field}(hf:fs[i]?=some f)(ho:f.offset=o)(hc:P.cellsOf f.type=R.n)(h:Y8 P f.type R)(h':I0 P fs (i+1) (o+R.n) R'):I0 P fs i o (R.prod R'):=by
 intro H enc W spare held n cs xs hcl hl hg
 obtain⟨x,hx⟩:=Iq hf ho hc h hl hg
 have hn:(R.prod R').n=R.n+R'.n:=rfl
 obtain⟨x',hx'⟩:=h' H enc W spare held n cs xs (by rw[hn]at hcl;omega) hl hg
 refine⟨(x,x'),(cs.drop o).take R.n,(cs.drop o).drop R.n,(List.take_append_drop _ _).symm,hx,?_⟩
 rw[List.drop_drop]
 exact hx'
theorem Qj {α:Type}{R:Rep α}(hs:P.underlying t=some (.struct fs))(hc:P.cellsOf t=R.n)(h:I0 P fs 0 0 R):Y8 P t R:=by
 intro H enc W spare held fuel cs y hy
 obtain⟨xs,n,_,_,hl,hxl,hg⟩:=DataW.trod_struct hs hy
 exact h H enc W spare held n cs xs (by omega) hxl hg
end Go.Pl
end
section
open Go.RowKit Go.Pl Go.Av
namespace Go.Proofs.YtmljabhmajehnaaGreatDoor
set_option maxHeartbeats 4000000
abbrev RPr:Rep (Nat × Int × XE × XE × (XE × Nat × Nat) × Nat):=Rep.u64.prod (Rep.i64.prod (RE.prod (RE.prod (Go.Pl.RI.prod Rep.u64))))
theorem BY:Y8 Tryz.prog 28 RPr:=
 Qj Tryz.underlying28 (by kernel_rfl) (YY rfl rfl (by kernel_rfl) (WR Tryz.underlying22) (YY rfl rfl (by kernel_rfl) (Oh Tryz.underlying3)
  (YY rfl rfl (by kernel_rfl) LK (YY rfl rfl (by kernel_rfl) LK (YY rfl rfl (by kernel_rfl) Dt (JE rfl rfl (by kernel_rfl) (WR Tryz.underlying22)))))))
abbrev XPr:=Nat × Int × XE × XE × (XE × Nat × Nat) × Nat
def XPr.v (x:XPr):PriV:=⟨x.1,x.2.1,x.2.2.1.v,x.2.2.2.1.v,x.2.2.2.2.1.1.v,x.2.2.2.2.1.2.1,x.2.2.2.2.1.2.2,x.2.2.2.2.2⟩
abbrev RB:Rep (Nat × Nat × Nat × Int × List UInt8):=Rep.u64.prod (Rep.u64.prod (Rep.u64.prod (Rep.i64.prod (Rep.slice Rep.byte (by decide)))))
theorem DP:Y8 Tryz.prog 40 RB:=
 Qj Tryz.underlying40 (by kernel_rfl) (YY rfl rfl (by kernel_rfl) (WR Tryz.underlying22) (YY rfl rfl (by kernel_rfl) (WR Tryz.underlying22)
  (YY rfl rfl (by kernel_rfl) (WR Tryz.underlying22) (YY rfl rfl (by kernel_rfl) (Oh Tryz.underlying3)
   (JE rfl rfl (by kernel_rfl) (XI (R:=Rep.byte) (by decide) Tryz.underlying32 (by kernel_rfl) (HI Tryz.underlying5)))))))
abbrev XB:=Nat × Nat × Nat × Int × List UInt8
def XB.v (x:XB):BlkV:=⟨x.1,x.2.1,x.2.2.1,x.2.2.2.1,x.2.2.2.2⟩
abbrev RBn:Rep ((Nat × Int × XE × XE × (XE × Nat × Nat) × Nat) × List XB):=RPr.prod (Rep.slice RB (by decide))
theorem Rw:Y8 Tryz.prog 31 RBn:=
 Qj Tryz.underlying31 (by kernel_rfl) (YY rfl rfl (by kernel_rfl) BY (JE rfl rfl (by kernel_rfl) (XI (R:=RB) (by decide) Tryz.underlying29 (by kernel_rfl) DP)))
abbrev XBn:=(Nat × Int × XE × XE × (XE × Nat × Nat) × Nat) × List XB
def XBn.v (x:XBn):BunV:=⟨⟨x.1.1,x.1.2.1,x.1.2.2.1.v,x.1.2.2.2.1.v,x.1.2.2.2.2.1.1.v,x.1.2.2.2.2.1.2.1,x.1.2.2.2.2.1.2.2,x.1.2.2.2.2.2⟩,x.2.map XB.v⟩
theorem BZ:ToE RB (fun x=>.agg [.int .u64 (x.1:Int),.int .u64 (x.2.1:Int),.int .u64 (x.2.2.1:Int),.int .i64 x.2.2.2.1,.sl (x.2.2.2.2.map E.byte)]):=ToE.u64.prod (ToE.u64.prod (ToE.u64.prod (ToE.i64.prod (ToE.byte.slice (by decide)))))
theorem DQ [Known]{W:World}{cs:List Value}{x:XBn}(h:RBn.ok W (· < W.heap.size) cs x):V W (g0 W) [] (.agg (bnC x.v)) (.agg cs.toArray):=by
 obtain⟨⟨fl,sum,⟨di,dn,ds,dh,dd⟩,⟨ri,rn,rs,rh,rd⟩,⟨⟨xi,xn,xs,xh,xd⟩,t,q⟩,life⟩,bl⟩:=x
 have te:=(ToE.u64.prod (ToE.i64.prod (IN.prod (IN.prod ((IN.prod (ToE.u64.prod ToE.u64)).prod ToE.u64))))).prod (BZ.slice (by decide))
 have h2:=ToE.agg te (l:=[.int .u64 (fl:Int),.int .i64 sum,.bool di,.int .u64 (dn:Int),.int .u64 (ds:Int),.str dh,.str dd,.bool ri,.int .u64 (rn:Int),.int .u64 (rs:Int),.str rh,.str rd,.bool xi,.int .u64 (xn:Int),.int .u64 (xs:Int),.str xh,.str xd,.int .u64 (t:Int),.int .u64 (q:Int),.int .u64 (life:Int),.sl (bl.map fun x=>.agg [.int .u64 (x.1:Int),.int .u64 (x.2.1:Int),.int .u64 (x.2.2.1:Int),.int .i64 x.2.2.2.1,.sl (x.2.2.2.2.map E.byte)])]) rfl h
 have e:ZX (bl.map XB.v)=bl.map fun x=>.agg [.int .u64 (x.1:Int),.int .u64 (x.2.1:Int),.int .u64 (x.2.2.1:Int),.int .i64 x.2.2.2.1,.sl (x.2.2.2.2.map E.byte)]:=List.map_map ..
 rw[<- e]at h2
 exact h2
theorem HF {α:Type}{R:Rep α}{w:World}{S:Nat->Prop}:∀ {l:List α} {cs:List Value},Run R w S cs l->∀ x ∈ l,∃ c,R.ok w S c x
 | [],_,_,x,hx=>by simp at hx
 | y::l,cs,⟨c1,c2,_,h1,h2⟩,x,hx=>by
  rcases List.mem_cons.1 hx with rfl|hx
  ·exact⟨c1,h1⟩
  ·exact HF h2 x hx
theorem B0 {W:World}{S:Nat->Prop}{cs:List Value}{x:XB}(h:RB.ok W S cs x):x.v.fl<18446744073709551616:=by
 obtain⟨ty,num,fl,sum,data⟩:=x
 obtain⟨_,_,_,_,_,_,_,_,_,_,_,⟨_,h1⟩,_⟩:=h
 exact h1
theorem DR {W:World}{cs:List Value}{x:XBn}(h:RBn.ok W (· < W.heap.size) cs x):x.v.p.fl<18446744073709551616/\∀ c ∈ x.v.bl,c.fl<18446744073709551616:=by
 obtain⟨⟨fl,r⟩,bl⟩:=x
 obtain⟨_,_,_,⟨_,_,_,⟨_,h1⟩,_⟩,⟨v,_,A,cap,_,_,_,c3,hr,_⟩⟩:=h
 refine⟨h1,fun c hc=>?_⟩
 obtain⟨y,hy,rfl⟩:=List.mem_map.1 hc
 obtain⟨c4,h4⟩:=HF hr y hy
 exact B0 h4
theorem K9 {W:World}{S:Nat->Prop}{cs:List Value}{x:XE}(h:RE.ok W S cs x):Fit x.v:=by
 obtain⟨i,n,s,hh,d⟩:=x
 obtain⟨c0,c1,rfl,h0,h1⟩:=h
 obtain⟨c2,c3,rfl,h2,h3⟩:=h1
 obtain⟨c4,c5,rfl,h4,h5⟩:=h3
 obtain⟨c6,c7,rfl,h6,h7⟩:=h5
 exact⟨h6.2,h7.2⟩
theorem SO {W:World}{S:Nat->Prop}{cs:List Value}{x:XPr}(h:RPr.ok W S cs x):Fit x.v.dest/\Fit x.v.rep/\Fit x.v.src:=by
 obtain⟨fl,sum,d,r,⟨s,t,q⟩,life⟩:=x
 obtain⟨c0,c1,rfl,h0,h1⟩:=h
 obtain⟨c2,c3,rfl,h2,h3⟩:=h1
 obtain⟨c4,c5,rfl,h4,h5⟩:=h3
 obtain⟨c6,c7,rfl,h6,h7⟩:=h5
 obtain⟨c8,c9,rfl,h8,h9⟩:=h7
 obtain⟨ca,cb,rfl,ha,hb⟩:=h8
 exact⟨K9 h4,K9 h6,K9 ha⟩
theorem SP {W:World}{S:Nat->Prop}{cs:List Value}{x:XBn}(h:RBn.ok W S cs x):Fit x.v.p.dest/\Fit x.v.p.rep/\Fit x.v.p.src:=by
 obtain⟨p,bl⟩:=x
 obtain⟨c0,c1,rfl,h0,h1⟩:=h
 exact SO h0
end Go.Proofs.YtmljabhmajehnaaGreatDoor
end
section
open Go.RowKit Go.Pl Go.Av Go.Lib
namespace Go.Proofs.YtmljabhmajehnaaGreatDoor
theorem XH (k:IntKind):∀ zs:List Int,X3 (zs.map fun z=>.lit (.int k z))=zs.map fun z=>Value.int k z
 | []=>rfl
 | z::zs=>by rw[List.map_cons,List.map_cons,X3,XH k zs];rfl
theorem HG {P:Program}{W:World}{n:String}{g:Nat}{t:TypeId}{d:DataW Unit}(hg:P.globalNamed n=some g)(ht:(P.globals[g]?).map (·.type)=some t)(h:VarReads P W n d)
  (key:∀(fuel:Nat) (cs:List Value) (p:List MemPlace),DataW.trod (fun _=>()) P W 0 (fun _=>true) false fuel t cs=some (d,p)->∀(j:Nat) (v:Value),(dcs d)[j]?=some v->cs[j]?=some v) :
  ∀(j:Nat) (v:Value),(dcs d)[j]?=some v->(g0 W).C g j/\W.cell? ⟨g,j,none⟩=some v:=by
 obtain⟨g',t',cs,fuel,p,h1,h2,h3,h4⟩:=h
 obtain rfl:=Option.some.inj (hg.symm.trans h1)
 obtain rfl:=Option.some.inj (ht.symm.trans h2)
 intro j v hv
 have hc:=key fuel cs.toList p h4 j v hv
 have hcell:W.cell? ⟨g,j,none⟩=some v:=by
  rw[World.var?_cell hg h3 j,<- Array.getElem?_toList];exact hc
 exact⟨World.block_lt_of_cell? W _ hcell,hcell⟩
theorem SQ {P:Program}{W:World}{t e:TypeId}{n:Nat}{k:IntKind}{d:DataW Unit}(zs:List Int)(hd:d=tabData k zs)(ht:P.underlying t=some (.array n e))(he:P.underlying e=some (.int k))(hce:P.cellsOf e=1)(hct:P.cellsOf t=n) :
  ∀(fuel:Nat) (cs:List Value) (p:List MemPlace),DataW.trod (fun _=>()) P W 0 (fun _=>true) false fuel t cs=some (d,p)->∀(j:Nat) (v:Value),(dcs d)[j]?=some v->cs[j]?=some v:=by
 subst hd
 intro fuel cs p h j v hv
 rw[cells_of_tab ht he hce hct h]
 rw[tabData,dcs,XH]at hv
 exact hv
theorem SR {P:Program}{W:World}{t e:TypeId}{n:Nat}{k:IntKind}{d:DataW Unit}{fs:Array Field}(rows:List (List Int))(hd:d=.agg (rows.map fun r=>.agg (r.map fun z=>.lit (.int k z))))(hn:rows.length=n)(ht:P.underlying t=some (.array n e))(he:P.underlying e=some (.struct fs))
  (hf:∀(i:Nat) (f:Field),fs[i]?=some f->P.underlying f.type=some (.int k)/\f.offset=i/\P.cellsOf f.type=1) (hce:P.cellsOf e=fs.size) :
  ∀(fuel:Nat) (cs:List Value) (p:List MemPlace),DataW.trod (fun _=>()) P W 0 (fun _=>true) false fuel t cs=some (d,p)->∀(j:Nat) (v:Value),(dcs d)[j]?=some v->cs[j]?=some v:=by
 subst hd
 intro fuel cs p h j v hv
 have key:∀ i,i<=n->cs.take (i*fs.size)=X3 ((rows.take i).map fun r=>.agg (r.map fun z=>.lit (.int k z))):=by
  intro i
  induction i with
  | zero=>intro _;rw[Nat.zero_mul,List.take_zero,List.take_zero];rfl
  | succ i ih=>
   intro hi
   obtain⟨fuel',d',q,hdi,he'⟩:=array_elem ht h i (by omega)
   rw[List.getElem?_map,List.getElem?_eq_getElem (by omega:i<rows.length)]at hdi
   simp only[Option.map_some,Option.some.injEq]at hdi
   subst hdi
   rw[hce]at he'
   have hcs:=ints_of_struct he hf hce he'
   rw[Nat.succ_mul,List.take_add,ih (by omega),hcs,List.take_succ_eq_append_getElem (by omega:i<rows.length),List.map_append]
   have app:∀(a b:List (DataW Unit)),X3 (a++b)=X3 a++X3 b:=fun a b=>by
    induction a with
    | nil=>rfl
    | cons x a ih=>rw[List.cons_append,X3,X3,ih,List.append_assoc]
   rw[app,List.map_cons,List.map_nil,X3,dcs,XH]
   simp[X3]
 have h2:=key n (Nat.le_refl _)
 rw[<- hn,List.take_length]at h2
 rw[dcs,<- h2]at hv
 rw[List.getElem?_take]at hv
 split at hv
 ·exact hv
 ·cases hv
abbrev Ut:Known:=⟨[0,1]⟩
theorem TG : @KnownU8 Ut:=@KnownU8.mk Ut (List.mem_cons_self ..) (List.mem_cons_of_mem _ (List.mem_cons_self ..))
def B1:List Int:=Pinned.utf8FirstZ.map Int.ofNat
def SS:List (List Int):=[[128,191],[160,191],[128,159],[144,191],[128,143],[0,0],[0,0],[0,0],[0,0],[0,0],[0,0],[0,0],[0,0],[0,0],[0,0],[0,0]]
theorem B2 {W:World}{laid:List (String × DataW Unit)}(h1:("unicode/utf8.first",Rows.laid_unicode_utf8_first) ∈ laid)(h2:("unicode/utf8.acceptRanges",Rows.laid_unicode_utf8_acceptRanges) ∈ laid)(h:laidMet Tryz.prog laid W) : @Gls Ut (g0 W).C W:=by
 have r1:=laidMet.reads h h1
 have r2:=laidMet.reads h h2
 have c1:=HG (P:=Tryz.prog) (g:=0) (t:=271) (by kernel_rfl) (by kernel_rfl) r1 (SQ B1 (by kernel_rfl) (n:=256) (by kernel_rfl) Tryz.underlying5 (by kernel_rfl) (by kernel_rfl))
 have c2:=HG (P:=Tryz.prog) (g:=1) (t:=274) (by kernel_rfl) (by kernel_rfl) r2 (SR SS (by kernel_rfl) (n:=16) rfl Tryz.underlying274 Tryz.underlying273 (fun i f hf=>by
  match i,hf with
  | 0,hf=>simp at hf;subst hf;exact⟨Tryz.underlying5,rfl,by kernel_rfl⟩
  | 1,hf=>simp at hf;subst hf;exact⟨Tryz.underlying5,rfl,by kernel_rfl⟩
  | i+2,hf=>simp at hf) (by kernel_rfl))
 refine⟨fun k cs hk=>?_,fun k t hk=>?_⟩
 ·obtain⟨hk,hm⟩:=hk
  simp only[I8,List.mem_cons,List.not_mem_nil,or_false,Prod.mk.injEq]at hm
  have hk:k ∈ [0,1]:=hk
  simp only[List.mem_cons,List.not_mem_nil,or_false]at hk
  clear r1 r2 h1 h2 h
  rcases hk with rfl|rfl
  all_goals repeat'(refine Or.elim hm (fun hm=>?_) (fun hm=>?_))
  all_goals first
   | (obtain⟨h,rfl⟩:=hm;exact c1)
   | (obtain⟨h,rfl⟩:=hm;exact c2)
   | (obtain⟨h,_⟩:=hm;exact absurd h (by decide))
 ·obtain⟨hk,hm⟩:=hk
  have hk:k ∈ [0,1]:=hk
  simp only[List.mem_cons,List.not_mem_nil,or_false]at hk
  simp only[B4,List.mem_cons,List.not_mem_nil,or_false,Prod.mk.injEq]at hm
  all_goals omega
end Go.Proofs.YtmljabhmajehnaaGreatDoor
end
section
open Go.RowKit Go.Pl Go.Av
namespace Go.Proofs.YtmljabhmajehnaaGreatDoor
theorem J7 (c0:List Value)(c1:List Value)(n2:Nat)(x0:XBn)(x1:XBn)(W:World)(h0:RBn.ok W (· < W.heap.size) c0 x0)(h1:RBn.ok W (· < W.heap.size) c1 x1)(h2:n2<18446744073709551616)(hl:laidMet Tryz.prog Rows.bundleWritesRow.laid W) :
  Calls Tryz.prog 6 #[.agg c0.toArray,.agg c1.toArray,.int .u64 (n2:Int)] W fun e w'=>e=.returned (.bool true)/\Below W.heap.size W w':=by
 have hg:=B2 (laid:=Rows.bundleWritesRow.laid) (by unfold Rows.bundleWritesRow;repeat (first|exact List.mem_cons_self .. | apply List.mem_cons_of_mem)) (by unfold Rows.bundleWritesRow;repeat (first|exact List.mem_cons_self .. | apply List.mem_cons_of_mem)) hl
 have h:=@X5 Ut TG x0.v x1.v n2 (DR h0) (SP h0)
 refine @DT Ut Tryz.prog 6 _ (@AC.mono Ut _ _ _ _ _ _ _ h fun r b t h=>h.1) W [.agg c0.toArray,.agg c1.toArray,.int .u64 (n2:Int)] hg rfl ?_
 intro j d v hd hv
 match j,hd,hv with
 | 0,hd,hv=>cases hd;cases hv;exact @DQ Ut _ _ _ h0
 | 1,hd,hv=>cases hd;cases hv;exact @DQ Ut _ _ _ h1
 | 2,hd,hv=>cases hd;cases hv;exact .int _ _
 | j+3,hd,hv=>cases hd
end Go.Proofs.YtmljabhmajehnaaGreatDoor
end

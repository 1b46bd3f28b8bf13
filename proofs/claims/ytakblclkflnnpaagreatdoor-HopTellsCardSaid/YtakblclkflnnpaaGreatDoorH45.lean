/- A block as an argument. -/
import Derived.Test.YtakblclkflnnpaaGreatDoorH25
import Derived.Test.YtakblclkflnnpaaGreatDoorH44
import Derived.Test.YtakblclkflnnpaaGreatDoorH28
import Derived.Test.YtakblclkflnnpaaGreatDoorH27
import Derived.Test.YtakblclkflnnpaaGreatDoorH35
import Derived.Test.YtakblclkflnnpaaGreatDoorH01
import Derived.Test.YtakblclkflnnpaaGreatDoorH07
import Derived.Test.YtakblclkflnnpaaGreatDoorProg
import Derived.Lib.LaidU8
set_option linter.unusedVariables false
set_option linter.unusedSimpArgs false
section
open Go.RowKit Go.Pl Go.Av
namespace Go.Proofs.YtakblclkflnnpaaGreatDoor
set_option maxHeartbeats 4000000
abbrev RB:Rep (Nat × Nat × Nat × Int × List UInt8):=Rep.u64.prod (Rep.u64.prod (Rep.u64.prod (Rep.i64.prod (Rep.slice Rep.byte (by decide)))))
theorem Ztm:Zcr Tryz.prog 58 RB:=
 Zec Tryz.underlying58 (by kernel_rfl) (ZbD rfl rfl (by kernel_rfl) (Zcs Tryz.underlying22) (ZbD rfl rfl (by kernel_rfl) (Zcs Tryz.underlying22)
  (ZbD rfl rfl (by kernel_rfl) (Zcs Tryz.underlying22) (ZbD rfl rfl (by kernel_rfl) (Zh6 Tryz.underlying3)
   (Zfv rfl rfl (by kernel_rfl) (ZfX (R:=Rep.byte) (by decide) Tryz.underlying29 (by kernel_rfl) (Zlg Tryz.underlying5)))))))
abbrev XB:=Nat × Nat × Nat × Int × List UInt8
def XB.v (x:XB):BlkV:=⟨x.1,x.2.1,x.2.2.1,x.2.2.2.1,x.2.2.2.2⟩
abbrev RBn:Rep ((Nat × Int × XE × XE × (XE × Nat × Nat) × Nat) × List XB):=RPr.prod (Rep.slice RB (by decide))
theorem Zss:Zcr Tryz.prog 112 RBn:=
 Zec Tryz.underlying112 (by kernel_rfl) (ZbD rfl rfl (by kernel_rfl) Zsr (Zfv rfl rfl (by kernel_rfl) (ZfX (R:=RB) (by decide) Tryz.underlying110 (by kernel_rfl) Ztm)))
abbrev XBn:=(Nat × Int × XE × XE × (XE × Nat × Nat) × Nat) × List XB
def XBn.v (x:XBn):BunV:=⟨⟨x.1.1,x.1.2.1,x.1.2.2.1.v,x.1.2.2.2.1.v,x.1.2.2.2.2.1.1.v,x.1.2.2.2.2.1.2.1,x.1.2.2.2.2.1.2.2,x.1.2.2.2.2.2⟩,x.2.map XB.v⟩
theorem Zst:ToE RB (fun x=>.agg [.int .u64 (x.1:Int),.int .u64 (x.2.1:Int),.int .u64 (x.2.2.1:Int),.int .i64 x.2.2.2.1,.sl (x.2.2.2.2.map E.byte)]):=ToE.u64.prod (ToE.u64.prod (ToE.u64.prod (ToE.i64.prod (ToE.byte.slice (by decide)))))
theorem Zui [Known]{W:World}{cs:List Value}{x:XBn}(h:RBn.ok W (· < W.heap.size) cs x):V W (g0 W) [] (.agg (bnC x.v)) (.agg cs.toArray):=by
 obtain⟨⟨fl,sum,⟨di,dn,ds,dh,dd⟩,⟨ri,rn,rs,rh,rd⟩,⟨⟨xi,xn,xs,xh,xd⟩,t,q⟩,life⟩,bl⟩:=x
 have te:=(ToE.u64.prod (ToE.i64.prod (ZjG.prod (ZjG.prod ((ZjG.prod (ToE.u64.prod ToE.u64)).prod ToE.u64))))).prod (Zst.slice (by decide))
 have h2:=ToE.agg te (l:=[.int .u64 (fl:Int),.int .i64 sum,.bool di,.int .u64 (dn:Int),.int .u64 (ds:Int),.str dh,.str dd,.bool ri,.int .u64 (rn:Int),.int .u64 (rs:Int),.str rh,.str rd,.bool xi,.int .u64 (xn:Int),.int .u64 (xs:Int),.str xh,.str xd,.int .u64 (t:Int),.int .u64 (q:Int),.int .u64 (life:Int),.sl (bl.map fun x=>.agg [.int .u64 (x.1:Int),.int .u64 (x.2.1:Int),.int .u64 (x.2.2.1:Int),.int .i64 x.2.2.2.1,.sl (x.2.2.2.2.map E.byte)])]) rfl h
 have e:Zbj (bl.map XB.v)=bl.map fun x=>.agg [.int .u64 (x.1:Int),.int .u64 (x.2.1:Int),.int .u64 (x.2.2.1:Int),.int .i64 x.2.2.2.1,.sl (x.2.2.2.2.map E.byte)]:=List.map_map ..
 rw[<- e]at h2
 exact h2
theorem Zle {α:Type}{R:Rep α}{w:World}{S:Nat->Prop}:∀ {l:List α} {cs:List Value},Run R w S cs l->∀ x ∈ l,∃ c,R.ok w S c x
 | [],_,_,x,hx=>by simp at hx
 | y::l,cs,⟨c1,c2,_,h1,h2⟩,x,hx=>by
  rcases List.mem_cons.1 hx with rfl|hx
  ·exact⟨c1,h1⟩
  ·exact Zle h2 x hx
theorem Zsu {W:World}{S:Nat->Prop}{cs:List Value}{x:XB}(h:RB.ok W S cs x):x.v.fl<18446744073709551616:=by
 obtain⟨ty,num,fl,sum,data⟩:=x
 obtain⟨_,_,_,_,_,_,_,_,_,_,_,⟨_,h1⟩,_⟩:=h
 exact h1
theorem Ztn {W:World}{cs:List Value}{x:XBn}(h:RBn.ok W (· < W.heap.size) cs x):x.v.p.fl<18446744073709551616/\∀ c ∈ x.v.bl,c.fl<18446744073709551616:=by
 obtain⟨⟨fl,r⟩,bl⟩:=x
 obtain⟨_,_,_,⟨_,_,_,⟨_,h1⟩,_⟩,⟨v,_,A,cap,_,_,_,c3,hr,_⟩⟩:=h
 refine⟨h1,fun c hc=>?_⟩
 obtain⟨y,hy,rfl⟩:=List.mem_map.1 hc
 obtain⟨c4,h4⟩:=Zle hr y hy
 exact Zsu h4
theorem Zh1 {W:World}{S:Nat->Prop}{cs:List Value}{x:XE}(h:RE.ok W S cs x):Fit x.v:=by
 obtain⟨i,n,s,hh,d⟩:=x
 obtain⟨c0,c1,rfl,h0,h1⟩:=h
 obtain⟨c2,c3,rfl,h2,h3⟩:=h1
 obtain⟨c4,c5,rfl,h4,h5⟩:=h3
 obtain⟨c6,c7,rfl,h6,h7⟩:=h5
 exact⟨h6.2,h7.2⟩
theorem Zri {W:World}{S:Nat->Prop}{cs:List Value}{x:XPr}(h:RPr.ok W S cs x):Fit x.v.dest/\Fit x.v.rep/\Fit x.v.src:=by
 obtain⟨fl,sum,d,r,⟨s,t,q⟩,life⟩:=x
 obtain⟨c0,c1,rfl,h0,h1⟩:=h
 obtain⟨c2,c3,rfl,h2,h3⟩:=h1
 obtain⟨c4,c5,rfl,h4,h5⟩:=h3
 obtain⟨c6,c7,rfl,h6,h7⟩:=h5
 obtain⟨c8,c9,rfl,h8,h9⟩:=h7
 obtain⟨ca,cb,rfl,ha,hb⟩:=h8
 exact⟨Zh1 h4,Zh1 h6,Zh1 ha⟩
theorem Zrj {W:World}{S:Nat->Prop}{cs:List Value}{x:XBn}(h:RBn.ok W S cs x):Fit x.v.p.dest/\Fit x.v.p.rep/\Fit x.v.p.src:=by
 obtain⟨p,bl⟩:=x
 obtain⟨c0,c1,rfl,h0,h1⟩:=h
 exact Zri h0
end Go.Proofs.YtakblclkflnnpaaGreatDoor
end
section
open Go.RowKit Go.Pl Go.Av Go.Lib
namespace Go.Proofs.YtakblclkflnnpaaGreatDoor
theorem ZgO (k:IntKind):∀ zs:List Int,Zl3 (zs.map fun z=>.lit (.int k z))=zs.map fun z=>Value.int k z
 | []=>rfl
 | z::zs=>by rw[List.map_cons,List.map_cons,Zl3,ZgO k zs];rfl
theorem Zlf {P:Program}{W:World}{n:String}{g:Nat}{t:TypeId}{d:DataW Unit}(hg:P.globalNamed n=some g)(ht:(P.globals[g]?).map (·.type)=some t)(h:VarReads P W n d)
  (key:∀(fuel:Nat) (cs:List Value) (p:List MemPlace),DataW.trod (fun _=>()) P W 0 (fun _=>true) false fuel t cs=some (d,p)->∀(j:Nat) (v:Value),(dcs d)[j]?=some v->cs[j]?=some v) :
  ∀(j:Nat) (v:Value),(dcs d)[j]?=some v->(g0 W).C g j/\W.cell? ⟨g,j,none⟩=some v:=by
 obtain⟨g',t',cs,fuel,p,h1,h2,h3,h4⟩:=h
 obtain rfl:=Option.some.inj (hg.symm.trans h1)
 obtain rfl:=Option.some.inj (ht.symm.trans h2)
 intro j v hv
 have hc:=key fuel cs.toList p h4 j v hv
 have hcell:W.cell? ⟨g,j,none⟩=some v:=by
  rw[World.var?_cell hg h3 j,<- Array.getElem?_toList];exact hc
 exact⟨World.block_lt_of_cell? W _ hcell,hcell⟩
theorem Zrk {P:Program}{W:World}{t e:TypeId}{n:Nat}{k:IntKind}{d:DataW Unit}(zs:List Int)(hd:d=tabData k zs)(ht:P.underlying t=some (.array n e))(he:P.underlying e=some (.int k))(hce:P.cellsOf e=1)(hct:P.cellsOf t=n) :
  ∀(fuel:Nat) (cs:List Value) (p:List MemPlace),DataW.trod (fun _=>()) P W 0 (fun _=>true) false fuel t cs=some (d,p)->∀(j:Nat) (v:Value),(dcs d)[j]?=some v->cs[j]?=some v:=by
 subst hd
 intro fuel cs p h j v hv
 rw[cells_of_tab ht he hce hct h]
 rw[tabData,dcs,ZgO]at hv
 exact hv
theorem Zrl {P:Program}{W:World}{t e:TypeId}{n:Nat}{k:IntKind}{d:DataW Unit}{fs:Array Field}(rows:List (List Int))(hd:d=.agg (rows.map fun r=>.agg (r.map fun z=>.lit (.int k z))))(hn:rows.length=n)(ht:P.underlying t=some (.array n e))(he:P.underlying e=some (.struct fs))
  (hf:∀(i:Nat) (f:Field),fs[i]?=some f->P.underlying f.type=some (.int k)/\f.offset=i/\P.cellsOf f.type=1) (hce:P.cellsOf e=fs.size) :
  ∀(fuel:Nat) (cs:List Value) (p:List MemPlace),DataW.trod (fun _=>()) P W 0 (fun _=>true) false fuel t cs=some (d,p)->∀(j:Nat) (v:Value),(dcs d)[j]?=some v->cs[j]?=some v:=by
 subst hd
 intro fuel cs p h j v hv
 have key:∀ i,i<=n->cs.take (i*fs.size)=Zl3 ((rows.take i).map fun r=>.agg (r.map fun z=>.lit (.int k z))):=by
  intro i
  induction i with
  | zero=>intro _;rw[Nat.zero_mul,List.take_zero,List.take_zero];rfl
  | succ i ih=>
   intro hi
   obtain⟨fuel',d',q,hdi,he'⟩:=array_elem ht h i (by omega)
   rw[List.getElem?_map,List.getElem?_eq_getElem (by omega:i<rows.length)]at hdi
   simp only[Option.map_some,Option.some.injEq]at hdi
   subst hdi
   rw[hce]at he'
   have hcs:=ints_of_struct he hf hce he'
   rw[Nat.succ_mul,List.take_add,ih (by omega),hcs,List.take_succ_eq_append_getElem (by omega:i<rows.length),List.map_append]
   have app:∀(a b:List (DataW Unit)),Zl3 (a++b)=Zl3 a++Zl3 b:=fun a b=>by
    induction a with
    | nil=>rfl
    | cons x a ih=>rw[List.cons_append,Zl3,Zl3,ih,List.append_assoc]
   rw[app,List.map_cons,List.map_nil,Zl3,dcs,ZgO]
   simp[Zl3]
 have h2:=key n (Nat.le_refl _)
 rw[<- hn,List.take_length]at h2
 rw[dcs,<- h2]at hv
 rw[List.getElem?_take]at hv
 split at hv
 ·exact hv
 ·cases hv
abbrev Zez:Known:=⟨[0,1]⟩
theorem Zl2 : @KnownU8 Zez:=@KnownU8.mk Zez (List.mem_cons_self ..) (List.mem_cons_of_mem _ (List.mem_cons_self ..))
def Zsv:List Int:=Pinned.utf8FirstZ.map Int.ofNat
def Zrm:List (List Int):=[[128,191],[160,191],[128,159],[144,191],[128,143],[0,0],[0,0],[0,0],[0,0],[0,0],[0,0],[0,0],[0,0],[0,0],[0,0],[0,0]]
theorem Zsw {W:World}{laid:List (String × DataW Unit)}(h1:("unicode/utf8.first",Rows.laid_unicode_utf8_first) ∈ laid)(h2:("unicode/utf8.acceptRanges",Rows.laid_unicode_utf8_acceptRanges) ∈ laid)(h:laidMet Tryz.prog laid W) : @Gls Zez (g0 W).C W:=by
 have r1:=laidMet.reads h h1
 have r2:=laidMet.reads h h2
 have c1:=Zlf (P:=Tryz.prog) (g:=0) (t:=288) (by kernel_rfl) (by kernel_rfl) r1 (Zrk Zsv (by kernel_rfl) (n:=256) (by kernel_rfl) Tryz.underlying5 (by kernel_rfl) (by kernel_rfl))
 have c2:=Zlf (P:=Tryz.prog) (g:=1) (t:=291) (by kernel_rfl) (by kernel_rfl) r2 (Zrl Zrm (by kernel_rfl) (n:=16) rfl Tryz.underlying291 Tryz.underlying290 (fun i f hf=>by
  match i,hf with
  | 0,hf=>simp at hf;subst hf;exact⟨Tryz.underlying5,rfl,by kernel_rfl⟩
  | 1,hf=>simp at hf;subst hf;exact⟨Tryz.underlying5,rfl,by kernel_rfl⟩
  | i+2,hf=>simp at hf) (by kernel_rfl))
 refine⟨fun k cs hk=>?_,fun k t hk=>?_⟩
 ·obtain⟨hk,hm⟩:=hk
  simp only[ZpF,List.mem_cons,List.not_mem_nil,or_false,Prod.mk.injEq]at hm
  have hk:k ∈ [0,1]:=hk
  simp only[List.mem_cons,List.not_mem_nil,or_false]at hk
  clear r1 r2 h1 h2 h
  rcases hk with rfl|rfl
  all_goals repeat'(refine Or.elim hm (fun hm=>?_) (fun hm=>?_))
  all_goals first
   | (obtain⟨h,rfl⟩:=hm;exact c1)
   | (obtain⟨h,rfl⟩:=hm;exact c2)
   | (obtain⟨h,_⟩:=hm;exact absurd h (by decide))
 ·obtain⟨hk,hm⟩:=hk
  have hk:k ∈ [0,1]:=hk
  simp only[List.mem_cons,List.not_mem_nil,or_false]at hk
  simp only[Zto,List.mem_cons,List.not_mem_nil,or_false,Prod.mk.injEq]at hm
  all_goals omega
end Go.Proofs.YtakblclkflnnpaaGreatDoor
end
section
open Go.RowKit Go.Pl Go.Av
namespace Go.Proofs.YtakblclkflnnpaaGreatDoor
theorem Zh2 (c0:List Value)(n1:Nat)(n2:Nat)(x0:XBn)(W:World)(h0:RBn.ok W (· < W.heap.size) c0 x0)(h1:n1<18446744073709551616)(h2:n2<18446744073709551616)(hl:laidMet Tryz.prog Rows.hopTellsRow.laid W) :
  Calls Tryz.prog 10 #[.agg c0.toArray,.int .u64 (n1:Int),.int .u64 (n2:Int)] W fun e w'=>e=.returned (.bool true)/\Below W.heap.size W w':=by
 have hg:=Zsw (laid:=Rows.hopTellsRow.laid) (by unfold Rows.hopTellsRow;repeat (first|exact List.mem_cons_self .. | apply List.mem_cons_of_mem)) (by unfold Rows.hopTellsRow;repeat (first|exact List.mem_cons_self .. | apply List.mem_cons_of_mem)) hl
 have h:=@ZjY Zez Zl2 x0.v n1 n2 (Ztn h0) (Zrj h0)
 refine @ZtA Zez Tryz.prog 10 _ (@AC.mono Zez _ _ _ _ _ _ _ h fun r b t h=>h.1) W [.agg c0.toArray,.int .u64 (n1:Int),.int .u64 (n2:Int)] hg rfl ?_
 intro j d v hd hv
 match j,hd,hv with
 | 0,hd,hv=>cases hd;cases hv;exact @Zui Zez _ _ _ h0
 | 1,hd,hv=>cases hd;cases hv;exact .int _ _
 | 2,hd,hv=>cases hd;cases hv;exact .int _ _
 | j+3,hd,hv=>cases hd
end Go.Proofs.YtakblclkflnnpaaGreatDoor
end

/- CanonSays' walk, joined (dkgen2.py). -/
import Derived.Test.YtakblclkflnnpaaGreatDoorS33
import Derived.Test.YtakblclkflnnpaaGreatDoorS36
import Derived.Test.YtakblclkflnnpaaGreatDoorS01
import Derived.Test.YtakblclkflnnpaaGreatDoorS07
import Derived.Test.YtakblclkflnnpaaGreatDoorS10
import Derived.Test.YtakblclkflnnpaaGreatDoorS30
import Derived.Test.YtakblclkflnnpaaGreatDoorProg
import Derived.Lib.LaidU8
set_option linter.unusedVariables false
set_option linter.unusedSimpArgs false
section
open Go.RowKit Go.Pl Go.Av
namespace Go.Proofs.YtakblclkflnnpaaGreatDoor
set_option maxHeartbeats 4000000
theorem Zgu {b:BlkV}{kind:Nat}(h:ZeD b kind=0):b.ty=kind/\Zmk b.ty b.data=true:=by
 unfold ZeD at h
 split at h
 ·cases h
 ·rename_i ht
  have ht : b.ty = kind := by have : (b.ty : Int) = (kind : Int) := by simpa [bne] using ht
                              omega
  split at h
  ·cases h
  ·rename_i hr
   unfold ZbM Zh6 at hr
   simp only[Bool.and_eq_true]at hr
   exact⟨ht,hr.2.2.2.2.1⟩
theorem Zhs [Known][KnownU8](b:BlkV)(hfl:b.fl<18446744073709551616):AP Tryz.prog 5 [.agg (bkC b)] (.bool true) []:=by
 have hA:=Zlg
 cases t0:decide (((b.data.map E.byte).length:Int)>400) with
 | true=>
  obtain⟨ty,num,fl,sum,d⟩:=b
  exact Zp2 ty num fl sum d hA t0
 | false=>
 have hd:b.data.length<=400:=by have:=of_decide_eq_false t0;rw[List.length_map]at this;omega
 have hS:=ZoC b
 have h6:=Zfx b 6 hfl (by omega)
 have h7:=Zfx b 7 hfl (by omega)
 have h10:=Zfx b 10 hfl (by omega)
 have hP:=Zlh b (by omega)
 have hN:=Zi8 b (by omega)
 have hL:=Zfw b (by omega)
 have hQ:=Zi6 b.data (by omega)
 have hK:=Zk8 b.data (by omega)
 have hJ:=Zi7 b.data (by omega)
 have k6:(ZeD b 6 != 0)=false->ZjD b.data=(Zdj b.data).1:=fun h=>by
  have h:=Zgu (b:=b) (kind:=6) (by simpa[bne]using h)
  have h2:=h.2
  rw[h.1]at h2
  have h2:(Zdj b.data).2=true:=h2
  unfold ZjD
  rw[h2]
 have k7:(ZeD b 7 != 0)=false->Zoz b.data=(Zgo b.data).1:=fun h=>by
  have h:=Zgu (b:=b) (kind:=7) (by simpa[bne]using h)
  have h2:=h.2
  rw[h.1]at h2
  have h2:(Zgo b.data).2=true:=h2
  unfold Zoz
  rw[h2]
 have k10:(ZeD b 10 != 0)=false->ZjE b.data=((Zb7 b.data).1,(Zb7 b.data).2.1):=fun h=>by
  have h:=Zgu (b:=b) (kind:=10) (by simpa[bne]using h)
  have h2:=h.2
  rw[h.1]at h2
  have h2:(Zb7 b.data).2.2=true:=h2
  unfold ZjE
  rw[h2]
 generalize ZeD b 6=e at *
 generalize ZeD b 7=f at *
 generalize ZeD b 10=g at *
 generalize ZjD b.data=qq at *
 generalize (Zdj b.data).1=pp at *
 generalize (Zdj b.data).2=o1 at *
 generalize Zoz b.data=kk at *
 generalize (Zgo b.data).1=nn at *
 generalize (Zgo b.data).2=o2 at *
 generalize ZjE b.data=ij at *
 generalize (Zb7 b.data).1=ll at *
 generalize (Zb7 b.data).2.1=mm at *
 generalize (Zb7 b.data).2.2=o3 at *
 obtain⟨ty,num,fl,sum,d⟩:=b
 obtain⟨ii,jj⟩:=ij
 obtain⟨qi,qn,qs,qh,qd⟩:=qq
 obtain⟨pi,pn,ps,ph,pd⟩:=pp
 dsimp only at *
 cases te:(e != 0)<;>cases tf:(f != 0)<;>cases tg:(g != 0)
 all_goals
  simp only[te,tf,tg]at hP hN hL
 ·injection k6 te with w1 w2 w3 w4 w5;subst w1 w2 w3 w4 w5;obtain rfl:=k7 tf;injection k10 tg with w6 w7;subst w6 w7;exact Zoy ty num fl sum d e f g _ true _ _ 0 0 _ 0 _ _ 0 0 _ _ [] [] o1 o2 o3 hA t0 hS h6 h7 h10 (by simp) (by simp) (by simp) hP hN hL hQ hK hJ (Zex ⟨_,_,_,_,_⟩) te tf tg (by simp) (by simp) (by simp) (by simp)
 ·injection k6 te with w1 w2 w3 w4 w5;subst w1 w2 w3 w4 w5;obtain rfl:=k7 tf;exact Zox ty num fl sum d e f g _ true _ _ 0 0 _ 0 0 0 _ _ _ _ [] [] o1 o2 o3 hA t0 hS h6 h7 h10 (by simp) (by simp) (by simp) hP hN hL hQ hK hJ (Zex ⟨_,_,_,_,_⟩) te tf tg (by simp) (by simp)
 ·injection k6 te with w1 w2 w3 w4 w5;subst w1 w2 w3 w4 w5;injection k10 tg with w6 w7;subst w6 w7;exact Zow ty num fl sum d e f g _ true _ _ 0 0 0 _ _ _ 0 0 _ _ [] [] o1 o2 o3 hA t0 hS h6 h7 h10 (by simp) (by simp) (by simp) hP hN hL hQ hK hJ (Zex ⟨_,_,_,_,_⟩) te tf tg (by simp) (by simp) (by simp)
 ·injection k6 te with w1 w2 w3 w4 w5;subst w1 w2 w3 w4 w5;exact Zov ty num fl sum d e f g _ true _ _ 0 0 0 _ 0 0 _ _ _ _ [] [] o1 o2 o3 hA t0 hS h6 h7 h10 (by simp) (by simp) (by simp) hP hN hL hQ hK hJ (Zex ⟨_,_,_,_,_⟩) te tf tg (by simp)
 ·obtain rfl:=k7 tf;injection k10 tg with w6 w7;subst w6 w7;exact Zou ty num fl sum d e f g true _ 0 0 _ _ _ 0 _ _ 0 0 [] [] _ _ o1 o2 o3 hA t0 hS h6 h7 h10 (by simp) (by simp) (by simp) hP hN hL hQ hK hJ (Zex Zc2) te tf tg (by simp) (by simp) (by simp)
 ·obtain rfl:=k7 tf;exact Zot ty num fl sum d e f g true _ 0 0 _ _ _ 0 0 0 _ _ [] [] _ _ o1 o2 o3 hA t0 hS h6 h7 h10 (by simp) (by simp) (by simp) hP hN hL hQ hK hJ (Zex Zc2) te tf tg (by simp)
 ·injection k10 tg with w6 w7;subst w6 w7;exact Zos ty num fl sum d e f g true _ 0 0 _ _ 0 _ _ _ 0 0 [] [] _ _ o1 o2 o3 hA t0 hS h6 h7 h10 (by simp) (by simp) (by simp) hP hN hL hQ hK hJ (Zex Zc2) te tf tg (by simp) (by simp)
 ·exact Zor ty num fl sum d e f g true _ 0 0 _ _ 0 _ 0 0 _ _ [] [] _ _ o1 o2 o3 hA t0 hS h6 h7 h10 (by simp) (by simp) (by simp) hP hN hL hQ hK hJ (Zex Zc2) te tf tg
end Go.Proofs.YtakblclkflnnpaaGreatDoor
end
section
open Go.RowKit Go.Pl
namespace Go.Pl
def Zi9 {α:Type}(P:Program)(fs:Array Field)(i o:Nat)(R:Rep α):Prop:=
 ∀(H:Type) (enc:TypeId × Value->H) (W:World) (spare:Nat->Bool) (held:Bool) (n:Nat) (cs:List Value) (xs:List (DataW H × List MemPlace)),cs.length=o+R.n->xs.length=fs.size ->
  (∀(j:Nat) (f:Field),fs[j]?=some f->DataW.trod enc P W 0 spare held n f.type ((cs.drop f.offset).take (P.cellsOf f.type))=xs[j]?)->∃ x,R.ok W (· < W.heap.size) (cs.drop o) x
variable {P:Program} {t:TypeId} {fs:Array Field}
theorem Zht {α:Type}{R:Rep α}{i o:Nat}{f:Field}(hf:fs[i]?=some f)(ho:f.offset=o)(hc:P.cellsOf f.type=R.n)(h:Zd7 P f.type R){H:Type}{enc:TypeId × Value->H}{W:World}{spare:Nat->Bool}{held:Bool}{n:Nat}{cs:List Value}{xs:List (DataW H × List MemPlace)}(hl:xs.length=fs.size)
  (hg:∀(j:Nat) (f:Field),fs[j]?=some f->DataW.trod enc P W 0 spare held n f.type ((cs.drop f.offset).take (P.cellsOf f.type))=xs[j]?):∃ x,R.ok W (· < W.heap.size) ((cs.drop o).take R.n) x:=by
 have e:=hg i f hf
 rw[ho,hc]at e
 have hi:i<xs.length:=by
  rw[hl]
  exact(Array.getElem?_eq_some_iff.1 hf).1
 exact h H enc W spare held n _ _ (e.trans (List.getElem?_eq_getElem hi))
theorem ZjF {α:Type}{R:Rep α}{i o:Nat}{f:Field}(hf:fs[i]?=some f)(ho:f.offset=o)(hc:P.cellsOf f.type=R.n)(h:Zd7 P f.type R):Zi9 P fs i o R:=by
 intro H enc W spare held n cs xs hcl hl hg
 obtain⟨x,hx⟩:=Zht hf ho hc h hl hg
 rw[List.take_of_length_le (by rw[List.length_drop];omega)]at hx
 exact⟨x,hx⟩
theorem ZcY {α β:Type}{R:Rep α}{R':Rep β}{i o:Nat}{f:Field}(hf:fs[i]?=some f)(ho:f.offset=o)(hc:P.cellsOf f.type=R.n)(h:Zd7 P f.type R)(h':Zi9 P fs (i+1) (o+R.n) R'):Zi9 P fs i o (R.prod R'):=by
 intro H enc W spare held n cs xs hcl hl hg
 obtain⟨x,hx⟩:=Zht hf ho hc h hl hg
 have hn:(R.prod R').n=R.n+R'.n:=rfl
 obtain⟨x',hx'⟩:=h' H enc W spare held n cs xs (by rw[hn]at hcl;omega) hl hg
 refine⟨(x,x'),(cs.drop o).take R.n,(cs.drop o).drop R.n,(List.take_append_drop _ _).symm,hx,?_⟩
 rw[List.drop_drop]
 exact hx'
theorem Zhu {α:Type}{R:Rep α}(hs:P.underlying t=some (.struct fs))(hc:P.cellsOf t=R.n)(h:Zi9 P fs 0 0 R):Zd7 P t R:=by
 intro H enc W spare held fuel cs y hy
 obtain⟨xs,n,_,_,hl,hxl,hg⟩:=DataW.trod_struct hs hy
 exact h H enc W spare held n cs xs (by omega) hxl hg
end Go.Pl
end
section
open Go.RowKit Go.Pl Go.Av
namespace Go.Proofs.YtakblclkflnnpaaGreatDoor
set_option maxHeartbeats 4000000
abbrev RB:Rep (Nat × Nat × Nat × Int × List UInt8):=Rep.u64.prod (Rep.u64.prod (Rep.u64.prod (Rep.i64.prod (Rep.slice Rep.byte (by decide)))))
theorem Zpr:Zd7 Tryz.prog 58 RB:=
 Zhu Tryz.underlying58 (by kernel_rfl) (ZcY rfl rfl (by kernel_rfl) (ZeO Tryz.underlying22) (ZcY rfl rfl (by kernel_rfl) (ZeO Tryz.underlying22)
  (ZcY rfl rfl (by kernel_rfl) (ZeO Tryz.underlying22) (ZcY rfl rfl (by kernel_rfl) (ZjJ Tryz.underlying3)
   (ZjF rfl rfl (by kernel_rfl) (Zhy (R:=Rep.byte) (by decide) Tryz.underlying29 (by kernel_rfl) (Zjb Tryz.underlying5)))))))
abbrev XB:=Nat × Nat × Nat × Int × List UInt8
def XB.v (x:XB):BlkV:=⟨x.1,x.2.1,x.2.2.1,x.2.2.2.1,x.2.2.2.2⟩
theorem Zql [Known]{W:World}{cs:List Value}{x:XB}(h:RB.ok W (· < W.heap.size) cs x):V W (g0 W) [] (.agg (bkC x.v)) (.agg cs.toArray):=by
 obtain⟨ty,num,fl,sum,data⟩:=x
 have toE_b:=ToE.u64.prod (ToE.u64.prod (ToE.u64.prod (ToE.i64.prod (ToE.byte.slice (by decide)))))
 exact ToE.agg toE_b (l:=[.int .u64 (ty:Int),.int .u64 (num:Int),.int .u64 (fl:Int),.int .i64 sum,.sl (data.map E.byte)]) rfl h
theorem ZoH {W:World}{S:Nat->Prop}{cs:List Value}{x:XB}(h:RB.ok W S cs x):x.v.fl<18446744073709551616:=by
 obtain⟨ty,num,fl,sum,data⟩:=x
 obtain⟨c0,c1,rfl,h0,h1⟩:=h
 obtain⟨c2,c3,rfl,h2,h3⟩:=h1
 obtain⟨c4,c5,rfl,h4,h5⟩:=h3
 exact h4.2
end Go.Proofs.YtakblclkflnnpaaGreatDoor
end
section
open Go.RowKit Go.Pl Go.Av Go.Lib
namespace Go.Proofs.YtakblclkflnnpaaGreatDoor
theorem Zfy (k:IntKind):∀ zs:List Int,ZjH (zs.map fun z=>.lit (.int k z))=zs.map fun z=>Value.int k z
 | []=>rfl
 | z::zs=>by rw[List.map_cons,List.map_cons,ZjH,Zfy k zs];rfl
theorem Zja {P:Program}{W:World}{n:String}{g:Nat}{t:TypeId}{d:DataW Unit}(hg:P.globalNamed n=some g)(ht:(P.globals[g]?).map (·.type)=some t)(h:VarReads P W n d)
  (key:∀(fuel:Nat) (cs:List Value) (p:List MemPlace),DataW.trod (fun _=>()) P W 0 (fun _=>true) false fuel t cs=some (d,p)->∀(j:Nat) (v:Value),(dcs d)[j]?=some v->cs[j]?=some v) :
  ∀(j:Nat) (v:Value),(dcs d)[j]?=some v->(g0 W).C g j/\W.cell? ⟨g,j,none⟩=some v:=by
 obtain⟨g',t',cs,fuel,p,h1,h2,h3,h4⟩:=h
 obtain rfl:=Option.some.inj (hg.symm.trans h1)
 obtain rfl:=Option.some.inj (ht.symm.trans h2)
 intro j v hv
 have hc:=key fuel cs.toList p h4 j v hv
 have hcell:W.cell? ⟨g,j,none⟩=some v:=by
  rw[World.var?_cell hg h3 j,<- Array.getElem?_toList];exact hc
 exact⟨World.block_lt_of_cell? W _ hcell,hcell⟩
theorem ZnA {P:Program}{W:World}{t e:TypeId}{n:Nat}{k:IntKind}{d:DataW Unit}(zs:List Int)(hd:d=tabData k zs)(ht:P.underlying t=some (.array n e))(he:P.underlying e=some (.int k))(hce:P.cellsOf e=1)(hct:P.cellsOf t=n) :
  ∀(fuel:Nat) (cs:List Value) (p:List MemPlace),DataW.trod (fun _=>()) P W 0 (fun _=>true) false fuel t cs=some (d,p)->∀(j:Nat) (v:Value),(dcs d)[j]?=some v->cs[j]?=some v:=by
 subst hd
 intro fuel cs p h j v hv
 rw[cells_of_tab ht he hce hct h]
 rw[tabData,dcs,Zfy]at hv
 exact hv
theorem ZnB {P:Program}{W:World}{t e:TypeId}{n:Nat}{k:IntKind}{d:DataW Unit}{fs:Array Field}(rows:List (List Int))(hd:d=.agg (rows.map fun r=>.agg (r.map fun z=>.lit (.int k z))))(hn:rows.length=n)(ht:P.underlying t=some (.array n e))(he:P.underlying e=some (.struct fs))
  (hf:∀(i:Nat) (f:Field),fs[i]?=some f->P.underlying f.type=some (.int k)/\f.offset=i/\P.cellsOf f.type=1) (hce:P.cellsOf e=fs.size) :
  ∀(fuel:Nat) (cs:List Value) (p:List MemPlace),DataW.trod (fun _=>()) P W 0 (fun _=>true) false fuel t cs=some (d,p)->∀(j:Nat) (v:Value),(dcs d)[j]?=some v->cs[j]?=some v:=by
 subst hd
 intro fuel cs p h j v hv
 have key:∀ i,i<=n->cs.take (i*fs.size)=ZjH ((rows.take i).map fun r=>.agg (r.map fun z=>.lit (.int k z))):=by
  intro i
  induction i with
  | zero=>intro _;rw[Nat.zero_mul,List.take_zero,List.take_zero];rfl
  | succ i ih=>
   intro hi
   obtain⟨fuel',d',q,hdi,he'⟩:=array_elem ht h i (by omega)
   rw[List.getElem?_map,List.getElem?_eq_getElem (by omega:i<rows.length)]at hdi
   simp only[Option.map_some,Option.some.injEq]at hdi
   subst hdi
   rw[hce]at he'
   have hcs:=ints_of_struct he hf hce he'
   rw[Nat.succ_mul,List.take_add,ih (by omega),hcs,List.take_succ_eq_append_getElem (by omega:i<rows.length),List.map_append]
   have app:∀(a b:List (DataW Unit)),ZjH (a++b)=ZjH a++ZjH b:=fun a b=>by
    induction a with
    | nil=>rfl
    | cons x a ih=>rw[List.cons_append,ZjH,ZjH,ih,List.append_assoc]
   rw[app,List.map_cons,List.map_nil,ZjH,dcs,Zfy]
   simp[ZjH]
 have h2:=key n (Nat.le_refl _)
 rw[<- hn,List.take_length]at h2
 rw[dcs,<- h2]at hv
 rw[List.getElem?_take]at hv
 split at hv
 ·exact hv
 ·cases hv
abbrev ZdE:Known:=⟨[0,1]⟩
theorem ZjG : @KnownU8 ZdE:=@KnownU8.mk ZdE (List.mem_cons_self ..) (List.mem_cons_of_mem _ (List.mem_cons_self ..))
def ZoI:List Int:=Pinned.utf8FirstZ.map Int.ofNat
def ZnC:List (List Int):=[[128,191],[160,191],[128,159],[144,191],[128,143],[0,0],[0,0],[0,0],[0,0],[0,0],[0,0],[0,0],[0,0],[0,0],[0,0],[0,0]]
theorem ZoJ {W:World}{laid:List (String × DataW Unit)}(h1:("unicode/utf8.first",Rows.laid_unicode_utf8_first) ∈ laid)(h2:("unicode/utf8.acceptRanges",Rows.laid_unicode_utf8_acceptRanges) ∈ laid)(h:laidMet Tryz.prog laid W) : @Gls ZdE (g0 W).C W:=by
 have r1:=laidMet.reads h h1
 have r2:=laidMet.reads h h2
 have c1:=Zja (P:=Tryz.prog) (g:=0) (t:=288) (by kernel_rfl) (by kernel_rfl) r1 (ZnA ZoI (by kernel_rfl) (n:=256) (by kernel_rfl) Tryz.underlying5 (by kernel_rfl) (by kernel_rfl))
 have c2:=Zja (P:=Tryz.prog) (g:=1) (t:=291) (by kernel_rfl) (by kernel_rfl) r2 (ZnB ZnC (by kernel_rfl) (n:=16) rfl Tryz.underlying291 Tryz.underlying290 (fun i f hf=>by
  match i,hf with
  | 0,hf=>simp at hf;subst hf;exact⟨Tryz.underlying5,rfl,by kernel_rfl⟩
  | 1,hf=>simp at hf;subst hf;exact⟨Tryz.underlying5,rfl,by kernel_rfl⟩
  | i+2,hf=>simp at hf) (by kernel_rfl))
 refine⟨fun k cs hk=>?_,fun k t hk=>?_⟩
 ·obtain⟨hk,hm⟩:=hk
  simp only[Zmq,List.mem_cons,List.not_mem_nil,or_false,Prod.mk.injEq]at hm
  have hk:k ∈ [0,1]:=hk
  simp only[List.mem_cons,List.not_mem_nil,or_false]at hk
  clear r1 r2 h1 h2 h
  rcases hk with rfl|rfl
  all_goals repeat'(refine Or.elim hm (fun hm=>?_) (fun hm=>?_))
  all_goals first
   | (obtain⟨h,rfl⟩:=hm;exact c1)
   | (obtain⟨h,rfl⟩:=hm;exact c2)
   | (obtain⟨h,_⟩:=hm;exact absurd h (by decide))
 ·obtain⟨hk,hm⟩:=hk
  have hk:k ∈ [0,1]:=hk
  simp only[List.mem_cons,List.not_mem_nil,or_false]at hk
  simp only[Zps,List.mem_cons,List.not_mem_nil,or_false,Prod.mk.injEq]at hm
  all_goals omega
end Go.Proofs.YtakblclkflnnpaaGreatDoor
end
section
open Go.RowKit Go.Pl Go.Av
namespace Go.Proofs.YtakblclkflnnpaaGreatDoor
theorem ZfD (c0:List Value)(x0:XB)(W:World)(h0:RB.ok W (· < W.heap.size) c0 x0)(hl:laidMet Tryz.prog Rows.canonSaysRow.laid W) :
  Calls Tryz.prog 5 #[.agg c0.toArray] W fun e w'=>e=.returned (.bool true)/\Below W.heap.size W w':=by
 have hg:=ZoJ (laid:=Rows.canonSaysRow.laid) (by unfold Rows.canonSaysRow;repeat (first|exact List.mem_cons_self .. | apply List.mem_cons_of_mem)) (by unfold Rows.canonSaysRow;repeat (first|exact List.mem_cons_self .. | apply List.mem_cons_of_mem)) hl
 have h:=@Zhs ZdE ZjG x0.v (ZoH h0)
 refine @ZpG ZdE Tryz.prog 5 _ (@AC.mono ZdE _ _ _ _ _ _ _ h fun r b t h=>h.1) W [.agg c0.toArray] hg rfl ?_
 intro j d v hd hv
 match j,hd,hv with
 | 0,hd,hv=>cases hd;cases hv;exact @Zql ZdE _ _ _ h0
 | j+1,hd,hv=>cases hd
end Go.Proofs.YtakblclkflnnpaaGreatDoor
end

/- Package canon: names of blocks; how much a guarded item is. -/
import Derived.Test.YtakblclkflnnpaaGreatDoorM37
import Derived.Test.YtakblclkflnnpaaGreatDoorM32
import Derived.Test.YtakblclkflnnpaaGreatDoorM33
import Derived.Test.YtakblclkflnnpaaGreatDoorM34
import Derived.Test.YtakblclkflnnpaaGreatDoorM01
import Derived.Test.YtakblclkflnnpaaGreatDoorM07
import Derived.Test.YtakblclkflnnpaaGreatDoorM10
import Derived.Test.YtakblclkflnnpaaGreatDoorM30
import Derived.Test.YtakblclkflnnpaaGreatDoorProg
import Derived.Lib.LaidU8
set_option linter.unusedVariables false
set_option linter.unusedSimpArgs false
section
open Go.RowKit Go.Pl Go.Av
namespace Go.Proofs.YtakblclkflnnpaaGreatDoor
set_option maxHeartbeats 4000000
theorem Zlg [Known][KnownU8](Zar:Nat)(sum:Int)(x:EidV):AP Tryz.prog 42 [.int .u64 (Zar:Int),.int .i64 sum,.agg (eC x)] (ZnK (ofV 6 Zar sum (if ZaP x then Zbu x else .mk 0 0 [] []) (if ZaP x then 0 else 3))) []:=by
 have hW:=ZkY x
 have hwf:wfI (if ZaP x then Zbu x else .mk 0 0 [] []):=by
  cases h:ZaP x with
  | true=>exact Zd9 h
  | false=>exact ZnN
 have hlen:(Za6 (if ZaP x then Zbu x else .mk 0 0 [] [])).length<=100000:=by
  cases h:ZaP x with
  | false=>
   show(Za6 (.mk 0 0 [] [])).length<=100000
   decide +kernel
  | true=>
   show(Za6 (Zbu x)).length<=100000
   unfold Zbu
   repeat' split
   ·exact Nat.le_trans (Zfz 1 0) (by decide)
   ·have h0:=Zcc 4 0 [] [.mk 0 2 [] [],Zfx x.n x.s]
    have h1:=ZdG 2
    have h2:=Zfz x.n x.s
    simp only[Zbd,List.length_append,List.length_nil,Nat.add_zero,Nat.zero_add]at h0
    exact Nat.le_trans h0 (by omega)
   ·have h0:=Zcc 4 0 [] [.mk 0 1 [] [],.mk 3 0 (ZbU x) []]
    have h1:=ZdG 1
    have h2:=Zcc 3 0 (ZbU x) []
    rename_i hz hi
    have h3:(ZbU x).length<=100:=by
     have ht:=Zby h (by simpa using hz) (by simpa using hi)
     simp only[ZbU,List.length_append,List.length_cons,List.length_nil]
     omega
    simp only[Zbd,List.length_append,List.length_nil,Nat.add_zero,Nat.zero_add]at h0 h2
    exact Nat.le_trans h0 (by omega)
 have hO:=ZnL 6 Zar sum (if ZaP x then Zbu x else .mk 0 0 [] []) (if ZaP x then 0 else 3) hwf hlen
 generalize (if ZaP x then Zbu x else .mk 0 0 [] [])=I at *
 generalize (if ZaP x then(0:Int) else 3)=E0 at *
 clear hwf hlen
 generalize ofV 6 Zar sum I E0=r at *
 obtain⟨xi,xn,xs,xh,xd⟩:=x
 obtain⟨k,n,b,l⟩:=I
 obtain⟨⟨a,b2,c,d,f⟩,e⟩:=r
 refine AP.ofA ?_
 refine Zan Tryz.func42 rfl Tryz.ntmps42 rfl rfl ?_
 repeat'(first|(apply Zaa (hW);kernel_rfl;(iterate 4 exact Z))|(apply Zaa (hO);kernel_rfl;(iterate 4 exact Z))|(apply Zai Zab;exact Z)|(apply Zah Zab;exact Z))
 all_goals(apply Zaz [];(apply Zad Zab;exact Z);(iterate 4 exact Z))
 all_goals rfl
theorem Zh9 {x:EidV}(h:ZaP x=true):(Za6 (Zbu x)).length<=80:=by
 unfold Zbu
 repeat' split
 ·exact Nat.le_trans (Zfz 1 0) (by decide)
 ·have h0:=Zcc 4 0 [] [.mk 0 2 [] [],Zfx x.n x.s]
  have h1:=ZdG 2
  have h2:=Zfz x.n x.s
  simp only[Zbd,List.length_append,List.length_nil,Nat.add_zero,Nat.zero_add]at h0
  exact Nat.le_trans h0 (by omega)
 ·have h0:=Zcc 4 0 [] [.mk 0 1 [] [],.mk 3 0 (ZbU x) []]
  have h1:=ZdG 1
  have h2:=Zcc 3 0 (ZbU x) []
  rename_i hz hi
  have h3:(ZbU x).length<=43:=by
   have ht:=Zby h (by simpa using hz) (by simpa using hi)
   simp only[ZbU,List.length_append,List.length_cons,List.length_nil]
   omega
  simp only[Zbd,List.length_append,List.length_nil,Nat.add_zero,Nat.zero_add]at h0 h2
  exact Nat.le_trans h0 (by omega)
theorem ZoS (kind Zar:Nat)(sum:Int)(x:It):ofV kind Zar sum x 3=(bk0,3):=rfl
theorem Zia {kind Zar:Nat}{sum:Int}{x:It}(h:ZaM x=true):ofV kind Zar sum x 0=(dOf kind Zar sum x,if Zbg ⟨kind,Zar,0,sum,Za6 x⟩ then 0 else 3):=by
 rw[Zla h]
 cases Zbg ⟨kind,Zar,0,sum,Za6 x⟩<;>rfl
theorem Zgw [Known][KnownU8](Zar:Nat)(sum:Int)(x:EidV)(n m:Nat)(hfit:Fit x)(hn:n<18446744073709551616)(hm:m<18446744073709551616):AP Tryz.prog 6 [.int .u64 (Zar:Int),.int .i64 sum,.agg (eC x),.int .u64 (n:Int),.int .u64 (m:Int)] (.bool true) []:=by
 have hA:=Zld
 cases t0:decide (IntKind.i64.wrap ((x.h.length:Int)+(x.d.length:Int))>300) with
 | true=>
  obtain⟨xi,xn,xs,xh,xd⟩:=x
  exact Zqf _ _ _ _ _ _ _ _ _ hA t0
 | false=>
 have hE:=ZoI x
 have hP:=Zlg Zar sum x
 have hQ:=Zi9 Zar sum n hn
 have hH:=Zfy Zar sum n m hn hm
 have r7:ZaM (.mk 0 n [] [])=true:=Zle n
 have r10:ZaM (Zfx n m)=true:=Zlf n m
 rw[Zia r7]at hQ
 rw[Zia r10]at hH
 have w7:wfI (.mk 0 n [] []):=⟨hn,by simp,by simp,trivial⟩
 have w10:wfI (Zfx n m):=⟨by decide,by simp,by simp[Zfx],⟨hn,by simp,by simp,trivial⟩,⟨hm,by simp,by simp,trivial⟩,trivial⟩
 have f7:ZdC (.mk 0 n [] [])=true:=rfl
 have f10:ZdC (Zfx n m)=true:=rfl
 have l7:=ZdG n
 have l10:=Zfz n m
 have hO7:=Zh8 7 Zar sum (.mk 0 n [] []) w7 f7 (by omega)
 have hO10:=Zh8 10 Zar sum (Zfx n m) w10 f10 (by omega)
 have hSq:=Zja (dOf 7 Zar sum (.mk 0 n [] []))
 have hSs:=Zja (dOf 10 Zar sum (Zfx n m))
 have hM7:=Zec (dOf 7 Zar sum (.mk 0 n [] []))
 have hM10:=Zec (dOf 10 Zar sum (Zfx n m))
 generalize Zbg ⟨7,Zar,0,sum,Za6 (.mk 0 n [] [])⟩=is at *
 generalize Zbg ⟨10,Zar,0,sum,Za6 (Zfx n m)⟩=may at *
 generalize dOf 7 Zar sum (.mk 0 n [] [])=q at *
 generalize dOf 10 Zar sum (Zfx n m)=s at *
 clear r7 r10 w7 w10 f7 f10 l7 l10
 obtain⟨qty,qnum,qfl,qsum,qd⟩:=q
 obtain⟨sty,snum,sfl,ssum,sd⟩:=s
 have hkg:=Zgq x
 cases hx:ZaP x with
 | false=>
  rw[hx]at hP hkg
  rw[if_neg (by simp),if_neg (by simp),ZoS]at hP
  have hSp:=Zja bk0
  have hM6:=Zec bk0
  have hK:=Zcz x hfit
  generalize Zb7 x=κ at *
  obtain⟨xi,xn,xs,xh,xd⟩:=x
  cases is<;>cases may
  ·exact ZnX _ _ _ _ _ _ _ _ _ κ 0 0 0 _ _ _ _ _ _ 0 _ _ [] _ _ hA t0 hE hP hQ hH hK hkg hO7 hO10 hSp hSq hSs hM6 hM7 hM10
  ·exact ZnW _ _ _ _ _ _ _ _ _ κ 0 0 0 _ _ _ _ _ _ 0 _ _ [] _ _ hA t0 hE hP hQ hH hK hkg hO7 hO10 hSp hSq hSs hM6 hM7 hM10
  ·exact ZnV _ _ _ _ _ _ _ _ _ κ 0 0 0 _ _ _ _ _ _ 0 _ _ [] _ _ hA t0 hE hP hQ hH hK hkg hO7 hO10 hSp hSq hSs hM6 hM7 hM10
  ·exact ZnU _ _ _ _ _ _ _ _ _ κ 0 0 0 _ _ _ _ _ _ 0 _ _ [] _ _ hA t0 hE hP hQ hH hK hkg hO7 hO10 hSp hSq hSs hM6 hM7 hM10
 | true=>
  rw[hx]at hP hkg
  rw[if_pos rfl,if_pos rfl,Zia (ZdF hx)]at hP
  have hK:=Zcz x (Zd8 hx)
  have hWi:=ZcJ x hx
  have wx:=Zd9 hx
  have lx:=Zh9 hx
  have fx:ZdC (Zbu x)=true:=by
   have:=ZdF hx
   rw[Zhc]at this
   simp only[Bool.and_eq_true]at this
   exact this.2.2
  have hO6:=Zh8 6 Zar sum (Zbu x) wx fx (by omega)
  have hSp:=Zja (dOf 6 Zar sum (Zbu x))
  have hM6:=Zec (dOf 6 Zar sum (Zbu x))
  generalize Zbg ⟨6,Zar,0,sum,Za6 (Zbu x)⟩=ok at *
  generalize dOf 6 Zar sum (Zbu x)=p at *
  generalize Zbu x=y at *
  generalize Zb7 x=κ at *
  obtain⟨pty,pnum,pfl,psum,pd⟩:=p
  obtain⟨yk,yn,yb,yl⟩:=y
  obtain⟨xi,xn,xs,xh,xd⟩:=x
  cases ok<;>cases is<;>cases may
  ·exact ZnT _ _ _ _ _ _ _ _ _ κ _ _ _ _ _ _ _ _ _ _ _ _ _ _ _ _ _ _ _ hA t0 hE hP hQ hH hK hkg hO7 hO10 hSp hSq hSs hM6 hM7 hM10 hWi hO6
  ·exact ZnS _ _ _ _ _ _ _ _ _ κ _ _ _ _ _ _ _ _ _ _ _ _ _ _ _ _ _ _ _ hA t0 hE hP hQ hH hK hkg hO7 hO10 hSp hSq hSs hM6 hM7 hM10 hWi hO6
  ·exact ZnR _ _ _ _ _ _ _ _ _ κ _ _ _ _ _ _ _ _ _ _ _ _ _ _ _ _ _ _ _ hA t0 hE hP hQ hH hK hkg hO7 hO10 hSp hSq hSs hM6 hM7 hM10 hWi hO6
  ·exact ZnQ _ _ _ _ _ _ _ _ _ κ _ _ _ _ _ _ _ _ _ _ _ _ _ _ _ _ _ _ _ hA t0 hE hP hQ hH hK hkg hO7 hO10 hSp hSq hSs hM6 hM7 hM10 hWi hO6
  ·exact ZnF _ _ _ _ _ _ _ _ _ κ _ _ _ _ _ _ _ _ _ _ _ _ _ _ _ _ _ _ _ hA t0 hE hP hQ hH hK hkg hO7 hO10 hSp hSq hSs hM6 hM7 hM10 hWi hO6
  ·exact ZnE _ _ _ _ _ _ _ _ _ κ _ _ _ _ _ _ _ _ _ _ _ _ _ _ _ _ _ _ _ hA t0 hE hP hQ hH hK hkg hO7 hO10 hSp hSq hSs hM6 hM7 hM10 hWi hO6
  ·exact ZnD _ _ _ _ _ _ _ _ _ κ _ _ _ _ _ _ _ _ _ _ _ _ _ _ _ _ _ _ _ hA t0 hE hP hQ hH hK hkg hO7 hO10 hSp hSq hSs hM6 hM7 hM10 hWi hO6
  ·exact ZnC _ _ _ _ _ _ _ _ _ κ _ _ _ _ _ _ _ _ _ _ _ _ _ _ _ _ _ _ _ hA t0 hE hP hQ hH hK hkg hO7 hO10 hSp hSq hSs hM6 hM7 hM10 hWi hO6
end Go.Proofs.YtakblclkflnnpaaGreatDoor
end
section
open Go.RowKit Go.Pl
namespace Go.Pl
variable {P:Program} {t:TypeId} {fs:Array Field}
end Go.Pl
end
section
open Go.RowKit Go.Pl Go.Av
namespace Go.Proofs.YtakblclkflnnpaaGreatDoor
set_option maxHeartbeats 4000000
abbrev XB:=Nat × Nat × Nat × Int × List UInt8
def XB.v (x:XB):BlkV:=⟨x.1,x.2.1,x.2.2.1,x.2.2.2.1,x.2.2.2.2⟩
theorem ZnY {W:World}{S:Nat->Prop}{cs:List Value}{x:XE}(h:RE.ok W S cs x):Fit x.v:=by
 obtain⟨i,n,s,hh,d⟩:=x
 obtain⟨c0,c1,rfl,h0,h1⟩:=h
 obtain⟨c2,c3,rfl,h2,h3⟩:=h1
 obtain⟨c4,c5,rfl,h4,h5⟩:=h3
 obtain⟨c6,c7,rfl,h6,h7⟩:=h5
 exact⟨h6.2,h7.2⟩
end Go.Proofs.YtakblclkflnnpaaGreatDoor
end
section
open Go.RowKit Go.Pl Go.Av Go.Lib
namespace Go.Proofs.YtakblclkflnnpaaGreatDoor
theorem ZfA (k:IntKind):∀ zs:List Int,ZjG (zs.map fun z=>.lit (.int k z))=zs.map fun z=>Value.int k z
 | []=>rfl
 | z::zs=>by rw[List.map_cons,List.map_cons,ZjG,ZfA k zs];rfl
theorem Zjb {P:Program}{W:World}{n:String}{g:Nat}{t:TypeId}{d:DataW Unit}(hg:P.globalNamed n=some g)(ht:(P.globals[g]?).map (·.type)=some t)(h:VarReads P W n d)
  (key:∀(fuel:Nat) (cs:List Value) (p:List MemPlace),DataW.trod (fun _=>()) P W 0 (fun _=>true) false fuel t cs=some (d,p)->∀(j:Nat) (v:Value),(dcs d)[j]?=some v->cs[j]?=some v) :
  ∀(j:Nat) (v:Value),(dcs d)[j]?=some v->(g0 W).C g j/\W.cell? ⟨g,j,none⟩=some v:=by
 obtain⟨g',t',cs,fuel,p,h1,h2,h3,h4⟩:=h
 obtain rfl:=Option.some.inj (hg.symm.trans h1)
 obtain rfl:=Option.some.inj (ht.symm.trans h2)
 intro j v hv
 have hc:=key fuel cs.toList p h4 j v hv
 have hcell:W.cell? ⟨g,j,none⟩=some v:=by
  rw[World.var?_cell hg h3 j,<- Array.getElem?_toList];exact hc
 exact⟨World.block_lt_of_cell? W _ hcell,hcell⟩
theorem ZnZ {P:Program}{W:World}{t e:TypeId}{n:Nat}{k:IntKind}{d:DataW Unit}(zs:List Int)(hd:d=tabData k zs)(ht:P.underlying t=some (.array n e))(he:P.underlying e=some (.int k))(hce:P.cellsOf e=1)(hct:P.cellsOf t=n) :
  ∀(fuel:Nat) (cs:List Value) (p:List MemPlace),DataW.trod (fun _=>()) P W 0 (fun _=>true) false fuel t cs=some (d,p)->∀(j:Nat) (v:Value),(dcs d)[j]?=some v->cs[j]?=some v:=by
 subst hd
 intro fuel cs p h j v hv
 rw[cells_of_tab ht he hce hct h]
 rw[tabData,dcs,ZfA]at hv
 exact hv
theorem Zn0 {P:Program}{W:World}{t e:TypeId}{n:Nat}{k:IntKind}{d:DataW Unit}{fs:Array Field}(rows:List (List Int))(hd:d=.agg (rows.map fun r=>.agg (r.map fun z=>.lit (.int k z))))(hn:rows.length=n)(ht:P.underlying t=some (.array n e))(he:P.underlying e=some (.struct fs))
  (hf:∀(i:Nat) (f:Field),fs[i]?=some f->P.underlying f.type=some (.int k)/\f.offset=i/\P.cellsOf f.type=1) (hce:P.cellsOf e=fs.size) :
  ∀(fuel:Nat) (cs:List Value) (p:List MemPlace),DataW.trod (fun _=>()) P W 0 (fun _=>true) false fuel t cs=some (d,p)->∀(j:Nat) (v:Value),(dcs d)[j]?=some v->cs[j]?=some v:=by
 subst hd
 intro fuel cs p h j v hv
 have key:∀ i,i<=n->cs.take (i*fs.size)=ZjG ((rows.take i).map fun r=>.agg (r.map fun z=>.lit (.int k z))):=by
  intro i
  induction i with
  | zero=>intro _;rw[Nat.zero_mul,List.take_zero,List.take_zero];rfl
  | succ i ih=>
   intro hi
   obtain⟨fuel',d',q,hdi,he'⟩:=array_elem ht h i (by omega)
   rw[List.getElem?_map,List.getElem?_eq_getElem (by omega:i<rows.length)]at hdi
   simp only[Option.map_some,Option.some.injEq]at hdi
   subst hdi
   rw[hce]at he'
   have hcs:=ints_of_struct he hf hce he'
   rw[Nat.succ_mul,List.take_add,ih (by omega),hcs,List.take_succ_eq_append_getElem (by omega:i<rows.length),List.map_append]
   have app:∀(a b:List (DataW Unit)),ZjG (a++b)=ZjG a++ZjG b:=fun a b=>by
    induction a with
    | nil=>rfl
    | cons x a ih=>rw[List.cons_append,ZjG,ZjG,ih,List.append_assoc]
   rw[app,List.map_cons,List.map_nil,ZjG,dcs,ZfA]
   simp[ZjG]
 have h2:=key n (Nat.le_refl _)
 rw[<- hn,List.take_length]at h2
 rw[dcs,<- h2]at hv
 rw[List.getElem?_take]at hv
 split at hv
 ·exact hv
 ·cases hv
abbrev ZdH:Known:=⟨[0,1]⟩
theorem ZjF : @KnownU8 ZdH:=@KnownU8.mk ZdH (List.mem_cons_self ..) (List.mem_cons_of_mem _ (List.mem_cons_self ..))
def ZoT:List Int:=Pinned.utf8FirstZ.map Int.ofNat
def Zn1:List (List Int):=[[128,191],[160,191],[128,159],[144,191],[128,143],[0,0],[0,0],[0,0],[0,0],[0,0],[0,0],[0,0],[0,0],[0,0],[0,0],[0,0]]
theorem ZoU {W:World}{laid:List (String × DataW Unit)}(h1:("unicode/utf8.first",Rows.laid_unicode_utf8_first) ∈ laid)(h2:("unicode/utf8.acceptRanges",Rows.laid_unicode_utf8_acceptRanges) ∈ laid)(h:laidMet Tryz.prog laid W) : @Gls ZdH (g0 W).C W:=by
 have r1:=laidMet.reads h h1
 have r2:=laidMet.reads h h2
 have c1:=Zjb (P:=Tryz.prog) (g:=0) (t:=288) (by kernel_rfl) (by kernel_rfl) r1 (ZnZ ZoT (by kernel_rfl) (n:=256) (by kernel_rfl) Tryz.underlying5 (by kernel_rfl) (by kernel_rfl))
 have c2:=Zjb (P:=Tryz.prog) (g:=1) (t:=291) (by kernel_rfl) (by kernel_rfl) r2 (Zn0 Zn1 (by kernel_rfl) (n:=16) rfl Tryz.underlying291 Tryz.underlying290 (fun i f hf=>by
  match i,hf with
  | 0,hf=>simp at hf;subst hf;exact⟨Tryz.underlying5,rfl,by kernel_rfl⟩
  | 1,hf=>simp at hf;subst hf;exact⟨Tryz.underlying5,rfl,by kernel_rfl⟩
  | i+2,hf=>simp at hf) (by kernel_rfl))
 refine⟨fun k cs hk=>?_,fun k t hk=>?_⟩
 ·obtain⟨hk,hm⟩:=hk
  simp only[Zmq,List.mem_cons,List.not_mem_nil,or_false,Prod.mk.injEq]at hm
  have hk:k ∈ [0,1]:=hk
  simp only[List.mem_cons,List.not_mem_nil,or_false]at hk
  clear r1 r2 h1 h2 h
  rcases hk with rfl|rfl
  all_goals repeat'(refine Or.elim hm (fun hm=>?_) (fun hm=>?_))
  all_goals first
   | (obtain⟨h,rfl⟩:=hm;exact c1)
   | (obtain⟨h,rfl⟩:=hm;exact c2)
   | (obtain⟨h,_⟩:=hm;exact absurd h (by decide))
 ·obtain⟨hk,hm⟩:=hk
  have hk:k ∈ [0,1]:=hk
  simp only[List.mem_cons,List.not_mem_nil,or_false]at hk
  simp only[ZpE,List.mem_cons,List.not_mem_nil,or_false,Prod.mk.injEq]at hm
  all_goals omega
end Go.Proofs.YtakblclkflnnpaaGreatDoor
end
section
open Go.RowKit Go.Pl Go.Av
namespace Go.Proofs.YtakblclkflnnpaaGreatDoor
theorem ZfB (n0:Nat)(i1:Int)(c2:List Value)(n3:Nat)(n4:Nat)(x2:XE)(W:World)(h0:n0<18446744073709551616)(h1 : -9223372036854775808<=i1/\i1<=9223372036854775807)(h2:RE.ok W (· < W.heap.size) c2 x2)(h3:n3<18446744073709551616)(h4:n4<18446744073709551616)(hl:laidMet Tryz.prog Rows.canonMakesRow.laid W) :
  Calls Tryz.prog 6 #[.int .u64 (n0:Int),.int .i64 i1,.agg c2.toArray,.int .u64 (n3:Int),.int .u64 (n4:Int)] W fun e w'=>e=.returned (.bool true)/\Below W.heap.size W w':=by
 have hg:=ZoU (laid:=Rows.canonMakesRow.laid) (by unfold Rows.canonMakesRow;repeat (first|exact List.mem_cons_self .. | apply List.mem_cons_of_mem)) (by unfold Rows.canonMakesRow;repeat (first|exact List.mem_cons_self .. | apply List.mem_cons_of_mem)) hl
 have h:=@Zgw ZdH ZjF n0 i1 x2.v n3 n4 (ZnY h2) h3 h4
 refine @ZpT ZdH Tryz.prog 6 _ (@AC.mono ZdH _ _ _ _ _ _ _ h fun r b t h=>h.1) W [.int .u64 (n0:Int),.int .i64 i1,.agg c2.toArray,.int .u64 (n3:Int),.int .u64 (n4:Int)] hg rfl ?_
 intro j d v hd hv
 match j,hd,hv with
 | 0,hd,hv=>cases hd;cases hv;exact .int _ _
 | 1,hd,hv=>cases hd;cases hv;exact .int _ _
 | 2,hd,hv=>cases hd;cases hv;exact @Zpw ZdH _ _ _ h2
 | 3,hd,hv=>cases hd;cases hv;exact .int _ _
 | 4,hd,hv=>cases hd;cases hv;exact .int _ _
 | j+5,hd,hv=>cases hd
end Go.Proofs.YtakblclkflnnpaaGreatDoor
end

/- What a row's tables tell of the world. -/
import Derived.Test.YtmljabhmajehnaaGreatDoorT01
import Derived.Test.YtmljabhmajehnaaGreatDoorT07
import Derived.Test.YtmljabhmajehnaaGreatDoorProg
import Derived.Lib.LaidU8
import Derived.Test.YtmljabhmajehnaaGreatDoorT33
set_option linter.unusedVariables false
set_option linter.unusedSimpArgs false
section
open Go.RowKit Go.Pl Go.Av Go.Lib
namespace Go.Proofs.YtmljabhmajehnaaGreatDoor
theorem Jq (k:IntKind):∀ zs:List Int,JE (zs.map fun z=>.lit (.int k z))=zs.map fun z=>Value.int k z
 | []=>rfl
 | z::zs=>by rw[List.map_cons,List.map_cons,JE,Jq k zs];rfl
theorem Iq {P:Program}{W:World}{n:String}{g:Nat}{t:TypeId}{d:DataW Unit}(hg:P.globalNamed n=some g)(ht:(P.globals[g]?).map (·.type)=some t)(h:VarReads P W n d)
  (key:∀(fuel:Nat) (cs:List Value) (p:List MemPlace),DataW.trod (fun _=>()) P W 0 (fun _=>true) false fuel t cs=some (d,p)->∀(j:Nat) (v:Value),(dcs d)[j]?=some v->cs[j]?=some v) :
  ∀(j:Nat) (v:Value),(dcs d)[j]?=some v->(g0 W).C g j/\W.cell? ⟨g,j,none⟩=some v:=by
 obtain⟨g',t',cs,fuel,p,h1,h2,h3,h4⟩:=h
 obtain rfl:=Option.some.inj (hg.symm.trans h1)
 obtain rfl:=Option.some.inj (ht.symm.trans h2)
 intro j v hv
 have hc:=key fuel cs.toList p h4 j v hv
 have hcell:W.cell? ⟨g,j,none⟩=some v:=by
  rw[World.var?_cell hg h3 j,<- Array.getElem?_toList];exact hc
 exact⟨World.block_lt_of_cell? W _ hcell,hcell⟩
theorem MG {P:Program}{W:World}{t e:TypeId}{n:Nat}{k:IntKind}{d:DataW Unit}(zs:List Int)(hd:d=tabData k zs)(ht:P.underlying t=some (.array n e))(he:P.underlying e=some (.int k))(hce:P.cellsOf e=1)(hct:P.cellsOf t=n) :
  ∀(fuel:Nat) (cs:List Value) (p:List MemPlace),DataW.trod (fun _=>()) P W 0 (fun _=>true) false fuel t cs=some (d,p)->∀(j:Nat) (v:Value),(dcs d)[j]?=some v->cs[j]?=some v:=by
 subst hd
 intro fuel cs p h j v hv
 rw[cells_of_tab ht he hce hct h]
 rw[tabData,dcs,Jq]at hv
 exact hv
theorem MH {P:Program}{W:World}{t e:TypeId}{n:Nat}{k:IntKind}{d:DataW Unit}{fs:Array Field}(rows:List (List Int))(hd:d=.agg (rows.map fun r=>.agg (r.map fun z=>.lit (.int k z))))(hn:rows.length=n)(ht:P.underlying t=some (.array n e))(he:P.underlying e=some (.struct fs))
  (hf:∀(i:Nat) (f:Field),fs[i]?=some f->P.underlying f.type=some (.int k)/\f.offset=i/\P.cellsOf f.type=1) (hce:P.cellsOf e=fs.size) :
  ∀(fuel:Nat) (cs:List Value) (p:List MemPlace),DataW.trod (fun _=>()) P W 0 (fun _=>true) false fuel t cs=some (d,p)->∀(j:Nat) (v:Value),(dcs d)[j]?=some v->cs[j]?=some v:=by
 subst hd
 intro fuel cs p h j v hv
 have key:∀ i,i<=n->cs.take (i*fs.size)=JE ((rows.take i).map fun r=>.agg (r.map fun z=>.lit (.int k z))):=by
  intro i
  induction i with
  | zero=>intro _;rw[Nat.zero_mul,List.take_zero,List.take_zero];rfl
  | succ i ih=>
   intro hi
   obtain⟨fuel',d',q,hdi,he'⟩:=array_elem ht h i (by omega)
   rw[List.getElem?_map,List.getElem?_eq_getElem (by omega:i<rows.length)]at hdi
   simp only[Option.map_some,Option.some.injEq]at hdi
   subst hdi
   rw[hce]at he'
   have hcs:=ints_of_struct he hf hce he'
   rw[Nat.succ_mul,List.take_add,ih (by omega),hcs,List.take_succ_eq_append_getElem (by omega:i<rows.length),List.map_append]
   have app:∀(a b:List (DataW Unit)),JE (a++b)=JE a++JE b:=fun a b=>by
    induction a with
    | nil=>rfl
    | cons x a ih=>rw[List.cons_append,JE,JE,ih,List.append_assoc]
   rw[app,List.map_cons,List.map_nil,JE,dcs,Jq]
   simp[JE]
 have h2:=key n (Nat.le_refl _)
 rw[<- hn,List.take_length]at h2
 rw[dcs,<- h2]at hv
 rw[List.getElem?_take]at hv
 split at hv
 ·exact hv
 ·cases hv
abbrev Un:Known:=⟨[0,1]⟩
theorem Gc : @KnownU8 Un:=@KnownU8.mk Un (List.mem_cons_self ..) (List.mem_cons_of_mem _ (List.mem_cons_self ..))
def LD:List Int:=Pinned.utf8FirstZ.map Int.ofNat
def MI:List (List Int):=[[128,191],[160,191],[128,159],[144,191],[128,143],[0,0],[0,0],[0,0],[0,0],[0,0],[0,0],[0,0],[0,0],[0,0],[0,0],[0,0]]
theorem LE {W:World}{laid:List (String × DataW Unit)}(h1:("unicode/utf8.first",Rows.laid_unicode_utf8_first) ∈ laid)(h2:("unicode/utf8.acceptRanges",Rows.laid_unicode_utf8_acceptRanges) ∈ laid)(h:laidMet Tryz.prog laid W) : @Gls Un (g0 W).C W:=by
 have r1:=laidMet.reads h h1
 have r2:=laidMet.reads h h2
 have c1:=Iq (P:=Tryz.prog) (g:=0) (t:=271) (by kernel_rfl) (by kernel_rfl) r1 (MG LD (by kernel_rfl) (n:=256) (by kernel_rfl) Tryz.underlying5 (by kernel_rfl) (by kernel_rfl))
 have c2:=Iq (P:=Tryz.prog) (g:=1) (t:=274) (by kernel_rfl) (by kernel_rfl) r2 (MH MI (by kernel_rfl) (n:=16) rfl Tryz.underlying274 Tryz.underlying273 (fun i f hf=>by
  match i,hf with
  | 0,hf=>simp at hf;subst hf;exact⟨Tryz.underlying5,rfl,by kernel_rfl⟩
  | 1,hf=>simp at hf;subst hf;exact⟨Tryz.underlying5,rfl,by kernel_rfl⟩
  | i+2,hf=>simp at hf) (by kernel_rfl))
 refine⟨fun k cs hk=>?_,fun k t hk=>?_⟩
 ·obtain⟨hk,hm⟩:=hk
  simp only[Od,List.mem_cons,List.not_mem_nil,or_false,Prod.mk.injEq]at hm
  have hk:k ∈ [0,1]:=hk
  simp only[List.mem_cons,List.not_mem_nil,or_false]at hk
  clear r1 r2 h1 h2 h
  rcases hk with rfl|rfl
  all_goals repeat'(refine Or.elim hm (fun hm=>?_) (fun hm=>?_))
  all_goals first
   | (obtain⟨h,rfl⟩:=hm;exact c1)
   | (obtain⟨h,rfl⟩:=hm;exact c2)
   | (obtain⟨h,_⟩:=hm;exact absurd h (by decide))
 ·obtain⟨hk,hm⟩:=hk
  have hk:k ∈ [0,1]:=hk
  simp only[List.mem_cons,List.not_mem_nil,or_false]at hk
  simp only[LG,List.mem_cons,List.not_mem_nil,or_false,Prod.mk.injEq]at hm
  all_goals omega
end Go.Proofs.YtmljabhmajehnaaGreatDoor
end
section
open Go.RowKit Go.Pl Go.Av
namespace Go.Proofs.YtmljabhmajehnaaGreatDoor
theorem Ir (c0:List Value)(v1:Value)(n2:Nat)(x0:XBn)(x1:List UInt8)(W:World)(h0:RBn.ok W (· < W.heap.size) c0 x0)(hw0:∀ c ∈ x0.2,c.2.2.2.2.length<=140737488351232)(h1:Sl Rep.byte W (· < W.heap.size) v1 x1)(h2:n2<18446744073709551616)(hl:laidMet Tryz.prog Rows.topWayRow.laid W) :
  Calls Tryz.prog 3 #[.agg c0.toArray,v1,.int .u64 (n2:Int)] W fun e w'=>e=.returned (.bool true)/\Below W.heap.size W w':=by
 have hg:=LE (laid:=Rows.topWayRow.laid) (by unfold Rows.topWayRow;repeat (first|exact List.mem_cons_self .. | apply List.mem_cons_of_mem)) (by unfold Rows.topWayRow;repeat (first|exact List.mem_cons_self .. | apply List.mem_cons_of_mem)) hl
 have hb:=Rh h0
 have h:=@HW Un Gc x0.v x1 n2 ⟨hb.1,fun c hc=>⟨hb.2 c hc,by
  obtain⟨y,hy,rfl⟩:=List.mem_map.1 hc
  exact hw0 y hy⟩⟩
 refine @Rk Un Tryz.prog 3 _ (@AC.mono Un _ _ _ _ _ _ _ h fun r b t h=>h.1) W [.agg c0.toArray,v1,.int .u64 (n2:Int)] hg rfl ?_
 intro j d v hd hv
 match j,hd,hv with
 | 0,hd,hv=>cases hd;cases hv;exact @RT Un _ _ _ h0
 | 1,hd,hv=>cases hd;cases hv;exact MF h1
 | 2,hd,hv=>cases hd;cases hv;exact .int _ _
 | j+3,hd,hv=>cases hd
end Go.Proofs.YtmljabhmajehnaaGreatDoor
end

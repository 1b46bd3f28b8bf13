/- ConnCut: requests wait (cpgen2.py). -/
import Derived.Test.YtkdpfkjlheajhaaGreatDoorC26
import Derived.Test.YtkdpfkjlheajhaaGreatDoorC27
import Derived.Test.YtkdpfkjlheajhaaGreatDoorC28
import Derived.Test.YtkdpfkjlheajhaaGreatDoorC01
import Derived.Test.YtkdpfkjlheajhaaGreatDoorC07
import Derived.Test.YtkdpfkjlheajhaaGreatDoorProg
import Derived.Lib.LaidU8
import Derived.Test.YtkdpfkjlheajhaaGreatDoorC14
import Derived.Stop.LaidErr
import Derived.Test.YtkdpfkjlheajhaaGreatDoorC10
set_option linter.unusedVariables false
set_option linter.unusedSimpArgs false
section
open Go.RowKit Go.Pl Go.Av
namespace Go.Proofs.YtkdpfkjlheajhaaGreatDoor
set_option maxHeartbeats 4000000
theorem Gs [Known][KnownSc][KnownPow](b cuts lb:List UInt8)(w:List RqV)(br:Nat)(hcl:cuts.length<=9223372036854775807)(hb:b.length<=4000)(hrb:Zy b=(lb,w,0,br))(hw:w ≠ []):AP Tryz.prog 4 [byE b,byE cuts] (.bool true) []:=by
 have hN:=Ov
 have hF:=kfN [] b (by simp;omega) (.sl (.own 0) (w.map rqE)) (cqF w.length) (lb,w,0,br) hrb.symm (.inr (.inr ⟨rfl,hw,rfl,rfl⟩))
 dsimp only at hF
 have hC:=UU 0 [] 0
 have hA:=WM
 have hbl:(b.map E.byte).length=b.length:=List.length_map ..
 have g1:decide (((b.map E.byte).length:Int)>4000)=false:=decide_eq_false (by rw[hbl];omega)
 refine AP.ofA (Zm Tryz.func4 Z Tryz.ntmps4 Z Z ?_)
 repeat'(first|(apply Zb [] [] (hN);kernel_rfl;(iterate 10 exact Z))|(apply Zb [0,1] [] (hF);kernel_rfl;(iterate 10 exact Z))|(apply Zb [2,3] [] (hC);kernel_rfl;(iterate 10 exact Z))|(apply Zj Za;exact Z)|(apply Zg Za;exact Z)|(apply Zq Za;exact Z)|(apply Ze;exact Z;(first|with_reducible assumption|decide +kernel|(solve|simp only[bn])))|refine Zp Za Z Z Z Z ?_)
 refine Z4 (W4 b cuts (.sl (.own 0) (w.map rqE)) 0 lb ((br:Nat):Int) (cqF w.length) 1) (b.length+cuts.length+1) (Lands.mk' (m:=b.length+cuts.length) (Nat.lt_succ_self _) ⟨[],b,0,0,.sl .nil [],[],0,0,by simp,.inr ⟨rfl,Nat.zero_le _⟩,rfl,.inr (.inl ⟨rfl,by rw[YO],by rw[YO],rfl,by rw[YO],rfl,rfl⟩),rfl,rfl⟩ ?_ rfl rfl rfl rfl rfl rfl) ?_
 ·exact .cons rfl (.cons rfl (.cons rfl (.cons rfl (.cons rfl (.cons rfl (.cons rfl .nil))))))
 clear hF hC hN
 rintro k tm bx fr ⟨p,rest,i,iz,wd,tl,te,tb,hk,hi,hbp,h2,rfl,rfl⟩
 by_cases hrest:rest=[]
 rotate_left
 ·obtain⟨rfl,hi3⟩:=hi.resolve_left hrest
  exact Ho b cuts p rest lb tl (w.map rqE) w.length 0 te i k _ tb wd fr hcl hb hrest hk hi3 hbp h2 _
 subst hrest
 rw[List.append_nil]at hbp
 subst hbp
 have g31:decide (((([]:List UInt8).map E.byte).length:Int)>0)=false:=rfl
 have hw8:w.length<=8:=by have:=ZU b;rw[hrb]at this;exact this
 rcases h2 with⟨h,hte,_⟩ | ⟨_,_,_,_,h,_⟩ | ⟨rfl,_,htl,rfl,_,rfl,rfl⟩
 ·rw[hrb]at hte;exact(h hte).elim
 ·rw[hrb]at h;exact(hw h).elim
 rw[hrb]at htl ⊢
 dsimp only at htl ⊢
 have z1:(((0:Nat):Int) != ((0:Nat):Int))=false:=rfl
 have z4:(((w.map rqE).length:Int) != ((w.map rqE).length:Int))=false:=by simp
 have hC1:=OH (w.map rqE) w.length ((0:Nat):Int) lb ((br:Nat):Int)
 have hC2:=OH (w.map rqE) w.length ((0:Nat):Int) tl 0
 have hW1:=J6 (w.map rqE) w.length ((0:Nat):Int) lb ((br:Nat):Int)
 have hW2:=J6 (w.map rqE) w.length ((0:Nat):Int) tl 0
 have hS0:AP Tryz.prog 27 [.agg [.int .u64 0,.int .i64 0,.bool false,.int .u64 0,.int .u64 0,.str [],.str [],.bool false,.int .u64 0,.int .u64 0,.str [],.str [],.int .i64 0,.int .i64 0,.int .i64 0,.sl .ext [],.int .u64 0,.int .u64 0,.bool false],.agg [.int .u64 0,.int .i64 0,.bool false,.int .u64 0,.int .u64 0,.str [],.str [],.bool false,.int .u64 0,.int .u64 0,.str [],.str [],.int .i64 0,.int .i64 0,.int .i64 0,.sl .ext [],.int .u64 0,.int .u64 0,.bool false]] (.bool true) []:=Wx Ju Ju
 repeat'(first|(apply Zb [0,1] [0] (hC1);kernel_rfl;(iterate 10 exact Z))|(apply Zb [2,3] [1] (hC2);kernel_rfl;(iterate 10 exact Z))|(apply Zb [0,1] [0] (hW1);kernel_rfl;(iterate 10 exact Z))|(apply Zb [2,3] [1] (hW2);kernel_rfl;(iterate 10 exact Z))|(apply Zj Za;exact Z)|(apply Zg Za;exact Z)|(apply Zq Za;exact Z)|(apply Zi;(iterate 3 exact Z);(first|with_reducible assumption|decide +kernel|(solve|simp only[bn])))|(apply Zl;exact Z;(first|with_reducible assumption|decide +kernel|(solve|simp only[bn]));exact Z;exact Z)|(apply Ze;exact Z;(first|with_reducible assumption|decide +kernel|(solve|simp only[bn])))|refine Zp Za Z Z Z Z ?_)
 refine Z4 (fun f tm bx fr=>∃(j:Nat) (L:List RqV),f+j=9/\L.length<=8-j/\tm=[(5,.ptr 1 0),(6,.ptr 3 0),(7,.int .i64 ((0:Nat):Int)),(12,.int .i64 (j:Int))]/\((L ≠ []/\bx=cpB (.sl (.own 0) (L.map rqE)) 0 lb ((br:Nat):Int) (.sl (.own 1) (L.map rqE)) 0 tl 0/\fr=[⟨L.length,19,41⟩,⟨L.length,19,41⟩])\/(bx=cpB (.sl .ext (L.map rqE)) 0 lb ((br:Nat):Int) (.sl .ext (L.map rqE)) 0 tl 0/\fr=[]))) 10 (Lands.mk' (m:=9) (by omega) ⟨0,w,rfl,hw8,rfl,.inl ⟨hw,rfl,rfl⟩⟩ ?_ rfl rfl rfl rfl rfl rfl) ?_
 ·exact .cons rfl (.cons rfl (.cons rfl (.cons rfl .nil)))
 clear hC1 hC2 hW1 hW2
 rintro f tm bx fr ⟨j,L,hf,hL,rfl,hst⟩
 rcases Nat.lt_or_ge j 9 with hlt|hge
 ·have d9:decide ((j:Int)<9)=true:=decide_eq_true (by omega)
  have ej:IntKind.i64.wrap ((j:Int)+1)=((j+1:Nat):Int):=by rw[IntWalk.i64_in _ (by omega)];omega
  cases L with
  | nil=>
   rcases hst with⟨h,_⟩ | ⟨rfl,rfl⟩
   ·exact(h rfl).elim
   have hX1:=Gk ((0:Nat):Int) lb ((br:Nat):Int)
   have hX2:=Gk ((0:Nat):Int) tl 0
   repeat'(first|(apply Zb [0,1] [] (hX1);kernel_rfl;(iterate 10 exact Z))|(apply Zb [2,3] [] (hX2);kernel_rfl;(iterate 10 exact Z))|(apply Zc (hS0);kernel_rfl;(iterate 4 exact Z))|rw[ej]|(apply Zj Za;exact Z)|(apply Zg Za;exact Z)|(apply Zq Za;exact Z)|(apply Zi;(iterate 3 exact Z);(first|with_reducible assumption|decide +kernel|(solve|simp only[bn])))|(apply Zl;exact Z;(first|with_reducible assumption|decide +kernel|(solve|simp only[bn]));exact Z;exact Z)|(apply Zf;exact Z;(first|with_reducible assumption|decide +kernel|(solve|simp only[bn])))|(apply Ze;exact Z;(first|with_reducible assumption|decide +kernel|(solve|simp only[bn]))))
   refine Lands.mk' (m:=f-1) (by omega) ⟨j+1,[],by omega,by simp,rfl,.inr ⟨rfl,rfl⟩⟩ ?_ rfl rfl rfl rfl rfl rfl
   exact .cons rfl (.cons rfl (.cons rfl (.cons rfl .nil)))
  | cons x L=>
   rw[List.length_cons]at hL
   have hUL:=OT L
   have hLl:(L.map rqE).length<=7:=by rw[List.length_map];omega
   have hS:=Wx x x
   rw[Jv]at hS
   rcases hst with⟨_,rfl,rfl⟩ | ⟨rfl,rfl⟩
   ·have hX1:=Gi x (L.map rqE) hUL hLl (x::L).length lb ((br:Nat):Int)
    have hX2:=Gi x (L.map rqE) hUL hLl (x::L).length tl 0
    obtain⟨id,kd,⟨ei,en,es,eh,ed⟩,⟨di,dn,dq,dh,dd⟩,pol,num,tik,pay,life,tok,on⟩:=x
    repeat'(first|(apply Zb [0,1] [0] (hX1);kernel_rfl;(iterate 10 exact Z))|(apply Zb [2,3] [1] (hX2);kernel_rfl;(iterate 10 exact Z))|(apply Zc (hS);kernel_rfl;(iterate 4 exact Z))|rw[ej]|(apply Zj Za;exact Z)|(apply Zg Za;exact Z)|(apply Zq Za;exact Z)|(apply Zi;(iterate 3 exact Z);(first|with_reducible assumption|decide +kernel|(solve|simp only[bn])))|(apply Zl;exact Z;(first|with_reducible assumption|decide +kernel|(solve|simp only[bn]));exact Z;exact Z)|(apply Zf;exact Z;(first|with_reducible assumption|decide +kernel|(solve|simp only[bn])))|(apply Ze;exact Z;(first|with_reducible assumption|decide +kernel|(solve|simp only[bn]))))
    refine Lands.mk' (m:=f-1) (by omega) ⟨j+1,L,by omega,by omega,rfl,.inr ⟨rfl,rfl⟩⟩ ?_ rfl rfl rfl rfl rfl rfl
    exact .cons rfl (.cons rfl (.cons rfl (.cons rfl .nil)))
   ·have hX1:=Gj x (L.map rqE) hUL hLl lb ((br:Nat):Int)
    have hX2:=Gj x (L.map rqE) hUL hLl tl 0
    obtain⟨id,kd,⟨ei,en,es,eh,ed⟩,⟨di,dn,dq,dh,dd⟩,pol,num,tik,pay,life,tok,on⟩:=x
    repeat'(first|(apply Zb [0,1] [] (hX1);kernel_rfl;(iterate 10 exact Z))|(apply Zb [2,3] [] (hX2);kernel_rfl;(iterate 10 exact Z))|(apply Zc (hS);kernel_rfl;(iterate 4 exact Z))|rw[ej]|(apply Zj Za;exact Z)|(apply Zg Za;exact Z)|(apply Zq Za;exact Z)|(apply Zi;(iterate 3 exact Z);(first|with_reducible assumption|decide +kernel|(solve|simp only[bn])))|(apply Zl;exact Z;(first|with_reducible assumption|decide +kernel|(solve|simp only[bn]));exact Z;exact Z)|(apply Zf;exact Z;(first|with_reducible assumption|decide +kernel|(solve|simp only[bn])))|(apply Ze;exact Z;(first|with_reducible assumption|decide +kernel|(solve|simp only[bn]))))
    refine Lands.mk' (m:=f-1) (by omega) ⟨j+1,L,by omega,by omega,rfl,.inr ⟨rfl,rfl⟩⟩ ?_ rfl rfl rfl rfl rfl rfl
    exact .cons rfl (.cons rfl (.cons rfl (.cons rfl .nil)))
 ·have d9:decide ((j:Int)<9)=false:=decide_eq_false (by omega)
  have hL0:L=[]:=List.eq_nil_of_length_eq_zero (by omega)
  subst hL0
  rcases hst with⟨h,_⟩ | ⟨rfl,rfl⟩
  ·exact(h rfl).elim
  have hW1:=J5 [] ((0:Nat):Int) lb ((br:Nat):Int)
  repeat'(first|(apply Zc (hA);kernel_rfl;(iterate 4 exact Z))|(apply Zb [0,1] [] (hW1);kernel_rfl;(iterate 10 exact Z))|(apply Zj Za;exact Z)|(apply Zg Za;exact Z)|(apply Zi;(iterate 3 exact Z);(first|with_reducible assumption|decide +kernel|(solve|simp only[bn])))|(apply Zz;(iterate 3 exact Z);(first|with_reducible assumption|decide +kernel|(solve|simp only[bn])))|(apply Zk;exact Z;(first|with_reducible assumption|decide +kernel|(solve|simp only[bn]));exact Z;exact Z)|(apply Ze;exact Z;(first|with_reducible assumption|decide +kernel|(solve|simp only[bn]))))
  all_goals exact Qe
theorem J7 [Known][KnownSc][KnownPow](b cuts:List UInt8)(hcl:cuts.length<=9223372036854775807):AP Tryz.prog 4 [byE b,byE cuts] (.bool true) []:=by
 by_cases hb:b.length<=4000
 ·obtain⟨lb,w,e,br,hrb⟩:∃ lb w e br,Zy b=(lb,w,e,br):=⟨_,_,_,_,rfl⟩
  by_cases he:e=0
  ·subst he
   by_cases hw:w=[]
   ·subst hw
    exact Gr b cuts lb [] br hcl hb hrb
   ·exact Gs b cuts lb w br hcl hb hrb hw
  ·exact Gq b cuts lb w e br hcl hb hrb he
 ·have hA:=WM
  have g1:decide (((b.map E.byte).length:Int)>4000)=true:=decide_eq_true (by rw[List.length_map];omega)
  refine AP.ofA (Zm Tryz.func4 Z Tryz.ntmps4 Z Z ?_)
  repeat'(first|(apply Zc (hA);kernel_rfl;(iterate 4 exact Z))|(apply Zj Za;exact Z)|(apply Zg Za;exact Z)|(apply Zq Za;exact Z)|(apply Zf;exact Z;(first|with_reducible assumption|decide +kernel|(solve|simp only[bn])))|refine Zp Za Z Z Z Z ?_)
  all_goals exact Qe
end Go.Proofs.YtkdpfkjlheajhaaGreatDoor
end
section
open Go.RowKit Go.Pl Go.Av Go.Lib
namespace Go.Proofs.YtkdpfkjlheajhaaGreatDoor
theorem Qz (k:IntKind):∀ zs:List Int,K2 (zs.map fun z=>.lit (.int k z))=zs.map fun z=>Value.int k z
 | []=>rfl
 | z::zs=>by rw[List.map_cons,List.map_cons,K2,Qz k zs];rfl
theorem KY {P:Program}{W:World}{n:String}{g:Nat}{t:TypeId}{d:DataW Unit}(hg:P.globalNamed n=some g)(ht:(P.globals[g]?).map (·.type)=some t)(h:VarReads P W n d)
  (key:∀(fuel:Nat) (cs:List Value) (p:List MemPlace),DataW.trod (fun _=>()) P W 0 (fun _=>true) false fuel t cs=some (d,p)->∀(j:Nat) (v:Value),(dcs d)[j]?=some v->cs[j]?=some v) :
  ∀(j:Nat) (v:Value),(dcs d)[j]?=some v->(g0 W).C g j/\W.cell? ⟨g,j,none⟩=some v:=by
 obtain⟨g',t',cs,fuel,p,h1,h2,h3,h4⟩:=h
 obtain rfl:=Option.some.inj (hg.symm.trans h1)
 obtain rfl:=Option.some.inj (ht.symm.trans h2)
 intro j v hv
 have hc:=key fuel cs.toList p h4 j v hv
 have hcell:W.cell? ⟨g,j,none⟩=some v:=by
  rw[World.var?_cell hg h3 j,<- Array.getElem?_toList];exact hc
 exact⟨World.block_lt_of_cell? W _ hcell,hcell⟩
theorem OJ {P:Program}{W:World}{t e:TypeId}{n:Nat}{k:IntKind}{d:DataW Unit}(zs:List Int)(hd:d=tabData k zs)(ht:P.underlying t=some (.array n e))(he:P.underlying e=some (.int k))(hce:P.cellsOf e=1)(hct:P.cellsOf t=n) :
  ∀(fuel:Nat) (cs:List Value) (p:List MemPlace),DataW.trod (fun _=>()) P W 0 (fun _=>true) false fuel t cs=some (d,p)->∀(j:Nat) (v:Value),(dcs d)[j]?=some v->cs[j]?=some v:=by
 subst hd
 intro fuel cs p h j v hv
 rw[cells_of_tab ht he hce hct h]
 rw[tabData,dcs,Qz]at hv
 exact hv
theorem KZ : "*" ++ "errors.errorString" = "*errors.errorString" := by decide
theorem Gt (u:TypeId)(h:Tryz.prog.typeName? 3 u=some "*errors.errorString"):u=313:=
 typeName_ptr_named (nm := "errors.errorString") (by rw[KZ];kernel_rfl) (by kernel_rfl) (by decide) u (by rw[KZ];exact h)
theorem K0:Tryz.prog.underlying 211=some (.interface (Tryz.prog.methodsAt 211)):=by kernel_rfl
theorem Xy {W:World}{n:String}{g:Nat}{text:List UInt8}{r:List (String × DataW Unit)}(hg:Tryz.prog.globalNamed n=some g)(ht:(Tryz.prog.globals[g]?).map (·.type)=some 211)(h:laidMet Tryz.prog ((n,.iface "*errors.errorString" (.ptr (.agg [.lit (.string text)])))::r) W) :
  (g0 W).C g 0/\∃ v,W.cell? ⟨g,0,none⟩=some (.iface 313 v):=by
 obtain⟨a,s,hv,_⟩:=laid_sentinel h hg ht K0 Gt (Tryz.underlying313) (Tryz.underlying315) rfl rfl Tryz.underlying9 (by kernel_rfl) (by kernel_rfl)
 have hc:W.cell? ⟨g,0,none⟩=some (.iface 313 (.pointer (some a))):=by
  rw[World.var?_cell hg hv 0];rfl
 exact⟨World.block_lt_of_cell? W _ hc,_,hc⟩
abbrev Wl:Known:=⟨[0,2,3]⟩
theorem J8 : @KnownSc Wl:=@KnownSc.mk Wl (List.mem_cons_of_mem _ (List.mem_cons_of_mem _ (List.mem_cons_self ..))) (List.mem_cons_of_mem _ (List.mem_cons_self ..))
theorem Jx : @KnownPow Wl:=@KnownPow.mk Wl (List.mem_cons_self ..)
def Hp:List Int:=(List.range 20).map fun i=>((10 ^ i:Nat):Int)
theorem IE {W:World}{laid r1 r2:List (String × DataW Unit)}(h1:("internal/strconv.uint64pow10",Rows.laid_internal_strconv_uint64pow10) ∈ laid)(h:laidMet Tryz.prog laid W)(hR:laidMet Tryz.prog (("strconv.ErrRange",Rows.laid_strconv_ErrRange)::r1) W)(hS:laidMet Tryz.prog (("strconv.ErrSyntax",Rows.laid_strconv_ErrSyntax)::r2) W) : @Gls Wl (g0 W).C W:=by
 have r1':=laidMet.reads h h1
 have c1:=KY (P:=Tryz.prog) (g:=0) (t:=266) (by kernel_rfl) (by kernel_rfl) r1' (OJ Hp (by kernel_rfl) (n:=20) (by kernel_rfl) Tryz.underlying31 (by kernel_rfl) (by kernel_rfl))
 have eR:=Xy (W:=W) (g:=3) (by kernel_rfl) (by kernel_rfl) hR
 have eS:=Xy (W:=W) (g:=2) (by kernel_rfl) (by kernel_rfl) hS
 refine⟨fun k cs hk=>?_,fun k t hk=>?_⟩
 ·obtain⟨hk,hm⟩:=hk
  simp only[K3,List.mem_cons,List.not_mem_nil,or_false,Prod.mk.injEq]at hm
  have hk:k ∈ [0,2,3]:=hk
  simp only[List.mem_cons,List.not_mem_nil,or_false]at hk
  clear r1' h1 h hR hS eR eS
  rcases hk with rfl|rfl|rfl
  all_goals repeat'(refine Or.elim hm (fun hm=>?_) (fun hm=>?_))
  all_goals first
   | (obtain⟨h,rfl⟩:=hm;exact c1)
   | (obtain⟨h,_⟩:=hm;exact absurd h (by decide))
 ·obtain⟨hk,hm⟩:=hk
  have hk:k ∈ [0,2,3]:=hk
  simp only[List.mem_cons,List.not_mem_nil,or_false]at hk
  simp only[XA,List.mem_cons,List.not_mem_nil,or_false,Prod.mk.injEq]at hm
  clear r1' h1 h hR hS c1
  rcases hk with rfl|rfl|rfl
  all_goals repeat'(refine Or.elim hm (fun hm=>?_) (fun hm=>?_))
  all_goals first
   | (obtain⟨h,_⟩:=hm;exact absurd h (by decide))
   | (obtain⟨_,rfl⟩:=hm;exact eS)
   | (obtain⟨_,rfl⟩:=hm;exact eR)
end Go.Proofs.YtkdpfkjlheajhaaGreatDoor
end
section
open Go.RowKit Go.Pl Go.Av
namespace Go.Proofs.YtkdpfkjlheajhaaGreatDoor
theorem QQ (v0 v1:Value)(x0 x1:List UInt8)(W:World)(h0:Sl Rep.byte W (· < W.heap.size) v0 x0)(h1:Sl Rep.byte W (· < W.heap.size) v1 x1)(hl:laidMet Tryz.prog Rows.connCutRow.laid W) :
  Calls Tryz.prog 4 #[v0,v1] W fun e w'=>e=.returned (.bool true)/\Below W.heap.size W w':=by
 have hg:=IE (laid:=Rows.connCutRow.laid) (by unfold Rows.connCutRow;repeat (first|exact List.mem_cons_self .. | apply List.mem_cons_of_mem)) hl hl.tail.tail.tail hl.tail.tail.tail.tail
 have h:=@J7 Wl J8 Jx x0 x1 (by have:=Ig h1;unfold maxLen at this;omega)
 refine @Gv Wl Tryz.prog 4 _ (@AC.mono Wl _ _ _ _ _ _ _ h fun r b t h=>h.1) W [v0,v1] hg rfl ?_
 intro j d v hd hv
 match j,hd,hv with
 | 0,hd,hv=>cases hd;cases hv;exact Xq h0
 | 1,hd,hv=>cases hd;cases hv;exact Xq h1
 | j+2,hd,hv=>cases hd
end Go.Proofs.YtkdpfkjlheajhaaGreatDoor
end

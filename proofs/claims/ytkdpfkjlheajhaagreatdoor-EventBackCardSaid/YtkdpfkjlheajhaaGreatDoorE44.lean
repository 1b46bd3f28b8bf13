/- EventBack: the walk, by cases (vegen3.py). -/
import Derived.Test.YtkdpfkjlheajhaaGreatDoorE42
import Derived.Test.YtkdpfkjlheajhaaGreatDoorE09
import Derived.Test.YtkdpfkjlheajhaaGreatDoorE43
import Derived.Test.YtkdpfkjlheajhaaGreatDoorE01
import Derived.Test.YtkdpfkjlheajhaaGreatDoorE07
import Derived.Test.YtkdpfkjlheajhaaGreatDoorProg
import Derived.Lib.LaidU8
import Derived.Test.YtkdpfkjlheajhaaGreatDoorE33
import Derived.Stop.LaidErr
import Derived.Test.YtkdpfkjlheajhaaGreatDoorE12
set_option linter.unusedVariables false
set_option linter.unusedSimpArgs false
section
open Go.RowKit Go.Pl Go.Av
namespace Go.Proofs.YtkdpfkjlheajhaaGreatDoor
set_option maxHeartbeats 4000000
theorem Ru [Known][KnownSc][KnownPow][KnownU8](x:EvV)(b:List UInt8)(cut:Int)(hg:YY x=false)(gb:decide (((b.map E.byte).length:Int)>1500)=false)(hr:ZY x=true)(t1:decide (cut ≥ 0)=false)(ho:Vu b=false):AP Tryz.prog 7 [.agg (evC x),byE b,.int .i64 cut] (.bool true) []:=by
 have hA:=Y0
 have hG:=We x
 rw[hg]at hG
 have hbl:b.length<=1500:=by have:=of_decide_eq_false gb;rw[List.length_map]at this;omega
 have hd:x.data.length<=1300:=by
  unfold YY at hg
  rw[Bool.or_eq_false_iff]at hg
  have:=of_decide_eq_false hg.2
  rw[List.length_map]at this
  omega
 have hR:=WT b (by omega) ho
 replace hR:AP Tryz.prog 41 [byE b] (.tup [.agg [.int .u64 0,.int .i64 0,.int .u64 0,.int .i64 0,.int .u64 0,.int .i64 0,.bool false,.int .u64 0,.int .u64 0,.str [],.str [],.bool false,.int .u64 0,.int .u64 0,.str [],.str [],.int .i64 0,.int .i64 0,.int .i64 0,.sl .ext [],.int .u64 0,.int .u64 0,.bool false,.sl .ext []],.int .i64 3]) []:=hR
 have hW:=KY GS (by decide) JT
 replace hW:AP Tryz.prog 40 [.agg [.int .u64 0,.int .i64 0,.int .u64 0,.int .i64 0,.int .u64 0,.int .i64 0,.bool false,.int .u64 0,.int .u64 0,.str [],.str [],.bool false,.int .u64 0,.int .u64 0,.str [],.str [],.int .i64 0,.int .i64 0,.int .i64 0,.sl .ext [],.int .u64 0,.int .u64 0,.bool false,.sl .ext []]] (.tup [.sl .ext [],.int .i64 3]) []:=hW
 have hX:=UZ x (by omega) hr
 have hY:=WF x hr (by omega)
 have hS:=WW x x
 rw[WE]at hS
 clear hr hd
 generalize ZZ x=c at *
 clear hg
 obtain⟨now,kd,tok,ses,⟨id,rk,⟨ei,en,es,eh,ed⟩,⟨di,dn,dq,dh,dd⟩,pol,num,tik,pay,life,rt,on⟩,data⟩:=x
 refine AP.ofA (Zl Tryz.func7 Z Tryz.ntmps7 Z Z ?_)
 repeat'(first|(apply Zb (hA);kernel_rfl;(iterate 4 exact Z))|(apply Zb (hG);kernel_rfl;(iterate 4 exact Z))|(apply Zb (hX);kernel_rfl;(iterate 4 exact Z))|(apply Zb (hY);kernel_rfl;(iterate 4 exact Z))|(apply Zb (hS);kernel_rfl;(iterate 4 exact Z))|(apply Zb (hR);kernel_rfl;(iterate 4 exact Z))|(apply Zb (hW);kernel_rfl;(iterate 4 exact Z))|(apply Zi Za;exact Z)|(apply Zg Za;exact Z)|(apply Zu Za;exact Z)|(apply Ze;(iterate 3 exact Z);(first|with_reducible assumption|decide +kernel|(solve|simp only[bn])))|(apply Zv;(iterate 3 exact Z);(first|with_reducible assumption|decide +kernel|(solve|simp only[bn])))|(apply Zp;(iterate 3 exact Z);(first|with_reducible assumption|decide +kernel|(solve|simp only[bn])))|refine Vm Z Z Z ?_|(apply Zk;exact Z;(first|with_reducible assumption|decide +kernel|(solve|simp only[bn]));exact Z;exact Z)|(apply Zj;exact Z;(first|with_reducible assumption|decide +kernel|(solve|simp only[bn]));exact Z;exact Z)|(apply Zd;exact Z;(first|with_reducible assumption|decide +kernel|(solve|simp only[bn])))|(apply Zf;exact Z;(first|with_reducible assumption|decide +kernel|(solve|simp only[bn])))|refine Zt Za Z Z Z Z ?_)
 all_goals(apply Zs [];(apply Zc Za;exact Z);(iterate 4 exact Z))
 all_goals first|rfl|(simp only[*];done)|(simp only[*];rfl)
theorem Rv [Known][KnownSc][KnownPow][KnownU8](x y:EvV)(b:List UInt8)(cut:Int)(hg:YY x=false)(gb:decide (((b.map E.byte).length:Int)>1500)=false)(hr:ZY x=true)(t1:decide (cut ≥ 0)=false)(hR:AP Tryz.prog 41 [byE b] (.tup [.agg (evC y),.int .i64 0]) [])(hW:AP Tryz.prog 40 [.agg (evC y)] (.tup [byE b,.int .i64 0]) []):AP Tryz.prog 7 [.agg (evC x),byE b,.int .i64 cut] (.bool true) []:=by
 have hA:=Y0
 have hG:=We x
 rw[hg]at hG
 have hbl:b.length<=1500:=by have:=of_decide_eq_false gb;rw[List.length_map]at this;omega
 have hd:x.data.length<=1300:=by
  unfold YY at hg
  rw[Bool.or_eq_false_iff]at hg
  have:=of_decide_eq_false hg.2
  rw[List.length_map]at this
  omega
 have hbb:(b==b)=true:=by simp
 have hX:=UZ x (by omega) hr
 have hY:=WF x hr (by omega)
 have hS:=WW x x
 rw[WE]at hS
 clear hr hd
 generalize ZZ x=c at *
 clear hg
 obtain⟨now,kd,tok,ses,⟨id,rk,⟨ei,en,es,eh,ed⟩,⟨di,dn,dq,dh,dd⟩,pol,num,tik,pay,life,rt,on⟩,data⟩:=x
 obtain⟨now2,kd2,tok2,ses2,⟨id2,rk2,⟨ei2,en2,es2,eh2,ed2⟩,⟨di2,dn2,dq2,dh2,dd2⟩,pol2,num2,tik2,pay2,life2,rt2,on2⟩,data2⟩:=y
 refine AP.ofA (Zl Tryz.func7 Z Tryz.ntmps7 Z Z ?_)
 repeat'(first|(apply Zb (hA);kernel_rfl;(iterate 4 exact Z))|(apply Zb (hG);kernel_rfl;(iterate 4 exact Z))|(apply Zb (hX);kernel_rfl;(iterate 4 exact Z))|(apply Zb (hY);kernel_rfl;(iterate 4 exact Z))|(apply Zb (hS);kernel_rfl;(iterate 4 exact Z))|(apply Zb (hR);kernel_rfl;(iterate 4 exact Z))|(apply Zb (hW);kernel_rfl;(iterate 4 exact Z))|refine Vl Za Z Z Z Z Z Z Z Z Z ?_|(apply Zi Za;exact Z)|(apply Zg Za;exact Z)|(apply Zu Za;exact Z)|(apply Ze;(iterate 3 exact Z);(first|with_reducible assumption|decide +kernel|(solve|simp only[bn])))|(apply Zv;(iterate 3 exact Z);(first|with_reducible assumption|decide +kernel|(solve|simp only[bn])))|(apply Zk;exact Z;(first|with_reducible assumption|decide +kernel|(solve|simp only[bn]));exact Z;exact Z)|(apply Zj;exact Z;(first|with_reducible assumption|decide +kernel|(solve|simp only[bn]));exact Z;exact Z)|(apply Zd;exact Z;(first|with_reducible assumption|decide +kernel|(solve|simp only[bn])))|(apply Zf;exact Z;(first|with_reducible assumption|decide +kernel|(solve|simp only[bn])))|refine Zt Za Z Z Z Z ?_|refine Vl Za Z Z Z Z Z Z Z Z Z ?_)
 all_goals(apply Zs [];(apply Zc Za;exact Z);(iterate 4 exact Z))
 all_goals first|rfl|(simp only[*];done)|(simp only[*];rfl)
theorem Rw [Known][KnownSc][KnownPow][KnownU8](x:EvV)(b:List UInt8)(cut:Int)(hg:YY x=false)(gb:decide (((b.map E.byte).length:Int)>1500)=false)(hr:ZY x=true)(t1:decide (cut ≥ 0)=true)(t2:decide (cut<(((ZZ x).map E.byte).length:Int))=false)(ho:Vu b=false):AP Tryz.prog 7 [.agg (evC x),byE b,.int .i64 cut] (.bool true) []:=by
 have hA:=Y0
 have hG:=We x
 rw[hg]at hG
 have hbl:b.length<=1500:=by have:=of_decide_eq_false gb;rw[List.length_map]at this;omega
 have hd:x.data.length<=1300:=by
  unfold YY at hg
  rw[Bool.or_eq_false_iff]at hg
  have:=of_decide_eq_false hg.2
  rw[List.length_map]at this
  omega
 have hR:=WT b (by omega) ho
 replace hR:AP Tryz.prog 41 [byE b] (.tup [.agg [.int .u64 0,.int .i64 0,.int .u64 0,.int .i64 0,.int .u64 0,.int .i64 0,.bool false,.int .u64 0,.int .u64 0,.str [],.str [],.bool false,.int .u64 0,.int .u64 0,.str [],.str [],.int .i64 0,.int .i64 0,.int .i64 0,.sl .ext [],.int .u64 0,.int .u64 0,.bool false,.sl .ext []],.int .i64 3]) []:=hR
 have hW:=KY GS (by decide) JT
 replace hW:AP Tryz.prog 40 [.agg [.int .u64 0,.int .i64 0,.int .u64 0,.int .i64 0,.int .u64 0,.int .i64 0,.bool false,.int .u64 0,.int .u64 0,.str [],.str [],.bool false,.int .u64 0,.int .u64 0,.str [],.str [],.int .i64 0,.int .i64 0,.int .i64 0,.sl .ext [],.int .u64 0,.int .u64 0,.bool false,.sl .ext []]] (.tup [.sl .ext [],.int .i64 3]) []:=hW
 have hX:=UZ x (by omega) hr
 have hY:=WF x hr (by omega)
 have hS:=WW x x
 rw[WE]at hS
 clear hr hd
 generalize ZZ x=c at *
 clear hg
 obtain⟨now,kd,tok,ses,⟨id,rk,⟨ei,en,es,eh,ed⟩,⟨di,dn,dq,dh,dd⟩,pol,num,tik,pay,life,rt,on⟩,data⟩:=x
 refine AP.ofA (Zl Tryz.func7 Z Tryz.ntmps7 Z Z ?_)
 repeat'(first|(apply Zb (hA);kernel_rfl;(iterate 4 exact Z))|(apply Zb (hG);kernel_rfl;(iterate 4 exact Z))|(apply Zb (hX);kernel_rfl;(iterate 4 exact Z))|(apply Zb (hY);kernel_rfl;(iterate 4 exact Z))|(apply Zb (hS);kernel_rfl;(iterate 4 exact Z))|(apply Zb (hR);kernel_rfl;(iterate 4 exact Z))|(apply Zb (hW);kernel_rfl;(iterate 4 exact Z))|(apply Zi Za;exact Z)|(apply Zg Za;exact Z)|(apply Zu Za;exact Z)|(apply Ze;(iterate 3 exact Z);(first|with_reducible assumption|decide +kernel|(solve|simp only[bn])))|(apply Zp;(iterate 3 exact Z);(first|with_reducible assumption|decide +kernel|(solve|simp only[bn])))|refine Vm Z Z Z ?_|(apply Zk;exact Z;(first|with_reducible assumption|decide +kernel|(solve|simp only[bn]));exact Z;exact Z)|(apply Zj;exact Z;(first|with_reducible assumption|decide +kernel|(solve|simp only[bn]));exact Z;exact Z)|(apply Zd;exact Z;(first|with_reducible assumption|decide +kernel|(solve|simp only[bn])))|(apply Zf;exact Z;(first|with_reducible assumption|decide +kernel|(solve|simp only[bn])))|refine Zt Za Z Z Z Z ?_)
 all_goals(apply Zs [];(apply Zc Za;exact Z);(iterate 4 exact Z))
 all_goals first|rfl|(simp only[*];done)|(simp only[*];rfl)
theorem Rx [Known][KnownSc][KnownPow][KnownU8](x y:EvV)(b:List UInt8)(cut:Int)(hg:YY x=false)(gb:decide (((b.map E.byte).length:Int)>1500)=false)(hr:ZY x=true)(t1:decide (cut ≥ 0)=true)(t2:decide (cut<(((ZZ x).map E.byte).length:Int))=false)(hR:AP Tryz.prog 41 [byE b] (.tup [.agg (evC y),.int .i64 0]) [])(hW:AP Tryz.prog 40 [.agg (evC y)] (.tup [byE b,.int .i64 0]) []):AP Tryz.prog 7 [.agg (evC x),byE b,.int .i64 cut] (.bool true) []:=by
 have hA:=Y0
 have hG:=We x
 rw[hg]at hG
 have hbl:b.length<=1500:=by have:=of_decide_eq_false gb;rw[List.length_map]at this;omega
 have hd:x.data.length<=1300:=by
  unfold YY at hg
  rw[Bool.or_eq_false_iff]at hg
  have:=of_decide_eq_false hg.2
  rw[List.length_map]at this
  omega
 have hbb:(b==b)=true:=by simp
 have hX:=UZ x (by omega) hr
 have hY:=WF x hr (by omega)
 have hS:=WW x x
 rw[WE]at hS
 clear hr hd
 generalize ZZ x=c at *
 clear hg
 obtain⟨now,kd,tok,ses,⟨id,rk,⟨ei,en,es,eh,ed⟩,⟨di,dn,dq,dh,dd⟩,pol,num,tik,pay,life,rt,on⟩,data⟩:=x
 obtain⟨now2,kd2,tok2,ses2,⟨id2,rk2,⟨ei2,en2,es2,eh2,ed2⟩,⟨di2,dn2,dq2,dh2,dd2⟩,pol2,num2,tik2,pay2,life2,rt2,on2⟩,data2⟩:=y
 refine AP.ofA (Zl Tryz.func7 Z Tryz.ntmps7 Z Z ?_)
 repeat'(first|(apply Zb (hA);kernel_rfl;(iterate 4 exact Z))|(apply Zb (hG);kernel_rfl;(iterate 4 exact Z))|(apply Zb (hX);kernel_rfl;(iterate 4 exact Z))|(apply Zb (hY);kernel_rfl;(iterate 4 exact Z))|(apply Zb (hS);kernel_rfl;(iterate 4 exact Z))|(apply Zb (hR);kernel_rfl;(iterate 4 exact Z))|(apply Zb (hW);kernel_rfl;(iterate 4 exact Z))|refine Vl Za Z Z Z Z Z Z Z Z Z ?_|(apply Zi Za;exact Z)|(apply Zg Za;exact Z)|(apply Zu Za;exact Z)|(apply Ze;(iterate 3 exact Z);(first|with_reducible assumption|decide +kernel|(solve|simp only[bn])))|(apply Zk;exact Z;(first|with_reducible assumption|decide +kernel|(solve|simp only[bn]));exact Z;exact Z)|(apply Zj;exact Z;(first|with_reducible assumption|decide +kernel|(solve|simp only[bn]));exact Z;exact Z)|(apply Zd;exact Z;(first|with_reducible assumption|decide +kernel|(solve|simp only[bn])))|(apply Zf;exact Z;(first|with_reducible assumption|decide +kernel|(solve|simp only[bn])))|refine Zt Za Z Z Z Z ?_|refine Vl Za Z Z Z Z Z Z Z Z Z ?_)
 all_goals(apply Zs [];(apply Zc Za;exact Z);(iterate 4 exact Z))
 all_goals first|rfl|(simp only[*];done)|(simp only[*];rfl)
theorem II [Known][KnownSc][KnownPow][KnownU8](x:EvV)(b:List UInt8)(cut:Int):AP Tryz.prog 7 [.agg (evC x),byE b,.int .i64 cut] (.bool true) []:=by
 cases hg:YY x with
 | true=>
  have hA:=Y0
  have hG:=We x
  rw[hg]at hG
  obtain⟨now,kd,tok,ses,⟨id,rk,⟨ei,en,es,eh,ed⟩,⟨di,dn,dq,dh,dd⟩,pol,num,tik,pay,life,rt,on⟩,data⟩:=x
  refine AP.ofA (Zl Tryz.func7 Z Tryz.ntmps7 Z Z ?_)
  repeat'(first|(apply Zb (hA);kernel_rfl;(iterate 4 exact Z))|(apply Zb (hG);kernel_rfl;(iterate 4 exact Z))|(apply Zi Za;exact Z)|(apply Zg Za;exact Z)|(apply Zu Za;exact Z)|(apply Zp;(iterate 3 exact Z);(first|with_reducible assumption|decide +kernel|(solve|simp only[bn])))|(apply Zk;exact Z;(first|with_reducible assumption|decide +kernel|(solve|simp only[bn]));exact Z;exact Z)|(apply Zd;exact Z;(first|with_reducible assumption|decide +kernel|(solve|simp only[bn]))))
  all_goals exact Qe
 | false=>
 cases gb:decide (((b.map E.byte).length:Int)>1500) with
 | true=>
  have hA:=Y0
  have hG:=We x
  rw[hg]at hG
  obtain⟨now,kd,tok,ses,⟨id,rk,⟨ei,en,es,eh,ed⟩,⟨di,dn,dq,dh,dd⟩,pol,num,tik,pay,life,rt,on⟩,data⟩:=x
  refine AP.ofA (Zl Tryz.func7 Z Tryz.ntmps7 Z Z ?_)
  repeat'(first|(apply Zb (hA);kernel_rfl;(iterate 4 exact Z))|(apply Zb (hG);kernel_rfl;(iterate 4 exact Z))|(apply Zi Za;exact Z)|(apply Zg Za;exact Z)|(apply Zu Za;exact Z)|(apply Ze;(iterate 3 exact Z);(first|with_reducible assumption|decide +kernel|(solve|simp only[bn])))|(apply Zj;exact Z;(first|with_reducible assumption|decide +kernel|(solve|simp only[bn]));exact Z;exact Z)|(apply Zd;exact Z;(first|with_reducible assumption|decide +kernel|(solve|simp only[bn])))|refine Zt Za Z Z Z Z ?_)
  all_goals exact Qe
 | false=>
 have hbl:b.length<=1500:=by have:=of_decide_eq_false gb;rw[List.length_map]at this;omega
 cases ho:Vu b with
 | false=>
  cases hr:ZY x with
  | false=>exact Rp x b cut hg gb hr ho
  | true=>
   cases t1:decide (cut ≥ 0) with
   | false=>exact Ru x b cut hg gb hr t1 ho
   | true=>
    cases t2:decide (cut<(((ZZ x).map E.byte).length:Int)) with
    | false=>exact Rw x b cut hg gb hr t1 t2 ho
    | true=>
     have h1:=of_decide_eq_true t1
     have h2:=of_decide_eq_true t2
     rw[List.length_map]at h2
     exact Rr x b cut hg gb hr cut.toNat (by omega) (by omega) ho
 | true=>
  have hR:=Xt b (by omega)
  rw[Wk ho]at hR
  have hput:=KX ho
  have hy:ZY (Yy b).1=true:=by
   have h:=ho
   unfold Vu at h
   simp only[Bool.and_eq_true]at h
   exact h.2.2
  have hdl:=HO hy
  rw[hput]at hdl
  have hW:=UZ (Yy b).1 (by omega) hy
  rw[hput]at hW
  generalize (Yy b).1=y at *
  cases hr:ZY x with
  | false=>exact Rq x y b cut hg gb hr hR hW
  | true=>
   cases t1:decide (cut ≥ 0) with
   | false=>exact Rv x y b cut hg gb hr t1 hR hW
   | true=>
    cases t2:decide (cut<(((ZZ x).map E.byte).length:Int)) with
    | false=>exact Rx x y b cut hg gb hr t1 t2 hR hW
    | true=>
     have h1:=of_decide_eq_true t1
     have h2:=of_decide_eq_true t2
     rw[List.length_map]at h2
     exact Rt x y b cut hg gb hr cut.toNat (by omega) (by omega) hR hW
end Go.Proofs.YtkdpfkjlheajhaaGreatDoor
end
section
open Go.RowKit Go.Pl Go.Av Go.Lib
namespace Go.Proofs.YtkdpfkjlheajhaaGreatDoor
theorem Xv (k:IntKind):∀ zs:List Int,XO (zs.map fun z=>.lit (.int k z))=zs.map fun z=>Value.int k z
 | []=>rfl
 | z::zs=>by rw[List.map_cons,List.map_cons,XO,Xv k zs];rfl
theorem KZ {P:Program}{W:World}{n:String}{g:Nat}{t:TypeId}{d:DataW Unit}(hg:P.globalNamed n=some g)(ht:(P.globals[g]?).map (·.type)=some t)(h:VarReads P W n d)
  (key:∀(fuel:Nat) (cs:List Value) (p:List MemPlace),DataW.trod (fun _=>()) P W 0 (fun _=>true) false fuel t cs=some (d,p)->∀(j:Nat) (v:Value),(dcs d)[j]?=some v->cs[j]?=some v) :
  ∀(j:Nat) (v:Value),(dcs d)[j]?=some v->(g0 W).C g j/\W.cell? ⟨g,j,none⟩=some v:=by
 obtain⟨g',t',cs,fuel,p,h1,h2,h3,h4⟩:=h
 obtain rfl:=Option.some.inj (hg.symm.trans h1)
 obtain rfl:=Option.some.inj (ht.symm.trans h2)
 intro j v hv
 have hc:=key fuel cs.toList p h4 j v hv
 have hcell:W.cell? ⟨g,j,none⟩=some v:=by
  rw[World.var?_cell hg h3 j,<- Array.getElem?_toList];exact hc
 exact⟨World.block_lt_of_cell? W _ hcell,hcell⟩
theorem TE {P:Program}{W:World}{t e:TypeId}{n:Nat}{k:IntKind}{d:DataW Unit}(zs:List Int)(hd:d=tabData k zs)(ht:P.underlying t=some (.array n e))(he:P.underlying e=some (.int k))(hce:P.cellsOf e=1)(hct:P.cellsOf t=n) :
  ∀(fuel:Nat) (cs:List Value) (p:List MemPlace),DataW.trod (fun _=>()) P W 0 (fun _=>true) false fuel t cs=some (d,p)->∀(j:Nat) (v:Value),(dcs d)[j]?=some v->cs[j]?=some v:=by
 subst hd
 intro fuel cs p h j v hv
 rw[cells_of_tab ht he hce hct h]
 rw[tabData,dcs,Xv]at hv
 exact hv
theorem Ry {P:Program}{W:World}{t e:TypeId}{n:Nat}{k:IntKind}{d:DataW Unit}{fs:Array Field}(rows:List (List Int))(hd:d=.agg (rows.map fun r=>.agg (r.map fun z=>.lit (.int k z))))(hn:rows.length=n)(ht:P.underlying t=some (.array n e))(he:P.underlying e=some (.struct fs))
  (hf:∀(i:Nat) (f:Field),fs[i]?=some f->P.underlying f.type=some (.int k)/\f.offset=i/\P.cellsOf f.type=1) (hce:P.cellsOf e=fs.size) :
  ∀(fuel:Nat) (cs:List Value) (p:List MemPlace),DataW.trod (fun _=>()) P W 0 (fun _=>true) false fuel t cs=some (d,p)->∀(j:Nat) (v:Value),(dcs d)[j]?=some v->cs[j]?=some v:=by
 subst hd
 intro fuel cs p h j v hv
 have key:∀ i,i<=n->cs.take (i*fs.size)=XO ((rows.take i).map fun r=>.agg (r.map fun z=>.lit (.int k z))):=by
  intro i
  induction i with
  | zero=>intro _;rw[Nat.zero_mul,List.take_zero,List.take_zero];rfl
  | succ i ih=>
   intro hi
   obtain⟨fuel',d',q,hdi,he'⟩:=array_elem ht h i (by omega)
   rw[List.getElem?_map,List.getElem?_eq_getElem (by omega:i<rows.length)]at hdi
   simp only[Option.map_some,Option.some.injEq]at hdi
   subst hdi
   rw[hce]at he'
   have hcs:=ints_of_struct he hf hce he'
   rw[Nat.succ_mul,List.take_add,ih (by omega),hcs,List.take_succ_eq_append_getElem (by omega:i<rows.length),List.map_append]
   have app:∀(a b:List (DataW Unit)),XO (a++b)=XO a++XO b:=fun a b=>by
    induction a with
    | nil=>rfl
    | cons x a ih=>rw[List.cons_append,XO,XO,ih,List.append_assoc]
   rw[app,List.map_cons,List.map_nil,XO,dcs,Xv]
   simp[XO]
 have h2:=key n (Nat.le_refl _)
 rw[<- hn,List.take_length]at h2
 rw[dcs,<- h2]at hv
 rw[List.getElem?_take]at hv
 split at hv
 ·exact hv
 ·cases hv
abbrev IJ:Known:=⟨[6,7]⟩
theorem K0 : @KnownU8 IJ:=@KnownU8.mk IJ (List.mem_cons_self ..) (List.mem_cons_of_mem _ (List.mem_cons_self ..))
def SO:List Int:=Pinned.utf8FirstZ.map Int.ofNat
def Rz:List (List Int):=[[128,191],[160,191],[128,159],[144,191],[128,143],[0,0],[0,0],[0,0],[0,0],[0,0],[0,0],[0,0],[0,0],[0,0],[0,0],[0,0]]
theorem SP {W:World}{laid:List (String × DataW Unit)}(h1:("unicode/utf8.first",Rows.laid_unicode_utf8_first) ∈ laid)(h2:("unicode/utf8.acceptRanges",Rows.laid_unicode_utf8_acceptRanges) ∈ laid)(h:laidMet Tryz.prog laid W) : @Gls IJ (g0 W).C W:=by
 have r1:=laidMet.reads h h1
 have r2:=laidMet.reads h h2
 have c1:=KZ (P:=Tryz.prog) (g:=6) (t:=317) (by kernel_rfl) (by kernel_rfl) r1 (TE SO (by kernel_rfl) (n:=256) (by kernel_rfl) Tryz.underlying5 (by kernel_rfl) (by kernel_rfl))
 have c2:=KZ (P:=Tryz.prog) (g:=7) (t:=320) (by kernel_rfl) (by kernel_rfl) r2 (Ry Rz (by kernel_rfl) (n:=16) rfl Tryz.underlying320 Tryz.underlying319 (fun i f hf=>by
  match i,hf with
  | 0,hf=>simp at hf;subst hf;exact⟨Tryz.underlying5,rfl,by kernel_rfl⟩
  | 1,hf=>simp at hf;subst hf;exact⟨Tryz.underlying5,rfl,by kernel_rfl⟩
  | i+2,hf=>simp at hf) (by kernel_rfl))
 refine⟨fun k cs hk=>?_,fun k t hk=>?_⟩
 ·obtain⟨hk,hm⟩:=hk
  simp only[Kc,List.mem_cons,List.not_mem_nil,or_false,Prod.mk.injEq]at hm
  have hk:k ∈ [6,7]:=hk
  simp only[List.mem_cons,List.not_mem_nil,or_false]at hk
  clear r1 r2 h1 h2 h
  rcases hk with rfl|rfl
  all_goals repeat'(refine Or.elim hm (fun hm=>?_) (fun hm=>?_))
  all_goals first
   | (obtain⟨h,rfl⟩:=hm;exact c1)
   | (obtain⟨h,rfl⟩:=hm;exact c2)
   | (obtain⟨h,_⟩:=hm;exact absurd h (by decide))
 ·obtain⟨hk,hm⟩:=hk
  have hk:k ∈ [6,7]:=hk
  simp only[List.mem_cons,List.not_mem_nil,or_false]at hk
  simp only[GV,List.mem_cons,List.not_mem_nil,or_false,Prod.mk.injEq]at hm
  all_goals omega
theorem M5 : "*" ++ "errors.errorString" = "*errors.errorString" := by decide
theorem BK (u:TypeId)(h:Tryz.prog.typeName? 3 u=some "*errors.errorString"):u=313:=
 typeName_ptr_named (nm := "errors.errorString") (by rw[M5];kernel_rfl) (by kernel_rfl) (by decide) u (by rw[M5];exact h)
theorem M6:Tryz.prog.underlying 211=some (.interface (Tryz.prog.methodsAt 211)):=by kernel_rfl
theorem TF {W:World}{n:String}{g:Nat}{text:List UInt8}{r:List (String × DataW Unit)}(hg:Tryz.prog.globalNamed n=some g)(ht:(Tryz.prog.globals[g]?).map (·.type)=some 211)(h:laidMet Tryz.prog ((n,.iface "*errors.errorString" (.ptr (.agg [.lit (.string text)])))::r) W) :
  (g0 W).C g 0/\∃ v,W.cell? ⟨g,0,none⟩=some (.iface 313 v):=by
 obtain⟨a,s,hv,_⟩:=laid_sentinel h hg ht M6 BK (Tryz.underlying313) (Tryz.underlying315) rfl rfl Tryz.underlying9 (by kernel_rfl) (by kernel_rfl)
 have hc:W.cell? ⟨g,0,none⟩=some (.iface 313 (.pointer (some a))):=by
  rw[World.var?_cell hg hv 0];rfl
 exact⟨World.block_lt_of_cell? W _ hc,_,hc⟩
abbrev JU:Known:=⟨[0,2,3]⟩
theorem K1 : @KnownSc JU:=@KnownSc.mk JU (List.mem_cons_of_mem _ (List.mem_cons_of_mem _ (List.mem_cons_self ..))) (List.mem_cons_of_mem _ (List.mem_cons_self ..))
theorem GU : @KnownPow JU:=@KnownPow.mk JU (List.mem_cons_self ..)
def D0:List Int:=(List.range 20).map fun i=>((10 ^ i:Nat):Int)
theorem SQ {W:World}{laid r1 r2:List (String × DataW Unit)}(h1:("internal/strconv.uint64pow10",Rows.laid_internal_strconv_uint64pow10) ∈ laid)(h:laidMet Tryz.prog laid W)(hR:laidMet Tryz.prog (("strconv.ErrRange",Rows.laid_strconv_ErrRange)::r1) W)(hS:laidMet Tryz.prog (("strconv.ErrSyntax",Rows.laid_strconv_ErrSyntax)::r2) W) : @Gls JU (g0 W).C W:=by
 have r1':=laidMet.reads h h1
 have c1:=KZ (P:=Tryz.prog) (g:=0) (t:=266) (by kernel_rfl) (by kernel_rfl) r1' (TE D0 (by kernel_rfl) (n:=20) (by kernel_rfl) Tryz.underlying31 (by kernel_rfl) (by kernel_rfl))
 have eR:=TF (W:=W) (g:=3) (by kernel_rfl) (by kernel_rfl) hR
 have eS:=TF (W:=W) (g:=2) (by kernel_rfl) (by kernel_rfl) hS
 refine⟨fun k cs hk=>?_,fun k t hk=>?_⟩
 ·obtain⟨hk,hm⟩:=hk
  simp only[Kc,List.mem_cons,List.not_mem_nil,or_false,Prod.mk.injEq]at hm
  have hk:k ∈ [0,2,3]:=hk
  simp only[List.mem_cons,List.not_mem_nil,or_false]at hk
  clear r1' h1 h hR hS eR eS
  rcases hk with rfl|rfl|rfl
  all_goals repeat'(refine Or.elim hm (fun hm=>?_) (fun hm=>?_))
  all_goals first
   | (obtain⟨h,rfl⟩:=hm;exact c1)
   | (obtain⟨h,_⟩:=hm;exact absurd h (by decide))
 ·obtain⟨hk,hm⟩:=hk
  have hk:k ∈ [0,2,3]:=hk
  simp only[List.mem_cons,List.not_mem_nil,or_false]at hk
  simp only[GV,List.mem_cons,List.not_mem_nil,or_false,Prod.mk.injEq]at hm
  clear r1' h1 h hR hS c1
  rcases hk with rfl|rfl|rfl
  all_goals repeat'(refine Or.elim hm (fun hm=>?_) (fun hm=>?_))
  all_goals first
   | (obtain⟨h,_⟩:=hm;exact absurd h (by decide))
   | (obtain⟨_,rfl⟩:=hm;exact eS)
   | (obtain⟨_,rfl⟩:=hm;exact eR)
end Go.Proofs.YtkdpfkjlheajhaaGreatDoor
end
section
open Go.RowKit Go.Pl Go.Av
namespace Go.Proofs.YtkdpfkjlheajhaaGreatDoor
abbrev RV:Rep (Nat × Int × Nat × Int × XQ × List UInt8):=Rep.u64.prod (Rep.i64.prod (Rep.u64.prod (Rep.i64.prod (RQ.prod (Rep.slice Rep.byte (by decide))))))
theorem RA:Wz Tryz.prog 74 RV:=
 Jy Tryz.underlying74 (by kernel_rfl) (Ys rfl rfl (by kernel_rfl) (Vi Tryz.underlying31) (Ys rfl rfl (by kernel_rfl) (VR Tryz.underlying3) (Ys rfl rfl (by kernel_rfl) (Vi Tryz.underlying31) (Ys rfl rfl (by kernel_rfl) (VR Tryz.underlying3) (Ys rfl rfl (by kernel_rfl) S0 (Kx rfl rfl (by kernel_rfl) Ma))))))
abbrev XV:=Nat × Int × Nat × Int × XQ × List UInt8
def XV.v (x:XV):EvV:=⟨x.1,x.2.1,x.2.2.1,x.2.2.2.1,x.2.2.2.2.1.v,x.2.2.2.2.2⟩
theorem D1 [Known]{W:World}{cs:List Value}{x:XV}(h:RV.ok W (· < W.heap.size) cs x):V W (g0 W) [] (.agg (evC x.v)) (.agg cs.toArray):=by
 obtain⟨now,kd,etok,ses,⟨id,rk,⟨ei,en,es,eh,ed⟩,⟨di,dn,dq,dh,dd⟩,pol,num,tik,pay,life,tok,on⟩,data⟩:=x
 have toE_rq:=ToE.u64.prod (ToE.i64.prod (Ta.prod (Ta.prod (ToE.i64.prod (ToE.i64.prod (ToE.i64.prod ((ToE.byte.slice (by decide)).prod (ToE.u64.prod (ToE.u64.prod ToE.bool)))))))))
 have toE_ev:=ToE.u64.prod (ToE.i64.prod (ToE.u64.prod (ToE.i64.prod (toE_rq.prod (ToE.byte.slice (by decide))))))
 exact ToE.agg toE_ev (l:=[.int .u64 (now:Int),.int .i64 kd,.int .u64 (etok:Int),.int .i64 ses,.int .u64 (id:Int),.int .i64 rk,.bool ei,.int .u64 (en:Int),.int .u64 (es:Int),.str eh,.str ed,.bool di,.int .u64 (dn:Int),.int .u64 (dq:Int),.str dh,.str dd,.int .i64 pol,.int .i64 num,.int .i64 tik,.sl (pay.map E.byte),.int .u64 (life:Int),.int .u64 (tok:Int),.bool on,.sl (data.map E.byte)]) rfl h
theorem M7 {A B:List Nat}{C:Nat->Nat->Prop}{w:World}(ha : @Gls ⟨A⟩ C w)(hb : @Gls ⟨B⟩ C w) : @Gls ⟨A++B⟩ C w:=by
 refine⟨fun k cs hk=>?_,fun k t hk=>?_⟩
 ·have h1:k ∈ A++B:=hk.1
  rcases List.mem_append.1 h1 with h|h
  ·exact ha.1 k cs ⟨h,hk.2⟩
  ·exact hb.1 k cs ⟨h,hk.2⟩
 ·have h1:k ∈ A++B:=hk.1
  rcases List.mem_append.1 h1 with h|h
  ·exact ha.2 k t ⟨h,hk.2⟩
  ·exact hb.2 k t ⟨h,hk.2⟩
abbrev Ub:Known:=⟨[0,2,3]++[6,7]⟩
theorem Nt : @KnownSc Ub:=@KnownSc.mk Ub (List.mem_append_left _ K1.1) (List.mem_append_left _ K1.2)
theorem HP : @KnownPow Ub:=@KnownPow.mk Ub (List.mem_append_left _ GU.1)
theorem Nu : @KnownU8 Ub:=@KnownU8.mk Ub (List.mem_append_right _ K0.1) (List.mem_append_right _ K0.2)
theorem K2 (c0:List Value)(v1:Value)(a2:Int)(x0:XV)(x1:List UInt8)(W:World)(h0:RV.ok W (· < W.heap.size) c0 x0)(h1:Sl Rep.byte W (· < W.heap.size) v1 x1)(h2 : -9223372036854775808<=a2/\a2<=9223372036854775807)(hl:laidMet Tryz.prog Rows.eventBackRow.laid W) :
  Calls Tryz.prog 7 #[.agg c0.toArray,v1,.int .i64 a2] W fun e w'=>e=.returned (.bool true)/\Below W.heap.size W w':=by
 have hg1:=SQ (laid:=Rows.eventBackRow.laid) (by unfold Rows.eventBackRow;repeat (first|exact List.mem_cons_self .. | apply List.mem_cons_of_mem)) hl hl.tail.tail.tail.tail hl.tail.tail.tail.tail.tail
 have hg2:=SP (laid:=Rows.eventBackRow.laid) (by unfold Rows.eventBackRow;repeat (first|exact List.mem_cons_self .. | apply List.mem_cons_of_mem)) (by unfold Rows.eventBackRow;repeat (first|exact List.mem_cons_self .. | apply List.mem_cons_of_mem)) hl
 have hg : @Gls Ub (g0 W).C W:=M7 hg1 hg2
 have h:=@II Ub Nt HP Nu x0.v x1 a2
 refine @BM Ub Tryz.prog 7 _ (@AC.mono Ub _ _ _ _ _ _ _ h fun r b t h=>h.1) W [.agg c0.toArray,v1,.int .i64 a2] hg rfl ?_
 intro j d v hd hv
 match j,hd,hv with
 | 0,hd,hv=>cases hd;cases hv;exact @D1 Ub _ _ _ h0
 | 1,hd,hv=>cases hd;cases hv;exact LC h1
 | 2,hd,hv=>cases hd;cases hv;exact .int _ _
 | j+3,hd,hv=>cases hd
end Go.Proofs.YtkdpfkjlheajhaaGreatDoor
end

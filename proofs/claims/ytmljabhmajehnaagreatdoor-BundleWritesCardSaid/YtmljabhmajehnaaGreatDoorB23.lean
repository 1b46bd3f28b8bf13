/- Package primary: a sealed list, opened. -/
import Derived.Test.YtmljabhmajehnaaGreatDoorB22
import Derived.Test.YtmljabhmajehnaaGreatDoorB21
import Derived.Test.YtmljabhmajehnaaGreatDoorB09
import Derived.Lib.Strings
import Derived.Lib.Slices
import Derived.Lib.Walk
import Derived.Lib.Bytealg
import Derived.Test.YtmljabhmajehnaaGreatDoorB08
import Derived.LaidEql
set_option linter.unusedVariables false
set_option linter.unusedSimpArgs false
section
open Go.RowKit Go.Pl Go.Av
namespace Go.Proofs.YtmljabhmajehnaaGreatDoor
set_option maxHeartbeats 4000000
def Uo (x:It)(a:Int):List It × Int:=match x with
 | .mk k n b l=>match ZB (.mk k n b l)&&(k==4) with
  | false=>([],3)
  | true=>match decide (Z4 l a<0) with
   | true=>([],3)
   | false=>match Z4 l a==0 with
    | true=>(l,0)
    | false=>match l[l.length-1]? with
     | none=>([],3)
     | some (.mk k1 n1 b1 l1)=>match decide (((l.length-1:Nat):Int)<=a)||(!(It.beq (.mk k1 n1 b1 l1) (.mk 2 0 b1 []))||((b1.length:Int) != ((2*(Z4 l a).toNat:Nat):Int))) with
      | true=>([],3)
      | false=>match ZB (ZP (Z4 l a).toNat (l.take (l.length-1))) with
       | false=>([],3)
       | true=>match VC (Z4 l a).toNat (ZM (ZP (Z4 l a).toNat (l.take (l.length-1))))==b1 with
        | false=>([],10)
        | true=>(l.take (l.length-1),0)
abbrev Dj (r:List It × Int):D:=.tup [.sl .ext (Zv r.1),.int .i64 r.2]
theorem KG:∀ {l:List It} (m:Nat),wfs l->wfs (l.take m)
 | _,0,_=>trivial
 | [],m+1,h=>h
 | x::l,m+1,h=>⟨h.1,KG m h.2⟩
theorem Nc [Known][KnownU8](x:It)(a:Int)(hw:wfI x)(hxl:x.l.length<=1000000)(hlim:∀ s m,s=1\/s=2->(ZM (ZP s (x.l.take m))).length<=1000000000):AP Tryz.prog 111 [itD x,.int .i64 a] (Dj (Uo x a)) []:=by
 have hR:=WD x hw
 obtain⟨k,n,b,l⟩:=x
 have hws:wfs l:=hw.2.2.2
 have hlen:=Zw l
 have hU:=YH l
 dsimp only[It.l]at hxl hlim
 have hT:=OQ l hws a
 unfold Uo
 dsimp only
 cases hr:ZB (.mk k n b l) with
 | false=>
  rw[hr]at hR
  rw[Bool.false_and]
  refine AP.ofA (Zl Tryz.func111 U Tryz.ntmps111 U U ?_)
  repeat'(first|(apply Zb (hR);kernel_rfl;(iterate 4 exact U))|(apply Zh Za;exact U)|(apply Zg Za;exact U)|(apply Zo Za;exact U)|refine Zn U U U Qt ?_|refine Zj U Qt U U ?_|refine Zd U Qt ?_)
  all_goals exact Qe
 | true=>
 rw[hr]at hR
 rw[Bool.true_and]
 cases tk:(k==4) with
 | false=>
  have tk2:(k != 4)=true:=by rw[bne,tk];rfl
  refine AP.ofA (Zl Tryz.func111 U Tryz.ntmps111 U U ?_)
  repeat'(first|(apply Zb (hR);kernel_rfl;(iterate 4 exact U))|(apply Zh Za;exact U)|(apply Zg Za;exact U)|(apply Zo Za;exact U)|refine Ze U U U Qt ?_|refine Zi U Qt U U ?_|refine Zd U Qt ?_)
  all_goals exact Qe
 | true=>
 have tk2:(k != 4)=false:=by rw[bne,tk];rfl
 rcases Vc l a with e|⟨e|e,h0,h1⟩
 ·rw[e]at hT ⊢
  refine AP.ofA (Zl Tryz.func111 U Tryz.ntmps111 U U ?_)
  repeat'(first|(apply Zb (hR);kernel_rfl;(iterate 4 exact U))|(apply Zb (hT);kernel_rfl;(iterate 4 exact U))|(apply Zh Za;exact U)|(apply Zg Za;exact U)|(apply Zo Za;exact U)|refine Ze U U U Qt ?_|refine Zi U Qt U U ?_|refine Zd U Qt ?_|refine Zf U Qt ?_)
  all_goals exact Qe
 ·rw[e]at hT ⊢
  have hL:=Vj l (by omega) hws
  replace hL:AP Tryz.prog 64 [.sl .ext (Zv l)] (.agg [.int .i64 4,.int .u64 0,.sl .ext [],.sl .ext (Zv l)]) []:=hL
  refine AP.ofA (Zl Tryz.func111 U Tryz.ntmps111 U U ?_)
  repeat'(first|(apply Zb (hR);kernel_rfl;(iterate 4 exact U))|(apply Zb (hT);kernel_rfl;(iterate 4 exact U))|(apply Zb (hL);kernel_rfl;(iterate 4 exact U))|(apply Zh Za;exact U)|(apply Zg Za;exact U)|(apply Zo Za;exact U)|refine Ze U U U Qt ?_|refine Zi U Qt U U ?_|refine Zd U Qt ?_|refine Zf U Qt ?_)
  all_goals exact Qe
 ·obtain⟨s,hs,es⟩:∃ s:Nat,(s=1\/s=2)/\Z4 l a=(s:Int):=⟨(Z4 l a).toNat,by omega,by omega⟩
  rw[es]at hT ⊢
  rw[Int.toNat_natCast]
  have d1:decide ((s:Int)<0)=false:=decide_eq_false (by omega)
  have d2:((s:Int)==0)=false:=by rw[beq_eq_false_iff_ne];omega
  rw[d1,d2]
  dsimp only
  obtain⟨m,hm⟩:∃ m,m=l.length-1:=⟨_,rfl⟩
  have em:IntKind.i64.wrap (((Zv l).length:Int)-1)=(m:Int):=by rw[IntWalk.i64_in _ (by omega)];omega
  rw[<- hm]
  obtain⟨⟨k1,n1,b1,l1⟩,hy⟩:∃ y,l[m]?=some y:=⟨_,List.getElem?_eq_getElem (by omega)⟩
  have hv:(Zv l)[((m:Nat):Int).toNat]?=some (.agg [.int .i64 k1,.int .u64 (n1:Int),.sl (b1.map E.byte),.sl (Zv l1)]):=by
   rw[Int.toNat_natCast,Z8,List.getElem?_map,hy];rfl
  rw[hy]
  dsimp only
  have hw1:=Yt hws _ (List.mem_of_getElem? hy)
  have hbl:(b1.map E.byte).length=b1.length:=List.length_map ..
  have hB:=JU b1 (by have:=hw1.2.1;omega)
  have hS:=Um (.mk k1 n1 b1 l1) hw1 (.mk 2 0 b1 []) ⟨by decide,by have:=hw1.2.1;omega,by simp,trivial⟩
  have hZ:=KF s hs
  rw[<- hbl]
  cases t1:decide ((m:Int)<=a) with
  | true=>
   rw[Bool.true_or]
   refine AP.ofA (Zl Tryz.func111 U Tryz.ntmps111 U U ?_)
   repeat'(first|(apply Zb (hR);kernel_rfl;(iterate 4 exact U))|(apply Zb (hT);kernel_rfl;(iterate 4 exact U))|rw[em]|(apply Zh Za;exact U)|(apply Zg Za;exact U)|(apply Zo Za;exact U)|refine Ze U U U Qt ?_|refine Zn U U U Qt ?_|refine Zj U Qt U U ?_|refine Zi U Qt U U ?_|refine Zd U Qt ?_|refine Zf U Qt ?_|refine Zm Za U U U U ?_|(apply Zq 17 ZE;decide +kernel;kernel_rfl;kernel_rfl;kernel_rfl;exact U;exact U)|(apply Zt;(iterate 4 exact U))|exact AE.nil _ _ _ _|(apply Zx;exact U)|(apply Zz;exact U;exact U;decide +kernel;exact U)|(apply ZA;exact U)|exact AO.nil _ _ _|(apply Zs;(decide +kernel))|exact AOs.nil|exact ZF rfl rfl|(apply Zr Za;(iterate 6 exact U);(first|exact Qt|rotate_left);(first|with_reducible assumption|decide +kernel|exact U);(first|exact Zk rfl|with_reducible assumption|decide +kernel|rotate_left)))
   all_goals exact Qe
  | false=>
  rw[Bool.false_or]
  cases t2:It.beq (.mk k1 n1 b1 l1) (.mk 2 0 b1 []) with
  | false=>
   rw[t2]at hS
   rw[Bool.not_false,Bool.true_or]
   refine AP.ofA (Zl Tryz.func111 U Tryz.ntmps111 U U ?_)
   repeat'(first|(apply Zb (hR);kernel_rfl;(iterate 4 exact U))|(apply Zb (hT);kernel_rfl;(iterate 4 exact U))|rw[em]|(apply Zb (hB);kernel_rfl;(iterate 4 exact U))|(apply Zb (hS);kernel_rfl;(iterate 4 exact U))|(apply Zh Za;exact U)|(apply Zg Za;exact U)|(apply Zo Za;exact U)|refine Ze U U U Qt ?_|refine Zn U U U Qt ?_|refine Zj U Qt U U ?_|refine Zi U Qt U U ?_|refine Zd U Qt ?_|refine Zf U Qt ?_|refine Zm Za U U U U ?_|(apply Zq 17 ZE;decide +kernel;kernel_rfl;kernel_rfl;kernel_rfl;exact U;exact U)|(apply Zt;(iterate 4 exact U))|exact AE.nil _ _ _ _|(apply Zx;exact U)|(apply Zz;exact U;exact U;decide +kernel;exact U)|(apply ZA;exact U)|exact AO.nil _ _ _|(apply Zs;(decide +kernel))|exact AOs.nil|exact ZF rfl rfl|(apply Zr Za;(iterate 6 exact U);(first|exact Qt|rotate_left);(first|with_reducible assumption|decide +kernel|exact U);(first|exact Zk rfl|with_reducible assumption|decide +kernel|rotate_left)))
   all_goals exact Qe
  | true=>
  rw[t2]at hS
  rw[Bool.not_true,Bool.false_or]
  cases t3:(((b1.map E.byte).length:Int) != ((2*s:Nat):Int)) with
  | true=>
   refine AP.ofA (Zl Tryz.func111 U Tryz.ntmps111 U U ?_)
   repeat'(first|(apply Zb (hR);kernel_rfl;(iterate 4 exact U))|(apply Zb (hT);kernel_rfl;(iterate 4 exact U))|rw[em]|(apply Zb (hB);kernel_rfl;(iterate 4 exact U))|(apply Zb (hS);kernel_rfl;(iterate 4 exact U))|(apply Zb (hZ);kernel_rfl;(iterate 4 exact U))|(apply Zh Za;exact U)|(apply Zg Za;exact U)|(apply Zo Za;exact U)|refine Ze U U U Qt ?_|refine Zi U Qt U U ?_|refine Zd U Qt ?_|refine Zf U Qt ?_|refine Zm Za U U U U ?_|(apply Zq 17 ZE;decide +kernel;kernel_rfl;kernel_rfl;kernel_rfl;exact U;exact U)|(apply Zt;(iterate 4 exact U))|exact AE.nil _ _ _ _|(apply Zx;exact U)|(apply Zz;exact U;exact U;decide +kernel;exact U)|(apply ZA;exact U)|exact AO.nil _ _ _|(apply Zs;(decide +kernel))|exact AOs.nil|exact ZF rfl rfl|(apply Zr Za;(iterate 6 exact U);(first|exact Qt|rotate_left);(first|with_reducible assumption|decide +kernel|exact U);(first|exact Zk rfl|with_reducible assumption|decide +kernel|rotate_left)))
   all_goals exact Qe
  | false=>
  dsimp only
  have hne:l.take m ≠ []:=by
   intro h
   have h9:=congrArg List.length h
   rw[List.length_take,List.length_nil]at h9
   have:=of_decide_eq_false t1
   omega
  have htl:(l.take m).length<=1000000:=by rw[List.length_take];omega
  have hSu:=GR (l.take m) s hs hne (KG m hws) htl (hlim s m hs)
  have eT:Zv (l.take m)=(Zv l).take m:=by rw[Z8,Z8,List.map_take]
  have hmle:((m:Nat):Int).toNat<=(Zv l).length:=by rw[Int.toNat_natCast];omega
  rw[eT]at hSu
  cases hz:ZB (ZP s (l.take m)) with
  | false=>
   rw[hz]at hSu
   dsimp only at hSu
   refine AP.ofA (Zl Tryz.func111 U Tryz.ntmps111 U U ?_)
   repeat'(first|(apply Zb (hR);kernel_rfl;(iterate 4 exact U))|(apply Zb (hT);kernel_rfl;(iterate 4 exact U))|rw[em]|(apply Zb (hB);kernel_rfl;(iterate 4 exact U))|(apply Zb (hS);kernel_rfl;(iterate 4 exact U))|(apply Zb (hZ);kernel_rfl;(iterate 4 exact U))|(apply Zb (hSu);kernel_rfl;(iterate 4 exact U))|refine JP Za U U U U U U hU (Int.natCast_nonneg _) hmle U ?_|(apply Zh Za;exact U)|(apply Zg Za;exact U)|(apply Zo Za;exact U)|refine Ze U U U Qt ?_|refine Zi U Qt U U ?_|refine Zd U Qt ?_|refine Zf U Qt ?_|refine Zm Za U U U U ?_|(apply Zq 17 ZE;decide +kernel;kernel_rfl;kernel_rfl;kernel_rfl;exact U;exact U)|(apply Zt;(iterate 4 exact U))|exact AE.nil _ _ _ _|(apply Zx;exact U)|(apply Zz;exact U;exact U;decide +kernel;exact U)|(apply ZA;exact U)|exact AO.nil _ _ _|(apply Zs;(decide +kernel))|exact AOs.nil|exact ZF rfl rfl|(apply Zr Za;(iterate 6 exact U);(first|exact Qt|rotate_left);(first|with_reducible assumption|decide +kernel|exact U);(first|exact Zk rfl|with_reducible assumption|decide +kernel|rotate_left)))
   all_goals exact Qe
  | true=>
  rw[hz]at hSu
  dsimp only at hSu ⊢
  generalize VC s (ZM (ZP s (l.take m)))=SB at *
  have hE:=Kp SB b1
  cases t4:(SB==b1) with
  | false=>
   rw[t4]at hE
   refine AP.ofA (Zl Tryz.func111 U Tryz.ntmps111 U U ?_)
   repeat'(first|(apply Zb (hR);kernel_rfl;(iterate 4 exact U))|(apply Zb (hT);kernel_rfl;(iterate 4 exact U))|rw[em]|(apply Zb (hB);kernel_rfl;(iterate 4 exact U))|(apply Zb (hS);kernel_rfl;(iterate 4 exact U))|(apply Zb (hZ);kernel_rfl;(iterate 4 exact U))|(apply Zb (hSu);kernel_rfl;(iterate 4 exact U))|(apply Zb (hE);kernel_rfl;(iterate 4 exact U))|refine JP Za U U U U U U hU (Int.natCast_nonneg _) hmle U ?_|(apply Zh Za;exact U)|(apply Zg Za;exact U)|(apply Zo Za;exact U)|refine Ze U U U Qt ?_|refine Zi U Qt U U ?_|refine Zd U Qt ?_|refine Zf U Qt ?_|refine Zm Za U U U U ?_|(apply Zq 17 ZE;decide +kernel;kernel_rfl;kernel_rfl;kernel_rfl;exact U;exact U)|(apply Zt;(iterate 4 exact U))|exact AE.nil _ _ _ _|(apply Zx;exact U)|(apply Zz;exact U;exact U;decide +kernel;exact U)|(apply ZA;exact U)|exact AO.nil _ _ _|(apply Zs;(decide +kernel))|exact AOs.nil|exact ZF rfl rfl|(apply Zr Za;(iterate 6 exact U);(first|exact Qt|rotate_left);(first|with_reducible assumption|decide +kernel|exact U);(first|exact Zk rfl|with_reducible assumption|decide +kernel|rotate_left)))
   all_goals exact Qe
  | true=>
   rw[t4]at hE
   have hL:=Vj (l.take m) (by omega) (KG m hws)
   rw[eT]at hL
   replace hL:AP Tryz.prog 64 [.sl .ext ((Zv l).take m)] (.agg [.int .i64 4,.int .u64 0,.sl .ext [],.sl .ext (Zv (l.take m))]) []:=hL
   refine AP.ofA (Zl Tryz.func111 U Tryz.ntmps111 U U ?_)
   repeat'(first|(apply Zb (hR);kernel_rfl;(iterate 4 exact U))|(apply Zb (hT);kernel_rfl;(iterate 4 exact U))|rw[em]|(apply Zb (hB);kernel_rfl;(iterate 4 exact U))|(apply Zb (hS);kernel_rfl;(iterate 4 exact U))|(apply Zb (hZ);kernel_rfl;(iterate 4 exact U))|(apply Zb (hSu);kernel_rfl;(iterate 4 exact U))|(apply Zb (hE);kernel_rfl;(iterate 4 exact U))|(apply Zb (hL);kernel_rfl;(iterate 4 exact U))|refine JP Za U U U U U U hU (Int.natCast_nonneg _) hmle U ?_|(apply Zh Za;exact U)|(apply Zg Za;exact U)|(apply Zo Za;exact U)|refine Ze U U U Qt ?_|refine Zi U Qt U U ?_|refine Zf U Qt ?_|refine Zm Za U U U U ?_|(apply Zq 17 ZE;decide +kernel;kernel_rfl;kernel_rfl;kernel_rfl;exact U;exact U)|(apply Zt;(iterate 4 exact U))|exact AE.nil _ _ _ _|(apply Zx;exact U)|(apply Zz;exact U;exact U;decide +kernel;exact U)|(apply ZA;exact U)|exact AO.nil _ _ _|(apply Zs;(decide +kernel))|exact AOs.nil|exact ZF rfl rfl|(apply Zr Za;(iterate 6 exact U);(first|exact Qt|rotate_left);(first|with_reducible assumption|decide +kernel|exact U);(first|exact Zk rfl|with_reducible assumption|decide +kernel|rotate_left)))
   all_goals exact Qe
theorem Bw (l:List Nat):Uni 1 (l.map fun n:Nat=>E.int .u64 (n:Int)):=Uni.map (f:=fun n:Nat=>E.int .u64 (n:Int)) (fun _=>rfl) l
def Jf (n:Nat):Bool:=decide ((n:Int)<1)||decide ((n:Int)>255)
theorem KH [Known](n:Nat):AP Tryz.prog 160 [.int .u64 (n:Int)] (.bool (Jf n)) []:=by
 unfold Jf
 refine AP.ofA (Zl Tryz.func160 U Tryz.ntmps160 U U ?_)
 repeat'(first|(apply Zh Za;exact U)|(apply Zg Za;exact U)|(apply Ze;(iterate 3 exact U);(first|with_reducible assumption|(solve|simp only[bn])))|(apply Zn;(iterate 3 exact U);(first|with_reducible assumption|(solve|simp only[bn])))|(apply Yr;exact U;exact U;all_goals intro hb)|(apply Zj;exact U;(first|with_reducible assumption|(solve|simp only[bn]));exact U;exact U)|(apply Zi;exact U;(first|with_reducible assumption|(solve|simp only[bn]));exact U;exact U))
 all_goals(apply Zp [];(apply Zc Za;exact U);(iterate 4 exact U))
 all_goals first|rfl|(simp only[*];done)|(simp only[*];rfl)
def D0:Bool->Bool->Int
 | true,_=>0
 | false,true=>1
 | false,false => -1
theorem Sm [Known](a b:Nat)(x y:Bool)(hx:Jf a=x)(hy:Jf b=y):AP Tryz.prog 184 [.sl .ext [.int .u64 (a:Int),.int .u64 (b:Int)],.fn 160 []] (.int .i64 (D0 x y)) []:=by
 have ga:=KH a
 have gb:=KH b
 rw[hx]at ga
 rw[hy]at gb
 have hU:=Bw [a,b]
 have q0:decide ((0:Int)<(([.int .u64 (a:Int),.int .u64 (b:Int)]:List E).length:Int))=true:=rfl
 have q1:decide ((1:Int)<(([.int .u64 (a:Int),.int .u64 (b:Int)]:List E).length:Int))=true:=rfl
 have q2:decide ((2:Int)<(([.int .u64 (a:Int),.int .u64 (b:Int)]:List E).length:Int))=false:=rfl
 have e1:IntKind.i64.wrap (0+1)=1:=by decide
 have e2:IntKind.i64.wrap (1+1)=2:=by decide
 cases x<;>cases y
 all_goals
  refine AP.ofA (Zl Tryz.func184 U Tryz.ntmps184 U U ?_)
  repeat'(first|rw[e1]|rw[e2]|(apply Va (ga);exact U;kernel_rfl;(iterate 3 exact U))|(apply Va (gb);exact U;kernel_rfl;(iterate 3 exact U))|refine Zr Za U U U U U U (by decide) U hU ?_|refine Ys 20 ?_|refine YK ?_|(apply Zh Za;exact U)|(apply Zg Za;exact U)|(apply Zo Za;exact U)|refine Zd U Qt ?_|refine Zf U Qt ?_|refine Ya ?_|refine Zm Za U U U U ?_)
  all_goals exact Qe
theorem Lw [Known](a b:Nat):AP Tryz.prog 159 [.sl .ext [.int .u64 (a:Int),.int .u64 (b:Int)],.fn 160 []] (.bool (Jf a||Jf b)) []:=by
 cases hx:Jf a<;>cases hy:Jf b
 all_goals
  have hI:=Sm a b _ _ hx hy
  refine AP.ofA (Zl Tryz.func159 U Tryz.ntmps159 U U ?_)
  repeat'(first|(apply Zb (hI);kernel_rfl;(iterate 4 exact U))|(apply Zh Za;exact U)|(apply Zg Za;exact U))
  all_goals exact Qe
theorem Ta [Known](a b:Nat):AP Tryz.prog 130 [.sl .ext [.int .u64 (a:Int),.int .u64 (b:Int)]] (.bool (!(Jf a||Jf b))) []:=by
 have hI:=Lw a b
 refine AP.ofA (Zl Tryz.func130 U Tryz.ntmps130 U U ?_)
 repeat'(first|(apply Zb (hI);kernel_rfl;(iterate 4 exact U))|(apply Zh Za;exact U)|(apply Zg Za;exact U))
 all_goals exact Qe
theorem GS [Known]:AT Tryz.prog 64 [.sl .nil []] [] [] (.agg [.int .i64 4,.int .u64 0,.sl .nil [],.sl .nil []]) [] []:=by
 refine Zl Tryz.func64 rfl Tryz.ntmps64 rfl rfl ?_
 repeat'(first|refine Ys 20 ?_|refine YK ?_|(apply Zh Za;exact U)|(apply Zg Za;exact U)|refine Zf U Qt ?_|refine Zm Za U U U U ?_)
 all_goals(apply Js [] [];(apply Zc Za;exact U);(iterate 7 exact U))
 all_goals rfl
abbrev nmE (n:Nat):E:=.agg [.int .i64 0,.int .u64 (n:Int),.sl [],.sl []]
theorem GT [Known](a b:Nat):AP Tryz.prog 97 [.sl .ext [.int .u64 (a:Int),.int .u64 (b:Int)]] (.agg [.int .i64 4,.int .u64 0,.sl .ext [],.sl .ext [nmE a,nmE b]]) []:=by
 have ga:=Wm a
 have gb:=Wm b
 have hL:=GS
 have hU:=Bw [a,b]
 have e1:IntKind.i64.wrap (0+1)=1:=by decide
 have e2:IntKind.i64.wrap (1+1)=2:=by decide
 have hU4:∀(l:List Nat),Uni 4 (l.map nmE):=fun l=>Uni.map (f:=nmE) (fun _=>rfl) l
 have q0:decide ((0:Int)<(([.int .u64 (a:Int),.int .u64 (b:Int)]:List E).length:Int))=true:=rfl
 have q1:decide ((1:Int)<(([.int .u64 (a:Int),.int .u64 (b:Int)]:List E).length:Int))=true:=rfl
 have q2:decide ((2:Int)<(([.int .u64 (a:Int),.int .u64 (b:Int)]:List E).length:Int))=false:=rfl
 have hu1:=hU4 [a]
 have hu2:=hU4 [a,b]
 refine AP.ofA (Zl Tryz.func97 U Tryz.ntmps97 U U ?_)
 repeat'(first|rw[e1]|rw[e2]|(apply Yp [] [] (hL);kernel_rfl;(iterate 10 exact U))|(apply Zb (ga);kernel_rfl;(iterate 4 exact U))|(apply Zb (gb);kernel_rfl;(iterate 4 exact U))|refine Zr Za U U U U U U (by decide) U hU ?_|refine Ys 20 ?_|refine YK ?_|refine Wk Za U U U U U U U U U U U (Zk rfl) (Zk rfl) (List.cons_ne_nil _ _) Qd Qd U U ?_|refine Z3 Za U U U U U U (Zk rfl) (List.cons_ne_nil _ _) U Qd Qd U U U ?_|(apply Zh Za;exact U)|(apply Zg Za;exact U)|(apply Zo Za;exact U)|refine Zd U Qt ?_|refine Zf U Qt ?_|refine Zm Za U U U U ?_|refine ZO Za U U U U U U U U U U U U ?_|(apply Zq 5 ZE;decide +kernel;kernel_rfl;kernel_rfl;kernel_rfl;exact U;exact U)|(apply Zt;(iterate 4 exact U))|exact AE.nil _ _ _ _|(apply Zx;exact U)|(apply Zz;exact U;exact U;decide +kernel;exact U)|(apply ZA;exact U)|exact AO.nil _ _ _|(apply Zs;(decide +kernel))|exact AOs.nil|exact ZF rfl rfl|exact WK rfl rfl rfl rfl rfl)
 all_goals exact Qe
theorem GU [Known](a b c d:Nat):AT Tryz.prog 97 [.sl .ext [.int .u64 (a:Int),.int .u64 (b:Int),.int .u64 (c:Int),.int .u64 (d:Int)]] [] [] (.agg [.int .i64 4,.int .u64 0,.sl .nil [],.sl (.own 0) [nmE a,nmE b,nmE c,nmE d]]) [] [⟨4,4,115⟩]:=by
 have ga:=Wm a
 have gb:=Wm b
 have gc:=Wm c
 have gd:=Wm d
 have hL:=GS
 have hU:=Bw [a,b,c,d]
 have e1:IntKind.i64.wrap (0+1)=1:=by decide
 have e2:IntKind.i64.wrap (1+1)=2:=by decide
 have e3:IntKind.i64.wrap (2+1)=3:=by decide
 have e4:IntKind.i64.wrap (3+1)=4:=by decide
 have hU4:∀(l:List Nat),Uni 4 (l.map nmE):=fun l=>Uni.map (f:=nmE) (fun _=>rfl) l
 have q0:decide ((0:Int)<(([.int .u64 (a:Int),.int .u64 (b:Int),.int .u64 (c:Int),.int .u64 (d:Int)]:List E).length:Int))=true:=rfl
 have q1:decide ((1:Int)<(([.int .u64 (a:Int),.int .u64 (b:Int),.int .u64 (c:Int),.int .u64 (d:Int)]:List E).length:Int))=true:=rfl
 have q2:decide ((2:Int)<(([.int .u64 (a:Int),.int .u64 (b:Int),.int .u64 (c:Int),.int .u64 (d:Int)]:List E).length:Int))=true:=rfl
 have q3:decide ((3:Int)<(([.int .u64 (a:Int),.int .u64 (b:Int),.int .u64 (c:Int),.int .u64 (d:Int)]:List E).length:Int))=true:=rfl
 have q4:decide ((4:Int)<(([.int .u64 (a:Int),.int .u64 (b:Int),.int .u64 (c:Int),.int .u64 (d:Int)]:List E).length:Int))=false:=rfl
 have hu1:=hU4 [a]
 have hu2:=hU4 [a,b]
 have hu3:=hU4 [a,b,c]
 have hu4:=hU4 [a,b,c,d]
 refine Zl Tryz.func97 rfl Tryz.ntmps97 rfl rfl ?_
 repeat'(first|rw[e1]|rw[e2]|rw[e3]|rw[e4]|(apply Yp [] [] (hL);kernel_rfl;(iterate 10 exact U))|(apply Zb (ga);kernel_rfl;(iterate 4 exact U))|(apply Zb (gb);kernel_rfl;(iterate 4 exact U))|(apply Zb (gc);kernel_rfl;(iterate 4 exact U))|(apply Zb (gd);kernel_rfl;(iterate 4 exact U))|refine Zr Za U U U U U U (by decide) U hU ?_|refine Ys 20 ?_|refine YK ?_|refine Wk Za U U U U U U U U U U U (Zk rfl) (Zk rfl) (List.cons_ne_nil _ _) Qd Qd U U ?_|refine Z3 Za U U U U U U (Zk rfl) (List.cons_ne_nil _ _) U Qd Qd U U U ?_|(apply Zh Za;exact U)|(apply Zg Za;exact U)|(apply Zo Za;exact U)|refine Zd U Qt ?_|refine Zf U Qt ?_|refine Zm Za U U U U ?_|refine ZO Za U U U U U U U U U U U U ?_|(apply Zq 5 ZE;decide +kernel;kernel_rfl;kernel_rfl;kernel_rfl;exact U;exact U)|(apply Zt;(iterate 4 exact U))|exact AE.nil _ _ _ _|(apply Zx;exact U)|(apply Zz;exact U;exact U;decide +kernel;exact U)|(apply ZA;exact U)|exact AO.nil _ _ _|(apply Zs;(decide +kernel))|exact AOs.nil|exact ZF rfl rfl|exact WK rfl rfl rfl rfl rfl)
 all_goals(apply Js [] [0];(apply Zc Za;exact U);(iterate 7 exact U))
 all_goals rfl
def WH (c:UInt8):List UInt8->List UInt8 × List UInt8 × Bool
 | []=>([],[],false)
 | x::s=>if x=c then([],s,true) else(x::(WH c s).1,(WH c s).2.1,(WH c s).2.2)
theorem Nd {c:UInt8}:∀ {s:List UInt8},c ∉ s->WH c s=(s,[],false)
 | [],_=>rfl
 | x::s,h=>by
  have h1:¬ x=c:=fun e=>h (by rw[e];exact List.mem_cons_self ..)
  have h2:=Nd (c:=c) (s:=s) fun hm=>h (List.mem_cons_of_mem _ hm)
  rw[WH,if_neg h1,h2]
theorem Ue {c:UInt8}:∀ {a b:List UInt8},c ∉ a->WH c (a++c::b)=(a,b,true)
 | [],b,_=>by rw[List.nil_append,WH,if_pos rfl]
 | x::a,b,h=>by
  have h1:¬ x=c:=fun e=>h (by rw[e];exact List.mem_cons_self ..)
  have h2:=Ue (c:=c) (a:=a) (b:=b) fun hm=>h (List.mem_cons_of_mem _ hm)
  rw[List.cons_append,WH,if_neg h1,h2]
theorem Q7 {c:UInt8}:∀ {s:List UInt8},(WH c s).2.2=true->s=(WH c s).1++c::(WH c s).2.1
 | [],h=>by rw[WH]at h;cases h
 | x::s,h=>by
  rw[WH]at h ⊢
  by_cases e:x=c
  ·rw[if_pos e];rw[e];rfl
  ·rw[if_neg e]at h ⊢
   have:=Q7 (c:=c) (s:=s) h
   dsimp only
   rw[List.cons_append,<- this]
def W6 (p s:List UInt8):List UInt8 × Bool:=if s.take p.length==p then(s.drop p.length,true) else(s,false)
theorem QK (p r:List UInt8):W6 p (p++r)=(r,true):=by
 unfold W6
 rw[List.take_left,beq_self_eq_true,if_pos rfl,List.drop_left]
theorem Nf {p s:List UInt8}(h:(s.take p.length==p)=false):W6 p s=(s,false):=by
 unfold W6;rw[h];rfl
theorem Q8 {p s:List UInt8}(h:(W6 p s).2=true):s=p++(W6 p s).1:=by
 unfold W6 at h ⊢
 split at h
 ·rename_i hp
  rw[if_pos hp]
  have:=beq_iff_eq.1 hp
  conv=>lhs;rw[<- List.take_append_drop p.length s,this]
 ·cases h
def ppV (s:List UInt8):EidV × Bool:=
 (⟨false,0,0,(WH 47 (W6 [47,47] s).1).1,(WH 47 (W6 [47,47] s).1).2.1⟩,(W6 [47,47] s).2&&((WH 47 (W6 [47,47] s).1).2.2&&((WH 47 (W6 [47,47] s).1).1 != []&&ZR ⟨false,0,0,(WH 47 (W6 [47,47] s).1).1,(WH 47 (W6 [47,47] s).1).2.1⟩)))
def Up:List UInt8:=[100,116,110,58,110,111,110,101]
def Vn:List UInt8:=[105,112,110,58]
def Ux:List UInt8:=[100,116,110,58]
theorem Vo {x:EidV}:isZ x=true ↔ x=YS:=by
 obtain⟨i,n,s,h,d⟩:=x
 simp only[isZ,YS,Bool.and_eq_true,beq_iff_eq,EidV.mk.injEq]
 constructor
 ·rintro⟨h1,h2,h3,h4,h5,_⟩
  exact⟨h1,by omega,by omega,h4,h5⟩
 ·rintro⟨h1,h2,h3,h4,h5⟩
  exact⟨h1,by omega,by omega,h4,h5,trivial⟩
theorem Jv {m:Nat}{c:UInt8}{l:List UInt8}(hl:l.all (okB m)=true)(h:okB m c=false):c ∉ l:=fun hm=>by
 have:=List.all_eq_true.1 hl c hm
 rw[h]at this;cases this
set_option maxRecDepth 100000 in
theorem Lx (s:ByteArray)(c:Int)(w:World):Calls Tryz.prog 201 #[.string s,.int .u8 c] w fun e w'=>e=.returned (.int .i64 (Lib.indexByte s.data.toList c.toNat.toUInt8))/\w'=w:=by
 go_enter Tryz.func201,Tryz.ntmps201
 go_wp2
 rw[run_callFunc_extern Tryz.func206 (by kernel_rfl) (by kernel_rfl) (by kernel_rfl) (e:=Extern.BytealgIndexByte.indexByte) (by kernel_rfl),Lib.run_indexByteString]
 simp only[Result.andThen]
 rw[Oper.upon_value]
 go_wp2
 go_ret
 exact⟨rfl,rfl⟩
theorem Bx [Known](s:List UInt8)(c:Int):AP Tryz.prog 201 [.str s,.int .u8 c] (.int .i64 (Lib.indexByte s c.toNat.toUInt8)) []:=by
 refine⟨fun g w vs hmem hl hv=>?_⟩
 obtain⟨v0,v1,rfl⟩:∃ v0 v1,vs=[v0,v1]:=by
  match vs,hl with
  | [v0,v1],_=>exact⟨v0,v1,rfl⟩
 have h0:=(hv 0 _ _ rfl rfl).str_inv.1
 have h1:=(hv 1 _ _ rfl rfl).int_inv
 subst h0 h1
 exact(Lx ⟨s.toArray⟩ c w).mono fun e w' ⟨he,hb⟩=>Gq hmem (hb ▸ Below.refl _ _) he (.int _ _)
theorem OR [Known](s p:List UInt8)(hs:s.length<=4611686018427387904)(hp:p.length<=4611686018427387904):AP Tryz.prog 197 [.str s,.str p] (.bool (s.take p.length==p)) []:=by
 by_cases h:p.length<=s.length
 ·have t1:decide ((s.length:Int) ≥ (p.length:Int))=true:=decide_eq_true (by omega)
  have hq:((p.length:Nat):Int).toNat<=s.length:=by rw[Int.toNat_natCast];exact h
  have hs2:(s.take ((p.length:Nat):Int).toNat).drop 0=s.take p.length:=by rw[Int.toNat_natCast,List.drop_zero]
  generalize s.take p.length=s2 at *
  refine AP.ofA (Zl Tryz.func197 U Tryz.ntmps197 U U ?_)
  repeat'(first|refine YO Za U U U U (.dft _) (.lit _ _ _ _ rfl (Int.natCast_nonneg _)) (Nat.zero_le _) hq hs2 ?_|(apply Zh Za;exact U)|(apply Zg Za;exact U)|refine Ze U U U Qt ?_|refine Zj U Qt U U ?_|refine Yo Za U U U U ?_)
  all_goals exact Qe
 ·have t1:decide ((s.length:Int) ≥ (p.length:Int))=false:=decide_eq_false (by omega)
  have e:(s.take p.length==p)=false:=by
   rw[beq_eq_false_iff_ne]
   intro e
   have:=congrArg List.length e
   rw[List.length_take]at this
   omega
  rw[e]
  refine AP.ofA (Zl Tryz.func197 U Tryz.ntmps197 U U ?_)
  repeat'(first|(apply Zh Za;exact U)|(apply Zg Za;exact U)|refine Zu U U U Qt ?_|refine Zi U Qt U U ?_|refine Yo Za U U U U ?_)
  all_goals exact Qe
theorem Tb [Known](p r:List UInt8)(hs:(p++r).length<=4611686018427387904):AP Tryz.prog 169 [.str (p++r),.str p] (.tup [.str r,.bool true]) []:=by
 have hH:=OR (p++r) p hs (by rw[List.length_append]at hs;omega)
 rw[List.take_left,beq_self_eq_true]at hH
 have hq:((p.length:Nat):Int).toNat<=(p++r).length:=by rw[Int.toNat_natCast,List.length_append];omega
 have hs2:((p++r).take (p++r).length).drop ((p.length:Nat):Int).toNat=r:=by rw[Int.toNat_natCast,List.take_length,List.drop_left]
 have hC:AP Tryz.prog 189 [.str (p++r),.str p] (.tup [.str r,.bool true]) []:=by
  generalize p++r=s at *
  refine AP.ofA (Zl Tryz.func189 U Tryz.ntmps189 U U ?_)
  repeat'(first|(apply Zb (hH);kernel_rfl;(iterate 4 exact U))|refine YO Za U U U U (.lit _ _ _ _ rfl (Int.natCast_nonneg _)) (.dft _) hq (Nat.le_refl _) hs2 ?_|(apply Zh Za;exact U)|(apply Zg Za;exact U)|(apply Zo Za;exact U)|refine Zf U Qt ?_|refine Yo Za U U U U ?_)
  all_goals exact Qe
 refine AP.ofA (Zl Tryz.func169 U Tryz.ntmps169 U U ?_)
 repeat'(first|(apply Zb (hC);kernel_rfl;(iterate 4 exact U))|(apply Zh Za;exact U)|(apply Zg Za;exact U))
 all_goals exact Qe
theorem Tc [Known](s p:List UInt8)(hs:s.length<=4611686018427387904)(hp:p.length<=4611686018427387904)(h:(s.take p.length==p)=false):AP Tryz.prog 169 [.str s,.str p] (.tup [.str s,.bool false]) []:=by
 have hH:=OR s p hs hp
 rw[h]at hH
 have hC:AP Tryz.prog 189 [.str s,.str p] (.tup [.str s,.bool false]) []:=by
  refine AP.ofA (Zl Tryz.func189 U Tryz.ntmps189 U U ?_)
  repeat'(first|(apply Zb (hH);kernel_rfl;(iterate 4 exact U))|(apply Zh Za;exact U)|(apply Zg Za;exact U)|(apply Zo Za;exact U)|refine Zd U Qt ?_)
  all_goals exact Qe
 refine AP.ofA (Zl Tryz.func169 U Tryz.ntmps169 U U ?_)
 repeat'(first|(apply Zb (hC);kernel_rfl;(iterate 4 exact U))|(apply Zh Za;exact U)|(apply Zg Za;exact U))
 all_goals exact Qe
theorem NY (s p:List UInt8):(∃ r,s=p++r)\/(s.take p.length==p)=false:=by
 cases h:s.take p.length==p with
 | true=>
  refine .inl ⟨s.drop p.length,?_⟩
  have:=beq_iff_eq.1 h
  conv=>lhs;rw[<- List.take_append_drop p.length s,this]
 | false=>exact .inr rfl
theorem Ly:∀ {l:List UInt8} {c:UInt8},c ∉ l->Lib.indexByte l c = -1
 | [],_,_=>rfl
 | x::l,c,h=>by
  have h1:¬ x=c:=fun e=>h (by rw[e];exact List.mem_cons_self ..)
  have h2:=Ly (l:=l) (c:=c) fun hm=>h (List.mem_cons_of_mem _ hm)
  simp[Lib.indexByte,h1,h2]
theorem Ng:∀ {a b:List UInt8} {c:UInt8},c ∉ a->Lib.indexByte (a++c::b) c=(a.length:Int)
 | [],b,c,_=>by simp[Lib.indexByte]
 | x::a,b,c,h=>by
  have h1:¬ x=c:=fun e=>h (by rw[e];exact List.mem_cons_self ..)
  have h2:=Ng (a:=a) (b:=b) (c:=c) fun hm=>h (List.mem_cons_of_mem _ hm)
  rw[List.cons_append]
  simp only[Lib.indexByte,h2,List.length_cons,beq_iff_eq,h1,if_false]
  (repeat' split)<;>omega
theorem OS [Known](s:List UInt8)(c:UInt8):AP Tryz.prog 198 [.str s,.str [c]] (.int .i64 (Lib.indexByte s c)) []:=by
 have hI:=Bx s (c.toNat:Int)
 have e:((c.toNat:Int)).toNat.toUInt8=c:=by rw[Int.toNat_natCast];simp
 rw[e]at hI
 have t0:((([c]:List UInt8).length:Int)==0)=false:=rfl
 have t1:((([c]:List UInt8).length:Int)==1)=true:=rfl
 by_cases hs:[c]=s
 ·subst hs
  have t2:([c]==[c])=true:=by simp
  have e0:Lib.indexByte [c] c=0:=by simp[Lib.indexByte]
  rw[e0]
  refine AP.ofA (Zl Tryz.func198 U Tryz.ntmps198 U U ?_)
  repeat'(first|(apply Zh Za;exact U)|(apply Zg Za;exact U)|(apply Zo Za;exact U)|refine Ze U U U Qt ?_|refine Zi U Qt U U ?_|refine Zd U Qt ?_|refine Yo Za U U U U ?_)
  all_goals exact Qe
 ·have t2:([c]==s)=false:=by simpa using hs
  refine AP.ofA (Zl Tryz.func198 U Tryz.ntmps198 U U ?_)
  repeat'(first|(apply Zb (hI);kernel_rfl;(iterate 4 exact U))|refine VU Za U U U U U Qd U ?_|(apply Zh Za;exact U)|(apply Zg Za;exact U)|(apply Zo Za;exact U)|refine Ze U U U Qt ?_|refine Zi U Qt U U ?_|refine Zd U Qt ?_|refine Zf U Qt ?_|refine Yo Za U U U U ?_)
  all_goals exact Qe
theorem Sn [Known](s:List UInt8)(c:UInt8)(h:c ∉ s):AP Tryz.prog 170 [.str s,.str [c]] (.tup [.str s,.str [],.bool false]) []:=by
 have hI:=OS s c
 rw[Ly h]at hI
 have hC:AP Tryz.prog 190 [.str s,.str [c]] (.tup [.str s,.str [],.bool false]) []:=by
  refine AP.ofA (Zl Tryz.func190 U Tryz.ntmps190 U U ?_)
  repeat'(first|(apply Zb (hI);kernel_rfl;(iterate 4 exact U))|(apply Zh Za;exact U)|(apply Zg Za;exact U)|refine Zf U Qt ?_)
  all_goals exact Qe
 refine AP.ofA (Zl Tryz.func170 U Tryz.ntmps170 U U ?_)
 repeat'(first|(apply Zb (hC);kernel_rfl;(iterate 4 exact U))|(apply Zh Za;exact U)|(apply Zg Za;exact U))
 all_goals exact Qe
theorem So [Known](a b:List UInt8)(c:UInt8)(h:c ∉ a)(hl:(a++c::b).length<=4611686018427387904):AP Tryz.prog 170 [.str (a++c::b),.str [c]] (.tup [.str a,.str b,.bool true]) []:=by
 have hI:=OS (a++c::b) c
 rw[Ng h]at hI
 have hal:a.length+1<=(a++c::b).length:=by rw[List.length_append,List.length_cons];omega
 have t1:decide ((a.length:Int) ≥ 0)=true:=decide_eq_true (by omega)
 have e1:IntKind.i64.wrap ((a.length:Int)+(([c]:List UInt8).length:Int))=((a.length+1:Nat):Int):=by
  rw[IntWalk.i64_in _ (by simp;omega)];simp
 have q1:((a.length:Nat):Int).toNat<=(a++c::b).length:=by rw[Int.toNat_natCast];omega
 have q2:((a.length+1:Nat):Int).toNat<=(a++c::b).length:=by rw[Int.toNat_natCast];omega
 have s1:((a++c::b).take ((a.length:Nat):Int).toNat).drop 0=a:=by rw[Int.toNat_natCast,List.drop_zero,List.take_left]
 have s2:((a++c::b).take (a++c::b).length).drop ((a.length+1:Nat):Int).toNat=b:=by
  rw[Int.toNat_natCast,List.take_length,show a.length+1=(a++[c]).length by simp,show a++c::b=(a++[c])++b by simp,List.drop_left]
 have hC:AP Tryz.prog 190 [.str (a++c::b),.str [c]] (.tup [.str a,.str b,.bool true]) []:=by
  generalize a++c::b=s at *
  refine AP.ofA (Zl Tryz.func190 U Tryz.ntmps190 U U ?_)
  repeat'(first|rw[e1]|(apply Zb (hI);kernel_rfl;(iterate 4 exact U))|refine YO Za U U U U (.dft _) (.lit _ _ _ _ rfl (Int.natCast_nonneg _)) (Nat.zero_le _) q1 s1 ?_|refine YO Za U U U U (.lit _ _ _ _ rfl (Int.natCast_nonneg _)) (.dft _) q2 (Nat.le_refl _) s2 ?_|(apply Zh Za;exact U)|(apply Zg Za;exact U)|refine Zd U Qt ?_|refine Yo Za U U U U ?_|(apply Zq 10 ZE;decide +kernel;kernel_rfl;kernel_rfl;kernel_rfl;exact U;exact U)|(apply Zt;(iterate 4 exact U))|exact AE.nil _ _ _ _|(apply Zx;exact U)|(apply Zz;exact U;exact U;decide +kernel;exact U)|(apply ZA;exact U)|exact AO.nil _ _ _|(apply Zs;(decide +kernel))|exact AOs.nil|exact ZF rfl rfl)
  all_goals exact Qe
 refine AP.ofA (Zl Tryz.func170 U Tryz.ntmps170 U U ?_)
 repeat'(first|(apply Zb (hC);kernel_rfl;(iterate 4 exact U))|(apply Zh Za;exact U)|(apply Zg Za;exact U))
 all_goals exact Qe
theorem Xp (c:UInt8):∀ s:List UInt8,(c ∉ s)\/∃ a b,s=a++c::b/\c ∉ a
 | []=>.inl (by simp)
 | x::s=>by
  by_cases e:x=c
  ·subst e;exact .inr ⟨[],s,rfl,by simp⟩
  ·rcases Xp c s with h|⟨a,b,rfl,h⟩
   ·refine .inl fun hm=>?_
    rcases List.mem_cons.1 hm with h2|h2
    ·exact e h2.symm
    ·exact h h2
   ·refine .inr ⟨x::a,b,rfl,fun hm=>?_⟩
    rcases List.mem_cons.1 hm with h2|h2
    ·exact e h2.symm
    ·exact h h2
end Go.Proofs.YtmljabhmajehnaaGreatDoor
end
section
open Go.RowKit Go.Pl
namespace Go.Av
section
variable {P:Program} {Q:X->St->Prop} {n:Nat} {ee:Nat × Nat} {tm:List (Nat × D)} {bx:List (List D)} {fr:List Fr}
variable {ops:Array Oper} {rest:List Oper} {t ty:Nat} {pos:String} {after:Array Edge}
end
end Go.Av
end

/- Package primary: a sealed list, opened. -/
import Derived.Test.YtakblclkflnnpaaGreatDoorK26
import Derived.Test.YtakblclkflnnpaaGreatDoorK23
import Derived.Test.YtakblclkflnnpaaGreatDoorK22
set_option linter.unusedVariables false
set_option linter.unusedSimpArgs false
section
open Go.RowKit Go.Pl Go.Av
namespace Go.Proofs.YtakblclkflnnpaaGreatDoor
set_option maxHeartbeats 4000000
def ZdX (x:It)(a:Int):List It × Int:=match x with
 | .mk k n b l=>match ZaC (.mk k n b l)&&(k==4) with
  | false=>([],3)
  | true=>match decide (ZaQ l a<0) with
   | true=>([],3)
   | false=>match ZaQ l a==0 with
    | true=>(l,0)
    | false=>match l[l.length-1]? with
     | none=>([],3)
     | some (.mk k1 n1 b1 l1)=>match decide (((l.length-1:Nat):Int)<=a)||(!(It.beq (.mk k1 n1 b1 l1) (.mk 2 0 b1 []))||((b1.length:Int) != ((2*(ZaQ l a).toNat:Nat):Int))) with
      | true=>([],3)
      | false=>match ZaC (ZaR (ZaQ l a).toNat (l.take (l.length-1))) with
       | false=>([],3)
       | true=>match Ze3 (ZaQ l a).toNat (Za9 (ZaR (ZaQ l a).toNat (l.take (l.length-1))))==b1 with
        | false=>([],10)
        | true=>(l.take (l.length-1),0)
abbrev ZpB (r:List It × Int):D:=.tup [.sl .ext (Zax r.1),.int .i64 r.2]
theorem Zel:∀ {l:List It} (m:Nat),wfs l->wfs (l.take m)
 | _,0,_=>trivial
 | [],m+1,h=>h
 | x::l,m+1,h=>⟨h.1,Zel m h.2⟩
theorem ZoE [Known][KnownU8](x:It)(a:Int)(hw:wfI x)(hxl:x.l.length<=1000000)(hlim:∀ s m,s=1\/s=2->(Za9 (ZaR s (x.l.take m))).length<=1000000000):AP Tryz.prog 84 [itD x,.int .i64 a] (ZpB (ZdX x a)) []:=by
 have hR:=Zch x hw
 obtain⟨k,n,b,l⟩:=x
 have hws:wfs l:=hw.2.2.2
 have hlen:=Zar l
 have hU:=Zb8 l
 dsimp only[It.l]at hxl hlim
 have hT:=ZhO l hws a
 unfold ZdX
 dsimp only
 cases hr:ZaC (.mk k n b l) with
 | false=>
  rw[hr]at hR
  rw[Bool.false_and]
  refine AP.ofA ?_
  refine Zan Tryz.func84 rfl Tryz.ntmps84 rfl rfl ?_
  repeat'(first|(apply Zaa (hR);kernel_rfl;(iterate 4 exact Z))|(apply Zaj Zab;exact Z)|(apply Zah Zab;exact Z)|(apply Zav Zab;exact Z)|(apply Zal;(iterate 3 exact Z);exact Go.ZrJ)|(apply Zak;exact Z;exact Go.ZrJ;exact Z;exact Z)|(apply Zac;exact Z;exact Go.ZrJ))
  all_goals(apply Zaw [];(apply Zad Zab;exact Z);(iterate 4 exact Z))
  all_goals rfl
 | true=>
 rw[hr]at hR
 rw[Bool.true_and]
 cases tk:(k==4) with
 | false=>
  have tk2:(k != 4)=true:=by rw[bne,tk];rfl
  refine AP.ofA ?_
  refine Zan Tryz.func84 rfl Tryz.ntmps84 rfl rfl ?_
  repeat'(first|(apply Zaa (hR);kernel_rfl;(iterate 4 exact Z))|(apply Zaj Zab;exact Z)|(apply Zah Zab;exact Z)|(apply Zav Zab;exact Z)|(apply Zae;(iterate 3 exact Z);exact Go.ZrJ)|(apply Zag;exact Z;exact Go.ZrJ;exact Z;exact Z)|(apply Zac;exact Z;exact Go.ZrJ))
  all_goals(apply Zaw [];(apply Zad Zab;exact Z);(iterate 4 exact Z))
  all_goals rfl
 | true=>
 have tk2:(k != 4)=false:=by rw[bne,tk];rfl
 rcases Zb5 l a with e|⟨e|e,h0,h1⟩
 ·rw[e]at hT ⊢
  refine AP.ofA ?_
  refine Zan Tryz.func84 rfl Tryz.ntmps84 rfl rfl ?_
  repeat'(first|(apply Zaa (hR);kernel_rfl;(iterate 4 exact Z))|(apply Zaa (hT);kernel_rfl;(iterate 4 exact Z))|(apply Zaj Zab;exact Z)|(apply Zah Zab;exact Z)|(apply Zav Zab;exact Z)|(apply Zae;(iterate 3 exact Z);exact Go.ZrJ)|(apply Zag;exact Z;exact Go.ZrJ;exact Z;exact Z)|(apply Zac;exact Z;exact Go.ZrJ)|(apply Zaf;exact Z;exact Go.ZrJ))
  all_goals(apply Zaw [];(apply Zad Zab;exact Z);(iterate 4 exact Z))
  all_goals rfl
 ·rw[e]at hT ⊢
  have hL:=ZgP l (by omega) hws
  replace hL:AP Tryz.prog 87 [.sl .ext (Zax l)] (.agg [.int .i64 4,.int .u64 0,.sl .ext [],.sl .ext (Zax l)]) []:=hL
  refine AP.ofA ?_
  refine Zan Tryz.func84 rfl Tryz.ntmps84 rfl rfl ?_
  repeat'(first|(apply Zaa (hR);kernel_rfl;(iterate 4 exact Z))|(apply Zaa (hT);kernel_rfl;(iterate 4 exact Z))|(apply Zaa (hL);kernel_rfl;(iterate 4 exact Z))|(apply Zaj Zab;exact Z)|(apply Zah Zab;exact Z)|(apply Zav Zab;exact Z)|(apply Zae;(iterate 3 exact Z);exact Go.ZrJ)|(apply Zag;exact Z;exact Go.ZrJ;exact Z;exact Z)|(apply Zac;exact Z;exact Go.ZrJ)|(apply Zaf;exact Z;exact Go.ZrJ))
  all_goals(apply Zaw [];(apply Zad Zab;exact Z);(iterate 4 exact Z))
  all_goals rfl
 ·obtain⟨s,hs,es⟩:∃ s:Nat,(s=1\/s=2)/\ZaQ l a=(s:Int):=⟨(ZaQ l a).toNat,by omega,by omega⟩
  rw[es]at hT ⊢
  rw[Int.toNat_natCast]
  have d1:decide ((s:Int)<0)=false:=decide_eq_false (by omega)
  have d2:((s:Int)==0)=false:=by rw[beq_eq_false_iff_ne];omega
  rw[d1,d2]
  dsimp only
  obtain⟨m,hm⟩:∃ m,m=l.length-1:=⟨_,rfl⟩
  have em:IntKind.i64.wrap (((Zax l).length:Int)-1)=(m:Int):=by rw[IntWalk.i64_in _ (by omega)];omega
  rw[<- hm]
  obtain⟨⟨k1,n1,b1,l1⟩,hy⟩:∃ y,l[m]?=some y:=⟨_,List.getElem?_eq_getElem (by omega)⟩
  have hv:(Zax l)[((m:Nat):Int).toNat]?=some (.agg [.int .i64 k1,.int .u64 (n1:Int),.sl (b1.map E.byte),.sl (Zax l1)]):=by
   rw[Int.toNat_natCast,ZaI,List.getElem?_map,hy];rfl
  rw[hy]
  dsimp only
  have hw1:=ZaY hws _ (List.mem_of_getElem? hy)
  have hbl:(b1.map E.byte).length=b1.length:=List.length_map ..
  have hB:=Zfa b1 (by have:=hw1.2.1;omega)
  have hS:=ZeE (.mk k1 n1 b1 l1) hw1 (.mk 2 0 b1 []) ⟨by decide,by have:=hw1.2.1;omega,by simp,trivial⟩
  have hZ:=Zgt s hs
  rw[<- hbl]
  cases t1:decide ((m:Int)<=a) with
  | true=>
   rw[Bool.true_or]
   refine AP.ofA ?_
   refine Zan Tryz.func84 rfl Tryz.ntmps84 rfl rfl ?_
   repeat'(first|(apply Zaa (hR);kernel_rfl;(iterate 4 exact Z))|(apply Zaa (hT);kernel_rfl;(iterate 4 exact Z))|rw[em]|(apply Zaj Zab;exact Z)|(apply Zah Zab;exact Z)|(apply Zav Zab;exact Z)|(apply Zae;(iterate 3 exact Z);exact Go.ZrJ)|(apply Zal;(iterate 3 exact Z);exact Go.ZrJ)|(apply Zak;exact Z;exact Go.ZrJ;exact Z;exact Z)|(apply Zag;exact Z;exact Go.ZrJ;exact Z;exact Z)|(apply Zac;exact Z;exact Go.ZrJ)|(apply Zaf;exact Z;exact Go.ZrJ)|(apply Zam Zab;(iterate 4 exact Z))|(apply Zao 17 ZaL;decide +kernel;kernel_rfl;kernel_rfl;kernel_rfl;exact Z;exact Z)|(apply Zaq;(iterate 4 exact Z))|exact AE.nil _ _ _ _|(apply Zat;exact Z)|(apply Zay;exact Z;exact Z;decide +kernel;exact Z)|(apply Zaz;exact Z)|exact AO.nil _ _ _|(apply Zap;(decide +kernel))|exact AOs.nil|exact ZaH rfl rfl|(apply Zau Zab;(iterate 6 exact Z);(first|exact Go.ZrJ|rotate_left);(first|with_reducible assumption|decide +kernel|exact Z);(first|exact Zai rfl|with_reducible assumption|decide +kernel|rotate_left)))
   all_goals(apply Zaw [];(apply Zad Zab;exact Z);(iterate 4 exact Z))
   all_goals rfl
  | false=>
  rw[Bool.false_or]
  cases t2:It.beq (.mk k1 n1 b1 l1) (.mk 2 0 b1 []) with
  | false=>
   rw[t2]at hS
   rw[Bool.not_false,Bool.true_or]
   refine AP.ofA ?_
   refine Zan Tryz.func84 rfl Tryz.ntmps84 rfl rfl ?_
   repeat'(first|(apply Zaa (hR);kernel_rfl;(iterate 4 exact Z))|(apply Zaa (hT);kernel_rfl;(iterate 4 exact Z))|rw[em]|(apply Zaa (hB);kernel_rfl;(iterate 4 exact Z))|(apply Zaa (hS);kernel_rfl;(iterate 4 exact Z))|(apply Zaj Zab;exact Z)|(apply Zah Zab;exact Z)|(apply Zav Zab;exact Z)|(apply Zae;(iterate 3 exact Z);exact Go.ZrJ)|(apply Zal;(iterate 3 exact Z);exact Go.ZrJ)|(apply Zak;exact Z;exact Go.ZrJ;exact Z;exact Z)|(apply Zag;exact Z;exact Go.ZrJ;exact Z;exact Z)|(apply Zac;exact Z;exact Go.ZrJ)|(apply Zaf;exact Z;exact Go.ZrJ)|(apply Zam Zab;(iterate 4 exact Z))|(apply Zao 17 ZaL;decide +kernel;kernel_rfl;kernel_rfl;kernel_rfl;exact Z;exact Z)|(apply Zaq;(iterate 4 exact Z))|exact AE.nil _ _ _ _|(apply Zat;exact Z)|(apply Zay;exact Z;exact Z;decide +kernel;exact Z)|(apply Zaz;exact Z)|exact AO.nil _ _ _|(apply Zap;(decide +kernel))|exact AOs.nil|exact ZaH rfl rfl|(apply Zau Zab;(iterate 6 exact Z);(first|exact Go.ZrJ|rotate_left);(first|with_reducible assumption|decide +kernel|exact Z);(first|exact Zai rfl|with_reducible assumption|decide +kernel|rotate_left)))
   all_goals(apply Zaw [];(apply Zad Zab;exact Z);(iterate 4 exact Z))
   all_goals rfl
  | true=>
  rw[t2]at hS
  rw[Bool.not_true,Bool.false_or]
  cases t3:(((b1.map E.byte).length:Int) != ((2*s:Nat):Int)) with
  | true=>
   refine AP.ofA ?_
   refine Zan Tryz.func84 rfl Tryz.ntmps84 rfl rfl ?_
   repeat'(first|(apply Zaa (hR);kernel_rfl;(iterate 4 exact Z))|(apply Zaa (hT);kernel_rfl;(iterate 4 exact Z))|rw[em]|(apply Zaa (hB);kernel_rfl;(iterate 4 exact Z))|(apply Zaa (hS);kernel_rfl;(iterate 4 exact Z))|(apply Zaa (hZ);kernel_rfl;(iterate 4 exact Z))|(apply Zaj Zab;exact Z)|(apply Zah Zab;exact Z)|(apply Zav Zab;exact Z)|(apply Zae;(iterate 3 exact Z);exact Go.ZrJ)|(apply Zag;exact Z;exact Go.ZrJ;exact Z;exact Z)|(apply Zac;exact Z;exact Go.ZrJ)|(apply Zaf;exact Z;exact Go.ZrJ)|(apply Zam Zab;(iterate 4 exact Z))|(apply Zao 17 ZaL;decide +kernel;kernel_rfl;kernel_rfl;kernel_rfl;exact Z;exact Z)|(apply Zaq;(iterate 4 exact Z))|exact AE.nil _ _ _ _|(apply Zat;exact Z)|(apply Zay;exact Z;exact Z;decide +kernel;exact Z)|(apply Zaz;exact Z)|exact AO.nil _ _ _|(apply Zap;(decide +kernel))|exact AOs.nil|exact ZaH rfl rfl|(apply Zau Zab;(iterate 6 exact Z);(first|exact Go.ZrJ|rotate_left);(first|with_reducible assumption|decide +kernel|exact Z);(first|exact Zai rfl|with_reducible assumption|decide +kernel|rotate_left)))
   all_goals(apply Zaw [];(apply Zad Zab;exact Z);(iterate 4 exact Z))
   all_goals rfl
  | false=>
  dsimp only
  have hne:l.take m ≠ []:=by
   intro h
   have h9:=congrArg List.length h
   rw[List.length_take,List.length_nil]at h9
   have:=of_decide_eq_false t1
   omega
  have htl:(l.take m).length<=1000000:=by rw[List.length_take];omega
  have hSu:=ZjH (l.take m) s hs hne (Zel m hws) htl (hlim s m hs)
  have eT:Zax (l.take m)=(Zax l).take m:=by rw[ZaI,ZaI,List.map_take]
  have hmle:((m:Nat):Int).toNat<=(Zax l).length:=by rw[Int.toNat_natCast];omega
  rw[eT]at hSu
  cases hz:ZaC (ZaR s (l.take m)) with
  | false=>
   rw[hz]at hSu
   dsimp only at hSu
   refine AP.ofA ?_
   refine Zan Tryz.func84 rfl Tryz.ntmps84 rfl rfl ?_
   repeat'(first|(apply Zaa (hR);kernel_rfl;(iterate 4 exact Z))|(apply Zaa (hT);kernel_rfl;(iterate 4 exact Z))|rw[em]|(apply Zaa (hB);kernel_rfl;(iterate 4 exact Z))|(apply Zaa (hS);kernel_rfl;(iterate 4 exact Z))|(apply Zaa (hZ);kernel_rfl;(iterate 4 exact Z))|(apply Zaa (hSu);kernel_rfl;(iterate 4 exact Z))|(apply ZdL Zab;(iterate 6 exact Z);exact hU;exact Int.natCast_nonneg _;exact hmle;exact Z)|(apply Zaj Zab;exact Z)|(apply Zah Zab;exact Z)|(apply Zav Zab;exact Z)|(apply Zae;(iterate 3 exact Z);exact Go.ZrJ)|(apply Zag;exact Z;exact Go.ZrJ;exact Z;exact Z)|(apply Zac;exact Z;exact Go.ZrJ)|(apply Zaf;exact Z;exact Go.ZrJ)|(apply Zam Zab;(iterate 4 exact Z))|(apply Zao 17 ZaL;decide +kernel;kernel_rfl;kernel_rfl;kernel_rfl;exact Z;exact Z)|(apply Zaq;(iterate 4 exact Z))|exact AE.nil _ _ _ _|(apply Zat;exact Z)|(apply Zay;exact Z;exact Z;decide +kernel;exact Z)|(apply Zaz;exact Z)|exact AO.nil _ _ _|(apply Zap;(decide +kernel))|exact AOs.nil|exact ZaH rfl rfl|(apply Zau Zab;(iterate 6 exact Z);(first|exact Go.ZrJ|rotate_left);(first|with_reducible assumption|decide +kernel|exact Z);(first|exact Zai rfl|with_reducible assumption|decide +kernel|rotate_left)))
   all_goals(apply Zaw [];(apply Zad Zab;exact Z);(iterate 4 exact Z))
   all_goals rfl
  | true=>
  rw[hz]at hSu
  dsimp only at hSu ⊢
  generalize Ze3 s (Za9 (ZaR s (l.take m)))=SB at *
  have hE:=Zjo SB b1
  cases t4:(SB==b1) with
  | false=>
   rw[t4]at hE
   refine AP.ofA ?_
   refine Zan Tryz.func84 rfl Tryz.ntmps84 rfl rfl ?_
   repeat'(first|(apply Zaa (hR);kernel_rfl;(iterate 4 exact Z))|(apply Zaa (hT);kernel_rfl;(iterate 4 exact Z))|rw[em]|(apply Zaa (hB);kernel_rfl;(iterate 4 exact Z))|(apply Zaa (hS);kernel_rfl;(iterate 4 exact Z))|(apply Zaa (hZ);kernel_rfl;(iterate 4 exact Z))|(apply Zaa (hSu);kernel_rfl;(iterate 4 exact Z))|(apply Zaa (hE);kernel_rfl;(iterate 4 exact Z))|(apply ZdL Zab;(iterate 6 exact Z);exact hU;exact Int.natCast_nonneg _;exact hmle;exact Z)|(apply Zaj Zab;exact Z)|(apply Zah Zab;exact Z)|(apply Zav Zab;exact Z)|(apply Zae;(iterate 3 exact Z);exact Go.ZrJ)|(apply Zag;exact Z;exact Go.ZrJ;exact Z;exact Z)|(apply Zac;exact Z;exact Go.ZrJ)|(apply Zaf;exact Z;exact Go.ZrJ)|(apply Zam Zab;(iterate 4 exact Z))|(apply Zao 17 ZaL;decide +kernel;kernel_rfl;kernel_rfl;kernel_rfl;exact Z;exact Z)|(apply Zaq;(iterate 4 exact Z))|exact AE.nil _ _ _ _|(apply Zat;exact Z)|(apply Zay;exact Z;exact Z;decide +kernel;exact Z)|(apply Zaz;exact Z)|exact AO.nil _ _ _|(apply Zap;(decide +kernel))|exact AOs.nil|exact ZaH rfl rfl|(apply Zau Zab;(iterate 6 exact Z);(first|exact Go.ZrJ|rotate_left);(first|with_reducible assumption|decide +kernel|exact Z);(first|exact Zai rfl|with_reducible assumption|decide +kernel|rotate_left)))
   all_goals(apply Zaw [];(apply Zad Zab;exact Z);(iterate 4 exact Z))
   all_goals rfl
  | true=>
   rw[t4]at hE
   have hL:=ZgP (l.take m) (by omega) (Zel m hws)
   rw[eT]at hL
   replace hL:AP Tryz.prog 87 [.sl .ext ((Zax l).take m)] (.agg [.int .i64 4,.int .u64 0,.sl .ext [],.sl .ext (Zax (l.take m))]) []:=hL
   refine AP.ofA ?_
   refine Zan Tryz.func84 rfl Tryz.ntmps84 rfl rfl ?_
   repeat'(first|(apply Zaa (hR);kernel_rfl;(iterate 4 exact Z))|(apply Zaa (hT);kernel_rfl;(iterate 4 exact Z))|rw[em]|(apply Zaa (hB);kernel_rfl;(iterate 4 exact Z))|(apply Zaa (hS);kernel_rfl;(iterate 4 exact Z))|(apply Zaa (hZ);kernel_rfl;(iterate 4 exact Z))|(apply Zaa (hSu);kernel_rfl;(iterate 4 exact Z))|(apply Zaa (hE);kernel_rfl;(iterate 4 exact Z))|(apply Zaa (hL);kernel_rfl;(iterate 4 exact Z))|(apply ZdL Zab;(iterate 6 exact Z);exact hU;exact Int.natCast_nonneg _;exact hmle;exact Z)|(apply Zaj Zab;exact Z)|(apply Zah Zab;exact Z)|(apply Zav Zab;exact Z)|(apply Zae;(iterate 3 exact Z);exact Go.ZrJ)|(apply Zag;exact Z;exact Go.ZrJ;exact Z;exact Z)|(apply Zaf;exact Z;exact Go.ZrJ)|(apply Zam Zab;(iterate 4 exact Z))|(apply Zao 17 ZaL;decide +kernel;kernel_rfl;kernel_rfl;kernel_rfl;exact Z;exact Z)|(apply Zaq;(iterate 4 exact Z))|exact AE.nil _ _ _ _|(apply Zat;exact Z)|(apply Zay;exact Z;exact Z;decide +kernel;exact Z)|(apply Zaz;exact Z)|exact AO.nil _ _ _|(apply Zap;(decide +kernel))|exact AOs.nil|exact ZaH rfl rfl|(apply Zau Zab;(iterate 6 exact Z);(first|exact Go.ZrJ|rotate_left);(first|with_reducible assumption|decide +kernel|exact Z);(first|exact Zai rfl|with_reducible assumption|decide +kernel|rotate_left)))
   all_goals(apply Zaw [];(apply Zad Zab;exact Z);(iterate 4 exact Z))
   all_goals rfl
theorem Zqs (l:List Nat):Uni 1 (l.map fun n:Nat=>E.int .u64 (n:Int)):=Uni.map (f:=fun n:Nat=>E.int .u64 (n:Int)) (fun _=>rfl) l
def Zie (n:Nat):Bool:=decide ((n:Int)<1)||decide ((n:Int)>255)
theorem Zgu [Known](n:Nat):AP Tryz.prog 155 [.int .u64 (n:Int)] (.bool (Zie n)) []:=by
 unfold Zie
 refine AP.ofA ?_
 refine Zan Tryz.func155 rfl Tryz.ntmps155 rfl rfl ?_
 repeat'(first|(apply Zaj Zab;exact Z)|(apply Zah Zab;exact Z)|(apply Zae;(iterate 3 exact Z);(first|with_reducible assumption|(solve|simp only[bn])))|(apply Zal;(iterate 3 exact Z);(first|with_reducible assumption|(solve|simp only[bn])))|(apply Zbo;exact Z;exact Z;all_goals intro hb)|(apply Zak;exact Z;(first|with_reducible assumption|(solve|simp only[bn]));exact Z;exact Z)|(apply Zag;exact Z;(first|with_reducible assumption|(solve|simp only[bn]));exact Z;exact Z))
 all_goals(apply Zaw [];(apply Zad Zab;exact Z);(iterate 4 exact Z))
 all_goals first|rfl|(simp only[*];done)|(simp only[*];rfl)
def Zq7:Bool->Bool->Int
 | true,_=>0
 | false,true=>1
 | false,false => -1
theorem ZoF [Known](a b:Nat)(x y:Bool)(hx:Zie a=x)(hy:Zie b=y):AP Tryz.prog 179 [.sl .ext [.int .u64 (a:Int),.int .u64 (b:Int)],.fn 155 []] (.int .i64 (Zq7 x y)) []:=by
 have ga:=Zgu a
 have gb:=Zgu b
 rw[hx]at ga
 rw[hy]at gb
 have hU:=Zqs [a,b]
 have q0:decide ((0:Int)<(([.int .u64 (a:Int),.int .u64 (b:Int)]:List E).length:Int))=true:=rfl
 have q1:decide ((1:Int)<(([.int .u64 (a:Int),.int .u64 (b:Int)]:List E).length:Int))=true:=rfl
 have q2:decide ((2:Int)<(([.int .u64 (a:Int),.int .u64 (b:Int)]:List E).length:Int))=false:=rfl
 have e1:IntKind.i64.wrap (0+1)=1:=by decide
 have e2:IntKind.i64.wrap (1+1)=2:=by decide
 cases x<;>cases y
 all_goals
  refine AP.ofA ?_
  refine Zan Tryz.func179 rfl Tryz.ntmps179 rfl rfl ?_
  repeat'(first|rw[e1]|rw[e2]|(apply Zc1 (ga);exact Z;kernel_rfl;(iterate 3 exact Z))|(apply Zc1 (gb);exact Z;kernel_rfl;(iterate 3 exact Z))|(apply Zau Zab;(iterate 6 exact Z);exact(by decide);exact Z;exact hU)|refine Zbf 20 ?_|refine Zbs ?_|(apply Zaj Zab;exact Z)|(apply Zah Zab;exact Z)|(apply Zav Zab;exact Z)|(apply Zac;exact Z;exact Go.ZrJ)|(apply Zaf;exact Z;exact Go.ZrJ)|refine Zbj ?_|(apply Zam Zab;(iterate 4 exact Z)))
  all_goals(apply Zaw [];(apply Zad Zab;exact Z);(iterate 4 exact Z))
  all_goals rfl
theorem Zm5 [Known](a b:Nat):AP Tryz.prog 154 [.sl .ext [.int .u64 (a:Int),.int .u64 (b:Int)],.fn 155 []] (.bool (Zie a||Zie b)) []:=by
 cases hx:Zie a<;>cases hy:Zie b
 all_goals
  have hI:=ZoF a b _ _ hx hy
  refine AP.ofA ?_
  refine Zan Tryz.func154 rfl Tryz.ntmps154 rfl rfl ?_
  repeat'(first|(apply Zaa (hI);kernel_rfl;(iterate 4 exact Z))|(apply Zaj Zab;exact Z)|(apply Zah Zab;exact Z))
  all_goals(apply Zaw [];(apply Zad Zab;exact Z);(iterate 4 exact Z))
  all_goals rfl
theorem Zko [Known](a b:Nat):AP Tryz.prog 99 [.sl .ext [.int .u64 (a:Int),.int .u64 (b:Int)]] (.bool (!(Zie a||Zie b))) []:=by
 have hI:=Zm5 a b
 refine AP.ofA ?_
 refine Zan Tryz.func99 rfl Tryz.ntmps99 rfl rfl ?_
 repeat'(first|(apply Zaa (hI);kernel_rfl;(iterate 4 exact Z))|(apply Zaj Zab;exact Z)|(apply Zah Zab;exact Z))
 all_goals(apply Zaw [];(apply Zad Zab;exact Z);(iterate 4 exact Z))
 all_goals rfl
theorem ZjI [Known]:AT Tryz.prog 87 [.sl .nil []] [] [] (.agg [.int .i64 4,.int .u64 0,.sl .nil [],.sl .nil []]) [] []:=by
 refine Zan Tryz.func87 rfl Tryz.ntmps87 rfl rfl ?_
 repeat'(first|refine Zbf 20 ?_|refine Zbs ?_|(apply Zaj Zab;exact Z)|(apply Zah Zab;exact Z)|(apply Zaf;exact Z;exact Go.ZrJ)|(apply Zam Zab;(iterate 4 exact Z)))
 all_goals(apply ZeR [] [];(apply Zad Zab;exact Z);(iterate 7 exact Z))
 all_goals rfl
abbrev nmE (n:Nat):E:=.agg [.int .i64 0,.int .u64 (n:Int),.sl [],.sl []]
theorem ZfN [Known](a b:Nat):AP Tryz.prog 96 [.sl .ext [.int .u64 (a:Int),.int .u64 (b:Int)]] (.agg [.int .i64 4,.int .u64 0,.sl .ext [],.sl .ext [nmE a,nmE b]]) []:=by
 have ga:=ZdS a
 have gb:=ZdS b
 have hL:=ZjI
 have hU:=Zqs [a,b]
 have e1:IntKind.i64.wrap (0+1)=1:=by decide
 have e2:IntKind.i64.wrap (1+1)=2:=by decide
 have hU4:∀(l:List Nat),Uni 4 (l.map nmE):=fun l=>Uni.map (f:=nmE) (fun _=>rfl) l
 have q0:decide ((0:Int)<(([.int .u64 (a:Int),.int .u64 (b:Int)]:List E).length:Int))=true:=rfl
 have q1:decide ((1:Int)<(([.int .u64 (a:Int),.int .u64 (b:Int)]:List E).length:Int))=true:=rfl
 have q2:decide ((2:Int)<(([.int .u64 (a:Int),.int .u64 (b:Int)]:List E).length:Int))=false:=rfl
 have hu1:=hU4 [a]
 have hu2:=hU4 [a,b]
 refine AP.ofA ?_
 refine Zan Tryz.func96 rfl Tryz.ntmps96 rfl rfl ?_
 repeat'(first|rw[e1]|rw[e2]|(apply ZaS [] [] (hL);kernel_rfl;(iterate 10 exact Z))|(apply Zaa (ga);kernel_rfl;(iterate 4 exact Z))|(apply Zaa (gb);kernel_rfl;(iterate 4 exact Z))|(apply Zau Zab;(iterate 6 exact Z);exact(by decide);exact Z;exact hU)|refine Zbf 20 ?_|refine Zbs ?_|(apply ZbI Zab;(iterate 11 exact Z);exact Zai rfl;exact Zai rfl;exact List.cons_ne_nil _ _;decide +kernel;decide +kernel;exact Z;exact Z)|(apply ZaU Zab;(iterate 6 exact Z);exact Zai rfl;exact List.cons_ne_nil _ _;exact Z;decide +kernel;decide +kernel;(iterate 3 exact Z))|(apply Zaj Zab;exact Z)|(apply Zah Zab;exact Z)|(apply Zav Zab;exact Z)|(apply Zac;exact Z;exact Go.ZrJ)|(apply Zaf;exact Z;exact Go.ZrJ)|(apply Zam Zab;(iterate 4 exact Z))|(apply ZaX Zab;(iterate 12 exact Z))|(apply Zao 5 ZaL;decide +kernel;kernel_rfl;kernel_rfl;kernel_rfl;exact Z;exact Z)|(apply Zaq;(iterate 4 exact Z))|exact AE.nil _ _ _ _|(apply Zat;exact Z)|(apply Zay;exact Z;exact Z;decide +kernel;exact Z)|(apply Zaz;exact Z)|exact AO.nil _ _ _|(apply Zap;(decide +kernel))|exact AOs.nil|exact ZaH rfl rfl|exact Zc0 rfl rfl rfl rfl rfl)
 all_goals(apply Zaw [];(apply Zad Zab;exact Z);(iterate 4 exact Z))
 all_goals rfl
theorem Ziw [Known](a b c d:Nat):AT Tryz.prog 96 [.sl .ext [.int .u64 (a:Int),.int .u64 (b:Int),.int .u64 (c:Int),.int .u64 (d:Int)]] [] [] (.agg [.int .i64 4,.int .u64 0,.sl .nil [],.sl (.own 0) [nmE a,nmE b,nmE c,nmE d]]) [] [⟨4,4,32⟩]:=by
 have ga:=ZdS a
 have gb:=ZdS b
 have gc:=ZdS c
 have gd:=ZdS d
 have hL:=ZjI
 have hU:=Zqs [a,b,c,d]
 have e1:IntKind.i64.wrap (0+1)=1:=by decide
 have e2:IntKind.i64.wrap (1+1)=2:=by decide
 have e3:IntKind.i64.wrap (2+1)=3:=by decide
 have e4:IntKind.i64.wrap (3+1)=4:=by decide
 have hU4:∀(l:List Nat),Uni 4 (l.map nmE):=fun l=>Uni.map (f:=nmE) (fun _=>rfl) l
 have q0:decide ((0:Int)<(([.int .u64 (a:Int),.int .u64 (b:Int),.int .u64 (c:Int),.int .u64 (d:Int)]:List E).length:Int))=true:=rfl
 have q1:decide ((1:Int)<(([.int .u64 (a:Int),.int .u64 (b:Int),.int .u64 (c:Int),.int .u64 (d:Int)]:List E).length:Int))=true:=rfl
 have q2:decide ((2:Int)<(([.int .u64 (a:Int),.int .u64 (b:Int),.int .u64 (c:Int),.int .u64 (d:Int)]:List E).length:Int))=true:=rfl
 have q3:decide ((3:Int)<(([.int .u64 (a:Int),.int .u64 (b:Int),.int .u64 (c:Int),.int .u64 (d:Int)]:List E).length:Int))=true:=rfl
 have q4:decide ((4:Int)<(([.int .u64 (a:Int),.int .u64 (b:Int),.int .u64 (c:Int),.int .u64 (d:Int)]:List E).length:Int))=false:=rfl
 have hu1:=hU4 [a]
 have hu2:=hU4 [a,b]
 have hu3:=hU4 [a,b,c]
 have hu4:=hU4 [a,b,c,d]
 refine Zan Tryz.func96 rfl Tryz.ntmps96 rfl rfl ?_
 repeat'(first|rw[e1]|rw[e2]|rw[e3]|rw[e4]|(apply ZaS [] [] (hL);kernel_rfl;(iterate 10 exact Z))|(apply Zaa (ga);kernel_rfl;(iterate 4 exact Z))|(apply Zaa (gb);kernel_rfl;(iterate 4 exact Z))|(apply Zaa (gc);kernel_rfl;(iterate 4 exact Z))|(apply Zaa (gd);kernel_rfl;(iterate 4 exact Z))|(apply Zau Zab;(iterate 6 exact Z);exact(by decide);exact Z;exact hU)|refine Zbf 20 ?_|refine Zbs ?_|(apply ZbI Zab;(iterate 11 exact Z);exact Zai rfl;exact Zai rfl;exact List.cons_ne_nil _ _;decide +kernel;decide +kernel;exact Z;exact Z)|(apply ZaU Zab;(iterate 6 exact Z);exact Zai rfl;exact List.cons_ne_nil _ _;exact Z;decide +kernel;decide +kernel;(iterate 3 exact Z))|(apply Zaj Zab;exact Z)|(apply Zah Zab;exact Z)|(apply Zav Zab;exact Z)|(apply Zac;exact Z;exact Go.ZrJ)|(apply Zaf;exact Z;exact Go.ZrJ)|(apply Zam Zab;(iterate 4 exact Z))|(apply ZaX Zab;(iterate 12 exact Z))|(apply Zao 5 ZaL;decide +kernel;kernel_rfl;kernel_rfl;kernel_rfl;exact Z;exact Z)|(apply Zaq;(iterate 4 exact Z))|exact AE.nil _ _ _ _|(apply Zat;exact Z)|(apply Zay;exact Z;exact Z;decide +kernel;exact Z)|(apply Zaz;exact Z)|exact AO.nil _ _ _|(apply Zap;(decide +kernel))|exact AOs.nil|exact ZaH rfl rfl|exact Zc0 rfl rfl rfl rfl rfl)
 all_goals(apply ZeR [] [0];(apply Zad Zab;exact Z);(iterate 7 exact Z))
 all_goals rfl
end Go.Proofs.YtakblclkflnnpaaGreatDoor
end

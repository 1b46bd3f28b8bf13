/- Package primary: a sealed list, opened. -/
import Derived.Test.YtakblclkflnnpaaGreatDoorP18
import Derived.Test.YtakblclkflnnpaaGreatDoorP16
import Derived.Test.YtakblclkflnnpaaGreatDoorP01
import Derived.Test.YtakblclkflnnpaaGreatDoorP07
import Derived.Test.YtakblclkflnnpaaGreatDoorProg
set_option linter.unusedVariables false
set_option linter.unusedSimpArgs false
section
open Go.RowKit Go.Pl Go.Av
namespace Go.Proofs.YtakblclkflnnpaaGreatDoor
set_option maxHeartbeats 4000000
def Zee (x:It)(a:Int):List It × Int:=match x with
 | .mk k n b l=>match Zaw (.mk k n b l)&&(k==4) with
  | false=>([],3)
  | true=>match decide (ZaM l a<0) with
   | true=>([],3)
   | false=>match ZaM l a==0 with
    | true=>(l,0)
    | false=>match l[l.length-1]? with
     | none=>([],3)
     | some (.mk k1 n1 b1 l1)=>match decide (((l.length-1:Nat):Int)<=a)||(!(It.beq (.mk k1 n1 b1 l1) (.mk 2 0 b1 []))||((b1.length:Int) != ((2*(ZaM l a).toNat:Nat):Int))) with
      | true=>([],3)
      | false=>match Zaw (ZaJ (ZaM l a).toNat (l.take (l.length-1))) with
       | false=>([],3)
       | true=>match ZdP (ZaM l a).toNat (Za1 (ZaJ (ZaM l a).toNat (l.take (l.length-1))))==b1 with
        | false=>([],10)
        | true=>(l.take (l.length-1),0)
abbrev ZoB (r:List It × Int):D:=.tup [.sl .ext (Zas r.1),.int .i64 r.2]
theorem Zef:∀ {l:List It} (m:Nat),wfs l->wfs (l.take m)
 | _,0,_=>trivial
 | [],m+1,h=>h
 | x::l,m+1,h=>⟨h.1,Zef m h.2⟩
theorem ZnE [Known][KnownU8](x:It)(a:Int)(hw:wfI x)(hxl:x.l.length<=1000000)(hlim:∀ s m,s=1\/s=2->(Za1 (ZaJ s (x.l.take m))).length<=1000000000):AP Tryz.prog 84 [itD x,.int .i64 a] (ZoB (Zee x a)) []:=by
 have hR:=Zb7 x hw
 obtain⟨k,n,b,l⟩:=x
 have hws:wfs l:=hw.2.2.2
 have hlen:=Zan l
 have hU:=ZbG l
 dsimp only[It.l]at hxl hlim
 have hT:=Zfn l hws a
 unfold Zee
 dsimp only
 cases hr:Zaw (.mk k n b l) with
 | false=>
  rw[hr]at hR
  rw[Bool.false_and]
  refine AP.ofA ?_
  refine Zap Tryz.func84 rfl Tryz.ntmps84 rfl rfl ?_
  repeat'(first|(apply Zaa (hR);kernel_rfl;(iterate 4 exact Z))|(apply Zaj Zab;exact Z)|(apply Zai Zab;exact Z)|(apply Zay Zab;exact Z)|(apply Zao;(iterate 3 exact Z);exact Go.Zqn)|(apply Zak;exact Z;exact Go.Zqn;exact Z;exact Z)|(apply Zac;exact Z;exact Go.Zqn))
  all_goals(apply Zax [];(apply Zad Zab;exact Z);(iterate 4 exact Z))
  all_goals rfl
 | true=>
 rw[hr]at hR
 rw[Bool.true_and]
 cases tk:(k==4) with
 | false=>
  have tk2:(k != 4)=true:=by rw[bne,tk];rfl
  refine AP.ofA ?_
  refine Zap Tryz.func84 rfl Tryz.ntmps84 rfl rfl ?_
  repeat'(first|(apply Zaa (hR);kernel_rfl;(iterate 4 exact Z))|(apply Zaj Zab;exact Z)|(apply Zai Zab;exact Z)|(apply Zay Zab;exact Z)|(apply Zaf;(iterate 3 exact Z);exact Go.Zqn)|(apply Zah;exact Z;exact Go.Zqn;exact Z;exact Z)|(apply Zac;exact Z;exact Go.Zqn))
  all_goals(apply Zax [];(apply Zad Zab;exact Z);(iterate 4 exact Z))
  all_goals rfl
 | true=>
 have tk2:(k != 4)=false:=by rw[bne,tk];rfl
 rcases ZbU l a with e|⟨e|e,h0,h1⟩
 ·rw[e]at hT ⊢
  refine AP.ofA ?_
  refine Zap Tryz.func84 rfl Tryz.ntmps84 rfl rfl ?_
  repeat'(first|(apply Zaa (hR);kernel_rfl;(iterate 4 exact Z))|(apply Zaa (hT);kernel_rfl;(iterate 4 exact Z))|(apply Zaj Zab;exact Z)|(apply Zai Zab;exact Z)|(apply Zay Zab;exact Z)|(apply Zaf;(iterate 3 exact Z);exact Go.Zqn)|(apply Zah;exact Z;exact Go.Zqn;exact Z;exact Z)|(apply Zac;exact Z;exact Go.Zqn)|(apply Zae;exact Z;exact Go.Zqn))
  all_goals(apply Zax [];(apply Zad Zab;exact Z);(iterate 4 exact Z))
  all_goals rfl
 ·rw[e]at hT ⊢
  have hL:=ZcE l (by omega) hws
  replace hL:AP Tryz.prog 87 [.sl .ext (Zas l)] (.agg [.int .i64 4,.int .u64 0,.sl .ext [],.sl .ext (Zas l)]) []:=hL
  refine AP.ofA ?_
  refine Zap Tryz.func84 rfl Tryz.ntmps84 rfl rfl ?_
  repeat'(first|(apply Zaa (hR);kernel_rfl;(iterate 4 exact Z))|(apply Zaa (hT);kernel_rfl;(iterate 4 exact Z))|(apply Zaa (hL);kernel_rfl;(iterate 4 exact Z))|(apply Zaj Zab;exact Z)|(apply Zai Zab;exact Z)|(apply Zay Zab;exact Z)|(apply Zaf;(iterate 3 exact Z);exact Go.Zqn)|(apply Zah;exact Z;exact Go.Zqn;exact Z;exact Z)|(apply Zac;exact Z;exact Go.Zqn)|(apply Zae;exact Z;exact Go.Zqn))
  all_goals(apply Zax [];(apply Zad Zab;exact Z);(iterate 4 exact Z))
  all_goals rfl
 ·obtain⟨s,hs,es⟩:∃ s:Nat,(s=1\/s=2)/\ZaM l a=(s:Int):=⟨(ZaM l a).toNat,by omega,by omega⟩
  rw[es]at hT ⊢
  rw[Int.toNat_natCast]
  have d1:decide ((s:Int)<0)=false:=decide_eq_false (by omega)
  have d2:((s:Int)==0)=false:=by rw[beq_eq_false_iff_ne];omega
  rw[d1,d2]
  dsimp only
  obtain⟨m,hm⟩:∃ m,m=l.length-1:=⟨_,rfl⟩
  have em:IntKind.i64.wrap (((Zas l).length:Int)-1)=(m:Int):=by rw[IntWalk.i64_in _ (by omega)];omega
  rw[<- hm]
  obtain⟨⟨k1,n1,b1,l1⟩,hy⟩:∃ y,l[m]?=some y:=⟨_,List.getElem?_eq_getElem (by omega)⟩
  have hv:(Zas l)[((m:Nat):Int).toNat]?=some (.agg [.int .i64 k1,.int .u64 (n1:Int),.sl (b1.map E.byte),.sl (Zas l1)]):=by
   rw[Int.toNat_natCast,ZaB,List.getElem?_map,hy];rfl
  rw[hy]
  dsimp only
  have hw1:=ZaP hws _ (List.mem_of_getElem? hy)
  have hbl:(b1.map E.byte).length=b1.length:=List.length_map ..
  have hB:=ZeS b1 (by have:=hw1.2.1;omega)
  have hS:=Zfk (.mk k1 n1 b1 l1) hw1 (.mk 2 0 b1 []) ⟨by decide,by have:=hw1.2.1;omega,by simp,trivial⟩
  have hZ:=ZfZ s hs
  rw[<- hbl]
  cases t1:decide ((m:Int)<=a) with
  | true=>
   rw[Bool.true_or]
   refine AP.ofA ?_
   refine Zap Tryz.func84 rfl Tryz.ntmps84 rfl rfl ?_
   repeat'(first|(apply Zaa (hR);kernel_rfl;(iterate 4 exact Z))|(apply Zaa (hT);kernel_rfl;(iterate 4 exact Z))|rw[em]|(apply Zaj Zab;exact Z)|(apply Zai Zab;exact Z)|(apply Zay Zab;exact Z)|(apply Zaf;(iterate 3 exact Z);exact Go.Zqn)|(apply Zao;(iterate 3 exact Z);exact Go.Zqn)|(apply Zak;exact Z;exact Go.Zqn;exact Z;exact Z)|(apply Zah;exact Z;exact Go.Zqn;exact Z;exact Z)|(apply Zac;exact Z;exact Go.Zqn)|(apply Zae;exact Z;exact Go.Zqn)|(apply Zal Zab;(iterate 4 exact Z))|(apply Zam 17 ZaR;decide +kernel;kernel_rfl;kernel_rfl;kernel_rfl;exact Z;exact Z)|(apply Zar;(iterate 4 exact Z))|exact AE.nil _ _ _ _|(apply Zav;exact Z)|(apply Zaz;exact Z;exact Z;decide +kernel;exact Z)|(apply ZaA;exact Z)|exact AO.nil _ _ _|(apply Zaq;(decide +kernel))|exact AOs.nil|exact ZaI rfl rfl|(apply Zat Zab;(iterate 6 exact Z);(first|exact Go.Zqn|rotate_left);(first|with_reducible assumption|decide +kernel|exact Z);(first|exact Zag rfl|with_reducible assumption|decide +kernel|rotate_left)))
   all_goals(apply Zax [];(apply Zad Zab;exact Z);(iterate 4 exact Z))
   all_goals rfl
  | false=>
  rw[Bool.false_or]
  cases t2:It.beq (.mk k1 n1 b1 l1) (.mk 2 0 b1 []) with
  | false=>
   rw[t2]at hS
   rw[Bool.not_false,Bool.true_or]
   refine AP.ofA ?_
   refine Zap Tryz.func84 rfl Tryz.ntmps84 rfl rfl ?_
   repeat'(first|(apply Zaa (hR);kernel_rfl;(iterate 4 exact Z))|(apply Zaa (hT);kernel_rfl;(iterate 4 exact Z))|rw[em]|(apply Zaa (hB);kernel_rfl;(iterate 4 exact Z))|(apply Zaa (hS);kernel_rfl;(iterate 4 exact Z))|(apply Zaj Zab;exact Z)|(apply Zai Zab;exact Z)|(apply Zay Zab;exact Z)|(apply Zaf;(iterate 3 exact Z);exact Go.Zqn)|(apply Zao;(iterate 3 exact Z);exact Go.Zqn)|(apply Zak;exact Z;exact Go.Zqn;exact Z;exact Z)|(apply Zah;exact Z;exact Go.Zqn;exact Z;exact Z)|(apply Zac;exact Z;exact Go.Zqn)|(apply Zae;exact Z;exact Go.Zqn)|(apply Zal Zab;(iterate 4 exact Z))|(apply Zam 17 ZaR;decide +kernel;kernel_rfl;kernel_rfl;kernel_rfl;exact Z;exact Z)|(apply Zar;(iterate 4 exact Z))|exact AE.nil _ _ _ _|(apply Zav;exact Z)|(apply Zaz;exact Z;exact Z;decide +kernel;exact Z)|(apply ZaA;exact Z)|exact AO.nil _ _ _|(apply Zaq;(decide +kernel))|exact AOs.nil|exact ZaI rfl rfl|(apply Zat Zab;(iterate 6 exact Z);(first|exact Go.Zqn|rotate_left);(first|with_reducible assumption|decide +kernel|exact Z);(first|exact Zag rfl|with_reducible assumption|decide +kernel|rotate_left)))
   all_goals(apply Zax [];(apply Zad Zab;exact Z);(iterate 4 exact Z))
   all_goals rfl
  | true=>
  rw[t2]at hS
  rw[Bool.not_true,Bool.false_or]
  cases t3:(((b1.map E.byte).length:Int) != ((2*s:Nat):Int)) with
  | true=>
   refine AP.ofA ?_
   refine Zap Tryz.func84 rfl Tryz.ntmps84 rfl rfl ?_
   repeat'(first|(apply Zaa (hR);kernel_rfl;(iterate 4 exact Z))|(apply Zaa (hT);kernel_rfl;(iterate 4 exact Z))|rw[em]|(apply Zaa (hB);kernel_rfl;(iterate 4 exact Z))|(apply Zaa (hS);kernel_rfl;(iterate 4 exact Z))|(apply Zaa (hZ);kernel_rfl;(iterate 4 exact Z))|(apply Zaj Zab;exact Z)|(apply Zai Zab;exact Z)|(apply Zay Zab;exact Z)|(apply Zaf;(iterate 3 exact Z);exact Go.Zqn)|(apply Zah;exact Z;exact Go.Zqn;exact Z;exact Z)|(apply Zac;exact Z;exact Go.Zqn)|(apply Zae;exact Z;exact Go.Zqn)|(apply Zal Zab;(iterate 4 exact Z))|(apply Zam 17 ZaR;decide +kernel;kernel_rfl;kernel_rfl;kernel_rfl;exact Z;exact Z)|(apply Zar;(iterate 4 exact Z))|exact AE.nil _ _ _ _|(apply Zav;exact Z)|(apply Zaz;exact Z;exact Z;decide +kernel;exact Z)|(apply ZaA;exact Z)|exact AO.nil _ _ _|(apply Zaq;(decide +kernel))|exact AOs.nil|exact ZaI rfl rfl|(apply Zat Zab;(iterate 6 exact Z);(first|exact Go.Zqn|rotate_left);(first|with_reducible assumption|decide +kernel|exact Z);(first|exact Zag rfl|with_reducible assumption|decide +kernel|rotate_left)))
   all_goals(apply Zax [];(apply Zad Zab;exact Z);(iterate 4 exact Z))
   all_goals rfl
  | false=>
  dsimp only
  have hne:l.take m ≠ []:=by
   intro h
   have h9:=congrArg List.length h
   rw[List.length_take,List.length_nil]at h9
   have:=of_decide_eq_false t1
   omega
  have htl:(l.take m).length<=1000000:=by rw[List.length_take];omega
  have hSu:=Zgt (l.take m) s hs hne (Zef m hws) htl (hlim s m hs)
  have eT:Zas (l.take m)=(Zas l).take m:=by rw[ZaB,ZaB,List.map_take]
  have hmle:((m:Nat):Int).toNat<=(Zas l).length:=by rw[Int.toNat_natCast];omega
  rw[eT]at hSu
  cases hz:Zaw (ZaJ s (l.take m)) with
  | false=>
   rw[hz]at hSu
   dsimp only at hSu
   refine AP.ofA ?_
   refine Zap Tryz.func84 rfl Tryz.ntmps84 rfl rfl ?_
   repeat'(first|(apply Zaa (hR);kernel_rfl;(iterate 4 exact Z))|(apply Zaa (hT);kernel_rfl;(iterate 4 exact Z))|rw[em]|(apply Zaa (hB);kernel_rfl;(iterate 4 exact Z))|(apply Zaa (hS);kernel_rfl;(iterate 4 exact Z))|(apply Zaa (hZ);kernel_rfl;(iterate 4 exact Z))|(apply Zaa (hSu);kernel_rfl;(iterate 4 exact Z))|(apply ZdE Zab;(iterate 6 exact Z);exact hU;exact Int.natCast_nonneg _;exact hmle;exact Z)|(apply Zaj Zab;exact Z)|(apply Zai Zab;exact Z)|(apply Zay Zab;exact Z)|(apply Zaf;(iterate 3 exact Z);exact Go.Zqn)|(apply Zah;exact Z;exact Go.Zqn;exact Z;exact Z)|(apply Zac;exact Z;exact Go.Zqn)|(apply Zae;exact Z;exact Go.Zqn)|(apply Zal Zab;(iterate 4 exact Z))|(apply Zam 17 ZaR;decide +kernel;kernel_rfl;kernel_rfl;kernel_rfl;exact Z;exact Z)|(apply Zar;(iterate 4 exact Z))|exact AE.nil _ _ _ _|(apply Zav;exact Z)|(apply Zaz;exact Z;exact Z;decide +kernel;exact Z)|(apply ZaA;exact Z)|exact AO.nil _ _ _|(apply Zaq;(decide +kernel))|exact AOs.nil|exact ZaI rfl rfl|(apply Zat Zab;(iterate 6 exact Z);(first|exact Go.Zqn|rotate_left);(first|with_reducible assumption|decide +kernel|exact Z);(first|exact Zag rfl|with_reducible assumption|decide +kernel|rotate_left)))
   all_goals(apply Zax [];(apply Zad Zab;exact Z);(iterate 4 exact Z))
   all_goals rfl
  | true=>
  rw[hz]at hSu
  dsimp only at hSu ⊢
  generalize ZdP s (Za1 (ZaJ s (l.take m)))=SB at *
  have hE:=ZmS SB b1
  cases t4:(SB==b1) with
  | false=>
   rw[t4]at hE
   refine AP.ofA ?_
   refine Zap Tryz.func84 rfl Tryz.ntmps84 rfl rfl ?_
   repeat'(first|(apply Zaa (hR);kernel_rfl;(iterate 4 exact Z))|(apply Zaa (hT);kernel_rfl;(iterate 4 exact Z))|rw[em]|(apply Zaa (hB);kernel_rfl;(iterate 4 exact Z))|(apply Zaa (hS);kernel_rfl;(iterate 4 exact Z))|(apply Zaa (hZ);kernel_rfl;(iterate 4 exact Z))|(apply Zaa (hSu);kernel_rfl;(iterate 4 exact Z))|(apply Zaa (hE);kernel_rfl;(iterate 4 exact Z))|(apply ZdE Zab;(iterate 6 exact Z);exact hU;exact Int.natCast_nonneg _;exact hmle;exact Z)|(apply Zaj Zab;exact Z)|(apply Zai Zab;exact Z)|(apply Zay Zab;exact Z)|(apply Zaf;(iterate 3 exact Z);exact Go.Zqn)|(apply Zah;exact Z;exact Go.Zqn;exact Z;exact Z)|(apply Zac;exact Z;exact Go.Zqn)|(apply Zae;exact Z;exact Go.Zqn)|(apply Zal Zab;(iterate 4 exact Z))|(apply Zam 17 ZaR;decide +kernel;kernel_rfl;kernel_rfl;kernel_rfl;exact Z;exact Z)|(apply Zar;(iterate 4 exact Z))|exact AE.nil _ _ _ _|(apply Zav;exact Z)|(apply Zaz;exact Z;exact Z;decide +kernel;exact Z)|(apply ZaA;exact Z)|exact AO.nil _ _ _|(apply Zaq;(decide +kernel))|exact AOs.nil|exact ZaI rfl rfl|(apply Zat Zab;(iterate 6 exact Z);(first|exact Go.Zqn|rotate_left);(first|with_reducible assumption|decide +kernel|exact Z);(first|exact Zag rfl|with_reducible assumption|decide +kernel|rotate_left)))
   all_goals(apply Zax [];(apply Zad Zab;exact Z);(iterate 4 exact Z))
   all_goals rfl
  | true=>
   rw[t4]at hE
   have hL:=ZcE (l.take m) (by omega) (Zef m hws)
   rw[eT]at hL
   replace hL:AP Tryz.prog 87 [.sl .ext ((Zas l).take m)] (.agg [.int .i64 4,.int .u64 0,.sl .ext [],.sl .ext (Zas (l.take m))]) []:=hL
   refine AP.ofA ?_
   refine Zap Tryz.func84 rfl Tryz.ntmps84 rfl rfl ?_
   repeat'(first|(apply Zaa (hR);kernel_rfl;(iterate 4 exact Z))|(apply Zaa (hT);kernel_rfl;(iterate 4 exact Z))|rw[em]|(apply Zaa (hB);kernel_rfl;(iterate 4 exact Z))|(apply Zaa (hS);kernel_rfl;(iterate 4 exact Z))|(apply Zaa (hZ);kernel_rfl;(iterate 4 exact Z))|(apply Zaa (hSu);kernel_rfl;(iterate 4 exact Z))|(apply Zaa (hE);kernel_rfl;(iterate 4 exact Z))|(apply Zaa (hL);kernel_rfl;(iterate 4 exact Z))|(apply ZdE Zab;(iterate 6 exact Z);exact hU;exact Int.natCast_nonneg _;exact hmle;exact Z)|(apply Zaj Zab;exact Z)|(apply Zai Zab;exact Z)|(apply Zay Zab;exact Z)|(apply Zaf;(iterate 3 exact Z);exact Go.Zqn)|(apply Zah;exact Z;exact Go.Zqn;exact Z;exact Z)|(apply Zae;exact Z;exact Go.Zqn)|(apply Zal Zab;(iterate 4 exact Z))|(apply Zam 17 ZaR;decide +kernel;kernel_rfl;kernel_rfl;kernel_rfl;exact Z;exact Z)|(apply Zar;(iterate 4 exact Z))|exact AE.nil _ _ _ _|(apply Zav;exact Z)|(apply Zaz;exact Z;exact Z;decide +kernel;exact Z)|(apply ZaA;exact Z)|exact AO.nil _ _ _|(apply Zaq;(decide +kernel))|exact AOs.nil|exact ZaI rfl rfl|(apply Zat Zab;(iterate 6 exact Z);(first|exact Go.Zqn|rotate_left);(first|with_reducible assumption|decide +kernel|exact Z);(first|exact Zag rfl|with_reducible assumption|decide +kernel|rotate_left)))
   all_goals(apply Zax [];(apply Zad Zab;exact Z);(iterate 4 exact Z))
   all_goals rfl
abbrev iC (x:EidV)(t q:Nat):List D:=[.bool x.i,.int .u64 (x.n:Int),.int .u64 (x.s:Int),.str x.h,.str x.d,.int .u64 (t:Int),.int .u64 (q:Int)]
def Zb9 (x:EidV)(t q:Nat):Bool:=ZaL x&&decide ((t:Int)<=1099511627776)&&decide ((q:Int)<=1099511627776)
theorem Zhj [Known](x:EidV)(t q:Nat):AP Tryz.prog 92 [.agg (iC x t q)] (.bool (Zb9 x t q)) []:=by
 refine AP.ofA ?_
 refine Zap Tryz.func92 rfl Tryz.ntmps92 rfl rfl ?_
 repeat'(first|(apply Zaa (Zc1 x);kernel_rfl;(iterate 4 exact Z))|(apply Zaj Zab;exact Z)|(apply Zai Zab;exact Z)|(apply Zaf;(iterate 3 exact Z);(first|with_reducible assumption|(solve|simp only[bn])))|(apply Zau;(iterate 3 exact Z);(first|with_reducible assumption|(solve|simp only[bn])))|(apply Zb1;exact Z;exact Z;all_goals intro hb)|(apply Zak;exact Z;(first|with_reducible assumption|(solve|simp only[bn]));exact Z;exact Z)|(apply Zah;exact Z;(first|with_reducible assumption|(solve|simp only[bn]));exact Z;exact Z))
 all_goals(apply Zax [];(apply Zad Zab;exact Z);(iterate 4 exact Z))
 all_goals first|rfl|(unfold Zb9;simp only[*];done)|(unfold Zb9;simp only[*];simp only[Bool.and_true,Bool.true_and,Bool.and_false,Bool.false_and];done)
theorem ZkV [Known](x:EidV)(t q:Nat):AP Tryz.prog 48 [.agg (iC x t q)] (.bool (decide (IntKind.i64.wrap ((x.h.length:Int)+(x.d.length:Int))>300))) []:=by
 refine AP.ofA ?_
 refine Zap Tryz.func48 rfl Tryz.ntmps48 rfl rfl ?_
 repeat'(first|(apply Zaj Zab;exact Z)|(apply Zai Zab;exact Z)|(apply Zbb Zab;(iterate 4 exact Z)))
 (apply Zax [];(apply Zad Zab;exact Z);(iterate 4 exact Z))
 all_goals rfl
end Go.Proofs.YtakblclkflnnpaaGreatDoor
end
section
open Go.RowKit Go.Pl
namespace Go.Pl
variable {P:Program} {t:TypeId}
theorem Zh4 {α β γ δ ε:Type}{R0:Rep α}{R1:Rep β}{R2:Rep γ}{R3:Rep δ}{R4:Rep ε}{fs:Array Field}{f0 f1 f2 f3 f4:Field}(hs:P.underlying t=some (.struct fs))(hfs:fs = #[f0,f1,f2,f3,f4])
  (h00:f0.offset=0) (h01:f1.offset=R0.n) (h02:f2.offset=R0.n+R1.n) (h03:f3.offset=R0.n+R1.n+R2.n) (h04:f4.offset=R0.n+R1.n+R2.n+R3.n)
  (hc0:P.cellsOf f0.type=R0.n) (hc1:P.cellsOf f1.type=R1.n) (hc2:P.cellsOf f2.type=R2.n) (hc3:P.cellsOf f3.type=R3.n) (hc4:P.cellsOf f4.type=R4.n) (hc:P.cellsOf t=R0.n+(R1.n+(R2.n+(R3.n+R4.n))))
  (h0:ZbW P f0.type R0) (h1:ZbW P f1.type R1) (h2:ZbW P f2.type R2) (h3:ZbW P f3.type R3) (h4:ZbW P f4.type R4):ZbW P t (R0.prod (R1.prod (R2.prod (R3.prod R4)))):=by
 intro H enc W spare held fuel cs y h
 obtain⟨xs,n,_,_,hl,hxl,hg⟩:=DataW.trod_struct hs h
 subst hfs
 have e0:=hg 0 f0 rfl
 have e1:=hg 1 f1 rfl
 have e2:=hg 2 f2 rfl
 have e3:=hg 3 f3 rfl
 have e4:=hg 4 f4 rfl
 rw[h00,hc0,List.drop_zero]at e0
 rw[h01,hc1]at e1
 rw[h02,hc2]at e2
 rw[h03,hc3]at e3
 rw[h04,hc4]at e4
 have hn:xs.length=5:=hxl
 have hx0:xs[0]?=some (xs[0]'(by omega)):=List.getElem?_eq_getElem (by omega)
 have hx1:xs[1]?=some (xs[1]'(by omega)):=List.getElem?_eq_getElem (by omega)
 have hx2:xs[2]?=some (xs[2]'(by omega)):=List.getElem?_eq_getElem (by omega)
 have hx3:xs[3]?=some (xs[3]'(by omega)):=List.getElem?_eq_getElem (by omega)
 have hx4:xs[4]?=some (xs[4]'(by omega)):=List.getElem?_eq_getElem (by omega)
 obtain⟨x0,k0⟩:=h0 H enc W spare held n _ _ (e0.trans hx0)
 obtain⟨x1,k1⟩:=h1 H enc W spare held n _ _ (e1.trans hx1)
 obtain⟨x2,k2⟩:=h2 H enc W spare held n _ _ (e2.trans hx2)
 obtain⟨x3,k3⟩:=h3 H enc W spare held n _ _ (e3.trans hx3)
 obtain⟨x4,k4⟩:=h4 H enc W spare held n _ _ (e4.trans hx4)
 refine⟨(x0,x1,x2,x3,x4),cs.take R0.n,cs.drop R0.n,(List.take_append_drop _ _).symm,k0,(cs.drop R0.n).take R1.n,(cs.drop R0.n).drop R1.n,(List.take_append_drop _ _).symm,k1,
  ((cs.drop R0.n).drop R1.n).take R2.n,((cs.drop R0.n).drop R1.n).drop R2.n,(List.take_append_drop _ _).symm,?_,(((cs.drop R0.n).drop R1.n).drop R2.n).take R3.n,(((cs.drop R0.n).drop R1.n).drop R2.n).drop R3.n,(List.take_append_drop _ _).symm,?_,?_⟩
 ·rw[List.drop_drop];exact k2
 ·rw[List.drop_drop,List.drop_drop,show R0.n+(R1.n+R2.n)=R0.n+R1.n+R2.n from by omega];exact k3
 ·rw[List.drop_drop,List.drop_drop,List.drop_drop,show R0.n+(R1.n+(R2.n+R3.n))=R0.n+R1.n+R2.n+R3.n from by omega]
  rw[List.take_of_length_le (i:=R4.n) (by rw[List.length_drop];omega)]at k4
  exact k4
abbrev RE:Rep (Bool × Nat × Nat × List UInt8 × List UInt8):=Rep.bool.prod (Rep.u64.prod (Rep.u64.prod (Rep.str.prod Rep.str)))
abbrev RI:Rep ((Bool × Nat × Nat × List UInt8 × List UInt8) × Nat × Nat):=RE.prod (Rep.u64.prod Rep.u64)
end Go.Pl
end
section
open Go.RowKit Go.Pl
namespace Go.Proofs.YtakblclkflnnpaaGreatDoor
theorem ZnF:ZbW Tryz.prog 24 RE:=
 Zh4 Tryz.underlying24 rfl rfl rfl rfl rfl rfl (by kernel_rfl) (by kernel_rfl) (by kernel_rfl) (by kernel_rfl) (by kernel_rfl) (by kernel_rfl) (Zjr Tryz.underlying4) (Zcx Tryz.underlying22) (Zcx Tryz.underlying22) (ZgR Tryz.underlying9) (ZgR Tryz.underlying9)
theorem Zpp:ZbW Tryz.prog 26 RI:=
 ZhQ Tryz.underlying26 rfl (by kernel_rfl) rfl rfl rfl (by kernel_rfl) (by kernel_rfl) (by kernel_rfl) ZnF (Zcx Tryz.underlying22) (Zcx Tryz.underlying22)
end Go.Proofs.YtakblclkflnnpaaGreatDoor
end
section
open Go.RowKit Go.Pl Go.Av
namespace Go.Proofs.YtakblclkflnnpaaGreatDoor
set_option maxHeartbeats 4000000
theorem Zh5:ToE RE (fun x=>.agg [.bool x.1,.int .u64 (x.2.1:Int),.int .u64 (x.2.2.1:Int),.str x.2.2.2.1,.str x.2.2.2.2]):=
 ToE.bool.prod (ToE.u64.prod (ToE.u64.prod (ToE.str.prod ToE.str)))
abbrev XE:=Bool × Nat × Nat × List UInt8 × List UInt8
def XE.v (x:XE):EidV:=⟨x.1,x.2.1,x.2.2.1,x.2.2.2.1,x.2.2.2.2⟩
structure PriV where
 fl:Nat
 sum:Int
 dest:EidV
 rep:EidV
 src:EidV
 t:Nat
 q:Nat
 life:Nat
abbrev prC (p:PriV):List D:=[.int .u64 (p.fl:Int),.int .i64 p.sum,.bool p.dest.i,.int .u64 (p.dest.n:Int),.int .u64 (p.dest.s:Int),.str p.dest.h,.str p.dest.d,.bool p.rep.i,.int .u64 (p.rep.n:Int),.int .u64 (p.rep.s:Int),.str p.rep.h,.str p.rep.d,.bool p.src.i,.int .u64 (p.src.n:Int),.int .u64 (p.src.s:Int),.str p.src.h,.str p.src.d,.int .u64 (p.t:Int),.int .u64 (p.q:Int),.int .u64 (p.life:Int)]
def Zbc (p:PriV):Bool:=(bits .andNot .u64 (p.fl:Int) 409638==0)&&(decide (p.sum ≥ 0)&&(decide (p.sum<=2)&&(ZaL p.dest&&(ZaL p.rep&&(Zb9 p.src p.t p.q&&decide ((p.life:Int)<=1099511627776))))))
theorem Zeg [Known](p:PriV):AP Tryz.prog 20 [.agg (prC p)] (.bool (Zbc p)) []:=by
 have hD:=Zc1 p.dest
 have hR:=Zc1 p.rep
 have hI:=Zhj p.src p.t p.q
 unfold Zbc
 generalize ZaL p.dest=e1 at *
 generalize ZaL p.rep=e2 at *
 generalize Zb9 p.src p.t p.q=e3 at *
 obtain⟨fl,sum,⟨di,dn,ds,dh,dd⟩,⟨ri,rn,rs,rh,rd⟩,⟨xi,xn,xs,xh,xd⟩,t,q,life⟩:=p
 dsimp only at *
 cases t1:(bits .andNot .u64 (fl:Int) 409638==0) with
 | false=>
  refine AP.ofA ?_
  refine Zap Tryz.func20 rfl Tryz.ntmps20 rfl rfl ?_
  repeat'(first|(apply Zaj Zab;exact Z)|(apply Zai Zab;exact Z)|(apply Zau;(iterate 3 exact Z);exact Go.Zqn)|(apply Zah;exact Z;exact Go.Zqn;exact Z;exact Z))
  all_goals(apply Zax [];(apply Zad Zab;exact Z);(iterate 4 exact Z))
  all_goals rfl
 | true=>
 cases t2:decide (sum ≥ 0) with
 | false=>
  refine AP.ofA ?_
  refine Zap Tryz.func20 rfl Tryz.ntmps20 rfl rfl ?_
  repeat'(first|(apply Zaj Zab;exact Z)|(apply Zai Zab;exact Z)|(apply Zaf;(iterate 3 exact Z);exact Go.Zqn)|(apply Zau;(iterate 3 exact Z);exact Go.Zqn)|(apply Zak;exact Z;exact Go.Zqn;exact Z;exact Z)|(apply Zah;exact Z;exact Go.Zqn;exact Z;exact Z))
  all_goals(apply Zax [];(apply Zad Zab;exact Z);(iterate 4 exact Z))
  all_goals rfl
 | true=>
 cases t3:decide (sum<=2) with
 | false=>
  refine AP.ofA ?_
  refine Zap Tryz.func20 rfl Tryz.ntmps20 rfl rfl ?_
  repeat'(first|(apply Zaj Zab;exact Z)|(apply Zai Zab;exact Z)|(apply Zaf;(iterate 3 exact Z);exact Go.Zqn)|(apply Zau;(iterate 3 exact Z);exact Go.Zqn)|(apply Zak;exact Z;exact Go.Zqn;exact Z;exact Z)|(apply Zah;exact Z;exact Go.Zqn;exact Z;exact Z))
  all_goals(apply Zax [];(apply Zad Zab;exact Z);(iterate 4 exact Z))
  all_goals rfl
 | true=>
 cases e1
 ·refine AP.ofA ?_
  refine Zap Tryz.func20 rfl Tryz.ntmps20 rfl rfl ?_
  repeat'(first|(apply Zaa (hD);kernel_rfl;(iterate 4 exact Z))|(apply Zaj Zab;exact Z)|(apply Zai Zab;exact Z)|(apply Zaf;(iterate 3 exact Z);exact Go.Zqn)|(apply Zau;(iterate 3 exact Z);exact Go.Zqn)|(apply Zak;exact Z;exact Go.Zqn;exact Z;exact Z)|(apply Zah;exact Z;exact Go.Zqn;exact Z;exact Z))
  all_goals(apply Zax [];(apply Zad Zab;exact Z);(iterate 4 exact Z))
  all_goals rfl
 cases e2
 ·refine AP.ofA ?_
  refine Zap Tryz.func20 rfl Tryz.ntmps20 rfl rfl ?_
  repeat'(first|(apply Zaa (hD);kernel_rfl;(iterate 4 exact Z))|(apply Zaa (hR);kernel_rfl;(iterate 4 exact Z))|(apply Zaj Zab;exact Z)|(apply Zai Zab;exact Z)|(apply Zaf;(iterate 3 exact Z);exact Go.Zqn)|(apply Zau;(iterate 3 exact Z);exact Go.Zqn)|(apply Zak;exact Z;exact Go.Zqn;exact Z;exact Z)|(apply Zah;exact Z;exact Go.Zqn;exact Z;exact Z))
  all_goals(apply Zax [];(apply Zad Zab;exact Z);(iterate 4 exact Z))
  all_goals rfl
 cases e3
 ·refine AP.ofA ?_
  refine Zap Tryz.func20 rfl Tryz.ntmps20 rfl rfl ?_
  repeat'(first|(apply Zaa (hD);kernel_rfl;(iterate 4 exact Z))|(apply Zaa (hR);kernel_rfl;(iterate 4 exact Z))|(apply Zaa (hI);kernel_rfl;(iterate 4 exact Z))|(apply Zaj Zab;exact Z)|(apply Zai Zab;exact Z)|(apply Zaf;(iterate 3 exact Z);exact Go.Zqn)|(apply Zau;(iterate 3 exact Z);exact Go.Zqn)|(apply Zak;exact Z;exact Go.Zqn;exact Z;exact Z)|(apply Zah;exact Z;exact Go.Zqn;exact Z;exact Z))
  all_goals(apply Zax [];(apply Zad Zab;exact Z);(iterate 4 exact Z))
  all_goals rfl
 refine AP.ofA ?_
 refine Zap Tryz.func20 rfl Tryz.ntmps20 rfl rfl ?_
 repeat'(first|(apply Zaa (hD);kernel_rfl;(iterate 4 exact Z))|(apply Zaa (hR);kernel_rfl;(iterate 4 exact Z))|(apply Zaa (hI);kernel_rfl;(iterate 4 exact Z))|(apply Zaj Zab;exact Z)|(apply Zai Zab;exact Z)|(apply Zaf;(iterate 3 exact Z);exact Go.Zqn)|(apply Zak;exact Z;exact Go.Zqn;exact Z;exact Z))
 all_goals(apply Zax [];(apply Zad Zab;exact Z);(iterate 4 exact Z))
 all_goals rfl
def Zba (r b:Nat):Nat:=if r ≥ b then r-b else r
def Zhk (fl:Nat):Nat:=Zba (Zba (Zba (Zba (Zba (Zba fl 262144) 131072) 16384) 32) 4) 2
theorem ZkW:∀ a,a<128->∀ c,c<128->((Zba (Zba (Zba (a*128+c) 32) 4) 2==0)=(((a*128+c) &&& 18446744073709141977)==0)):=by decide +kernel
theorem Zmi (x:Nat)(h:x<16384):((Zba (Zba (Zba x 32) 4) 2==0)=((x &&& 18446744073709141977)==0)):=by
 have e:x=x/128*128+x % 128:=by omega
 have:=ZkW (x/128) (by omega) (x % 128) (by omega)
 rw[<- e]at this
 exact this
theorem Zmj:∀ x,x<32->((Zba (Zba (Zba x 16) 8) 1==0)=((x &&& (18446744073709141977/16384))==0)):=by decide +kernel
theorem ZkX (M h l b:Nat)(hl:l<M):Zba (h*M+l) (b*M)=Zba h b*M+l:=by
 unfold Zba
 by_cases hb:h ≥ b
 ·have h1:b*M<=h*M:=Nat.mul_le_mul_right M hb
  have h2:h*M+l ≥ b*M:=by omega
  rw[if_pos hb,if_pos h2,Nat.sub_mul]
  omega
 ·have h1:(h+1)*M<=b*M:=Nat.mul_le_mul_right M (by omega)
  rw[Nat.add_mul,Nat.one_mul]at h1
  have h2:¬ h*M+l ≥ b*M:=by omega
  rw[if_neg hb,if_neg h2]
theorem Zgu (h l b:Nat)(hl:l<16384):Zba (h*16384+l) (b*16384)=Zba h b*16384+l:=ZkX 16384 h l b hl
theorem ZdI (z b:Nat):z-b<=Zba z b:=by
 unfold Zba
 split<;>omega
theorem ZkY {y:Nat}(h:16384<=y):(Zba (Zba (Zba y 32) 4) 2==0)=false:=by
 have h1:=ZdI y 32
 generalize Zba y 32=a at *
 have h2:=ZdI a 4
 generalize Zba a 4=c at *
 have h3:=ZdI c 2
 generalize Zba c 2=d at *
 rw[beq_eq_false_iff_ne]
 omega
theorem Zmk {y:Nat}(h:32<=y):1<=Zba (Zba (Zba y 16) 8) 1:=by
 have h1:=ZdI y 16
 generalize Zba y 16=a at *
 have h2:=ZdI a 8
 generalize Zba a 8=c at *
 have h3:=ZdI c 1
 generalize Zba c 1=d at *
 omega
theorem ZjF (fl:Nat)(h:fl<18446744073709551616):(bits .andNot .u64 (fl:Int) 409638==0)=(Zhk fl==0):=by
 rw[show(409638:Int)=((409638:Nat):Int) from rfl,u64_andNot_nat fl 409638 h (by omega)]
 rw[show(18446744073709551615-409638:Nat)=18446744073709141977 from rfl]
 have hs:fl=fl/16384*16384+fl % 16384:=by omega
 have hlo:=Zmi (fl % 16384) (Nat.mod_lt _ (by omega))
 have e:∀ x:Nat,((((fl &&& 18446744073709141977:Nat)):Int)==0)=((fl &&& 18446744073709141977)==0):=fun _=>by
  rw[Bool.eq_iff_iff,beq_iff_eq,beq_iff_eq];omega
 rw[e 0]
 have hd:(fl &&& 18446744073709141977)/16384=(fl/16384) &&& (18446744073709141977/16384):=by
  rw[show(16384:Nat)=2 ^ 14 from rfl,<- Nat.shiftRight_eq_div_pow,<- Nat.shiftRight_eq_div_pow,<- Nat.shiftRight_eq_div_pow,Nat.shiftRight_and_distrib]
 have hm:(fl &&& 18446744073709141977) % 16384=(fl % 16384 &&& 18446744073709141977) % 16384:=by
  rw[show(16384:Nat)=2 ^ 14 from rfl,<- Nat.and_two_pow_sub_one_eq_mod,<- Nat.and_two_pow_sub_one_eq_mod,<- Nat.and_two_pow_sub_one_eq_mod]
  apply Nat.eq_of_testBit_eq
  intro i
  simp only[Nat.testBit_and]
  cases fl.testBit i<;>cases(18446744073709141977:Nat).testBit i<;>cases((2 ^ 14-1:Nat)).testBit i<;>rfl
 have hl2:(fl % 16384 &&& 18446744073709141977)<16384:=Nat.lt_of_le_of_lt Nat.and_le_left (Nat.mod_lt _ (by omega))
 rw[Nat.mod_eq_of_lt hl2]at hm
 have hr:Zhk fl=Zba (Zba (Zba (Zba (Zba (Zba (fl/16384) 16) 8) 1*16384+fl % 16384) 32) 4) 2:=by
  unfold Zhk
  have hlt:=Nat.mod_lt fl (show 16384>0 by omega)
  conv=>lhs;rw[hs]
  rw[show(262144:Nat)=16*16384 from rfl,Zgu _ _ _ hlt,show(131072:Nat)=8*16384 from rfl,Zgu _ _ _ hlt]
  have:=Zgu (Zba (Zba (fl/16384) 16) 8) (fl % 16384) 1 hlt
  rw[Nat.one_mul]at this
  rw[this]
 rw[hr]
 by_cases h32:fl/16384<32
 ·have hhi:=Zmj _ h32
  cases hh:(Zba (Zba (Zba (fl/16384) 16) 8) 1==0) with
  | true=>
   rw[hh]at hhi
   have h0:Zba (Zba (Zba (fl/16384) 16) 8) 1=0:=by simpa using hh
   have h1:(fl/16384) &&& (18446744073709141977/16384)=0:=by simpa using hhi.symm
   rw[h0,Nat.zero_mul,Nat.zero_add,hlo]
   rw[h1]at hd
   rw[Bool.eq_iff_iff,beq_iff_eq,beq_iff_eq]
   omega
  | false=>
   rw[hh]at hhi
   have h0:Zba (Zba (Zba (fl/16384) 16) 8) 1 ≠ 0:=by simpa using hh
   have h1:(fl/16384) &&& (18446744073709141977/16384) ≠ 0:=by simpa using hhi.symm
   have e1:((fl &&& 18446744073709141977)==0)=false:=by
    rw[beq_eq_false_iff_ne]
    intro h2
    rw[h2]at hd
    exact h1 (by omega)
   rw[e1]
   symm
   exact ZkY (by omega)
 ·have h1:(fl/16384) &&& (18446744073709141977/16384) ≠ 0:=fun h2=>by
   have h3:((fl/16384) &&& (18446744073709141977/16384))/32=fl/16384/32:=by
    rw[show(32:Nat)=2 ^ 5 from rfl,<- Nat.shiftRight_eq_div_pow,<- Nat.shiftRight_eq_div_pow,Nat.shiftRight_and_distrib,Nat.shiftRight_eq_div_pow,Nat.shiftRight_eq_div_pow]
    rw[show(18446744073709141977/16384/2 ^ 5:Nat)=2 ^ 45-1 from by decide,Nat.and_two_pow_sub_one_eq_mod,Nat.mod_eq_of_lt (by omega)]
   rw[h2]at h3
   omega
  have e1:((fl &&& 18446744073709141977)==0)=false:=by
   rw[beq_eq_false_iff_ne]
   intro h2
   rw[h2]at hd
   exact h1 (by omega)
  rw[e1]
  symm
  have h4:=Zmk (y:=fl/16384) (by omega)
  exact ZkY (by omega)
end Go.Proofs.YtakblclkflnnpaaGreatDoor
end

/- Package primary: a sealed list, opened. -/
import Derived.Test.YtakblclkflnnpaaDoorG21
set_option linter.unusedVariables false
set_option linter.unusedSimpArgs false
section
open Go.RowKit Go.Pl Go.Av
namespace Go.Proofs.YtakblclkflnnpaaDoor
set_option maxHeartbeats 4000000
def ZdO (x:It)(a:Int):List It × Int:=match x with
 | .mk k n b l=>match Zaw (.mk k n b l)&&(k==4) with
  | false=>([],3)
  | true=>match decide (ZaU l a<0) with
   | true=>([],3)
   | false=>match ZaU l a==0 with
    | true=>(l,0)
    | false=>match l[l.length-1]? with
     | none=>([],3)
     | some (.mk k1 n1 b1 l1)=>match decide (((l.length-1:Nat):Int)<=a)||(!(It.beq (.mk k1 n1 b1 l1) (.mk 2 0 b1 []))||((b1.length:Int) != ((2*(ZaU l a).toNat:Nat):Int))) with
      | true=>([],3)
      | false=>match Zaw (ZaK (ZaU l a).toNat (l.take (l.length-1))) with
       | false=>([],3)
       | true=>match Zdu (ZaU l a).toNat (ZaX (ZaK (ZaU l a).toNat (l.take (l.length-1))))==b1 with
        | false=>([],10)
        | true=>(l.take (l.length-1),0)
abbrev Zmh (r:List It × Int):D:=.tup [.sl .ext (Zan r.1),.int .i64 r.2]
theorem Zdv:∀ {l:List It} (m:Nat),wfs l->wfs (l.take m)
 | _,0,_=>trivial
 | [],m+1,h=>h
 | x::l,m+1,h=>⟨h.1,Zdv m h.2⟩
theorem Zje [Known][KnownU8](x:It)(a:Int)(hw:wfI x)(hxl:x.l.length<=1000000)(hlim:∀ s m,s=1\/s=2->(ZaX (ZaK s (x.l.take m))).length<=1000000000):AP Tryd.prog 11 [itD x,.int .i64 a] (Zmh (ZdO x a)) []:=by
 have hR:=ZbJ x hw
 obtain⟨k,n,b,l⟩:=x
 have hws:wfs l:=hw.2.2.2
 have hlen:=Zal l
 have hU:=Zbs l
 dsimp only[It.l]at hxl hlim
 have hT:=Zem l hws a
 unfold ZdO
 dsimp only
 cases hr:Zaw (.mk k n b l) with
 | false=>
  rw[hr]at hR
  rw[Bool.false_and]
  refine AP.ofA ?_
  refine Zao Tryd.func11 rfl Tryd.ntmps11 rfl rfl ?_
  repeat'(first|(apply Zaa (hR);kernel_rfl;(iterate 4 exact Z))|(apply Zaj Zab;exact Z)|(apply Zah Zab;exact Z)|(apply Zay Zab;exact Z)|(apply Zaq;(iterate 3 exact Z);exact Qt)|(apply Zam;exact Z;exact Qt;exact Z;exact Z)|(apply Zac;exact Z;exact Qt))
  all_goals(apply Zaz [];(apply Zad Zab;exact Z);(iterate 4 exact Z))
  all_goals rfl
 | true=>
 rw[hr]at hR
 rw[Bool.true_and]
 cases tk:(k==4) with
 | false=>
  have tk2:(k != 4)=true:=by rw[bne,tk];rfl
  refine AP.ofA ?_
  refine Zao Tryd.func11 rfl Tryd.ntmps11 rfl rfl ?_
  repeat'(first|(apply Zaa (hR);kernel_rfl;(iterate 4 exact Z))|(apply Zaj Zab;exact Z)|(apply Zah Zab;exact Z)|(apply Zay Zab;exact Z)|(apply Zaf;(iterate 3 exact Z);exact Qt)|(apply Zai;exact Z;exact Qt;exact Z;exact Z)|(apply Zac;exact Z;exact Qt))
  all_goals(apply Zaz [];(apply Zad Zab;exact Z);(iterate 4 exact Z))
  all_goals rfl
 | true=>
 have tk2:(k != 4)=false:=by rw[bne,tk];rfl
 rcases ZbO l a with e|⟨e|e,h0,h1⟩
 ·rw[e]at hT ⊢
  refine AP.ofA ?_
  refine Zao Tryd.func11 rfl Tryd.ntmps11 rfl rfl ?_
  repeat'(first|(apply Zaa (hR);kernel_rfl;(iterate 4 exact Z))|(apply Zaa (hT);kernel_rfl;(iterate 4 exact Z))|(apply Zaj Zab;exact Z)|(apply Zah Zab;exact Z)|(apply Zay Zab;exact Z)|(apply Zaf;(iterate 3 exact Z);exact Qt)|(apply Zai;exact Z;exact Qt;exact Z;exact Z)|(apply Zac;exact Z;exact Qt)|(apply Zae;exact Z;exact Qt))
  all_goals(apply Zaz [];(apply Zad Zab;exact Z);(iterate 4 exact Z))
  all_goals rfl
 ·rw[e]at hT ⊢
  have hL:=Zb9 l (by omega) hws
  replace hL:AP Tryd.prog 31 [.sl .ext (Zan l)] (.agg [.int .i64 4,.int .u64 0,.sl .ext [],.sl .ext (Zan l)]) []:=hL
  refine AP.ofA ?_
  refine Zao Tryd.func11 rfl Tryd.ntmps11 rfl rfl ?_
  repeat'(first|(apply Zaa (hR);kernel_rfl;(iterate 4 exact Z))|(apply Zaa (hT);kernel_rfl;(iterate 4 exact Z))|(apply Zaa (hL);kernel_rfl;(iterate 4 exact Z))|(apply Zaj Zab;exact Z)|(apply Zah Zab;exact Z)|(apply Zay Zab;exact Z)|(apply Zaf;(iterate 3 exact Z);exact Qt)|(apply Zai;exact Z;exact Qt;exact Z;exact Z)|(apply Zac;exact Z;exact Qt)|(apply Zae;exact Z;exact Qt))
  all_goals(apply Zaz [];(apply Zad Zab;exact Z);(iterate 4 exact Z))
  all_goals rfl
 ·obtain⟨s,hs,es⟩:∃ s:Nat,(s=1\/s=2)/\ZaU l a=(s:Int):=⟨(ZaU l a).toNat,by omega,by omega⟩
  rw[es]at hT ⊢
  rw[Int.toNat_natCast]
  have d1:decide ((s:Int)<0)=false:=decide_eq_false (by omega)
  have d2:((s:Int)==0)=false:=by rw[beq_eq_false_iff_ne];omega
  rw[d1,d2]
  dsimp only
  obtain⟨m,hm⟩:∃ m,m=l.length-1:=⟨_,rfl⟩
  have em:IntKind.i64.wrap (((Zan l).length:Int)-1)=(m:Int):=by rw[IntWalk.i64_in _ (by omega)];omega
  rw[<- hm]
  obtain⟨⟨k1,n1,b1,l1⟩,hy⟩:∃ y,l[m]?=some y:=⟨_,List.getElem?_eq_getElem (by omega)⟩
  have hv:(Zan l)[((m:Nat):Int).toNat]?=some (.agg [.int .i64 k1,.int .u64 (n1:Int),.sl (b1.map E.byte),.sl (Zan l1)]):=by
   rw[Int.toNat_natCast,Zax,List.getElem?_map,hy];rfl
  rw[hy]
  dsimp only
  have hw1:=ZaM hws _ (List.mem_of_getElem? hy)
  have hbl:(b1.map E.byte).length=b1.length:=List.length_map ..
  have hB:=ZdT b1 (by have:=hw1.2.1;omega)
  have hS:=Zel (.mk k1 n1 b1 l1) hw1 (.mk 2 0 b1 []) ⟨by decide,by have:=hw1.2.1;omega,by simp,trivial⟩
  have hZ:=ZeS s hs
  rw[<- hbl]
  cases t1:decide ((m:Int)<=a) with
  | true=>
   rw[Bool.true_or]
   refine AP.ofA ?_
   refine Zao Tryd.func11 rfl Tryd.ntmps11 rfl rfl ?_
   repeat'(first|(apply Zaa (hR);kernel_rfl;(iterate 4 exact Z))|(apply Zaa (hT);kernel_rfl;(iterate 4 exact Z))|rw[em]|(apply Zaj Zab;exact Z)|(apply Zah Zab;exact Z)|(apply Zay Zab;exact Z)|(apply Zaf;(iterate 3 exact Z);exact Qt)|(apply Zaq;(iterate 3 exact Z);exact Qt)|(apply Zam;exact Z;exact Qt;exact Z;exact Z)|(apply Zai;exact Z;exact Qt;exact Z;exact Z)|(apply Zac;exact Z;exact Qt)|(apply Zae;exact Z;exact Qt)|(apply Zak Zab;(iterate 4 exact Z))|(apply Zap 17 ZaY;decide +kernel;kernel_rfl;kernel_rfl;kernel_rfl;exact Z;exact Z)|(apply Zas;(iterate 4 exact Z))|exact AE.nil _ _ _ _|(apply Zau;exact Z)|(apply ZaA;exact Z;exact Z;decide +kernel;exact Z)|(apply ZaB;exact Z)|exact AO.nil _ _ _|(apply Zar;(decide +kernel))|exact AOs.nil|exact ZaN rfl rfl|(apply Zat Zab;(iterate 6 exact Z);(first|exact Qt|rotate_left);(first|with_reducible assumption|decide +kernel|exact Z);(first|exact Zag rfl|with_reducible assumption|decide +kernel|rotate_left)))
   all_goals(apply Zaz [];(apply Zad Zab;exact Z);(iterate 4 exact Z))
   all_goals rfl
  | false=>
  rw[Bool.false_or]
  cases t2:It.beq (.mk k1 n1 b1 l1) (.mk 2 0 b1 []) with
  | false=>
   rw[t2]at hS
   rw[Bool.not_false,Bool.true_or]
   refine AP.ofA ?_
   refine Zao Tryd.func11 rfl Tryd.ntmps11 rfl rfl ?_
   repeat'(first|(apply Zaa (hR);kernel_rfl;(iterate 4 exact Z))|(apply Zaa (hT);kernel_rfl;(iterate 4 exact Z))|rw[em]|(apply Zaa (hB);kernel_rfl;(iterate 4 exact Z))|(apply Zaa (hS);kernel_rfl;(iterate 4 exact Z))|(apply Zaj Zab;exact Z)|(apply Zah Zab;exact Z)|(apply Zay Zab;exact Z)|(apply Zaf;(iterate 3 exact Z);exact Qt)|(apply Zaq;(iterate 3 exact Z);exact Qt)|(apply Zam;exact Z;exact Qt;exact Z;exact Z)|(apply Zai;exact Z;exact Qt;exact Z;exact Z)|(apply Zac;exact Z;exact Qt)|(apply Zae;exact Z;exact Qt)|(apply Zak Zab;(iterate 4 exact Z))|(apply Zap 17 ZaY;decide +kernel;kernel_rfl;kernel_rfl;kernel_rfl;exact Z;exact Z)|(apply Zas;(iterate 4 exact Z))|exact AE.nil _ _ _ _|(apply Zau;exact Z)|(apply ZaA;exact Z;exact Z;decide +kernel;exact Z)|(apply ZaB;exact Z)|exact AO.nil _ _ _|(apply Zar;(decide +kernel))|exact AOs.nil|exact ZaN rfl rfl|(apply Zat Zab;(iterate 6 exact Z);(first|exact Qt|rotate_left);(first|with_reducible assumption|decide +kernel|exact Z);(first|exact Zag rfl|with_reducible assumption|decide +kernel|rotate_left)))
   all_goals(apply Zaz [];(apply Zad Zab;exact Z);(iterate 4 exact Z))
   all_goals rfl
  | true=>
  rw[t2]at hS
  rw[Bool.not_true,Bool.false_or]
  cases t3:(((b1.map E.byte).length:Int) != ((2*s:Nat):Int)) with
  | true=>
   refine AP.ofA ?_
   refine Zao Tryd.func11 rfl Tryd.ntmps11 rfl rfl ?_
   repeat'(first|(apply Zaa (hR);kernel_rfl;(iterate 4 exact Z))|(apply Zaa (hT);kernel_rfl;(iterate 4 exact Z))|rw[em]|(apply Zaa (hB);kernel_rfl;(iterate 4 exact Z))|(apply Zaa (hS);kernel_rfl;(iterate 4 exact Z))|(apply Zaa (hZ);kernel_rfl;(iterate 4 exact Z))|(apply Zaj Zab;exact Z)|(apply Zah Zab;exact Z)|(apply Zay Zab;exact Z)|(apply Zaf;(iterate 3 exact Z);exact Qt)|(apply Zai;exact Z;exact Qt;exact Z;exact Z)|(apply Zac;exact Z;exact Qt)|(apply Zae;exact Z;exact Qt)|(apply Zak Zab;(iterate 4 exact Z))|(apply Zap 17 ZaY;decide +kernel;kernel_rfl;kernel_rfl;kernel_rfl;exact Z;exact Z)|(apply Zas;(iterate 4 exact Z))|exact AE.nil _ _ _ _|(apply Zau;exact Z)|(apply ZaA;exact Z;exact Z;decide +kernel;exact Z)|(apply ZaB;exact Z)|exact AO.nil _ _ _|(apply Zar;(decide +kernel))|exact AOs.nil|exact ZaN rfl rfl|(apply Zat Zab;(iterate 6 exact Z);(first|exact Qt|rotate_left);(first|with_reducible assumption|decide +kernel|exact Z);(first|exact Zag rfl|with_reducible assumption|decide +kernel|rotate_left)))
   all_goals(apply Zaz [];(apply Zad Zab;exact Z);(iterate 4 exact Z))
   all_goals rfl
  | false=>
  dsimp only
  have hne:l.take m ≠ []:=by
   intro h
   have h9:=congrArg List.length h
   rw[List.length_take,List.length_nil]at h9
   have:=of_decide_eq_false t1
   omega
  have htl:(l.take m).length<=1000000:=by rw[List.length_take];omega
  have hSu:=Zfk (l.take m) s hs hne (Zdv m hws) htl (hlim s m hs)
  have eT:Zan (l.take m)=(Zan l).take m:=by rw[Zax,Zax,List.map_take]
  have hmle:((m:Nat):Int).toNat<=(Zan l).length:=by rw[Int.toNat_natCast];omega
  rw[eT]at hSu
  cases hz:Zaw (ZaK s (l.take m)) with
  | false=>
   rw[hz]at hSu
   dsimp only at hSu
   refine AP.ofA ?_
   refine Zao Tryd.func11 rfl Tryd.ntmps11 rfl rfl ?_
   repeat'(first|(apply Zaa (hR);kernel_rfl;(iterate 4 exact Z))|(apply Zaa (hT);kernel_rfl;(iterate 4 exact Z))|rw[em]|(apply Zaa (hB);kernel_rfl;(iterate 4 exact Z))|(apply Zaa (hS);kernel_rfl;(iterate 4 exact Z))|(apply Zaa (hZ);kernel_rfl;(iterate 4 exact Z))|(apply Zaa (hSu);kernel_rfl;(iterate 4 exact Z))|(apply Zc3 Zab;(iterate 6 exact Z);exact hU;exact Int.natCast_nonneg _;exact hmle;exact Z)|(apply Zaj Zab;exact Z)|(apply Zah Zab;exact Z)|(apply Zay Zab;exact Z)|(apply Zaf;(iterate 3 exact Z);exact Qt)|(apply Zai;exact Z;exact Qt;exact Z;exact Z)|(apply Zac;exact Z;exact Qt)|(apply Zae;exact Z;exact Qt)|(apply Zak Zab;(iterate 4 exact Z))|(apply Zap 17 ZaY;decide +kernel;kernel_rfl;kernel_rfl;kernel_rfl;exact Z;exact Z)|(apply Zas;(iterate 4 exact Z))|exact AE.nil _ _ _ _|(apply Zau;exact Z)|(apply ZaA;exact Z;exact Z;decide +kernel;exact Z)|(apply ZaB;exact Z)|exact AO.nil _ _ _|(apply Zar;(decide +kernel))|exact AOs.nil|exact ZaN rfl rfl|(apply Zat Zab;(iterate 6 exact Z);(first|exact Qt|rotate_left);(first|with_reducible assumption|decide +kernel|exact Z);(first|exact Zag rfl|with_reducible assumption|decide +kernel|rotate_left)))
   all_goals(apply Zaz [];(apply Zad Zab;exact Z);(iterate 4 exact Z))
   all_goals rfl
  | true=>
  rw[hz]at hSu
  dsimp only at hSu ⊢
  generalize Zdu s (ZaX (ZaK s (l.take m)))=SB at *
  have hE:=ZkD SB b1
  cases t4:(SB==b1) with
  | false=>
   rw[t4]at hE
   refine AP.ofA ?_
   refine Zao Tryd.func11 rfl Tryd.ntmps11 rfl rfl ?_
   repeat'(first|(apply Zaa (hR);kernel_rfl;(iterate 4 exact Z))|(apply Zaa (hT);kernel_rfl;(iterate 4 exact Z))|rw[em]|(apply Zaa (hB);kernel_rfl;(iterate 4 exact Z))|(apply Zaa (hS);kernel_rfl;(iterate 4 exact Z))|(apply Zaa (hZ);kernel_rfl;(iterate 4 exact Z))|(apply Zaa (hSu);kernel_rfl;(iterate 4 exact Z))|(apply Zaa (hE);kernel_rfl;(iterate 4 exact Z))|(apply Zc3 Zab;(iterate 6 exact Z);exact hU;exact Int.natCast_nonneg _;exact hmle;exact Z)|(apply Zaj Zab;exact Z)|(apply Zah Zab;exact Z)|(apply Zay Zab;exact Z)|(apply Zaf;(iterate 3 exact Z);exact Qt)|(apply Zai;exact Z;exact Qt;exact Z;exact Z)|(apply Zac;exact Z;exact Qt)|(apply Zae;exact Z;exact Qt)|(apply Zak Zab;(iterate 4 exact Z))|(apply Zap 17 ZaY;decide +kernel;kernel_rfl;kernel_rfl;kernel_rfl;exact Z;exact Z)|(apply Zas;(iterate 4 exact Z))|exact AE.nil _ _ _ _|(apply Zau;exact Z)|(apply ZaA;exact Z;exact Z;decide +kernel;exact Z)|(apply ZaB;exact Z)|exact AO.nil _ _ _|(apply Zar;(decide +kernel))|exact AOs.nil|exact ZaN rfl rfl|(apply Zat Zab;(iterate 6 exact Z);(first|exact Qt|rotate_left);(first|with_reducible assumption|decide +kernel|exact Z);(first|exact Zag rfl|with_reducible assumption|decide +kernel|rotate_left)))
   all_goals(apply Zaz [];(apply Zad Zab;exact Z);(iterate 4 exact Z))
   all_goals rfl
  | true=>
   rw[t4]at hE
   have hL:=Zb9 (l.take m) (by omega) (Zdv m hws)
   rw[eT]at hL
   replace hL:AP Tryd.prog 31 [.sl .ext ((Zan l).take m)] (.agg [.int .i64 4,.int .u64 0,.sl .ext [],.sl .ext (Zan (l.take m))]) []:=hL
   refine AP.ofA ?_
   refine Zao Tryd.func11 rfl Tryd.ntmps11 rfl rfl ?_
   repeat'(first|(apply Zaa (hR);kernel_rfl;(iterate 4 exact Z))|(apply Zaa (hT);kernel_rfl;(iterate 4 exact Z))|rw[em]|(apply Zaa (hB);kernel_rfl;(iterate 4 exact Z))|(apply Zaa (hS);kernel_rfl;(iterate 4 exact Z))|(apply Zaa (hZ);kernel_rfl;(iterate 4 exact Z))|(apply Zaa (hSu);kernel_rfl;(iterate 4 exact Z))|(apply Zaa (hE);kernel_rfl;(iterate 4 exact Z))|(apply Zaa (hL);kernel_rfl;(iterate 4 exact Z))|(apply Zc3 Zab;(iterate 6 exact Z);exact hU;exact Int.natCast_nonneg _;exact hmle;exact Z)|(apply Zaj Zab;exact Z)|(apply Zah Zab;exact Z)|(apply Zay Zab;exact Z)|(apply Zaf;(iterate 3 exact Z);exact Qt)|(apply Zai;exact Z;exact Qt;exact Z;exact Z)|(apply Zae;exact Z;exact Qt)|(apply Zak Zab;(iterate 4 exact Z))|(apply Zap 17 ZaY;decide +kernel;kernel_rfl;kernel_rfl;kernel_rfl;exact Z;exact Z)|(apply Zas;(iterate 4 exact Z))|exact AE.nil _ _ _ _|(apply Zau;exact Z)|(apply ZaA;exact Z;exact Z;decide +kernel;exact Z)|(apply ZaB;exact Z)|exact AO.nil _ _ _|(apply Zar;(decide +kernel))|exact AOs.nil|exact ZaN rfl rfl|(apply Zat Zab;(iterate 6 exact Z);(first|exact Qt|rotate_left);(first|with_reducible assumption|decide +kernel|exact Z);(first|exact Zag rfl|with_reducible assumption|decide +kernel|rotate_left)))
   all_goals(apply Zaz [];(apply Zad Zab;exact Z);(iterate 4 exact Z))
   all_goals rfl
end Go.Proofs.YtakblclkflnnpaaDoor
end

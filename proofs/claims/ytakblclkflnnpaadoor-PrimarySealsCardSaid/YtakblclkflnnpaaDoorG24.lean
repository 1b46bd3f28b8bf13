/- The document's opening of sealed items (dqgen.py). -/
import Derived.Test.YtakblclkflnnpaaDoorG23
import Derived.Test.YtakblclkflnnpaaDoorG22
import Derived.Test.YtakblclkflnnpaaDoorG17
import Derived.Test.YtakblclkflnnpaaDoorG11
import Derived.Test.YtakblclkflnnpaaDoorG16
import Derived.Test.YtakblclkflnnpaaDoorG18
import Derived.Test.YtakblclkflnnpaaDoorG14
import Derived.Test.YtakblclkflnnpaaDoorG20
import Derived.Test.YtakblclkflnnpaaDoorG15
import Derived.Test.YtakblclkflnnpaaDoorG08
import Derived.Lib.Strings
import Derived.Lib.Slices
import Derived.Lib.Walk
import Derived.Lib.Bytealg
import Derived.Test.YtakblclkflnnpaaDoorG07
import Derived.LaidEql
set_option linter.unusedVariables false
set_option linter.unusedSimpArgs false
section
open Go.RowKit Go.Pl Go.Av
namespace Go.Proofs.YtakblclkflnnpaaDoor
set_option maxHeartbeats 4000000
theorem Ze0:∀(l:List It) (m:Nat),Za6 (l.take m)<=Za6 l
 | _,0=>by simp[Za6]
 | [],m+1=>by simp[Za6]
 | x::l,m+1=>by rw[List.take_succ_cons,Za6,Za6];have:=Ze0 l m;omega
theorem Zki {l:List It}{s:Nat}(hs:s<=2)(hws:wfs l)(hl:l.length<=1000000):wfI (Zbx l s).1:=by
 match s,hs with
 | 0,_=>exact⟨by show(0:Nat)<_;decide,by show([]:List UInt8).length<=_;simp,by show l.length<=_;omega,hws⟩
 | s+1,hs=>
  unfold Zbx
  dsimp only
  cases Zaw (ZaK (s+1) l) with
  | false=>exact⟨by decide,by simp,by simp,trivial⟩
  | true=>exact Zjc (by omega) hws hl
theorem Zjf [Known][KnownU8](x:It)(a:Int)(hw:wfI x)(hxl:x.l.length<=1000000)(hsz:Za6 x.l<=900)(hlim:∀ s m,s<=2->(ZaX (ZaK s (x.l.take m))).length<=1000000000):AP Tryd.prog 12 [itD x,.int .i64 a] (Zmh (Zkg x a)) []:=by
 obtain⟨k,n,b,l⟩:=x
 dsimp only[It.l]at hxl hsz hlim
 have hws:wfs l:=hw.2.2.2
 have hR:=ZcV (.mk k n b l) hw (by rw[Zbq];omega)
 have hK:=Zhw l hws (by omega) a
 have hlen:=Zal l
 have hU:=Zbs l
 unfold Zkg
 dsimp only
 cases hr:Zaw (.mk k n b l) with
 | false=>
  rw[hr]at hR
  refine AP.ofA ?_
  refine Zao Tryd.func12 rfl Tryd.ntmps12 rfl rfl ?_
  repeat'(first|(apply Zaa (hR);kernel_rfl;(iterate 4 exact Z))|(apply Zaj Zab;exact Z)|(apply Zah Zab;exact Z)|(apply Zay Zab;exact Z)|(apply Zaq;(iterate 3 exact Z);exact Qt)|(apply Zam;exact Z;exact Qt;exact Z;exact Z)|(apply Zac;exact Z;exact Qt))
  all_goals(apply Zaz [];(apply Zad Zab;exact Z);(iterate 4 exact Z))
  all_goals rfl
 | true=>
 rw[hr]at hR
 cases tk:(k==4) with
 | false=>
  have tk':(k != 4)=true:=by rw[bne,tk];rfl
  refine AP.ofA ?_
  refine Zao Tryd.func12 rfl Tryd.ntmps12 rfl rfl ?_
  repeat'(first|(apply Zaa (hR);kernel_rfl;(iterate 4 exact Z))|(apply Zaj Zab;exact Z)|(apply Zah Zab;exact Z)|(apply Zay Zab;exact Z)|(apply Zaf;(iterate 3 exact Z);exact Qt)|(apply Zaq;(iterate 3 exact Z);exact Qt)|(apply Zam;exact Z;exact Qt;exact Z;exact Z)|(apply Zai;exact Z;exact Qt;exact Z;exact Z)|(apply Zac;exact Z;exact Qt))
  all_goals(apply Zaz [];(apply Zad Zab;exact Z);(iterate 4 exact Z))
  all_goals rfl
 | true=>
 have tk':(k != 4)=false:=by rw[bne,tk];rfl
 cases t1:decide (ZaU l a ≥ 0) with
 | false=>
  have t1':decide (ZaU l a<0)=true:=decide_eq_true (by have:=of_decide_eq_false t1;omega)
  generalize ZaU l a=T at *
  refine AP.ofA ?_
  refine Zao Tryd.func12 rfl Tryd.ntmps12 rfl rfl ?_
  repeat'(first|(apply Zaa (hR);kernel_rfl;(iterate 4 exact Z))|(apply Zaa (hK);kernel_rfl;(iterate 4 exact Z))|(apply Zaj Zab;exact Z)|(apply Zah Zab;exact Z)|(apply Zay Zab;exact Z)|(apply Zaf;(iterate 3 exact Z);exact Qt)|(apply Zai;exact Z;exact Qt;exact Z;exact Z)|(apply Zac;exact Z;exact Qt))
  all_goals(apply Zaz [];(apply Zad Zab;exact Z);(iterate 4 exact Z))
  all_goals rfl
 | true=>
 have t1':decide (ZaU l a<0)=false:=decide_eq_false (by have:=of_decide_eq_true t1;omega)
 cases t2:(ZaU l a==0) with
 | true=>
  generalize ZaU l a=T at *
  refine AP.ofA ?_
  refine Zao Tryd.func12 rfl Tryd.ntmps12 rfl rfl ?_
  repeat'(first|(apply Zaa (hR);kernel_rfl;(iterate 4 exact Z))|(apply Zaa (hK);kernel_rfl;(iterate 4 exact Z))|(apply Zaj Zab;exact Z)|(apply Zah Zab;exact Z)|(apply Zay Zab;exact Z)|(apply Zaf;(iterate 3 exact Z);exact Qt)|(apply Zai;exact Z;exact Qt;exact Z;exact Z)|(apply Zac;exact Z;exact Qt)|(apply Zae;exact Z;exact Qt))
  all_goals(apply Zaz [];(apply Zad Zab;exact Z);(iterate 4 exact Z))
  all_goals rfl
 | false=>
 have hT:=ZbO l a
 have hs:∃ s:Nat,ZaU l a=(s:Int)/\s<=2/\0<=a/\a<(l.length:Int):=by
  have h0:=of_decide_eq_true t1
  rcases hT with h|⟨h,h1,h2⟩
  ·omega
  ·exact⟨(ZaU l a).toNat,by omega,by omega,h1,h2⟩
 obtain⟨s,es,hs2,h0,hal⟩:=hs
 rw[es]at hK t1' t2 ⊢
 rw[Int.toNat_natCast]
 clear hT t1 es
 have e1:IntKind.i64.wrap (((Zan l).length:Int)-1)=((l.length-1:Nat):Int):=by rw[IntWalk.i64_in _ (by omega)];omega
 have e2:IntKind.i64.wrap (2*(s:Int))=((2*s:Nat):Int):=by rw[IntWalk.i64_in _ (by omega)];omega
 obtain⟨y,hy⟩:∃ y,l[l.length-1]?=some y:=⟨_,List.getElem?_eq_getElem (by omega)⟩
 rw[hy]
 obtain⟨k1,n1,b1,l1⟩:=y
 have hv:(Zan l)[((l.length-1:Nat):Int).toNat]?=some (.agg [.int .i64 k1,.int .u64 (n1:Int),.sl (b1.map E.byte),.sl (Zan l1)]):=by
  rw[Int.toNat_natCast,Zax,List.getElem?_map,hy]
  rfl
 have hp0:(0:Int)<=((l.length-1:Nat):Int):=Int.natCast_nonneg _
 dsimp only
 have hbl:(b1.length:Int)=((b1.map E.byte).length:Int):=by rw[List.length_map]
 rw[hbl]
 cases t3:decide (((l.length-1:Nat):Int)<=a) with
 | true=>
  refine AP.ofA ?_
  refine Zao Tryd.func12 rfl Tryd.ntmps12 rfl rfl ?_
  repeat'(first|(apply Zaa (hR);kernel_rfl;(iterate 4 exact Z))|(apply Zaa (hK);kernel_rfl;(iterate 4 exact Z))|rw[e1]|(apply Zaj Zab;exact Z)|(apply Zah Zab;exact Z)|(apply Zay Zab;exact Z)|(apply Zaf;(iterate 3 exact Z);exact Qt)|(apply Zaq;(iterate 3 exact Z);exact Qt)|(apply Zam;exact Z;exact Qt;exact Z;exact Z)|(apply Zai;exact Z;exact Qt;exact Z;exact Z)|(apply Zac;exact Z;exact Qt)|(apply Zae;exact Z;exact Qt)|(apply Zak Zab;(iterate 4 exact Z)))
  all_goals(apply Zaz [];(apply Zad Zab;exact Z);(iterate 4 exact Z))
  all_goals rfl
 | false=>
 cases t4:(k1 != 2) with
 | true=>
  refine AP.ofA ?_
  refine Zao Tryd.func12 rfl Tryd.ntmps12 rfl rfl ?_
  repeat'(first|(apply Zaa (hR);kernel_rfl;(iterate 4 exact Z))|(apply Zaa (hK);kernel_rfl;(iterate 4 exact Z))|rw[e1]|(apply Zaj Zab;exact Z)|(apply Zah Zab;exact Z)|(apply Zay Zab;exact Z)|(apply Zaf;(iterate 3 exact Z);exact Qt)|(apply Zaq;(iterate 3 exact Z);exact Qt)|(apply Zam;exact Z;exact Qt;exact Z;exact Z)|(apply Zai;exact Z;exact Qt;exact Z;exact Z)|(apply Zac;exact Z;exact Qt)|(apply Zae;exact Z;exact Qt)|(apply Zak Zab;(iterate 4 exact Z))|(apply Zat Zab;(iterate 6 exact Z);(first|exact Qt|rotate_left);(first|with_reducible assumption|decide +kernel|exact Z);(first|exact Zag rfl|with_reducible assumption|decide +kernel|rotate_left)))
  all_goals(apply Zaz [];(apply Zad Zab;exact Z);(iterate 4 exact Z))
  all_goals rfl
 | false=>
 cases t5:(((b1.map E.byte).length:Int) != ((2*s:Nat):Int)) with
 | true=>
  refine AP.ofA ?_
  refine Zao Tryd.func12 rfl Tryd.ntmps12 rfl rfl ?_
  repeat'(first|(apply Zaa (hR);kernel_rfl;(iterate 4 exact Z))|(apply Zaa (hK);kernel_rfl;(iterate 4 exact Z))|rw[e1]|rw[e2]|(apply Zaj Zab;exact Z)|(apply Zah Zab;exact Z)|(apply Zay Zab;exact Z)|(apply Zaf;(iterate 3 exact Z);exact Qt)|(apply Zai;exact Z;exact Qt;exact Z;exact Z)|(apply Zac;exact Z;exact Qt)|(apply Zae;exact Z;exact Qt)|(apply Zak Zab;(iterate 4 exact Z))|(apply Zat Zab;(iterate 6 exact Z);(first|exact Qt|rotate_left);(first|with_reducible assumption|decide +kernel|exact Z);(first|exact Zag rfl|with_reducible assumption|decide +kernel|rotate_left)))
  all_goals(apply Zaz [];(apply Zad Zab;exact Z);(iterate 4 exact Z))
  all_goals rfl
 | false=>
 have hS:=ZeY (l.take (l.length-1)) s hs2 (Zdv _ hws) (by rw[List.length_take];omega) (by have:=Ze0 l (l.length-1);omega) (hlim s (l.length-1) hs2)
 have hwS:wfI (Zbx (l.take (l.length-1)) s).1:=Zki hs2 (Zdv _ hws) (by rw[List.length_take];omega)
 have hM:=Zb2 (.mk k n b l) hw _ hwS
 have hI:(Zan l).take ((l.length-1:Nat):Int).toNat=Zan (l.take (l.length-1)):=by rw[Int.toNat_natCast,Zax,Zax,List.map_take]
 have hle:((l.length-1:Nat):Int).toNat<=(Zan l).length:=by rw[Int.toNat_natCast];omega
 generalize Zbx (l.take (l.length-1)) s=S at *
 obtain⟨⟨k3,n3,b3,l3⟩,ok⟩:=S
 dsimp only at hS hM ⊢
 cases ok with
 | false=>
  refine AP.ofA ?_
  refine Zao Tryd.func12 rfl Tryd.ntmps12 rfl rfl ?_
  repeat'(first|(apply Zaa (hR);kernel_rfl;(iterate 4 exact Z))|(apply Zaa (hK);kernel_rfl;(iterate 4 exact Z))|(apply Zaa (hS);kernel_rfl;(iterate 4 exact Z))|rw[e1]|rw[e2]|(apply Zc3 Zab;(iterate 6 exact Z);exact hU;exact Int.natCast_nonneg _;exact hle;exact hI)|(apply Zaj Zab;exact Z)|(apply Zah Zab;exact Z)|(apply Zay Zab;exact Z)|(apply Zaf;(iterate 3 exact Z);exact Qt)|(apply Zaq;(iterate 3 exact Z);exact Qt)|(apply Zam;exact Z;exact Qt;exact Z;exact Z)|(apply Zai;exact Z;exact Qt;exact Z;exact Z)|(apply Zac;exact Z;exact Qt)|(apply Zae;exact Z;exact Qt)|(apply Zak Zab;(iterate 4 exact Z))|(apply Zat Zab;(iterate 6 exact Z);(first|exact Qt|rotate_left);(first|with_reducible assumption|decide +kernel|exact Z);(first|exact Zag rfl|with_reducible assumption|decide +kernel|rotate_left)))
  all_goals(apply Zaz [];(apply Zad Zab;exact Z);(iterate 4 exact Z))
  all_goals rfl
 | true=>
 cases t6:It.beq (.mk k n b l) (.mk k3 n3 b3 l3) with
 | false=>
  rw[t6]at hM
  refine AP.ofA ?_
  refine Zao Tryd.func12 rfl Tryd.ntmps12 rfl rfl ?_
  repeat'(first|(apply Zaa (hR);kernel_rfl;(iterate 4 exact Z))|(apply Zaa (hK);kernel_rfl;(iterate 4 exact Z))|(apply Zaa (hS);kernel_rfl;(iterate 4 exact Z))|(apply Zaa (hM);kernel_rfl;(iterate 4 exact Z))|rw[e1]|rw[e2]|(apply Zc3 Zab;(iterate 6 exact Z);exact hU;exact Int.natCast_nonneg _;exact hle;exact hI)|(apply Zaj Zab;exact Z)|(apply Zah Zab;exact Z)|(apply Zay Zab;exact Z)|(apply Zaf;(iterate 3 exact Z);exact Qt)|(apply Zai;exact Z;exact Qt;exact Z;exact Z)|(apply Zac;exact Z;exact Qt)|(apply Zae;exact Z;exact Qt)|(apply Zak Zab;(iterate 4 exact Z))|(apply Zat Zab;(iterate 6 exact Z);(first|exact Qt|rotate_left);(first|with_reducible assumption|decide +kernel|exact Z);(first|exact Zag rfl|with_reducible assumption|decide +kernel|rotate_left)))
  all_goals(apply Zaz [];(apply Zad Zab;exact Z);(iterate 4 exact Z))
  all_goals rfl
 | true=>
  rw[t6]at hM
  refine AP.ofA ?_
  refine Zao Tryd.func12 rfl Tryd.ntmps12 rfl rfl ?_
  repeat'(first|(apply Zaa (hR);kernel_rfl;(iterate 4 exact Z))|(apply Zaa (hK);kernel_rfl;(iterate 4 exact Z))|(apply Zaa (hS);kernel_rfl;(iterate 4 exact Z))|(apply Zaa (hM);kernel_rfl;(iterate 4 exact Z))|rw[e1]|rw[e2]|(apply Zc3 Zab;(iterate 6 exact Z);exact hU;exact Int.natCast_nonneg _;exact hle;exact hI)|(apply Zaj Zab;exact Z)|(apply Zah Zab;exact Z)|(apply Zay Zab;exact Z)|(apply Zaf;(iterate 3 exact Z);exact Qt)|(apply Zai;exact Z;exact Qt;exact Z;exact Z)|(apply Zae;exact Z;exact Qt)|(apply Zak Zab;(iterate 4 exact Z))|(apply Zat Zab;(iterate 6 exact Z);(first|exact Qt|rotate_left);(first|with_reducible assumption|decide +kernel|exact Z);(first|exact Zag rfl|with_reducible assumption|decide +kernel|rotate_left)))
  all_goals(apply Zaz [];(apply Zad Zab;exact Z);(iterate 4 exact Z))
  all_goals rfl
abbrev nmE (n:Nat):E:=.agg [.int .i64 0,.int .u64 (n:Int),.sl [],.sl []]
def Ze1 (c:UInt8):List UInt8->List UInt8 × List UInt8 × Bool
 | []=>([],[],false)
 | x::s=>if x=c then([],s,true) else(x::(Ze1 c s).1,(Ze1 c s).2.1,(Ze1 c s).2.2)
theorem Zjg {c:UInt8}:∀ {s:List UInt8},c ∉ s->Ze1 c s=(s,[],false)
 | [],_=>rfl
 | x::s,h=>by
  have h1:¬ x=c:=fun e=>h (by rw[e];exact List.mem_cons_self ..)
  have h2:=Zjg (c:=c) (s:=s) fun hm=>h (List.mem_cons_of_mem _ hm)
  rw[Ze1,if_neg h1,h2]
theorem Zhy {c:UInt8}:∀ {a b:List UInt8},c ∉ a->Ze1 c (a++c::b)=(a,b,true)
 | [],b,_=>by rw[List.nil_append,Ze1,if_pos rfl]
 | x::a,b,h=>by
  have h1:¬ x=c:=fun e=>h (by rw[e];exact List.mem_cons_self ..)
  have h2:=Zhy (c:=c) (a:=a) (b:=b) fun hm=>h (List.mem_cons_of_mem _ hm)
  rw[List.cons_append,Ze1,if_neg h1,h2]
def Zgb (p s:List UInt8):List UInt8 × Bool:=if s.take p.length==p then(s.drop p.length,true) else(s,false)
theorem Zkj (p r:List UInt8):Zgb p (p++r)=(r,true):=by
 unfold Zgb
 rw[List.take_left,beq_self_eq_true,if_pos rfl,List.drop_left]
theorem Zly {p s:List UInt8}(h:(s.take p.length==p)=false):Zgb p s=(s,false):=by
 unfold Zgb;rw[h];rfl
def ppV (s:List UInt8):EidV × Bool:=
 (⟨false,0,0,(Ze1 47 (Zgb [47,47] s).1).1,(Ze1 47 (Zgb [47,47] s).1).2.1⟩,(Zgb [47,47] s).2&&((Ze1 47 (Zgb [47,47] s).1).2.2&&((Ze1 47 (Zgb [47,47] s).1).1 != []&&Zbh ⟨false,0,0,(Ze1 47 (Zgb [47,47] s).1).1,(Ze1 47 (Zgb [47,47] s).1).2.1⟩)))
set_option maxRecDepth 100000 in
theorem Zkk (s:ByteArray)(c:Int)(w:World):Calls Tryd.prog 129 #[.string s,.int .u8 c] w fun e w'=>e=.returned (.int .i64 (Lib.indexByte s.data.toList c.toNat.toUInt8))/\w'=w:=by
 go_enter Tryd.func129,Tryd.ntmps129
 go_wp2
 rw[run_callFunc_extern Tryd.func133 (by kernel_rfl) (by kernel_rfl) (by kernel_rfl) (e:=Extern.BytealgIndexByte.indexByte) (by kernel_rfl),Lib.run_indexByteString]
 simp only[Result.andThen]
 rw[Oper.upon_value]
 go_wp2
 go_ret
 exact⟨rfl,rfl⟩
theorem Zmi [Known](s:List UInt8)(c:Int):AP Tryd.prog 129 [.str s,.int .u8 c] (.int .i64 (Lib.indexByte s c.toNat.toUInt8)) []:=by
 refine⟨fun g w vs hmem hl hv=>?_⟩
 obtain⟨v0,v1,rfl⟩:∃ v0 v1,vs=[v0,v1]:=by
  match vs,hl with
  | [v0,v1],_=>exact⟨v0,v1,rfl⟩
 have h0:=(hv 0 _ _ rfl rfl).str_inv.1
 have h1:=(hv 1 _ _ rfl rfl).int_inv
 subst h0 h1
 exact(Zkk ⟨s.toArray⟩ c w).mono fun e w' ⟨he,hb⟩=>ZgZ hmem (hb ▸ Below.refl _ _) he (.int _ _)
theorem Zgc [Known](s p:List UInt8)(hs:s.length<=4611686018427387904)(hp:p.length<=4611686018427387904):AP Tryd.prog 126 [.str s,.str p] (.bool (s.take p.length==p)) []:=by
 by_cases h:p.length<=s.length
 ·have t1:decide ((s.length:Int) ≥ (p.length:Int))=true:=decide_eq_true (by omega)
  have hq:((p.length:Nat):Int).toNat<=s.length:=by rw[Int.toNat_natCast];exact h
  have hs2:(s.take ((p.length:Nat):Int).toNat).drop 0=s.take p.length:=by rw[Int.toNat_natCast,List.drop_zero]
  generalize s.take p.length=s2 at *
  refine AP.ofA ?_
  refine Zao Tryd.func126 rfl Tryd.ntmps126 rfl rfl ?_
  repeat'(first|(apply Zdm Zab;(iterate 4 exact Z);exact .dft _;exact .lit _ _ _ _ rfl (Int.natCast_nonneg _);exact Nat.zero_le _;exact hq;exact hs2)|(apply Zaj Zab;exact Z)|(apply Zah Zab;exact Z)|(apply Zaf;(iterate 3 exact Z);exact Qt)|(apply Zam;exact Z;exact Qt;exact Z;exact Z)|(apply Zda Zab;(iterate 4 exact Z)))
  all_goals(apply Zaz [];(apply Zad Zab;exact Z);(iterate 4 exact Z))
  all_goals rfl
 ·have t1:decide ((s.length:Int) ≥ (p.length:Int))=false:=decide_eq_false (by omega)
  have e:(s.take p.length==p)=false:=by
   rw[beq_eq_false_iff_ne]
   intro e
   have:=congrArg List.length e
   rw[List.length_take]at this
   omega
  rw[e]
  refine AP.ofA ?_
  refine Zao Tryd.func126 rfl Tryd.ntmps126 rfl rfl ?_
  repeat'(first|(apply Zaj Zab;exact Z)|(apply Zah Zab;exact Z)|(apply Zav;(iterate 3 exact Z);exact Qt)|(apply Zai;exact Z;exact Qt;exact Z;exact Z)|(apply Zda Zab;(iterate 4 exact Z)))
  all_goals(apply Zaz [];(apply Zad Zab;exact Z);(iterate 4 exact Z))
  all_goals rfl
theorem ZhY [Known](p r:List UInt8)(hs:(p++r).length<=4611686018427387904):AP Tryd.prog 99 [.str (p++r),.str p] (.tup [.str r,.bool true]) []:=by
 have hH:=Zgc (p++r) p hs (by rw[List.length_append]at hs;omega)
 rw[List.take_left,beq_self_eq_true]at hH
 have hq:((p.length:Nat):Int).toNat<=(p++r).length:=by rw[Int.toNat_natCast,List.length_append];omega
 have hs2:((p++r).take (p++r).length).drop ((p.length:Nat):Int).toNat=r:=by rw[Int.toNat_natCast,List.take_length,List.drop_left]
 have hC:AP Tryd.prog 115 [.str (p++r),.str p] (.tup [.str r,.bool true]) []:=by
  generalize p++r=s at *
  refine AP.ofA ?_
  refine Zao Tryd.func115 rfl Tryd.ntmps115 rfl rfl ?_
  repeat'(first|(apply Zaa (hH);kernel_rfl;(iterate 4 exact Z))|(apply Zdm Zab;(iterate 4 exact Z);exact .lit _ _ _ _ rfl (Int.natCast_nonneg _);exact .dft _;exact hq;exact Nat.le_refl _;exact hs2)|(apply Zaj Zab;exact Z)|(apply Zah Zab;exact Z)|(apply Zay Zab;exact Z)|(apply Zae;exact Z;exact Qt)|(apply Zda Zab;(iterate 4 exact Z)))
  all_goals(apply Zaz [];(apply Zad Zab;exact Z);(iterate 4 exact Z))
  all_goals rfl
 refine AP.ofA ?_
 refine Zao Tryd.func99 rfl Tryd.ntmps99 rfl rfl ?_
 repeat'(first|(apply Zaa (hC);kernel_rfl;(iterate 4 exact Z))|(apply Zaj Zab;exact Z)|(apply Zah Zab;exact Z))
 all_goals(apply Zaz [];(apply Zad Zab;exact Z);(iterate 4 exact Z))
 all_goals rfl
theorem ZhZ [Known](s p:List UInt8)(hs:s.length<=4611686018427387904)(hp:p.length<=4611686018427387904)(h:(s.take p.length==p)=false):AP Tryd.prog 99 [.str s,.str p] (.tup [.str s,.bool false]) []:=by
 have hH:=Zgc s p hs hp
 rw[h]at hH
 have hC:AP Tryd.prog 115 [.str s,.str p] (.tup [.str s,.bool false]) []:=by
  refine AP.ofA ?_
  refine Zao Tryd.func115 rfl Tryd.ntmps115 rfl rfl ?_
  repeat'(first|(apply Zaa (hH);kernel_rfl;(iterate 4 exact Z))|(apply Zaj Zab;exact Z)|(apply Zah Zab;exact Z)|(apply Zay Zab;exact Z)|(apply Zac;exact Z;exact Qt))
  all_goals(apply Zaz [];(apply Zad Zab;exact Z);(iterate 4 exact Z))
  all_goals rfl
 refine AP.ofA ?_
 refine Zao Tryd.func99 rfl Tryd.ntmps99 rfl rfl ?_
 repeat'(first|(apply Zaa (hC);kernel_rfl;(iterate 4 exact Z))|(apply Zaj Zab;exact Z)|(apply Zah Zab;exact Z))
 all_goals(apply Zaz [];(apply Zad Zab;exact Z);(iterate 4 exact Z))
 all_goals rfl
theorem Zjh (s p:List UInt8):(∃ r,s=p++r)\/(s.take p.length==p)=false:=by
 cases h:s.take p.length==p with
 | true=>
  refine .inl ⟨s.drop p.length,?_⟩
  have:=beq_iff_eq.1 h
  conv=>lhs;rw[<- List.take_append_drop p.length s,this]
 | false=>exact .inr rfl
theorem ZkH:∀ {l:List UInt8} {c:UInt8},c ∉ l->Lib.indexByte l c = -1
 | [],_,_=>rfl
 | x::l,c,h=>by
  have h1:¬ x=c:=fun e=>h (by rw[e];exact List.mem_cons_self ..)
  have h2:=ZkH (l:=l) (c:=c) fun hm=>h (List.mem_cons_of_mem _ hm)
  simp[Lib.indexByte,h1,h2]
theorem Zji:∀ {a b:List UInt8} {c:UInt8},c ∉ a->Lib.indexByte (a++c::b) c=(a.length:Int)
 | [],b,c,_=>by simp[Lib.indexByte]
 | x::a,b,c,h=>by
  have h1:¬ x=c:=fun e=>h (by rw[e];exact List.mem_cons_self ..)
  have h2:=Zji (a:=a) (b:=b) (c:=c) fun hm=>h (List.mem_cons_of_mem _ hm)
  rw[List.cons_append]
  simp only[Lib.indexByte,h2,List.length_cons,beq_iff_eq,h1,if_false]
  (repeat' split)<;>omega
theorem Zgd [Known](s:List UInt8)(c:UInt8):AP Tryd.prog 127 [.str s,.str [c]] (.int .i64 (Lib.indexByte s c)) []:=by
 have hI:=Zmi s (c.toNat:Int)
 have e:((c.toNat:Int)).toNat.toUInt8=c:=by rw[Int.toNat_natCast];simp
 rw[e]at hI
 have t0:((([c]:List UInt8).length:Int)==0)=false:=rfl
 have t1:((([c]:List UInt8).length:Int)==1)=true:=rfl
 by_cases hs:[c]=s
 ·subst hs
  have t2:([c]==[c])=true:=by simp
  have e0:Lib.indexByte [c] c=0:=by simp[Lib.indexByte]
  rw[e0]
  refine AP.ofA ?_
  refine Zao Tryd.func127 rfl Tryd.ntmps127 rfl rfl ?_
  repeat'(first|(apply Zaj Zab;exact Z)|(apply Zah Zab;exact Z)|(apply Zay Zab;exact Z)|(apply Zaf;(iterate 3 exact Z);exact Qt)|(apply Zai;exact Z;exact Qt;exact Z;exact Z)|(apply Zac;exact Z;exact Qt)|(apply Zda Zab;(iterate 4 exact Z)))
  all_goals(apply Zaz [];(apply Zad Zab;exact Z);(iterate 4 exact Z))
  all_goals rfl
 ·have t2:([c]==s)=false:=by simpa using hs
  refine AP.ofA ?_
  refine Zao Tryd.func127 rfl Tryd.ntmps127 rfl rfl ?_
  repeat'(first|(apply Zaa (hI);kernel_rfl;(iterate 4 exact Z))|(apply Zk1 Zab;(iterate 5 exact Z);decide +kernel;exact Z)|(apply Zaj Zab;exact Z)|(apply Zah Zab;exact Z)|(apply Zay Zab;exact Z)|(apply Zaf;(iterate 3 exact Z);exact Qt)|(apply Zai;exact Z;exact Qt;exact Z;exact Z)|(apply Zac;exact Z;exact Qt)|(apply Zae;exact Z;exact Qt)|(apply Zda Zab;(iterate 4 exact Z)))
  all_goals(apply Zaz [];(apply Zad Zab;exact Z);(iterate 4 exact Z))
  all_goals rfl
theorem Zlz [Known](s:List UInt8)(c:UInt8)(h:c ∉ s):AP Tryd.prog 100 [.str s,.str [c]] (.tup [.str s,.str [],.bool false]) []:=by
 have hI:=Zgd s c
 rw[ZkH h]at hI
 have hC:AP Tryd.prog 116 [.str s,.str [c]] (.tup [.str s,.str [],.bool false]) []:=by
  refine AP.ofA ?_
  refine Zao Tryd.func116 rfl Tryd.ntmps116 rfl rfl ?_
  repeat'(first|(apply Zaa (hI);kernel_rfl;(iterate 4 exact Z))|(apply Zaj Zab;exact Z)|(apply Zah Zab;exact Z)|(apply Zae;exact Z;exact Qt))
  all_goals(apply Zaz [];(apply Zad Zab;exact Z);(iterate 4 exact Z))
  all_goals rfl
 refine AP.ofA ?_
 refine Zao Tryd.func100 rfl Tryd.ntmps100 rfl rfl ?_
 repeat'(first|(apply Zaa (hC);kernel_rfl;(iterate 4 exact Z))|(apply Zaj Zab;exact Z)|(apply Zah Zab;exact Z))
 all_goals(apply Zaz [];(apply Zad Zab;exact Z);(iterate 4 exact Z))
 all_goals rfl
theorem ZlA [Known](a b:List UInt8)(c:UInt8)(h:c ∉ a)(hl:(a++c::b).length<=4611686018427387904):AP Tryd.prog 100 [.str (a++c::b),.str [c]] (.tup [.str a,.str b,.bool true]) []:=by
 have hI:=Zgd (a++c::b) c
 rw[Zji h]at hI
 have hal:a.length+1<=(a++c::b).length:=by rw[List.length_append,List.length_cons];omega
 have t1:decide ((a.length:Int) ≥ 0)=true:=decide_eq_true (by omega)
 have e1:IntKind.i64.wrap ((a.length:Int)+(([c]:List UInt8).length:Int))=((a.length+1:Nat):Int):=by
  rw[IntWalk.i64_in _ (by simp;omega)];simp
 have q1:((a.length:Nat):Int).toNat<=(a++c::b).length:=by rw[Int.toNat_natCast];omega
 have q2:((a.length+1:Nat):Int).toNat<=(a++c::b).length:=by rw[Int.toNat_natCast];omega
 have s1:((a++c::b).take ((a.length:Nat):Int).toNat).drop 0=a:=by rw[Int.toNat_natCast,List.drop_zero,List.take_left]
 have s2:((a++c::b).take (a++c::b).length).drop ((a.length+1:Nat):Int).toNat=b:=by
  rw[Int.toNat_natCast,List.take_length,show a.length+1=(a++[c]).length by simp,show a++c::b=(a++[c])++b by simp,List.drop_left]
 have hC:AP Tryd.prog 116 [.str (a++c::b),.str [c]] (.tup [.str a,.str b,.bool true]) []:=by
  generalize a++c::b=s at *
  refine AP.ofA ?_
  refine Zao Tryd.func116 rfl Tryd.ntmps116 rfl rfl ?_
  repeat'(first|rw[e1]|(apply Zaa (hI);kernel_rfl;(iterate 4 exact Z))|(apply Zdm Zab;(iterate 4 exact Z);exact .dft _;exact .lit _ _ _ _ rfl (Int.natCast_nonneg _);exact Nat.zero_le _;exact q1;exact s1)|(apply Zdm Zab;(iterate 4 exact Z);exact .lit _ _ _ _ rfl (Int.natCast_nonneg _);exact .dft _;exact q2;exact Nat.le_refl _;exact s2)|(apply Zaj Zab;exact Z)|(apply Zah Zab;exact Z)|(apply Zac;exact Z;exact Qt)|(apply Zda Zab;(iterate 4 exact Z))|(apply Zap 10 ZaY;decide +kernel;kernel_rfl;kernel_rfl;kernel_rfl;exact Z;exact Z)|(apply Zas;(iterate 4 exact Z))|exact AE.nil _ _ _ _|(apply Zau;exact Z)|(apply ZaA;exact Z;exact Z;decide +kernel;exact Z)|(apply ZaB;exact Z)|exact AO.nil _ _ _|(apply Zar;(decide +kernel))|exact AOs.nil|exact ZaN rfl rfl)
  all_goals(apply Zaz [];(apply Zad Zab;exact Z);(iterate 4 exact Z))
  all_goals rfl
 refine AP.ofA ?_
 refine Zao Tryd.func100 rfl Tryd.ntmps100 rfl rfl ?_
 repeat'(first|(apply Zaa (hC);kernel_rfl;(iterate 4 exact Z))|(apply Zaj Zab;exact Z)|(apply Zah Zab;exact Z))
 all_goals(apply Zaz [];(apply Zad Zab;exact Z);(iterate 4 exact Z))
 all_goals rfl
theorem Zge (c:UInt8):∀ s:List UInt8,(c ∉ s)\/∃ a b,s=a++c::b/\c ∉ a
 | []=>.inl (by simp)
 | x::s=>by
  by_cases e:x=c
  ·subst e;exact .inr ⟨[],s,rfl,by simp⟩
  ·rcases Zge c s with h|⟨a,b,rfl,h⟩
   ·refine .inl fun hm=>?_
    rcases List.mem_cons.1 hm with h2|h2
    ·exact e h2.symm
    ·exact h h2
   ·refine .inr ⟨x::a,b,rfl,fun hm=>?_⟩
    rcases List.mem_cons.1 hm with h2|h2
    ·exact e h2.symm
    ·exact h h2
end Go.Proofs.YtakblclkflnnpaaDoor
end
section
open Go.RowKit Go.Pl
namespace Go.Av
section
variable {P:Program} {Q:X->St->Prop} {n:Nat} {ee:Nat × Nat} {tm:List (Nat × D)} {bx:List (List D)} {fr:List Fr}
variable {ops:Array Oper} {rest:List Oper} {t ty:Nat} {pos:String} {after:Array Edge}
end
end Go.Av
end
section
open Go.RowKit Go.Pl Go.Av
namespace Go.Proofs.YtakblclkflnnpaaDoor
set_option maxHeartbeats 4000000
theorem Zkl (p s:List UInt8):(Zgb p s).1.length<=s.length:=by
 unfold Zgb
 split
 ·simp
 ·exact Nat.le_refl _
theorem Zmj [Known](s:List UInt8)(c:UInt8)(hl:s.length<=4611686018427387904):AP Tryd.prog 100 [.str s,.str [c]] (.tup [.str (Ze1 c s).1,.str (Ze1 c s).2.1,.bool (Ze1 c s).2.2]) []:=by
 rcases Zge c s with h|⟨a,b,rfl,h⟩
 ·rw[Zjg h];exact Zlz s c h
 ·rw[Zhy h];exact ZlA a b c h hl
theorem Zjj [Known](s p:List UInt8)(hs:s.length<=4611686018427387904)(hp:p.length<=4611686018427387904):AP Tryd.prog 99 [.str s,.str p] (.tup [.str (Zgb p s).1,.bool (Zgb p s).2]) []:=by
 rcases Zjh s p with⟨r,rfl⟩ | h
 ·rw[Zkj];exact ZhY p r hs
 ·rw[Zly h];exact ZhZ s p hs hp h
theorem ZmX [Known](s:List UInt8)(hs:s.length<=140737488351232):AP Tryd.prog 83 [.str s] (.tup [.agg (eC (ppV s).1),.bool (ppV s).2]) []:=by
 have hP:=Zjj s [47,47] (by omega) (by decide)
 have hl:=Zkl [47,47] s
 unfold ppV
 dsimp only
 generalize (Zgb [47,47] s).1=r at *
 generalize (Zgb [47,47] s).2=ok at *
 have hC:=Zmj r 47 (by omega)
 generalize (Ze1 47 r).1=a at *
 generalize (Ze1 47 r).2.1=b at *
 generalize (Ze1 47 r).2.2=k at *
 have hR:=Zcu ⟨false,0,0,a,b⟩
 generalize Zbh ⟨false,0,0,a,b⟩=R at *
 replace hR:AP Tryd.prog _ [.agg [.bool false,.int .u64 0,.int .u64 0,.str a,.str b]] (.bool R) []:=hR
 show AP Tryd.prog _ _ (.tup [.agg [.bool false,.int .u64 0,.int .u64 0,.str a,.str b],_]) _
 obtain⟨ne,h1⟩:∃ ne,(a != [])=ne:=⟨_,rfl⟩
 rw[h1]
 cases ok with
 | false=>
  refine AP.ofA ?_
  refine Zao Tryd.func83 rfl Tryd.ntmps83 rfl rfl ?_
  repeat'(first|(apply Zaa (hP);kernel_rfl;(iterate 4 exact Z))|(apply Zaa (hC);kernel_rfl;(iterate 4 exact Z))|(apply Zaj Zab;exact Z)|(apply Zah Zab;exact Z)|(apply Zav;(iterate 3 exact Z);exact Qt)|(apply Zai;exact Z;exact Qt;exact Z;exact Z)|(apply Zap 14 ZaY;decide +kernel;kernel_rfl;kernel_rfl;kernel_rfl;exact Z;exact Z)|(apply Zas;(iterate 4 exact Z))|exact AE.nil _ _ _ _|(apply Zau;exact Z)|(apply Zee;exact Z)|(apply ZaA;exact Z;exact Z;decide +kernel;exact Z)|(apply ZaB;exact Z)|(apply Zgy;exact Z)|exact AO.nil _ _ _|(apply Zar;(decide +kernel))|(apply Za3;(iterate 3 exact Z))|exact AOs.nil|exact ZaN rfl rfl|exact ZeO rfl)
  all_goals(apply Zaz [];(apply Zad Zab;exact Z);(iterate 4 exact Z))
  all_goals rfl
 | true=>
  cases k with
  | false=>
   refine AP.ofA ?_
   refine Zao Tryd.func83 rfl Tryd.ntmps83 rfl rfl ?_
   repeat'(first|(apply Zaa (hP);kernel_rfl;(iterate 4 exact Z))|(apply Zaa (hC);kernel_rfl;(iterate 4 exact Z))|(apply Zaj Zab;exact Z)|(apply Zah Zab;exact Z)|(apply Zaf;(iterate 3 exact Z);exact Qt)|(apply Zav;(iterate 3 exact Z);exact Qt)|(apply Zam;exact Z;exact Qt;exact Z;exact Z)|(apply Zai;exact Z;exact Qt;exact Z;exact Z)|(apply Zap 14 ZaY;decide +kernel;kernel_rfl;kernel_rfl;kernel_rfl;exact Z;exact Z)|(apply Zas;(iterate 4 exact Z))|exact AE.nil _ _ _ _|(apply Zau;exact Z)|(apply Zee;exact Z)|(apply ZaA;exact Z;exact Z;decide +kernel;exact Z)|(apply ZaB;exact Z)|(apply Zgy;exact Z)|exact AO.nil _ _ _|(apply Zar;(decide +kernel))|(apply Za3;(iterate 3 exact Z))|exact AOs.nil|exact ZaN rfl rfl|exact ZeO rfl)
   all_goals(apply Zaz [];(apply Zad Zab;exact Z);(iterate 4 exact Z))
   all_goals rfl
  | true=>
   cases ne<;>cases R
   all_goals
    refine AP.ofA ?_
    refine Zao Tryd.func83 rfl Tryd.ntmps83 rfl rfl ?_
    repeat'(first|rw[h1]|(apply Zaa (hP);kernel_rfl;(iterate 4 exact Z))|(apply Zaa (hC);kernel_rfl;(iterate 4 exact Z))|(apply Zaa (hR);kernel_rfl;(iterate 4 exact Z))|(apply Zaj Zab;exact Z)|(apply Zah Zab;exact Z)|(apply Zaf;(iterate 3 exact Z);exact Qt)|(apply Zav;(iterate 3 exact Z);exact Qt)|(apply Zam;exact Z;exact Qt;exact Z;exact Z)|(apply Zai;exact Z;exact Qt;exact Z;exact Z)|(apply Zap 14 ZaY;decide +kernel;kernel_rfl;kernel_rfl;kernel_rfl;exact Z;exact Z)|(apply Zas;(iterate 4 exact Z))|exact AE.nil _ _ _ _|(apply Zau;exact Z)|(apply Zee;exact Z)|(apply ZaA;exact Z;exact Z;decide +kernel;exact Z)|(apply ZaB;exact Z)|(apply Zgy;exact Z)|exact AO.nil _ _ _|(apply Zar;(decide +kernel))|(apply Za3;(iterate 3 exact Z))|exact AOs.nil|exact ZaN rfl rfl|exact ZeO rfl)
    all_goals(apply Zaz [];(apply Zad Zab;exact Z);(iterate 4 exact Z))
    all_goals rfl
end Go.Proofs.YtakblclkflnnpaaDoor
end
section
open Go.RowKit Go.Pl
namespace Go.Av
inductive Zy where
 | pu (d:D)
 | al (cs:List D)
def z0 (p:Nat × Zy):Nat × D:=(p.1,match p.2 with | .pu d=>d | .al _=>.junk)
def ZmY:Nat->List (Nat × Zy)->List (Nat × D)->List (Nat × D)
 | _,[],tm=>tm
 | m,(_,.pu _)::zs,tm=>ZmY m zs tm
 | m,(t,.al _)::zs,tm=>ZmY (m+1) zs ((t,.ptr m 0)::tm)
def zcs:List (Nat × Zy)->List (List D)
 | []=>[]
 | (_,.pu _)::zs=>zcs zs
 | (_,.al cs)::zs=>cs::zcs zs
section
variable {P:Program} {T:Tab} {Q:X->St->Prop} {n:Nat} {ee:Nat × Nat} {tm tm':List (Nat × D)} {bx:List (List D)} {fr:List Fr} {b0:Bs} {g g':G} {w w':World} {a:Act}
inductive AZ [Known][Dfr](P:Program) (T:Tab) (l:List Oper) (n:Nat) (bx:List (List D)) (fr:List Fr):List Oper->List (Nat × D)->List (Nat × Zy)->List (Nat × D)->Prop
 | nil (tm:List (Nat × D)):AZ P T l n bx fr [] tm [] tm
 | pu (o:Oper) (rest:List Oper) (t:Nat) (d:D) (tm:List (Nat × D)) (zs:List (Nat × Zy)) (tm':List (Nat × D)) (hd:o.dst=some t) (ht:Nat.blt t n=true) (h:AL P l.toArray [o] ⟨n,Zbt l o tm,bx,fr,(bx.length,fr.length)⟩ (qY o bx fr (.pu d))) (k:AZ P T l n bx fr rest ((t,d)::tm) zs tm'):AZ P T l n bx fr (o::rest) tm ((t,.pu d)::zs) tm'
 | al (t:Nat) (e:TypeId) (ty:Nat) (pos:String) (after:Array Edge) (rest:List Oper) (ti:Ti) (tm:List (Nat × D)) (zs:List (Nat × Zy)) (tm':List (Nat × D)) (ht:Nat.blt t n=true) (hti:tl T e=some ti) (k:AZ P T l n bx fr rest ((t,.junk)::tm) zs tm'):AZ P T l n bx fr (⟨some t,.alloc e,ty,pos,after,none⟩::rest) tm ((t,.al (ti.zero.map ZK.d))::zs) tm'
theorem ZcW (l:List Oper)(o:Oper):∀ tm:List (Nat × D),Zbt l o tm=tm.filter fun p=>(Zcm l o).contains p.1
 | []=>rfl
 | p::tm=>by
  rw[Zbt,List.filter_cons,ZcW l o tm]
  cases(Zcm l o).contains p.1<;>rfl
theorem Evo.al [Known](hm:Mem g bx fr w)(o:Obj):Evo ⟨g,fr,w⟩ ⟨g,fr,w.alloc o⟩:=
 ⟨rfl,rfl,rfl,by simp,fun k hk _=>Below.heap_alloc w _ k hk,fun _ _ h=>h,fun k p h=>ZbZ w _ (hm.Clt k p h) p,fun _ _ h=>.inl h,fun _ _ h=>h,fun _ h=>.inl h,fun k c h=>.inl ⟨c,h⟩,Zcb.refl _ _⟩
theorem Mem.al [Known](hm:Mem g bx fr w)(o:Obj):Mem g bx fr (w.alloc o) where
 bl:=hm.bl
 bat i k cs' h1 h2:=by
  obtain⟨us,ty,k1,k2,k3⟩:=hm.bat i k cs' h1 h2
  exact⟨us,ty,(Below.heap_alloc w _ k (Array.getElem?_eq_some_iff.1 k1).1).trans k1,k2,fun j d v hd hv=>(k3 j d v hd hv).evo (Evo.al hm o)⟩
 bC:=hm.bC
 bN:=hm.bN
 tl:=hm.tl
 tat i k c f h1 h2:=by
  have hT:=hm.tat i k c f h1 h2
  obtain⟨cur,r1,r2⟩:=hT.row
  exact⟨⟨cur,(Below.heap_alloc w _ k (Array.getElem?_eq_some_iff.1 r1).1).trans r1,r2⟩,hT.le,hT.max,hT.pos,hT.far⟩
 tN:=hm.tN
 tρ:=hm.tρ
 Clt k p hC:=by
  have:=hm.Clt k p hC
  simp;omega
 gl:=hm.gl.evo (Evo.al hm o)
theorem Zkm {k k':Nat}(h:M ⟨g.C,g.ρ++[k],g.τ⟩ k'):M g k'\/k'=k:=by
 rcases h with h|h
 ·rcases List.mem_append.1 h with h|h
  ·exact .inl (.inl h)
  ·simp at h;exact .inr h
 ·exact .inl (.inr h)
structure AZk [Known][Dfr](P:Program) (l acts:List Oper) (n:Nat) (zs:List (Nat × Zy)) (tm:List (Nat × D)) (bx:List (List D)) (fr:List Fr) (ee:Nat × Nat) (Q:X->St->Prop):Prop where
 run:AL P l.toArray acts ⟨n,ZmY bx.length zs tm,bx++zcs zs,fr,ee⟩ Q
end
end Go.Av
end

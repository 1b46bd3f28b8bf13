/- The document's opening of sealed items (dqgen.py). -/
import Derived.Test.YtakblclkflnnpaaGreatDoorP24
import Derived.Test.YtakblclkflnnpaaGreatDoorP25
import Derived.Test.YtakblclkflnnpaaGreatDoorP19
import Derived.Test.YtakblclkflnnpaaGreatDoorP20
import Derived.Test.YtakblclkflnnpaaGreatDoorP12
import Derived.Test.YtakblclkflnnpaaGreatDoorP17
import Derived.Test.YtakblclkflnnpaaGreatDoorP21
import Derived.Test.YtakblclkflnnpaaGreatDoorP15
import Derived.Test.YtakblclkflnnpaaGreatDoorP23
import Derived.Test.YtakblclkflnnpaaGreatDoorP16
import Derived.Test.YtakblclkflnnpaaGreatDoorP09
import Derived.Lib.Strings
import Derived.Lib.Slices
import Derived.Lib.Walk
import Derived.Lib.Bytealg
import Derived.Test.YtakblclkflnnpaaGreatDoorP08
import Derived.LaidEql
set_option linter.unusedVariables false
set_option linter.unusedSimpArgs false
section
open Go.RowKit Go.Pl Go.Av
namespace Go.Proofs.YtakblclkflnnpaaGreatDoor
set_option maxHeartbeats 4000000
theorem Zf7:∀(l:List It) (m:Nat),Za9 (l.take m)<=Za9 l
 | _,0=>by simp[Za9]
 | [],m+1=>by simp[Za9]
 | x::l,m+1=>by rw[List.take_succ_cons,Za9,Za9];have:=Zf7 l m;omega
theorem Zja {l:List It}{s:Nat}(hs:s<=2)(hws:wfs l)(hl:l.length<=1000000):wfI (Zbs l s).1:=by
 match s,hs with
 | 0,_=>exact⟨by show(0:Nat)<_;decide,by show([]:List UInt8).length<=_;simp,by show l.length<=_;omega,hws⟩
 | s+1,hs=>
  unfold Zbs
  dsimp only
  cases Zaw (ZaJ (s+1) l) with
  | false=>exact⟨by decide,by simp,by simp,trivial⟩
  | true=>exact ZkU (by omega) hws hl
theorem Zlb [Known][KnownU8](x:It)(a:Int)(hw:wfI x)(hxl:x.l.length<=1000000)(hsz:Za9 x.l<=900)(hlim:∀ s m,s<=2->(Za1 (ZaJ s (x.l.take m))).length<=1000000000):AP Tryz.prog 89 [itD x,.int .i64 a] (ZoB (Zhs x a)) []:=by
 obtain⟨k,n,b,l⟩:=x
 dsimp only[It.l]at hxl hsz hlim
 have hws:wfs l:=hw.2.2.2
 have hR:=Zdr (.mk k n b l) hw (by rw[Zbt];omega)
 have hK:=Zmp l hws (by omega) a
 have hlen:=Zan l
 have hU:=ZbG l
 unfold Zhs
 dsimp only
 cases hr:Zaw (.mk k n b l) with
 | false=>
  rw[hr]at hR
  refine AP.ofA ?_
  refine Zap Tryz.func89 rfl Tryz.ntmps89 rfl rfl ?_
  repeat'(first|(apply Zaa (hR);kernel_rfl;(iterate 4 exact Z))|(apply Zaj Zab;exact Z)|(apply Zai Zab;exact Z)|(apply Zay Zab;exact Z)|(apply Zao;(iterate 3 exact Z);exact Go.Zqn)|(apply Zak;exact Z;exact Go.Zqn;exact Z;exact Z)|(apply Zac;exact Z;exact Go.Zqn))
  all_goals(apply Zax [];(apply Zad Zab;exact Z);(iterate 4 exact Z))
  all_goals rfl
 | true=>
 rw[hr]at hR
 cases tk:(k==4) with
 | false=>
  have tk':(k != 4)=true:=by rw[bne,tk];rfl
  refine AP.ofA ?_
  refine Zap Tryz.func89 rfl Tryz.ntmps89 rfl rfl ?_
  repeat'(first|(apply Zaa (hR);kernel_rfl;(iterate 4 exact Z))|(apply Zaj Zab;exact Z)|(apply Zai Zab;exact Z)|(apply Zay Zab;exact Z)|(apply Zaf;(iterate 3 exact Z);exact Go.Zqn)|(apply Zao;(iterate 3 exact Z);exact Go.Zqn)|(apply Zak;exact Z;exact Go.Zqn;exact Z;exact Z)|(apply Zah;exact Z;exact Go.Zqn;exact Z;exact Z)|(apply Zac;exact Z;exact Go.Zqn))
  all_goals(apply Zax [];(apply Zad Zab;exact Z);(iterate 4 exact Z))
  all_goals rfl
 | true=>
 have tk':(k != 4)=false:=by rw[bne,tk];rfl
 cases t1:decide (ZaM l a ≥ 0) with
 | false=>
  have t1':decide (ZaM l a<0)=true:=decide_eq_true (by have:=of_decide_eq_false t1;omega)
  generalize ZaM l a=T at *
  refine AP.ofA ?_
  refine Zap Tryz.func89 rfl Tryz.ntmps89 rfl rfl ?_
  repeat'(first|(apply Zaa (hR);kernel_rfl;(iterate 4 exact Z))|(apply Zaa (hK);kernel_rfl;(iterate 4 exact Z))|(apply Zaj Zab;exact Z)|(apply Zai Zab;exact Z)|(apply Zay Zab;exact Z)|(apply Zaf;(iterate 3 exact Z);exact Go.Zqn)|(apply Zah;exact Z;exact Go.Zqn;exact Z;exact Z)|(apply Zac;exact Z;exact Go.Zqn))
  all_goals(apply Zax [];(apply Zad Zab;exact Z);(iterate 4 exact Z))
  all_goals rfl
 | true=>
 have t1':decide (ZaM l a<0)=false:=decide_eq_false (by have:=of_decide_eq_true t1;omega)
 cases t2:(ZaM l a==0) with
 | true=>
  generalize ZaM l a=T at *
  refine AP.ofA ?_
  refine Zap Tryz.func89 rfl Tryz.ntmps89 rfl rfl ?_
  repeat'(first|(apply Zaa (hR);kernel_rfl;(iterate 4 exact Z))|(apply Zaa (hK);kernel_rfl;(iterate 4 exact Z))|(apply Zaj Zab;exact Z)|(apply Zai Zab;exact Z)|(apply Zay Zab;exact Z)|(apply Zaf;(iterate 3 exact Z);exact Go.Zqn)|(apply Zah;exact Z;exact Go.Zqn;exact Z;exact Z)|(apply Zac;exact Z;exact Go.Zqn)|(apply Zae;exact Z;exact Go.Zqn))
  all_goals(apply Zax [];(apply Zad Zab;exact Z);(iterate 4 exact Z))
  all_goals rfl
 | false=>
 have hT:=ZbU l a
 have hs:∃ s:Nat,ZaM l a=(s:Int)/\s<=2/\0<=a/\a<(l.length:Int):=by
  have h0:=of_decide_eq_true t1
  rcases hT with h|⟨h,h1,h2⟩
  ·omega
  ·exact⟨(ZaM l a).toNat,by omega,by omega,h1,h2⟩
 obtain⟨s,es,hs2,h0,hal⟩:=hs
 rw[es]at hK t1' t2 ⊢
 rw[Int.toNat_natCast]
 clear hT t1 es
 have e1:IntKind.i64.wrap (((Zas l).length:Int)-1)=((l.length-1:Nat):Int):=by rw[IntWalk.i64_in _ (by omega)];omega
 have e2:IntKind.i64.wrap (2*(s:Int))=((2*s:Nat):Int):=by rw[IntWalk.i64_in _ (by omega)];omega
 obtain⟨y,hy⟩:∃ y,l[l.length-1]?=some y:=⟨_,List.getElem?_eq_getElem (by omega)⟩
 rw[hy]
 obtain⟨k1,n1,b1,l1⟩:=y
 have hv:(Zas l)[((l.length-1:Nat):Int).toNat]?=some (.agg [.int .i64 k1,.int .u64 (n1:Int),.sl (b1.map E.byte),.sl (Zas l1)]):=by
  rw[Int.toNat_natCast,ZaB,List.getElem?_map,hy]
  rfl
 have hp0:(0:Int)<=((l.length-1:Nat):Int):=Int.natCast_nonneg _
 dsimp only
 have hbl:(b1.length:Int)=((b1.map E.byte).length:Int):=by rw[List.length_map]
 rw[hbl]
 cases t3:decide (((l.length-1:Nat):Int)<=a) with
 | true=>
  refine AP.ofA ?_
  refine Zap Tryz.func89 rfl Tryz.ntmps89 rfl rfl ?_
  repeat'(first|(apply Zaa (hR);kernel_rfl;(iterate 4 exact Z))|(apply Zaa (hK);kernel_rfl;(iterate 4 exact Z))|rw[e1]|(apply Zaj Zab;exact Z)|(apply Zai Zab;exact Z)|(apply Zay Zab;exact Z)|(apply Zaf;(iterate 3 exact Z);exact Go.Zqn)|(apply Zao;(iterate 3 exact Z);exact Go.Zqn)|(apply Zak;exact Z;exact Go.Zqn;exact Z;exact Z)|(apply Zah;exact Z;exact Go.Zqn;exact Z;exact Z)|(apply Zac;exact Z;exact Go.Zqn)|(apply Zae;exact Z;exact Go.Zqn)|(apply Zal Zab;(iterate 4 exact Z)))
  all_goals(apply Zax [];(apply Zad Zab;exact Z);(iterate 4 exact Z))
  all_goals rfl
 | false=>
 cases t4:(k1 != 2) with
 | true=>
  refine AP.ofA ?_
  refine Zap Tryz.func89 rfl Tryz.ntmps89 rfl rfl ?_
  repeat'(first|(apply Zaa (hR);kernel_rfl;(iterate 4 exact Z))|(apply Zaa (hK);kernel_rfl;(iterate 4 exact Z))|rw[e1]|(apply Zaj Zab;exact Z)|(apply Zai Zab;exact Z)|(apply Zay Zab;exact Z)|(apply Zaf;(iterate 3 exact Z);exact Go.Zqn)|(apply Zao;(iterate 3 exact Z);exact Go.Zqn)|(apply Zak;exact Z;exact Go.Zqn;exact Z;exact Z)|(apply Zah;exact Z;exact Go.Zqn;exact Z;exact Z)|(apply Zac;exact Z;exact Go.Zqn)|(apply Zae;exact Z;exact Go.Zqn)|(apply Zal Zab;(iterate 4 exact Z))|(apply Zat Zab;(iterate 6 exact Z);(first|exact Go.Zqn|rotate_left);(first|with_reducible assumption|decide +kernel|exact Z);(first|exact Zag rfl|with_reducible assumption|decide +kernel|rotate_left)))
  all_goals(apply Zax [];(apply Zad Zab;exact Z);(iterate 4 exact Z))
  all_goals rfl
 | false=>
 cases t5:(((b1.map E.byte).length:Int) != ((2*s:Nat):Int)) with
 | true=>
  refine AP.ofA ?_
  refine Zap Tryz.func89 rfl Tryz.ntmps89 rfl rfl ?_
  repeat'(first|(apply Zaa (hR);kernel_rfl;(iterate 4 exact Z))|(apply Zaa (hK);kernel_rfl;(iterate 4 exact Z))|rw[e1]|rw[e2]|(apply Zaj Zab;exact Z)|(apply Zai Zab;exact Z)|(apply Zay Zab;exact Z)|(apply Zaf;(iterate 3 exact Z);exact Go.Zqn)|(apply Zah;exact Z;exact Go.Zqn;exact Z;exact Z)|(apply Zac;exact Z;exact Go.Zqn)|(apply Zae;exact Z;exact Go.Zqn)|(apply Zal Zab;(iterate 4 exact Z))|(apply Zat Zab;(iterate 6 exact Z);(first|exact Go.Zqn|rotate_left);(first|with_reducible assumption|decide +kernel|exact Z);(first|exact Zag rfl|with_reducible assumption|decide +kernel|rotate_left)))
  all_goals(apply Zax [];(apply Zad Zab;exact Z);(iterate 4 exact Z))
  all_goals rfl
 | false=>
 have hS:=Zf5 (l.take (l.length-1)) s hs2 (Zef _ hws) (by rw[List.length_take];omega) (by have:=Zf7 l (l.length-1);omega) (hlim s (l.length-1) hs2)
 have hwS:wfI (Zbs (l.take (l.length-1)) s).1:=Zja hs2 (Zef _ hws) (by rw[List.length_take];omega)
 have hM:=ZbK (.mk k n b l) hw _ hwS
 have hI:(Zas l).take ((l.length-1:Nat):Int).toNat=Zas (l.take (l.length-1)):=by rw[Int.toNat_natCast,ZaB,ZaB,List.map_take]
 have hle:((l.length-1:Nat):Int).toNat<=(Zas l).length:=by rw[Int.toNat_natCast];omega
 generalize Zbs (l.take (l.length-1)) s=S at *
 obtain⟨⟨k3,n3,b3,l3⟩,ok⟩:=S
 dsimp only at hS hM ⊢
 cases ok with
 | false=>
  refine AP.ofA ?_
  refine Zap Tryz.func89 rfl Tryz.ntmps89 rfl rfl ?_
  repeat'(first|(apply Zaa (hR);kernel_rfl;(iterate 4 exact Z))|(apply Zaa (hK);kernel_rfl;(iterate 4 exact Z))|(apply Zaa (hS);kernel_rfl;(iterate 4 exact Z))|rw[e1]|rw[e2]|(apply ZdE Zab;(iterate 6 exact Z);exact hU;exact Int.natCast_nonneg _;exact hle;exact hI)|(apply Zaj Zab;exact Z)|(apply Zai Zab;exact Z)|(apply Zay Zab;exact Z)|(apply Zaf;(iterate 3 exact Z);exact Go.Zqn)|(apply Zao;(iterate 3 exact Z);exact Go.Zqn)|(apply Zak;exact Z;exact Go.Zqn;exact Z;exact Z)|(apply Zah;exact Z;exact Go.Zqn;exact Z;exact Z)|(apply Zac;exact Z;exact Go.Zqn)|(apply Zae;exact Z;exact Go.Zqn)|(apply Zal Zab;(iterate 4 exact Z))|(apply Zat Zab;(iterate 6 exact Z);(first|exact Go.Zqn|rotate_left);(first|with_reducible assumption|decide +kernel|exact Z);(first|exact Zag rfl|with_reducible assumption|decide +kernel|rotate_left)))
  all_goals(apply Zax [];(apply Zad Zab;exact Z);(iterate 4 exact Z))
  all_goals rfl
 | true=>
 cases t6:It.beq (.mk k n b l) (.mk k3 n3 b3 l3) with
 | false=>
  rw[t6]at hM
  refine AP.ofA ?_
  refine Zap Tryz.func89 rfl Tryz.ntmps89 rfl rfl ?_
  repeat'(first|(apply Zaa (hR);kernel_rfl;(iterate 4 exact Z))|(apply Zaa (hK);kernel_rfl;(iterate 4 exact Z))|(apply Zaa (hS);kernel_rfl;(iterate 4 exact Z))|(apply Zaa (hM);kernel_rfl;(iterate 4 exact Z))|rw[e1]|rw[e2]|(apply ZdE Zab;(iterate 6 exact Z);exact hU;exact Int.natCast_nonneg _;exact hle;exact hI)|(apply Zaj Zab;exact Z)|(apply Zai Zab;exact Z)|(apply Zay Zab;exact Z)|(apply Zaf;(iterate 3 exact Z);exact Go.Zqn)|(apply Zah;exact Z;exact Go.Zqn;exact Z;exact Z)|(apply Zac;exact Z;exact Go.Zqn)|(apply Zae;exact Z;exact Go.Zqn)|(apply Zal Zab;(iterate 4 exact Z))|(apply Zat Zab;(iterate 6 exact Z);(first|exact Go.Zqn|rotate_left);(first|with_reducible assumption|decide +kernel|exact Z);(first|exact Zag rfl|with_reducible assumption|decide +kernel|rotate_left)))
  all_goals(apply Zax [];(apply Zad Zab;exact Z);(iterate 4 exact Z))
  all_goals rfl
 | true=>
  rw[t6]at hM
  refine AP.ofA ?_
  refine Zap Tryz.func89 rfl Tryz.ntmps89 rfl rfl ?_
  repeat'(first|(apply Zaa (hR);kernel_rfl;(iterate 4 exact Z))|(apply Zaa (hK);kernel_rfl;(iterate 4 exact Z))|(apply Zaa (hS);kernel_rfl;(iterate 4 exact Z))|(apply Zaa (hM);kernel_rfl;(iterate 4 exact Z))|rw[e1]|rw[e2]|(apply ZdE Zab;(iterate 6 exact Z);exact hU;exact Int.natCast_nonneg _;exact hle;exact hI)|(apply Zaj Zab;exact Z)|(apply Zai Zab;exact Z)|(apply Zay Zab;exact Z)|(apply Zaf;(iterate 3 exact Z);exact Go.Zqn)|(apply Zah;exact Z;exact Go.Zqn;exact Z;exact Z)|(apply Zae;exact Z;exact Go.Zqn)|(apply Zal Zab;(iterate 4 exact Z))|(apply Zat Zab;(iterate 6 exact Z);(first|exact Go.Zqn|rotate_left);(first|with_reducible assumption|decide +kernel|exact Z);(first|exact Zag rfl|with_reducible assumption|decide +kernel|rotate_left)))
  all_goals(apply Zax [];(apply Zad Zab;exact Z);(iterate 4 exact Z))
  all_goals rfl
abbrev nmE (n:Nat):E:=.agg [.int .i64 0,.int .u64 (n:Int),.sl [],.sl []]
def Zdk (c:UInt8):List UInt8->List UInt8 × List UInt8 × Bool
 | []=>([],[],false)
 | x::s=>if x=c then([],s,true) else(x::(Zdk c s).1,(Zdk c s).2.1,(Zdk c s).2.2)
theorem Zlc {c:UInt8}:∀ {s:List UInt8},c ∉ s->Zdk c s=(s,[],false)
 | [],_=>rfl
 | x::s,h=>by
  have h1:¬ x=c:=fun e=>h (by rw[e];exact List.mem_cons_self ..)
  have h2:=Zlc (c:=c) (s:=s) fun hm=>h (List.mem_cons_of_mem _ hm)
  rw[Zdk,if_neg h1,h2]
theorem Zdd {c:UInt8}:∀ {a b:List UInt8},c ∉ a->Zdk c (a++c::b)=(a,b,true)
 | [],b,_=>by rw[List.nil_append,Zdk,if_pos rfl]
 | x::a,b,h=>by
  have h1:¬ x=c:=fun e=>h (by rw[e];exact List.mem_cons_self ..)
  have h2:=Zdd (c:=c) (a:=a) (b:=b) fun hm=>h (List.mem_cons_of_mem _ hm)
  rw[List.cons_append,Zdk,if_neg h1,h2]
theorem Zej {c:UInt8}:∀ {s:List UInt8},(Zdk c s).2.2=true->s=(Zdk c s).1++c::(Zdk c s).2.1
 | [],h=>by rw[Zdk]at h;cases h
 | x::s,h=>by
  rw[Zdk]at h ⊢
  by_cases e:x=c
  ·rw[if_pos e];rw[e];rfl
  ·rw[if_neg e]at h ⊢
   have:=Zej (c:=c) (s:=s) h
   dsimp only
   rw[List.cons_append,<- this]
def ZdX (p s:List UInt8):List UInt8 × Bool:=if s.take p.length==p then(s.drop p.length,true) else(s,false)
theorem Zek (p r:List UInt8):ZdX p (p++r)=(r,true):=by
 unfold ZdX
 rw[List.take_left,beq_self_eq_true,if_pos rfl,List.drop_left]
theorem Zld {p s:List UInt8}(h:(s.take p.length==p)=false):ZdX p s=(s,false):=by
 unfold ZdX;rw[h];rfl
theorem Zel {p s:List UInt8}(h:(ZdX p s).2=true):s=p++(ZdX p s).1:=by
 unfold ZdX at h ⊢
 split at h
 ·rename_i hp
  rw[if_pos hp]
  have:=beq_iff_eq.1 hp
  conv=>lhs;rw[<- List.take_append_drop p.length s,this]
 ·cases h
def ppV (s:List UInt8):EidV × Bool:=
 (⟨false,0,0,(Zdk 47 (ZdX [47,47] s).1).1,(Zdk 47 (ZdX [47,47] s).1).2.1⟩,(ZdX [47,47] s).2&&((Zdk 47 (ZdX [47,47] s).1).2.2&&((Zdk 47 (ZdX [47,47] s).1).1 != []&&ZaL ⟨false,0,0,(Zdk 47 (ZdX [47,47] s).1).1,(Zdk 47 (ZdX [47,47] s).1).2.1⟩)))
def Zem:List UInt8:=[100,116,110,58,110,111,110,101]
def Zen:List UInt8:=[105,112,110,58]
def ZfN:List UInt8:=[100,116,110,58]
theorem ZcF {x:EidV}:isZ x=true ↔ x=Zcf:=by
 obtain⟨i,n,s,h,d⟩:=x
 simp only[isZ,Zcf,Bool.and_eq_true,beq_iff_eq,EidV.mk.injEq]
 constructor
 ·rintro⟨h1,h2,h3,h4,h5,_⟩
  exact⟨h1,by omega,by omega,h4,h5⟩
 ·rintro⟨h1,h2,h3,h4,h5⟩
  exact⟨h1,by omega,by omega,h4,h5,trivial⟩
theorem Zex {m:Nat}{c:UInt8}{l:List UInt8}(hl:l.all (okB m)=true)(h:okB m c=false):c ∉ l:=fun hm=>by
 have:=List.all_eq_true.1 hl c hm
 rw[h]at this;cases this
set_option maxRecDepth 100000 in
theorem Zmr (s:ByteArray)(c:Int)(w:World):Calls Tryz.prog 214 #[.string s,.int .u8 c] w fun e w'=>e=.returned (.int .i64 (Lib.indexByte s.data.toList c.toNat.toUInt8))/\w'=w:=by
 go_enter Tryz.func214,Tryz.ntmps214
 go_wp2
 rw[run_callFunc_extern Tryz.func219 (by kernel_rfl) (by kernel_rfl) (by kernel_rfl) (e:=Extern.BytealgIndexByte.indexByte) (by kernel_rfl),Lib.run_indexByteString]
 simp only[Result.andThen]
 rw[Oper.upon_value]
 go_wp2
 go_ret
 exact⟨rfl,rfl⟩
theorem ZoF [Known](s:List UInt8)(c:Int):AP Tryz.prog 214 [.str s,.int .u8 c] (.int .i64 (Lib.indexByte s c.toNat.toUInt8)) []:=by
 refine⟨fun g w vs hmem hl hv=>?_⟩
 obtain⟨v0,v1,rfl⟩:∃ v0 v1,vs=[v0,v1]:=by
  match vs,hl with
  | [v0,v1],_=>exact⟨v0,v1,rfl⟩
 have h0:=(hv 0 _ _ rfl rfl).str_inv.1
 have h1:=(hv 1 _ _ rfl rfl).int_inv
 subst h0 h1
 exact(Zmr ⟨s.toArray⟩ c w).mono fun e w' ⟨he,hb⟩=>ZiE hmem (hb ▸ Below.refl _ _) he (.int _ _)
theorem Zhu [Known](s p:List UInt8)(hs:s.length<=4611686018427387904)(hp:p.length<=4611686018427387904):AP Tryz.prog 206 [.str s,.str p] (.bool (s.take p.length==p)) []:=by
 by_cases h:p.length<=s.length
 ·have t1:decide ((s.length:Int) ≥ (p.length:Int))=true:=decide_eq_true (by omega)
  have hq:((p.length:Nat):Int).toNat<=s.length:=by rw[Int.toNat_natCast];exact h
  have hs2:(s.take ((p.length:Nat):Int).toNat).drop 0=s.take p.length:=by rw[Int.toNat_natCast,List.drop_zero]
  generalize s.take p.length=s2 at *
  refine AP.ofA ?_
  refine Zap Tryz.func206 rfl Tryz.ntmps206 rfl rfl ?_
  repeat'(first|(apply Zbl Zab;(iterate 4 exact Z);exact .dft _;exact .lit _ _ _ _ rfl (Int.natCast_nonneg _);exact Nat.zero_le _;exact hq;exact hs2)|(apply Zaj Zab;exact Z)|(apply Zai Zab;exact Z)|(apply Zaf;(iterate 3 exact Z);exact Go.Zqn)|(apply Zak;exact Z;exact Go.Zqn;exact Z;exact Z)|(apply Zbb Zab;(iterate 4 exact Z)))
  all_goals(apply Zax [];(apply Zad Zab;exact Z);(iterate 4 exact Z))
  all_goals rfl
 ·have t1:decide ((s.length:Int) ≥ (p.length:Int))=false:=decide_eq_false (by omega)
  have e:(s.take p.length==p)=false:=by
   rw[beq_eq_false_iff_ne]
   intro e
   have:=congrArg List.length e
   rw[List.length_take]at this
   omega
  rw[e]
  refine AP.ofA ?_
  refine Zap Tryz.func206 rfl Tryz.ntmps206 rfl rfl ?_
  repeat'(first|(apply Zaj Zab;exact Z)|(apply Zai Zab;exact Z)|(apply Zau;(iterate 3 exact Z);exact Go.Zqn)|(apply Zah;exact Z;exact Go.Zqn;exact Z;exact Z)|(apply Zbb Zab;(iterate 4 exact Z)))
  all_goals(apply Zax [];(apply Zad Zab;exact Z);(iterate 4 exact Z))
  all_goals rfl
theorem ZjM [Known](p r:List UInt8)(hs:(p++r).length<=4611686018427387904):AP Tryz.prog 171 [.str (p++r),.str p] (.tup [.str r,.bool true]) []:=by
 have hH:=Zhu (p++r) p hs (by rw[List.length_append]at hs;omega)
 rw[List.take_left,beq_self_eq_true]at hH
 have hq:((p.length:Nat):Int).toNat<=(p++r).length:=by rw[Int.toNat_natCast,List.length_append];omega
 have hs2:((p++r).take (p++r).length).drop ((p.length:Nat):Int).toNat=r:=by rw[Int.toNat_natCast,List.take_length,List.drop_left]
 have hC:AP Tryz.prog 191 [.str (p++r),.str p] (.tup [.str r,.bool true]) []:=by
  generalize p++r=s at *
  refine AP.ofA ?_
  refine Zap Tryz.func191 rfl Tryz.ntmps191 rfl rfl ?_
  repeat'(first|(apply Zaa (hH);kernel_rfl;(iterate 4 exact Z))|(apply Zbl Zab;(iterate 4 exact Z);exact .lit _ _ _ _ rfl (Int.natCast_nonneg _);exact .dft _;exact hq;exact Nat.le_refl _;exact hs2)|(apply Zaj Zab;exact Z)|(apply Zai Zab;exact Z)|(apply Zay Zab;exact Z)|(apply Zae;exact Z;exact Go.Zqn)|(apply Zbb Zab;(iterate 4 exact Z)))
  all_goals(apply Zax [];(apply Zad Zab;exact Z);(iterate 4 exact Z))
  all_goals rfl
 refine AP.ofA ?_
 refine Zap Tryz.func171 rfl Tryz.ntmps171 rfl rfl ?_
 repeat'(first|(apply Zaa (hC);kernel_rfl;(iterate 4 exact Z))|(apply Zaj Zab;exact Z)|(apply Zai Zab;exact Z))
 all_goals(apply Zax [];(apply Zad Zab;exact Z);(iterate 4 exact Z))
 all_goals rfl
theorem ZjN [Known](s p:List UInt8)(hs:s.length<=4611686018427387904)(hp:p.length<=4611686018427387904)(h:(s.take p.length==p)=false):AP Tryz.prog 171 [.str s,.str p] (.tup [.str s,.bool false]) []:=by
 have hH:=Zhu s p hs hp
 rw[h]at hH
 have hC:AP Tryz.prog 191 [.str s,.str p] (.tup [.str s,.bool false]) []:=by
  refine AP.ofA ?_
  refine Zap Tryz.func191 rfl Tryz.ntmps191 rfl rfl ?_
  repeat'(first|(apply Zaa (hH);kernel_rfl;(iterate 4 exact Z))|(apply Zaj Zab;exact Z)|(apply Zai Zab;exact Z)|(apply Zay Zab;exact Z)|(apply Zac;exact Z;exact Go.Zqn))
  all_goals(apply Zax [];(apply Zad Zab;exact Z);(iterate 4 exact Z))
  all_goals rfl
 refine AP.ofA ?_
 refine Zap Tryz.func171 rfl Tryz.ntmps171 rfl rfl ?_
 repeat'(first|(apply Zaa (hC);kernel_rfl;(iterate 4 exact Z))|(apply Zaj Zab;exact Z)|(apply Zai Zab;exact Z))
 all_goals(apply Zax [];(apply Zad Zab;exact Z);(iterate 4 exact Z))
 all_goals rfl
theorem Zle (s p:List UInt8):(∃ r,s=p++r)\/(s.take p.length==p)=false:=by
 cases h:s.take p.length==p with
 | true=>
  refine .inl ⟨s.drop p.length,?_⟩
  have:=beq_iff_eq.1 h
  conv=>lhs;rw[<- List.take_append_drop p.length s,this]
 | false=>exact .inr rfl
theorem ZmW:∀ {l:List UInt8} {c:UInt8},c ∉ l->Lib.indexByte l c = -1
 | [],_,_=>rfl
 | x::l,c,h=>by
  have h1:¬ x=c:=fun e=>h (by rw[e];exact List.mem_cons_self ..)
  have h2:=ZmW (l:=l) (c:=c) fun hm=>h (List.mem_cons_of_mem _ hm)
  simp[Lib.indexByte,h1,h2]
theorem Zlf:∀ {a b:List UInt8} {c:UInt8},c ∉ a->Lib.indexByte (a++c::b) c=(a.length:Int)
 | [],b,c,_=>by simp[Lib.indexByte]
 | x::a,b,c,h=>by
  have h1:¬ x=c:=fun e=>h (by rw[e];exact List.mem_cons_self ..)
  have h2:=Zlf (a:=a) (b:=b) (c:=c) fun hm=>h (List.mem_cons_of_mem _ hm)
  rw[List.cons_append]
  simp only[Lib.indexByte,h2,List.length_cons,beq_iff_eq,h1,if_false]
  (repeat' split)<;>omega
theorem Zhv [Known](s:List UInt8)(c:UInt8):AP Tryz.prog 207 [.str s,.str [c]] (.int .i64 (Lib.indexByte s c)) []:=by
 have hI:=ZoF s (c.toNat:Int)
 have e:((c.toNat:Int)).toNat.toUInt8=c:=by rw[Int.toNat_natCast];simp
 rw[e]at hI
 have t0:((([c]:List UInt8).length:Int)==0)=false:=rfl
 have t1:((([c]:List UInt8).length:Int)==1)=true:=rfl
 by_cases hs:[c]=s
 ·subst hs
  have t2:([c]==[c])=true:=by simp
  have e0:Lib.indexByte [c] c=0:=by simp[Lib.indexByte]
  rw[e0]
  refine AP.ofA ?_
  refine Zap Tryz.func207 rfl Tryz.ntmps207 rfl rfl ?_
  repeat'(first|(apply Zaj Zab;exact Z)|(apply Zai Zab;exact Z)|(apply Zay Zab;exact Z)|(apply Zaf;(iterate 3 exact Z);exact Go.Zqn)|(apply Zah;exact Z;exact Go.Zqn;exact Z;exact Z)|(apply Zac;exact Z;exact Go.Zqn)|(apply Zbb Zab;(iterate 4 exact Z)))
  all_goals(apply Zax [];(apply Zad Zab;exact Z);(iterate 4 exact Z))
  all_goals rfl
 ·have t2:([c]==s)=false:=by simpa using hs
  refine AP.ofA ?_
  refine Zap Tryz.func207 rfl Tryz.ntmps207 rfl rfl ?_
  repeat'(first|(apply Zaa (hI);kernel_rfl;(iterate 4 exact Z))|(apply Zc9 Zab;(iterate 5 exact Z);decide +kernel;exact Z)|(apply Zaj Zab;exact Z)|(apply Zai Zab;exact Z)|(apply Zay Zab;exact Z)|(apply Zaf;(iterate 3 exact Z);exact Go.Zqn)|(apply Zah;exact Z;exact Go.Zqn;exact Z;exact Z)|(apply Zac;exact Z;exact Go.Zqn)|(apply Zae;exact Z;exact Go.Zqn)|(apply Zbb Zab;(iterate 4 exact Z)))
  all_goals(apply Zax [];(apply Zad Zab;exact Z);(iterate 4 exact Z))
  all_goals rfl
theorem ZnS [Known](s:List UInt8)(c:UInt8)(h:c ∉ s):AP Tryz.prog 172 [.str s,.str [c]] (.tup [.str s,.str [],.bool false]) []:=by
 have hI:=Zhv s c
 rw[ZmW h]at hI
 have hC:AP Tryz.prog 192 [.str s,.str [c]] (.tup [.str s,.str [],.bool false]) []:=by
  refine AP.ofA ?_
  refine Zap Tryz.func192 rfl Tryz.ntmps192 rfl rfl ?_
  repeat'(first|(apply Zaa (hI);kernel_rfl;(iterate 4 exact Z))|(apply Zaj Zab;exact Z)|(apply Zai Zab;exact Z)|(apply Zae;exact Z;exact Go.Zqn))
  all_goals(apply Zax [];(apply Zad Zab;exact Z);(iterate 4 exact Z))
  all_goals rfl
 refine AP.ofA ?_
 refine Zap Tryz.func172 rfl Tryz.ntmps172 rfl rfl ?_
 repeat'(first|(apply Zaa (hC);kernel_rfl;(iterate 4 exact Z))|(apply Zaj Zab;exact Z)|(apply Zai Zab;exact Z))
 all_goals(apply Zax [];(apply Zad Zab;exact Z);(iterate 4 exact Z))
 all_goals rfl
theorem ZnT [Known](a b:List UInt8)(c:UInt8)(h:c ∉ a)(hl:(a++c::b).length<=4611686018427387904):AP Tryz.prog 172 [.str (a++c::b),.str [c]] (.tup [.str a,.str b,.bool true]) []:=by
 have hI:=Zhv (a++c::b) c
 rw[Zlf h]at hI
 have hal:a.length+1<=(a++c::b).length:=by rw[List.length_append,List.length_cons];omega
 have t1:decide ((a.length:Int) ≥ 0)=true:=decide_eq_true (by omega)
 have e1:IntKind.i64.wrap ((a.length:Int)+(([c]:List UInt8).length:Int))=((a.length+1:Nat):Int):=by
  rw[IntWalk.i64_in _ (by simp;omega)];simp
 have q1:((a.length:Nat):Int).toNat<=(a++c::b).length:=by rw[Int.toNat_natCast];omega
 have q2:((a.length+1:Nat):Int).toNat<=(a++c::b).length:=by rw[Int.toNat_natCast];omega
 have s1:((a++c::b).take ((a.length:Nat):Int).toNat).drop 0=a:=by rw[Int.toNat_natCast,List.drop_zero,List.take_left]
 have s2:((a++c::b).take (a++c::b).length).drop ((a.length+1:Nat):Int).toNat=b:=by
  rw[Int.toNat_natCast,List.take_length,show a.length+1=(a++[c]).length by simp,show a++c::b=(a++[c])++b by simp,List.drop_left]
 have hC:AP Tryz.prog 192 [.str (a++c::b),.str [c]] (.tup [.str a,.str b,.bool true]) []:=by
  generalize a++c::b=s at *
  refine AP.ofA ?_
  refine Zap Tryz.func192 rfl Tryz.ntmps192 rfl rfl ?_
  repeat'(first|rw[e1]|(apply Zaa (hI);kernel_rfl;(iterate 4 exact Z))|(apply Zbl Zab;(iterate 4 exact Z);exact .dft _;exact .lit _ _ _ _ rfl (Int.natCast_nonneg _);exact Nat.zero_le _;exact q1;exact s1)|(apply Zbl Zab;(iterate 4 exact Z);exact .lit _ _ _ _ rfl (Int.natCast_nonneg _);exact .dft _;exact q2;exact Nat.le_refl _;exact s2)|(apply Zaj Zab;exact Z)|(apply Zai Zab;exact Z)|(apply Zac;exact Z;exact Go.Zqn)|(apply Zbb Zab;(iterate 4 exact Z))|(apply Zam 10 ZaR;decide +kernel;kernel_rfl;kernel_rfl;kernel_rfl;exact Z;exact Z)|(apply Zar;(iterate 4 exact Z))|exact AE.nil _ _ _ _|(apply Zav;exact Z)|(apply Zaz;exact Z;exact Z;decide +kernel;exact Z)|(apply ZaA;exact Z)|exact AO.nil _ _ _|(apply Zaq;(decide +kernel))|exact AOs.nil|exact ZaI rfl rfl)
  all_goals(apply Zax [];(apply Zad Zab;exact Z);(iterate 4 exact Z))
  all_goals rfl
 refine AP.ofA ?_
 refine Zap Tryz.func172 rfl Tryz.ntmps172 rfl rfl ?_
 repeat'(first|(apply Zaa (hC);kernel_rfl;(iterate 4 exact Z))|(apply Zaj Zab;exact Z)|(apply Zai Zab;exact Z))
 all_goals(apply Zax [];(apply Zad Zab;exact Z);(iterate 4 exact Z))
 all_goals rfl
theorem Zfw (c:UInt8):∀ s:List UInt8,(c ∉ s)\/∃ a b,s=a++c::b/\c ∉ a
 | []=>.inl (by simp)
 | x::s=>by
  by_cases e:x=c
  ·subst e;exact .inr ⟨[],s,rfl,by simp⟩
  ·rcases Zfw c s with h|⟨a,b,rfl,h⟩
   ·refine .inl fun hm=>?_
    rcases List.mem_cons.1 hm with h2|h2
    ·exact e h2.symm
    ·exact h h2
   ·refine .inr ⟨x::a,b,rfl,fun hm=>?_⟩
    rcases List.mem_cons.1 hm with h2|h2
    ·exact e h2.symm
    ·exact h h2
end Go.Proofs.YtakblclkflnnpaaGreatDoor
end
section
open Go.RowKit Go.Pl
namespace Go.Av
section
variable {P:Program} {Q:X->St->Prop} {n:Nat} {ee:Nat × Nat} {tm:List (Nat × D)} {bx:List (List D)} {fr:List Fr}
variable {ops:Array Oper} {rest:List Oper} {t ty:Nat} {pos:String} {after:Array Edge}
end
end Go.Av
end
section
open Go.RowKit Go.Pl Go.Av
namespace Go.Proofs.YtakblclkflnnpaaGreatDoor
set_option maxHeartbeats 4000000
theorem Zms (p s:List UInt8):(ZdX p s).1.length<=s.length:=by
 unfold ZdX
 split
 ·simp
 ·exact Nat.le_refl _
theorem ZoG [Known](s:List UInt8)(c:UInt8)(hl:s.length<=4611686018427387904):AP Tryz.prog 172 [.str s,.str [c]] (.tup [.str (Zdk c s).1,.str (Zdk c s).2.1,.bool (Zdk c s).2.2]) []:=by
 rcases Zfw c s with h|⟨a,b,rfl,h⟩
 ·rw[Zlc h];exact ZnS s c h
 ·rw[Zdd h];exact ZnT a b c h hl
theorem Zlg [Known](s p:List UInt8)(hs:s.length<=4611686018427387904)(hp:p.length<=4611686018427387904):AP Tryz.prog 171 [.str s,.str p] (.tup [.str (ZdX p s).1,.bool (ZdX p s).2]) []:=by
 rcases Zle s p with⟨r,rfl⟩ | h
 ·rw[Zek];exact ZjM p r hs
 ·rw[Zld h];exact ZjN s p hs hp h
theorem Zps [Known](s:List UInt8)(hs:s.length<=140737488351232):AP Tryz.prog 143 [.str s] (.tup [.agg (eC (ppV s).1),.bool (ppV s).2]) []:=by
 have hP:=Zlg s [47,47] (by omega) (by decide)
 have hl:=Zms [47,47] s
 unfold ppV
 dsimp only
 generalize (ZdX [47,47] s).1=r at *
 generalize (ZdX [47,47] s).2=ok at *
 have hC:=ZoG r 47 (by omega)
 generalize (Zdk 47 r).1=a at *
 generalize (Zdk 47 r).2.1=b at *
 generalize (Zdk 47 r).2.2=k at *
 have hR:=Zc1 ⟨false,0,0,a,b⟩
 generalize ZaL ⟨false,0,0,a,b⟩=R at *
 replace hR:AP Tryz.prog _ [.agg [.bool false,.int .u64 0,.int .u64 0,.str a,.str b]] (.bool R) []:=hR
 show AP Tryz.prog _ _ (.tup [.agg [.bool false,.int .u64 0,.int .u64 0,.str a,.str b],_]) _
 obtain⟨ne,h1⟩:∃ ne,(a != [])=ne:=⟨_,rfl⟩
 rw[h1]
 cases ok with
 | false=>
  refine AP.ofA ?_
  refine Zap Tryz.func143 rfl Tryz.ntmps143 rfl rfl ?_
  repeat'(first|(apply Zaa (hP);kernel_rfl;(iterate 4 exact Z))|(apply Zaa (hC);kernel_rfl;(iterate 4 exact Z))|(apply Zaj Zab;exact Z)|(apply Zai Zab;exact Z)|(apply Zau;(iterate 3 exact Z);exact Go.Zqn)|(apply Zah;exact Z;exact Go.Zqn;exact Z;exact Z)|(apply Zam 14 ZaR;decide +kernel;kernel_rfl;kernel_rfl;kernel_rfl;exact Z;exact Z)|(apply Zar;(iterate 4 exact Z))|exact AE.nil _ _ _ _|(apply Zav;exact Z)|(apply Zfe;exact Z)|(apply Zaz;exact Z;exact Z;decide +kernel;exact Z)|(apply ZaA;exact Z)|(apply Zh0;exact Z)|exact AO.nil _ _ _|(apply Zaq;(decide +kernel))|(apply ZaZ;(iterate 3 exact Z))|exact AOs.nil|exact ZaI rfl rfl|exact ZfU rfl)
  all_goals(apply Zax [];(apply Zad Zab;exact Z);(iterate 4 exact Z))
  all_goals rfl
 | true=>
  cases k with
  | false=>
   refine AP.ofA ?_
   refine Zap Tryz.func143 rfl Tryz.ntmps143 rfl rfl ?_
   repeat'(first|(apply Zaa (hP);kernel_rfl;(iterate 4 exact Z))|(apply Zaa (hC);kernel_rfl;(iterate 4 exact Z))|(apply Zaj Zab;exact Z)|(apply Zai Zab;exact Z)|(apply Zaf;(iterate 3 exact Z);exact Go.Zqn)|(apply Zau;(iterate 3 exact Z);exact Go.Zqn)|(apply Zak;exact Z;exact Go.Zqn;exact Z;exact Z)|(apply Zah;exact Z;exact Go.Zqn;exact Z;exact Z)|(apply Zam 14 ZaR;decide +kernel;kernel_rfl;kernel_rfl;kernel_rfl;exact Z;exact Z)|(apply Zar;(iterate 4 exact Z))|exact AE.nil _ _ _ _|(apply Zav;exact Z)|(apply Zfe;exact Z)|(apply Zaz;exact Z;exact Z;decide +kernel;exact Z)|(apply ZaA;exact Z)|(apply Zh0;exact Z)|exact AO.nil _ _ _|(apply Zaq;(decide +kernel))|(apply ZaZ;(iterate 3 exact Z))|exact AOs.nil|exact ZaI rfl rfl|exact ZfU rfl)
   all_goals(apply Zax [];(apply Zad Zab;exact Z);(iterate 4 exact Z))
   all_goals rfl
  | true=>
   cases ne<;>cases R
   all_goals
    refine AP.ofA ?_
    refine Zap Tryz.func143 rfl Tryz.ntmps143 rfl rfl ?_
    repeat'(first|rw[h1]|(apply Zaa (hP);kernel_rfl;(iterate 4 exact Z))|(apply Zaa (hC);kernel_rfl;(iterate 4 exact Z))|(apply Zaa (hR);kernel_rfl;(iterate 4 exact Z))|(apply Zaj Zab;exact Z)|(apply Zai Zab;exact Z)|(apply Zaf;(iterate 3 exact Z);exact Go.Zqn)|(apply Zau;(iterate 3 exact Z);exact Go.Zqn)|(apply Zak;exact Z;exact Go.Zqn;exact Z;exact Z)|(apply Zah;exact Z;exact Go.Zqn;exact Z;exact Z)|(apply Zam 14 ZaR;decide +kernel;kernel_rfl;kernel_rfl;kernel_rfl;exact Z;exact Z)|(apply Zar;(iterate 4 exact Z))|exact AE.nil _ _ _ _|(apply Zav;exact Z)|(apply Zfe;exact Z)|(apply Zaz;exact Z;exact Z;decide +kernel;exact Z)|(apply ZaA;exact Z)|(apply Zh0;exact Z)|exact AO.nil _ _ _|(apply Zaq;(decide +kernel))|(apply ZaZ;(iterate 3 exact Z))|exact AOs.nil|exact ZaI rfl rfl|exact ZfU rfl)
    all_goals(apply Zax [];(apply Zad Zab;exact Z);(iterate 4 exact Z))
    all_goals rfl
end Go.Proofs.YtakblclkflnnpaaGreatDoor
end
section
open Go.RowKit Go.Pl
namespace Go.Av
inductive Zy where
 | pu (d:D)
 | al (cs:List D)
def z0 (p:Nat × Zy):Nat × D:=(p.1,match p.2 with | .pu d=>d | .al _=>.junk)
def Zpt:Nat->List (Nat × Zy)->List (Nat × D)->List (Nat × D)
 | _,[],tm=>tm
 | m,(_,.pu _)::zs,tm=>Zpt m zs tm
 | m,(t,.al _)::zs,tm=>Zpt (m+1) zs ((t,.ptr m 0)::tm)
def zcs:List (Nat × Zy)->List (List D)
 | []=>[]
 | (_,.pu _)::zs=>zcs zs
 | (_,.al cs)::zs=>cs::zcs zs
section
variable {P:Program} {T:Tab} {Q:X->St->Prop} {n:Nat} {ee:Nat × Nat} {tm tm':List (Nat × D)} {bx:List (List D)} {fr:List Fr} {b0:Bs} {g g':G} {w w':World} {a:Act}
inductive AZ [Known][Dfr](P:Program) (T:Tab) (l:List Oper) (n:Nat) (bx:List (List D)) (fr:List Fr):List Oper->List (Nat × D)->List (Nat × Zy)->List (Nat × D)->Prop
 | nil (tm:List (Nat × D)):AZ P T l n bx fr [] tm [] tm
 | pu (o:Oper) (rest:List Oper) (t:Nat) (d:D) (tm:List (Nat × D)) (zs:List (Nat × Zy)) (tm':List (Nat × D)) (hd:o.dst=some t) (ht:Nat.blt t n=true) (h:AL P l.toArray [o] ⟨n,ZbN l o tm,bx,fr,(bx.length,fr.length)⟩ (qY o bx fr (.pu d))) (k:AZ P T l n bx fr rest ((t,d)::tm) zs tm'):AZ P T l n bx fr (o::rest) tm ((t,.pu d)::zs) tm'
 | al (t:Nat) (e:TypeId) (ty:Nat) (pos:String) (after:Array Edge) (rest:List Oper) (ti:Ti) (tm:List (Nat × D)) (zs:List (Nat × Zy)) (tm':List (Nat × D)) (ht:Nat.blt t n=true) (hti:tl T e=some ti) (k:AZ P T l n bx fr rest ((t,.junk)::tm) zs tm'):AZ P T l n bx fr (⟨some t,.alloc e,ty,pos,after,none⟩::rest) tm ((t,.al (ti.zero.map ZK.d))::zs) tm'
theorem Zdu (l:List Oper)(o:Oper):∀ tm:List (Nat × D),ZbN l o tm=tm.filter fun p=>(ZcS l o).contains p.1
 | []=>rfl
 | p::tm=>by
  rw[ZbN,List.filter_cons,Zdu l o tm]
  cases(ZcS l o).contains p.1<;>rfl
theorem Evo.al [Known](hm:Mem g bx fr w)(o:Obj):Evo ⟨g,fr,w⟩ ⟨g,fr,w.alloc o⟩:=
 ⟨rfl,rfl,rfl,by simp,fun k hk _=>Below.heap_alloc w _ k hk,fun _ _ h=>h,fun k p h=>Zcs w _ (hm.Clt k p h) p,fun _ _ h=>.inl h,fun _ _ h=>h,fun _ h=>.inl h,fun k c h=>.inl ⟨c,h⟩,ZcI.refl _ _⟩
theorem Mem.al [Known](hm:Mem g bx fr w)(o:Obj):Mem g bx fr (w.alloc o) where
 bl:=hm.bl
 bat i k cs' h1 h2:=by
  obtain⟨us,ty,k1,k2,k3⟩:=hm.bat i k cs' h1 h2
  exact⟨us,ty,(Below.heap_alloc w _ k (Array.getElem?_eq_some_iff.1 k1).1).trans k1,k2,fun j d v hd hv=>(k3 j d v hd hv).evo (Evo.al hm o)⟩
 bC:=hm.bC
 bN:=hm.bN
 tl:=hm.tl
 tat i k c f h1 h2:=by
  have hT:=hm.tat i k c f h1 h2
  obtain⟨cur,r1,r2⟩:=hT.row
  exact⟨⟨cur,(Below.heap_alloc w _ k (Array.getElem?_eq_some_iff.1 r1).1).trans r1,r2⟩,hT.le,hT.max,hT.pos,hT.far⟩
 tN:=hm.tN
 tρ:=hm.tρ
 Clt k p hC:=by
  have:=hm.Clt k p hC
  simp;omega
 gl:=hm.gl.evo (Evo.al hm o)
theorem Zmt {k k':Nat}(h:M ⟨g.C,g.ρ++[k],g.τ⟩ k'):M g k'\/k'=k:=by
 rcases h with h|h
 ·rcases List.mem_append.1 h with h|h
  ·exact .inl (.inl h)
  ·simp at h;exact .inr h
 ·exact .inl (.inr h)
structure AZk [Known][Dfr](P:Program) (l acts:List Oper) (n:Nat) (zs:List (Nat × Zy)) (tm:List (Nat × D)) (bx:List (List D)) (fr:List Fr) (ee:Nat × Nat) (Q:X->St->Prop):Prop where
 run:AL P l.toArray acts ⟨n,Zpt bx.length zs tm,bx++zcs zs,fr,ee⟩ Q
end
end Go.Av
end

/- The document's blocks: hops. -/
import Derived.Test.YtakblclkflnnpaaGreatDoorK35
import Derived.Test.YtakblclkflnnpaaGreatDoorK31
set_option linter.unusedVariables false
set_option linter.unusedSimpArgs false
section
open Go.RowKit Go.Pl Go.Av
namespace Go.Proofs.YtakblclkflnnpaaGreatDoor
set_option maxHeartbeats 4000000
def ZoT (d:List UInt8):Nat × Nat:=match(ZcX d).2.2 with
 | true=>((ZcX d).1,(ZcX d).2.1)
 | false=>(0,0)
theorem Zl9 (k:Int)(n:Nat)(b:List UInt8)(k1:Int)(n1:Nat)(b1:List UInt8)(l1:List It)(k2:Int)(n2:Nat)(b2:List UInt8)(l2:List It) :
  (It.beq (.mk k n b [.mk k1 n1 b1 l1,.mk k2 n2 b2 l2]) (.mk 4 0 [] [.mk 0 n1 [] [],.mk 0 n2 [] []])=false/\(ZiB true (.mk k n b [.mk k1 n1 b1 l1,.mk k2 n2 b2 l2])).2.2=false) \/
  (It.beq (.mk k n b [.mk k1 n1 b1 l1,.mk k2 n2 b2 l2]) (.mk 4 0 [] [.mk 0 n1 [] [],.mk 0 n2 [] []])=true/\ZiB true (.mk k n b [.mk k1 n1 b1 l1,.mk k2 n2 b2 l2])=(n1,n2,decide ((n1:Int) ≥ 1)&&(decide ((n1:Int)<=255)&&decide ((n2:Int)<=(n1:Int))))):=by
 unfold ZiB
 dsimp only
 cases h:It.beq (.mk k n b [.mk k1 n1 b1 l1,.mk k2 n2 b2 l2]) (.mk 4 0 [] [.mk 0 n1 [] [],.mk 0 n2 [] []]) with
 | false=>
  refine .inl ⟨rfl,?_⟩
  cases k==4<;>rfl
 | true=>
  have:=It.beq_iff.1 h
  injection this with e
  subst e
  exact .inr ⟨rfl,by rw[show((4:Int)==4)=true from rfl];simp⟩
theorem Zns [Known][KnownU8](d:List UInt8)(hd:d.length<=100000):AP Tryz.prog 40 [byE d] (.tup [.int .u64 ((ZoT d).1:Int),.int .u64 ((ZoT d).2:Int),.bool (ZcX d).2.2]) []:=by
 have hI:=Zg2 d hd
 unfold ZoT ZcX
 rcases ZeP d hd with⟨hs,hi⟩ | ⟨hs,hi,hr,hw⟩
 ·rw[hs,hi]at hI
  rw[hs]
  replace hI:AP Tryz.prog _ _ (.tup [.agg [.int .i64 0,.int .u64 0,.sl .ext [],.sl .ext []],.bool false]) []:=hI
  refine AP.ofA ?_
  refine Zan Tryz.func40 rfl Tryz.ntmps40 rfl rfl ?_
  repeat'(first|(apply Zaa (hI);kernel_rfl;(iterate 4 exact Z))|(apply Zaj Zab;exact Z)|(apply Zah Zab;exact Z)|(apply Zav Zab;exact Z)|(apply Zal;(iterate 3 exact Z);exact Go.ZrJ)|(apply Zak;exact Z;exact Go.ZrJ;exact Z;exact Z)|(apply Zac;exact Z;exact Go.ZrJ)|(apply Zao 21 ZaL;decide +kernel;kernel_rfl;kernel_rfl;kernel_rfl;exact Z;exact Z)|(apply Zaq;(iterate 4 exact Z))|exact AE.nil _ _ _ _|(apply Zat;exact Z)|(apply Zay;exact Z;exact Z;decide +kernel;exact Z)|(apply Zaz;exact Z)|exact AO.nil _ _ _|(apply Zap;(decide +kernel))|exact AOs.nil|exact ZaH rfl rfl)
  all_goals(apply Zaw [];(apply Zad Zab;exact Z);(iterate 4 exact Z))
  all_goals rfl
 ·rw[hs,hi]at hI
  rw[hs]
  generalize (Zbu d 0).1=y at *
  obtain⟨k,n,b,l⟩:=y
  replace hI:AP Tryz.prog _ _ (.tup [.agg (itC k n b l),.bool true]) []:=hI
  have hlen:=Zar l
  have hU:=Zb8 l
  have no:l.length ≠ 2->ZiB true (.mk k n b l)=(0,0,false):=fun h=>by
   unfold ZiB
   dsimp only
   cases k==4 with
   | false=>rfl
   | true=>
    dsimp only
    split
    ·simp at h
    ·rfl
  by_cases h2:l.length=2
  ·clear no
   match l,h2,hI,hw,hU,hlen with
   | [.mk k1 n1 b1 l1,.mk k2 n2 b2 l2],_,hI,hw,hU,hlen=>
   have t2:(((Zax [It.mk k1 n1 b1 l1,.mk k2 n2 b2 l2]).length:Int) != 2)=false:=by rw[hlen];rfl
   have hws:=hw.2.2.2
   have hS:=ZbJ _ hw (.mk 4 0 [] [.mk 0 n1 [] [],.mk 0 n2 [] []]) ⟨by decide,by simp,by simp,⟨hws.1.1,by simp,by simp,trivial⟩,⟨hws.2.1.1,by simp,by simp,trivial⟩,trivial⟩
   have hN:=Znq n1 n2
   rcases Zl9 k n b k1 n1 b1 l1 k2 n2 b2 l2 with⟨h1,h2⟩ | ⟨h1,h2⟩
   ·rw[h2]
    rw[h1]at hS
    refine AP.ofA ?_
    refine Zan Tryz.func40 rfl Tryz.ntmps40 rfl rfl ?_
    repeat'(first|(apply Zaa (hI);kernel_rfl;(iterate 4 exact Z))|(apply Zaa (hS);kernel_rfl;(iterate 4 exact Z))|(apply Zaa (hN);kernel_rfl;(iterate 4 exact Z))|(apply Zaj Zab;exact Z)|(apply Zah Zab;exact Z)|(apply Zav Zab;exact Z)|(apply Zae;(iterate 3 exact Z);exact Go.ZrJ)|(apply Zag;exact Z;exact Go.ZrJ;exact Z;exact Z)|(apply Zac;exact Z;exact Go.ZrJ)|(apply Zam Zab;(iterate 4 exact Z))|(apply Zao 21 ZaL;decide +kernel;kernel_rfl;kernel_rfl;kernel_rfl;exact Z;exact Z)|(apply Zaq;(iterate 4 exact Z))|exact AE.nil _ _ _ _|(apply Zat;exact Z)|(apply Zay;exact Z;exact Z;decide +kernel;exact Z)|(apply Zaz;exact Z)|exact AO.nil _ _ _|(apply Zap;(decide +kernel))|exact AOs.nil|exact ZaH rfl rfl|(apply Zau Zab;(iterate 6 exact Z);(first|exact Go.ZrJ|rotate_left);(first|with_reducible assumption|decide +kernel|exact Z);(first|exact Zai rfl|with_reducible assumption|decide +kernel|rotate_left)))
    all_goals(apply Zaw [];(apply Zad Zab;exact Z);(iterate 4 exact Z))
    all_goals rfl
   ·rw[h2]
    rw[h1]at hS
    rcases Nat.lt_or_ge n1 1 with g1|g1
    ·have a1:decide ((n1:Int)<1)=true:=decide_eq_true (by omega)
     have c1:decide ((n1:Int) ≥ 1)=false:=decide_eq_false (by omega)
     rw[c1]
     refine AP.ofA ?_
     refine Zan Tryz.func40 rfl Tryz.ntmps40 rfl rfl ?_
     repeat'(first|(apply Zaa (hI);kernel_rfl;(iterate 4 exact Z))|(apply Zaa (hS);kernel_rfl;(iterate 4 exact Z))|(apply Zaa (hN);kernel_rfl;(iterate 4 exact Z))|(apply Zaj Zab;exact Z)|(apply Zah Zab;exact Z)|(apply Zav Zab;exact Z)|(apply Zae;(iterate 3 exact Z);exact Go.ZrJ)|(apply Zal;(iterate 3 exact Z);exact Go.ZrJ)|(apply Zak;exact Z;exact Go.ZrJ;exact Z;exact Z)|(apply Zag;exact Z;exact Go.ZrJ;exact Z;exact Z)|(apply Zac;exact Z;exact Go.ZrJ)|(apply Zaf;exact Z;exact Go.ZrJ)|(apply Zam Zab;(iterate 4 exact Z))|(apply Zao 11 ZaL;decide +kernel;kernel_rfl;kernel_rfl;kernel_rfl;exact Z;exact Z)|(apply Zao 21 ZaL;decide +kernel;kernel_rfl;kernel_rfl;kernel_rfl;exact Z;exact Z)|(apply Zaq;(iterate 4 exact Z))|exact AE.nil _ _ _ _|(apply Zat;exact Z)|(apply Zay;exact Z;exact Z;decide +kernel;exact Z)|(apply Zaz;exact Z)|exact AO.nil _ _ _|(apply Zap;(decide +kernel))|exact AOs.nil|exact ZaH rfl rfl|(apply Zau Zab;(iterate 6 exact Z);(first|exact Go.ZrJ|rotate_left);(first|with_reducible assumption|decide +kernel|exact Z);(first|exact Zai rfl|with_reducible assumption|decide +kernel|rotate_left)))
     all_goals(apply Zaw [];(apply Zad Zab;exact Z);(iterate 4 exact Z))
     all_goals rfl
    have a1:decide ((n1:Int)<1)=false:=decide_eq_false (by omega)
    have c1:decide ((n1:Int) ≥ 1)=true:=decide_eq_true (by omega)
    rw[c1]
    rcases Nat.lt_or_ge 255 n1 with g2|g2
    ·have a2:decide ((n1:Int)>255)=true:=decide_eq_true (by omega)
     have c2:decide ((n1:Int)<=255)=false:=decide_eq_false (by omega)
     rw[c2]
     refine AP.ofA ?_
     refine Zan Tryz.func40 rfl Tryz.ntmps40 rfl rfl ?_
     repeat'(first|(apply Zaa (hI);kernel_rfl;(iterate 4 exact Z))|(apply Zaa (hS);kernel_rfl;(iterate 4 exact Z))|(apply Zaa (hN);kernel_rfl;(iterate 4 exact Z))|(apply Zaj Zab;exact Z)|(apply Zah Zab;exact Z)|(apply Zav Zab;exact Z)|(apply Zae;(iterate 3 exact Z);exact Go.ZrJ)|(apply Zal;(iterate 3 exact Z);exact Go.ZrJ)|(apply Zak;exact Z;exact Go.ZrJ;exact Z;exact Z)|(apply Zag;exact Z;exact Go.ZrJ;exact Z;exact Z)|(apply Zac;exact Z;exact Go.ZrJ)|(apply Zaf;exact Z;exact Go.ZrJ)|(apply Zam Zab;(iterate 4 exact Z))|(apply Zao 11 ZaL;decide +kernel;kernel_rfl;kernel_rfl;kernel_rfl;exact Z;exact Z)|(apply Zao 21 ZaL;decide +kernel;kernel_rfl;kernel_rfl;kernel_rfl;exact Z;exact Z)|(apply Zaq;(iterate 4 exact Z))|exact AE.nil _ _ _ _|(apply Zat;exact Z)|(apply Zay;exact Z;exact Z;decide +kernel;exact Z)|(apply Zaz;exact Z)|exact AO.nil _ _ _|(apply Zap;(decide +kernel))|exact AOs.nil|exact ZaH rfl rfl|(apply Zau Zab;(iterate 6 exact Z);(first|exact Go.ZrJ|rotate_left);(first|with_reducible assumption|decide +kernel|exact Z);(first|exact Zai rfl|with_reducible assumption|decide +kernel|rotate_left)))
     all_goals(apply Zaw [];(apply Zad Zab;exact Z);(iterate 4 exact Z))
     all_goals rfl
    have a2:decide ((n1:Int)>255)=false:=decide_eq_false (by omega)
    have c2:decide ((n1:Int)<=255)=true:=decide_eq_true (by omega)
    rw[c2]
    rcases Nat.lt_or_ge n1 n2 with g3|g3
    ·have a3:decide ((n2:Int)>(n1:Int))=true:=decide_eq_true (by omega)
     have c3:decide ((n2:Int)<=(n1:Int))=false:=decide_eq_false (by omega)
     rw[c3]
     refine AP.ofA ?_
     refine Zan Tryz.func40 rfl Tryz.ntmps40 rfl rfl ?_
     repeat'(first|(apply Zaa (hI);kernel_rfl;(iterate 4 exact Z))|(apply Zaa (hS);kernel_rfl;(iterate 4 exact Z))|(apply Zaa (hN);kernel_rfl;(iterate 4 exact Z))|(apply Zaj Zab;exact Z)|(apply Zah Zab;exact Z)|(apply Zav Zab;exact Z)|(apply Zae;(iterate 3 exact Z);exact Go.ZrJ)|(apply Zag;exact Z;exact Go.ZrJ;exact Z;exact Z)|(apply Zac;exact Z;exact Go.ZrJ)|(apply Zaf;exact Z;exact Go.ZrJ)|(apply Zam Zab;(iterate 4 exact Z))|(apply Zao 11 ZaL;decide +kernel;kernel_rfl;kernel_rfl;kernel_rfl;exact Z;exact Z)|(apply Zao 21 ZaL;decide +kernel;kernel_rfl;kernel_rfl;kernel_rfl;exact Z;exact Z)|(apply Zaq;(iterate 4 exact Z))|exact AE.nil _ _ _ _|(apply Zat;exact Z)|(apply Zay;exact Z;exact Z;decide +kernel;exact Z)|(apply Zaz;exact Z)|exact AO.nil _ _ _|(apply Zap;(decide +kernel))|exact AOs.nil|exact ZaH rfl rfl|(apply Zau Zab;(iterate 6 exact Z);(first|exact Go.ZrJ|rotate_left);(first|with_reducible assumption|decide +kernel|exact Z);(first|exact Zai rfl|with_reducible assumption|decide +kernel|rotate_left)))
     all_goals(apply Zaw [];(apply Zad Zab;exact Z);(iterate 4 exact Z))
     all_goals rfl
    have a3:decide ((n2:Int)>(n1:Int))=false:=decide_eq_false (by omega)
    have c3:decide ((n2:Int)<=(n1:Int))=true:=decide_eq_true (by omega)
    rw[c3]
    refine AP.ofA ?_
    refine Zan Tryz.func40 rfl Tryz.ntmps40 rfl rfl ?_
    repeat'(first|(apply Zaa (hI);kernel_rfl;(iterate 4 exact Z))|(apply Zaa (hS);kernel_rfl;(iterate 4 exact Z))|(apply Zaa (hN);kernel_rfl;(iterate 4 exact Z))|(apply Zaj Zab;exact Z)|(apply Zah Zab;exact Z)|(apply Zav Zab;exact Z)|(apply Zae;(iterate 3 exact Z);exact Go.ZrJ)|(apply Zag;exact Z;exact Go.ZrJ;exact Z;exact Z)|(apply Zaf;exact Z;exact Go.ZrJ)|(apply Zam Zab;(iterate 4 exact Z))|(apply Zao 11 ZaL;decide +kernel;kernel_rfl;kernel_rfl;kernel_rfl;exact Z;exact Z)|(apply Zao 21 ZaL;decide +kernel;kernel_rfl;kernel_rfl;kernel_rfl;exact Z;exact Z)|(apply Zaq;(iterate 4 exact Z))|exact AE.nil _ _ _ _|(apply Zat;exact Z)|(apply Zay;exact Z;exact Z;decide +kernel;exact Z)|(apply Zaz;exact Z)|exact AO.nil _ _ _|(apply Zap;(decide +kernel))|exact AOs.nil|exact ZaH rfl rfl|(apply Zau Zab;(iterate 6 exact Z);(first|exact Go.ZrJ|rotate_left);(first|with_reducible assumption|decide +kernel|exact Z);(first|exact Zai rfl|with_reducible assumption|decide +kernel|rotate_left)))
    all_goals(apply Zaw [];(apply Zad Zab;exact Z);(iterate 4 exact Z))
    all_goals rfl
  ·rw[no h2]
   have t2:(((Zax l).length:Int) != 2)=true:=by rw[hlen];simp;omega
   refine AP.ofA ?_
   refine Zan Tryz.func40 rfl Tryz.ntmps40 rfl rfl ?_
   repeat'(first|(apply Zaa (hI);kernel_rfl;(iterate 4 exact Z))|(apply Zaj Zab;exact Z)|(apply Zah Zab;exact Z)|(apply Zav Zab;exact Z)|(apply Zae;(iterate 3 exact Z);exact Go.ZrJ)|(apply Zal;(iterate 3 exact Z);exact Go.ZrJ)|(apply Zak;exact Z;exact Go.ZrJ;exact Z;exact Z)|(apply Zag;exact Z;exact Go.ZrJ;exact Z;exact Z)|(apply Zac;exact Z;exact Go.ZrJ)|(apply Zam Zab;(iterate 4 exact Z))|(apply Zao 21 ZaL;decide +kernel;kernel_rfl;kernel_rfl;kernel_rfl;exact Z;exact Z)|(apply Zaq;(iterate 4 exact Z))|exact AE.nil _ _ _ _|(apply Zat;exact Z)|(apply Zay;exact Z;exact Z;decide +kernel;exact Z)|(apply Zaz;exact Z)|exact AO.nil _ _ _|(apply Zap;(decide +kernel))|exact AOs.nil|exact ZaH rfl rfl)
   all_goals(apply Zaw [];(apply Zad Zab;exact Z);(iterate 4 exact Z))
   all_goals rfl
theorem Zrq [Known][KnownU8](d:List UInt8)(k:Int)(n:Nat)(b:List UInt8)(L:List E)(k1:Int)(n1:Nat)(b1:List UInt8)(l1:List It)(k2:Int)(n2:Nat)(b2:List UInt8)(l2:List It)(s:Bool)(N:D)
  (hI:AP Tryz.prog 156 [byE d] (.tup [.agg [.int .i64 k,.int .u64 (n:Int),byE b,.sl .ext L],.bool true]) []) (tk2:(k != 4)=false) (t2:((L.length:Int) != 2)=false) (hU:Uni 4 L)
  (hv0:L[(0:Int).toNat]?=some (.agg [.int .i64 k1,.int .u64 (n1:Int),.sl (b1.map E.byte),.sl (Zax l1)])) (hv1:L[(1:Int).toNat]?=some (.agg [.int .i64 k2,.int .u64 (n2:Int),.sl (b2.map E.byte),.sl (Zax l2)]))
  (hN:AP Tryz.prog 96 [.sl .ext [.int .u64 (n1:Int),.int .u64 (n2:Int)]] (.agg [.int .i64 4,.int .u64 0,.sl .ext [],.sl .ext [nmE n1,nmE n2]]) []) (hS:AP Tryz.prog 88 [.agg [.int .i64 k,.int .u64 (n:Int),byE b,.sl .ext L],.agg [.int .i64 4,.int .u64 0,.sl .ext [],.sl .ext [nmE n1,nmE n2]]] (.bool s) []) (ts:s=false) :
  AP Tryz.prog 105 [byE d] (.tup [.int .u64 (n1:Int),.int .u64 (n2:Int),.bool false]) []:=by
 subst ts
 refine AP.ofA ?_
 refine Zan Tryz.func105 rfl Tryz.ntmps105 rfl rfl ?_
 repeat'(first|(apply Zaa (hI);kernel_rfl;(iterate 4 exact Z))|(apply Zaa (hS);kernel_rfl;(iterate 4 exact Z))|(apply Zaa (hN);kernel_rfl;(iterate 4 exact Z))|(apply Zaj Zab;exact Z)|(apply Zah Zab;exact Z)|(apply Zav Zab;exact Z)|(apply Zae;(iterate 3 exact Z);exact Go.ZrJ)|(apply Zas;(iterate 3 exact Z);exact Go.ZrJ)|(apply Zag;exact Z;exact Go.ZrJ;exact Z;exact Z)|(apply Zaf;exact Z;exact Go.ZrJ)|(apply Zam Zab;(iterate 4 exact Z))|(apply ZaX Zab;(iterate 12 exact Z))|(apply Zao 11 ZaL;decide +kernel;kernel_rfl;kernel_rfl;kernel_rfl;exact Z;exact Z)|(apply Zao 23 ZaL;decide +kernel;kernel_rfl;kernel_rfl;kernel_rfl;exact Z;exact Z)|(apply Zaq;(iterate 4 exact Z))|exact AE.nil _ _ _ _|(apply Zat;exact Z)|(apply Zay;exact Z;exact Z;decide +kernel;exact Z)|(apply Zaz;exact Z)|exact AO.nil _ _ _|(apply Zap;(decide +kernel))|exact AOs.nil|exact ZaH rfl rfl|exact Zc0 rfl rfl rfl rfl rfl|(apply Zau Zab;(iterate 6 exact Z);(first|exact Go.ZrJ|rotate_left);(first|with_reducible assumption|decide +kernel|exact Z);(first|exact Zai rfl|with_reducible assumption|decide +kernel|rotate_left)))
 all_goals(apply Zaw [];(apply Zad Zab;exact Z);(iterate 4 exact Z))
 all_goals rfl
theorem Zrr [Known][KnownU8](d:List UInt8)(k:Int)(n:Nat)(b:List UInt8)(L:List E)(k1:Int)(n1:Nat)(b1:List UInt8)(l1:List It)(k2:Int)(n2:Nat)(b2:List UInt8)(l2:List It)(s:Bool)(N:D)
  (hI:AP Tryz.prog 156 [byE d] (.tup [.agg [.int .i64 k,.int .u64 (n:Int),byE b,.sl .ext L],.bool true]) []) (tk2:(k != 4)=false) (t2:((L.length:Int) != 2)=false) (hU:Uni 4 L)
  (hv0:L[(0:Int).toNat]?=some (.agg [.int .i64 k1,.int .u64 (n1:Int),.sl (b1.map E.byte),.sl (Zax l1)])) (hv1:L[(1:Int).toNat]?=some (.agg [.int .i64 k2,.int .u64 (n2:Int),.sl (b2.map E.byte),.sl (Zax l2)]))
  (hN:AP Tryz.prog 96 [.sl .ext [.int .u64 (n1:Int),.int .u64 (n2:Int)]] (.agg [.int .i64 4,.int .u64 0,.sl .ext [],.sl .ext [nmE n1,nmE n2]]) []) (hS:AP Tryz.prog 88 [.agg [.int .i64 k,.int .u64 (n:Int),byE b,.sl .ext L],.agg [.int .i64 4,.int .u64 0,.sl .ext [],.sl .ext [nmE n1,nmE n2]]] (.bool s) []) (ts:s=true) (t4:decide ((n1:Int) ≥ 1)=false) :
  AP Tryz.prog 105 [byE d] (.tup [.int .u64 (n1:Int),.int .u64 (n2:Int),.bool false]) []:=by
 subst ts
 refine AP.ofA ?_
 refine Zan Tryz.func105 rfl Tryz.ntmps105 rfl rfl ?_
 repeat'(first|(apply Zaa (hI);kernel_rfl;(iterate 4 exact Z))|(apply Zaa (hS);kernel_rfl;(iterate 4 exact Z))|(apply Zaa (hN);kernel_rfl;(iterate 4 exact Z))|(apply Zaj Zab;exact Z)|(apply Zah Zab;exact Z)|(apply Zav Zab;exact Z)|(apply Zae;(iterate 3 exact Z);exact Go.ZrJ)|(apply Zas;(iterate 3 exact Z);exact Go.ZrJ)|(apply Zak;exact Z;exact Go.ZrJ;exact Z;exact Z)|(apply Zag;exact Z;exact Go.ZrJ;exact Z;exact Z)|(apply Zaf;exact Z;exact Go.ZrJ)|(apply Zam Zab;(iterate 4 exact Z))|(apply ZaX Zab;(iterate 12 exact Z))|(apply Zao 11 ZaL;decide +kernel;kernel_rfl;kernel_rfl;kernel_rfl;exact Z;exact Z)|(apply Zao 23 ZaL;decide +kernel;kernel_rfl;kernel_rfl;kernel_rfl;exact Z;exact Z)|(apply Zaq;(iterate 4 exact Z))|exact AE.nil _ _ _ _|(apply Zat;exact Z)|(apply Zay;exact Z;exact Z;decide +kernel;exact Z)|(apply Zaz;exact Z)|exact AO.nil _ _ _|(apply Zap;(decide +kernel))|exact AOs.nil|exact ZaH rfl rfl|exact Zc0 rfl rfl rfl rfl rfl|(apply Zau Zab;(iterate 6 exact Z);(first|exact Go.ZrJ|rotate_left);(first|with_reducible assumption|decide +kernel|exact Z);(first|exact Zai rfl|with_reducible assumption|decide +kernel|rotate_left)))
 all_goals(apply Zaw [];(apply Zad Zab;exact Z);(iterate 4 exact Z))
 all_goals rfl
theorem Zrs [Known][KnownU8](d:List UInt8)(k:Int)(n:Nat)(b:List UInt8)(L:List E)(k1:Int)(n1:Nat)(b1:List UInt8)(l1:List It)(k2:Int)(n2:Nat)(b2:List UInt8)(l2:List It)(s:Bool)(N:D)
  (hI:AP Tryz.prog 156 [byE d] (.tup [.agg [.int .i64 k,.int .u64 (n:Int),byE b,.sl .ext L],.bool true]) []) (tk2:(k != 4)=false) (t2:((L.length:Int) != 2)=false) (hU:Uni 4 L)
  (hv0:L[(0:Int).toNat]?=some (.agg [.int .i64 k1,.int .u64 (n1:Int),.sl (b1.map E.byte),.sl (Zax l1)])) (hv1:L[(1:Int).toNat]?=some (.agg [.int .i64 k2,.int .u64 (n2:Int),.sl (b2.map E.byte),.sl (Zax l2)]))
  (hN:AP Tryz.prog 96 [.sl .ext [.int .u64 (n1:Int),.int .u64 (n2:Int)]] (.agg [.int .i64 4,.int .u64 0,.sl .ext [],.sl .ext [nmE n1,nmE n2]]) []) (hS:AP Tryz.prog 88 [.agg [.int .i64 k,.int .u64 (n:Int),byE b,.sl .ext L],.agg [.int .i64 4,.int .u64 0,.sl .ext [],.sl .ext [nmE n1,nmE n2]]] (.bool s) []) (ts:s=true) (t4:decide ((n1:Int) ≥ 1)=true) (t5:decide ((n1:Int)<=255)=false) :
  AP Tryz.prog 105 [byE d] (.tup [.int .u64 (n1:Int),.int .u64 (n2:Int),.bool false]) []:=by
 subst ts
 refine AP.ofA ?_
 refine Zan Tryz.func105 rfl Tryz.ntmps105 rfl rfl ?_
 repeat'(first|(apply Zaa (hI);kernel_rfl;(iterate 4 exact Z))|(apply Zaa (hS);kernel_rfl;(iterate 4 exact Z))|(apply Zaa (hN);kernel_rfl;(iterate 4 exact Z))|(apply Zaj Zab;exact Z)|(apply Zah Zab;exact Z)|(apply Zav Zab;exact Z)|(apply Zae;(iterate 3 exact Z);exact Go.ZrJ)|(apply Zas;(iterate 3 exact Z);exact Go.ZrJ)|(apply Zak;exact Z;exact Go.ZrJ;exact Z;exact Z)|(apply Zag;exact Z;exact Go.ZrJ;exact Z;exact Z)|(apply Zaf;exact Z;exact Go.ZrJ)|(apply Zam Zab;(iterate 4 exact Z))|(apply ZaX Zab;(iterate 12 exact Z))|(apply Zao 11 ZaL;decide +kernel;kernel_rfl;kernel_rfl;kernel_rfl;exact Z;exact Z)|(apply Zao 23 ZaL;decide +kernel;kernel_rfl;kernel_rfl;kernel_rfl;exact Z;exact Z)|(apply Zaq;(iterate 4 exact Z))|exact AE.nil _ _ _ _|(apply Zat;exact Z)|(apply Zay;exact Z;exact Z;decide +kernel;exact Z)|(apply Zaz;exact Z)|exact AO.nil _ _ _|(apply Zap;(decide +kernel))|exact AOs.nil|exact ZaH rfl rfl|exact Zc0 rfl rfl rfl rfl rfl|(apply Zau Zab;(iterate 6 exact Z);(first|exact Go.ZrJ|rotate_left);(first|with_reducible assumption|decide +kernel|exact Z);(first|exact Zai rfl|with_reducible assumption|decide +kernel|rotate_left)))
 all_goals(apply Zaw [];(apply Zad Zab;exact Z);(iterate 4 exact Z))
 all_goals rfl
theorem Zrt [Known][KnownU8](d:List UInt8)(k:Int)(n:Nat)(b:List UInt8)(L:List E)(k1:Int)(n1:Nat)(b1:List UInt8)(l1:List It)(k2:Int)(n2:Nat)(b2:List UInt8)(l2:List It)(s:Bool)(N:D)
  (hI:AP Tryz.prog 156 [byE d] (.tup [.agg [.int .i64 k,.int .u64 (n:Int),byE b,.sl .ext L],.bool true]) []) (tk2:(k != 4)=false) (t2:((L.length:Int) != 2)=false) (hU:Uni 4 L)
  (hv0:L[(0:Int).toNat]?=some (.agg [.int .i64 k1,.int .u64 (n1:Int),.sl (b1.map E.byte),.sl (Zax l1)])) (hv1:L[(1:Int).toNat]?=some (.agg [.int .i64 k2,.int .u64 (n2:Int),.sl (b2.map E.byte),.sl (Zax l2)]))
  (hN:AP Tryz.prog 96 [.sl .ext [.int .u64 (n1:Int),.int .u64 (n2:Int)]] (.agg [.int .i64 4,.int .u64 0,.sl .ext [],.sl .ext [nmE n1,nmE n2]]) []) (hS:AP Tryz.prog 88 [.agg [.int .i64 k,.int .u64 (n:Int),byE b,.sl .ext L],.agg [.int .i64 4,.int .u64 0,.sl .ext [],.sl .ext [nmE n1,nmE n2]]] (.bool s) []) (ts:s=true) (t4:decide ((n1:Int) ≥ 1)=true) (t5:decide ((n1:Int)<=255)=true) :
  AP Tryz.prog 105 [byE d] (.tup [.int .u64 (n1:Int),.int .u64 (n2:Int),.bool (decide ((n2:Int)<=(n1:Int)))]) []:=by
 subst ts
 refine AP.ofA ?_
 refine Zan Tryz.func105 rfl Tryz.ntmps105 rfl rfl ?_
 repeat'(first|(apply Zaa (hI);kernel_rfl;(iterate 4 exact Z))|(apply Zaa (hS);kernel_rfl;(iterate 4 exact Z))|(apply Zaa (hN);kernel_rfl;(iterate 4 exact Z))|(apply Zaj Zab;exact Z)|(apply Zah Zab;exact Z)|(apply Zav Zab;exact Z)|(apply Zae;(iterate 3 exact Z);exact Go.ZrJ)|(apply Zak;exact Z;exact Go.ZrJ;exact Z;exact Z)|(apply Zag;exact Z;exact Go.ZrJ;exact Z;exact Z)|(apply Zaf;exact Z;exact Go.ZrJ)|(apply Zam Zab;(iterate 4 exact Z))|(apply ZaX Zab;(iterate 12 exact Z))|(apply Zao 11 ZaL;decide +kernel;kernel_rfl;kernel_rfl;kernel_rfl;exact Z;exact Z)|(apply Zao 23 ZaL;decide +kernel;kernel_rfl;kernel_rfl;kernel_rfl;exact Z;exact Z)|(apply Zaq;(iterate 4 exact Z))|exact AE.nil _ _ _ _|(apply Zat;exact Z)|(apply Zay;exact Z;exact Z;decide +kernel;exact Z)|(apply Zaz;exact Z)|exact AO.nil _ _ _|(apply Zap;(decide +kernel))|exact AOs.nil|exact ZaH rfl rfl|exact Zc0 rfl rfl rfl rfl rfl|(apply Zau Zab;(iterate 6 exact Z);(first|exact Go.ZrJ|rotate_left);(first|with_reducible assumption|decide +kernel|exact Z);(first|exact Zai rfl|with_reducible assumption|decide +kernel|rotate_left)))
 all_goals(apply Zaw [];(apply Zad Zab;exact Z);(iterate 4 exact Z))
 all_goals rfl
theorem Zma [Known][KnownU8](d:List UInt8)(hd:d.length<=100000):AP Tryz.prog 105 [byE d] (.tup [.int .u64 ((ZcX d).1:Int),.int .u64 ((ZcX d).2.1:Int),.bool (ZcX d).2.2]) []:=by
 have hI:=Ziy d hd
 have hw:=ZoK d hd
 unfold ZcX
 generalize (Zbu d 0).1=x at *
 obtain⟨k,n,b,l⟩:=x
 cases hs:Zcf d with
 | false=>
  rw[hs]at hI
  exact Zq8 d k n b l hI
 | true=>
 rw[hs]at hI
 unfold ZiB
 dsimp only
 cases tk:(k==4) with
 | false=>exact Zq9 d k n b l hI tk
 | true=>
 have tk2:(k != 4)=false:=by rw[bne,tk];rfl
 match l,hI,hw with
 | [],hI,_=>exact Zqx d k n b _ hI tk (by simp)
 | [.mk _ _ _ _],hI,_=>exact Zqx d k n b _ hI tk (by simp)
 | .mk _ _ _ _::.mk _ _ _ _::_::_,hI,_=>exact Zqx d k n b _ hI tk (by simp)
 | [.mk k1 n1 b1 l1,.mk k2 n2 b2 l2],hI,hw=>
 have t2:(((Zax [It.mk k1 n1 b1 l1,.mk k2 n2 b2 l2]).length:Int) != 2)=false:=by rw[Zar];rfl
 have hU:=Zb8 [It.mk k1 n1 b1 l1,.mk k2 n2 b2 l2]
 have hws:=hw.2.2.2
 have hS:=ZeE _ hw (.mk 4 0 [] [.mk 0 n1 [] [],.mk 0 n2 [] []]) ⟨by decide,by simp,by simp,⟨hws.1.1,by simp,by simp,trivial⟩,⟨hws.2.1.1,by simp,by simp,trivial⟩,trivial⟩
 have hN:=ZfN n1 n2
 dsimp only
 cases t3:It.beq (.mk k n b [.mk k1 n1 b1 l1,.mk k2 n2 b2 l2]) (.mk 4 0 [] [.mk 0 n1 [] [],.mk 0 n2 [] []]) with
 | false=>exact Zrq d k n b _ k1 n1 b1 l1 k2 n2 b2 l2 _ .junk hI tk2 t2 hU rfl rfl hN hS t3
 | true=>
 cases t4:decide ((n1:Int) ≥ 1) with
 | false=>exact Zrr d k n b _ k1 n1 b1 l1 k2 n2 b2 l2 _ .junk hI tk2 t2 hU rfl rfl hN hS t3 t4
 | true=>
 cases t5:decide ((n1:Int)<=255) with
 | false=>exact Zrs d k n b _ k1 n1 b1 l1 k2 n2 b2 l2 _ .junk hI tk2 t2 hU rfl rfl hN hS t3 t4 t5
 | true=>exact Zrt d k n b _ k1 n1 b1 l1 k2 n2 b2 l2 _ .junk hI tk2 t2 hU rfl rfl hN hS t3 t4 t5
def ZoU (kind:Nat)(d:List UInt8):Bool:=match((kind:Int)==6) with
 | true=>(Zf6 d).2
 | false=>match((kind:Int)==7) with
  | true=>(ZiA d).2
  | false=>match((kind:Int)==10) with
   | true=>(ZcX d).2.2
   | false=>true
def ZiO (kind:Nat)(d:List UInt8):Bool:=ZoU kind d&&decide ((d.length:Int)<=200)
theorem Zmb [Known][KnownU8](kind:Nat)(d:List UInt8)(hd:d.length<=100000):AP Tryz.prog 100 [.int .u64 (kind:Int),byE d] (.bool (ZiO kind d)) []:=by
 have hP:=Ziz d hd
 have hA:=ZnL d hd
 have hH:=Zma d hd
 have hdl:(d.map E.byte).length=d.length:=List.length_map ..
 unfold ZiO ZoU
 rw[<- hdl]
 generalize (Zf6 d).1=pz at *
 obtain⟨zi,zn,zs,zh,zd⟩:=pz
 generalize (Zf6 d).2=p1 at *
 generalize (ZiA d).1=a0 at *
 generalize (ZiA d).2=a1 at *
 generalize (ZcX d).1=h0 at *
 generalize (ZcX d).2.1=h1 at *
 generalize (ZcX d).2.2=h2 at *
 cases t1:((kind:Int)==6) with
 | true=>
  cases p1
  all_goals
   refine AP.ofA ?_
   refine Zan Tryz.func100 rfl Tryz.ntmps100 rfl rfl ?_
   repeat'(first|(apply Zaa (hP);kernel_rfl;(iterate 4 exact Z))|(apply Zaj Zab;exact Z)|(apply Zah Zab;exact Z)|(apply Zae;(iterate 3 exact Z);exact Go.ZrJ)|(apply Zas;(iterate 3 exact Z);exact Go.ZrJ)|(apply Zak;exact Z;exact Go.ZrJ;exact Z;exact Z)|(apply Zag;exact Z;exact Go.ZrJ;exact Z;exact Z)|(apply Zac;exact Z;exact Go.ZrJ)|(apply Zam Zab;(iterate 4 exact Z)))
   all_goals(apply Zaw [];(apply Zad Zab;exact Z);(iterate 4 exact Z))
   all_goals rfl
 | false=>
 cases t2:((kind:Int)==7) with
 | true=>
  cases a1
  all_goals
   refine AP.ofA ?_
   refine Zan Tryz.func100 rfl Tryz.ntmps100 rfl rfl ?_
   repeat'(first|(apply Zaa (hA);kernel_rfl;(iterate 4 exact Z))|(apply Zaj Zab;exact Z)|(apply Zah Zab;exact Z)|(apply Zae;(iterate 3 exact Z);exact Go.ZrJ)|(apply Zas;(iterate 3 exact Z);exact Go.ZrJ)|(apply Zak;exact Z;exact Go.ZrJ;exact Z;exact Z)|(apply Zag;exact Z;exact Go.ZrJ;exact Z;exact Z)|(apply Zac;exact Z;exact Go.ZrJ)|(apply Zaf;exact Z;exact Go.ZrJ)|(apply Zam Zab;(iterate 4 exact Z)))
   all_goals(apply Zaw [];(apply Zad Zab;exact Z);(iterate 4 exact Z))
   all_goals rfl
 | false=>
 cases t3:((kind:Int)==10) with
 | true=>
  cases h2
  all_goals
   refine AP.ofA ?_
   refine Zan Tryz.func100 rfl Tryz.ntmps100 rfl rfl ?_
   repeat'(first|(apply Zaa (hH);kernel_rfl;(iterate 4 exact Z))|(apply Zaj Zab;exact Z)|(apply Zah Zab;exact Z)|(apply Zae;(iterate 3 exact Z);exact Go.ZrJ)|(apply Zas;(iterate 3 exact Z);exact Go.ZrJ)|(apply Zak;exact Z;exact Go.ZrJ;exact Z;exact Z)|(apply Zag;exact Z;exact Go.ZrJ;exact Z;exact Z)|(apply Zac;exact Z;exact Go.ZrJ)|(apply Zaf;exact Z;exact Go.ZrJ)|(apply Zam Zab;(iterate 4 exact Z)))
   all_goals(apply Zaw [];(apply Zad Zab;exact Z);(iterate 4 exact Z))
   all_goals rfl
 | false=>
  refine AP.ofA ?_
  refine Zan Tryz.func100 rfl Tryz.ntmps100 rfl rfl ?_
  repeat'(first|(apply Zaj Zab;exact Z)|(apply Zah Zab;exact Z)|(apply Zae;(iterate 3 exact Z);exact Go.ZrJ)|(apply Zak;exact Z;exact Go.ZrJ;exact Z;exact Z)|(apply Zaf;exact Z;exact Go.ZrJ)|(apply Zam Zab;(iterate 4 exact Z)))
  all_goals(apply Zaw [];(apply Zad Zab;exact Z);(iterate 4 exact Z))
  all_goals rfl
def Zbh (b:BlkV):Bool:=!(Zie b.ty||Zie b.num)&&((bits .andNot .u64 (b.fl:Int) 23==0)&&(decide (b.sum ≥ 0)&&(decide (b.sum<=2)&&ZiO b.ty b.data)))
theorem ZdI [Known][KnownU8](b:BlkV)(hd:b.data.length<=100000):AP Tryz.prog 29 [.agg (bkC b)] (.bool (Zbh b)) []:=by
 have hW:=Zko b.ty b.num
 have hD:=Zmb b.ty b.data hd
 obtain⟨ty,num,fl,sum,data⟩:=b
 unfold Zbh
 dsimp only at hW hD ⊢
 generalize ZiO ty data=dv at *
 cases hb1:(Zie ty||Zie num) with
 | true=>
  rw[hb1]at hW
  replace hW:AP Tryz.prog _ _ (.bool false) []:=hW
  refine AP.ofA ?_
  refine Zan Tryz.func29 rfl Tryz.ntmps29 rfl rfl ?_
  repeat'(first|(apply Zaa (hW);kernel_rfl;(iterate 4 exact Z))|(apply Zaj Zab;exact Z)|(apply Zah Zab;exact Z)|(apply Zas;(iterate 3 exact Z);exact Go.ZrJ)|(apply Zag;exact Z;exact Go.ZrJ;exact Z;exact Z)|(apply ZaX Zab;(iterate 12 exact Z)))
  all_goals(apply Zaw [];(apply Zad Zab;exact Z);(iterate 4 exact Z))
  all_goals rfl
 | false=>
 rw[hb1]at hW
 replace hW:AP Tryz.prog _ _ (.bool true) []:=hW
 cases t1:(bits .andNot .u64 (fl:Int) 23==0) with
 | false=>
  refine AP.ofA ?_
  refine Zan Tryz.func29 rfl Tryz.ntmps29 rfl rfl ?_
  repeat'(first|(apply Zaa (hW);kernel_rfl;(iterate 4 exact Z))|(apply Zaj Zab;exact Z)|(apply Zah Zab;exact Z)|(apply Zae;(iterate 3 exact Z);exact Go.ZrJ)|(apply Zas;(iterate 3 exact Z);exact Go.ZrJ)|(apply Zak;exact Z;exact Go.ZrJ;exact Z;exact Z)|(apply Zag;exact Z;exact Go.ZrJ;exact Z;exact Z)|(apply ZaX Zab;(iterate 12 exact Z)))
  all_goals(apply Zaw [];(apply Zad Zab;exact Z);(iterate 4 exact Z))
  all_goals rfl
 | true=>
 cases t2:decide (sum ≥ 0) with
 | false=>
  refine AP.ofA ?_
  refine Zan Tryz.func29 rfl Tryz.ntmps29 rfl rfl ?_
  repeat'(first|(apply Zaa (hW);kernel_rfl;(iterate 4 exact Z))|(apply Zaj Zab;exact Z)|(apply Zah Zab;exact Z)|(apply Zae;(iterate 3 exact Z);exact Go.ZrJ)|(apply Zas;(iterate 3 exact Z);exact Go.ZrJ)|(apply Zak;exact Z;exact Go.ZrJ;exact Z;exact Z)|(apply Zag;exact Z;exact Go.ZrJ;exact Z;exact Z)|(apply ZaX Zab;(iterate 12 exact Z)))
  all_goals(apply Zaw [];(apply Zad Zab;exact Z);(iterate 4 exact Z))
  all_goals rfl
 | true=>
 cases t3:decide (sum<=2) with
 | false=>
  refine AP.ofA ?_
  refine Zan Tryz.func29 rfl Tryz.ntmps29 rfl rfl ?_
  repeat'(first|(apply Zaa (hW);kernel_rfl;(iterate 4 exact Z))|(apply Zaj Zab;exact Z)|(apply Zah Zab;exact Z)|(apply Zae;(iterate 3 exact Z);exact Go.ZrJ)|(apply Zas;(iterate 3 exact Z);exact Go.ZrJ)|(apply Zak;exact Z;exact Go.ZrJ;exact Z;exact Z)|(apply Zag;exact Z;exact Go.ZrJ;exact Z;exact Z)|(apply ZaX Zab;(iterate 12 exact Z)))
  all_goals(apply Zaw [];(apply Zad Zab;exact Z);(iterate 4 exact Z))
  all_goals rfl
 | true=>
  refine AP.ofA ?_
  refine Zan Tryz.func29 rfl Tryz.ntmps29 rfl rfl ?_
  repeat'(first|(apply Zaa (hW);kernel_rfl;(iterate 4 exact Z))|(apply Zaa (hD);kernel_rfl;(iterate 4 exact Z))|(apply Zaj Zab;exact Z)|(apply Zah Zab;exact Z)|(apply Zae;(iterate 3 exact Z);exact Go.ZrJ)|(apply Zak;exact Z;exact Go.ZrJ;exact Z;exact Z)|(apply ZaX Zab;(iterate 12 exact Z)))
  all_goals(apply Zaw [];(apply Zad Zab;exact Z);(iterate 4 exact Z))
  all_goals rfl

end Go.Proofs.YtakblclkflnnpaaGreatDoor
end

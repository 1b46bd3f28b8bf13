/- ConnCut: a piece is fed (cpgen2.py). -/
import Derived.Test.YtkdpfkjlheajhaaGreatDoorC22
set_option linter.unusedVariables false
set_option linter.unusedSimpArgs false
section
open Go.RowKit Go.Pl Go.Av
namespace Go.Proofs.YtkdpfkjlheajhaaGreatDoor
set_option maxHeartbeats 4000000
set_option maxRecDepth 10000 in
theorem Iw [Known][KnownSc][KnownPow](b cuts p rest lb tl:List UInt8)(OL:List E)(oc eb te i k:Nat)(bb tb:Int)(hcl:cuts.length<=9223372036854775807)(hb:b.length<=4000)(hrest:rest ≠ [])(hk:k=rest.length+(cuts.length-i))(hi:i<=cuts.length)(hbp:b=p++rest)(he:(Zy p).2.2.1=0)(htl:tl=(Zy p).1)(m:Nat)(hm:m<=rest.length)(hw:(Zy p).2.1=[])(hr:(Zy (p++rest.take m)).2.2.1=0)(hw2:(Zy (p++rest.take m)).2.1 ≠ [])(hc:(i<cuts.length/\∃ cc,cuts[i]?=some cc/\cc.toNat<rest.length/\m=cc.toNat)\/((i<cuts.length/\∃ cc,cuts[i]?=some cc/\rest.length<=cc.toNat)/\m=(rest.map E.byte).length)\/(cuts.length<=i/\m=(rest.map E.byte).length))(Q:X->St->Prop) :
  AW Tryz.prog (Yv (Tryz.f4.body.getD .skip)) ⟨119,cpT cuts rest eb 0 (i:Int),cpB (.sl .nil []) eb lb bb (.sl .nil []) 0 tl 0,[],(([]:List (List D)).length,([]:List Fr).length)⟩ (X.then (Lands (W4 b cuts (.sl .nil []) eb lb bb [] 0) 119 (([]:List (List D)).length,([]:List Fr).length) k) Q):=by
 conv=>enter [3];whnf
 have hU:=ZV rest
 have hUc:=ZV cuts
 have hrl:(rest.map E.byte).length=rest.length:=List.length_map ..
 have hcul:(cuts.map E.byte).length=cuts.length:=List.length_map ..
 have hpos:0<rest.length:=List.length_pos_iff.2 hrest
 have hbl2:p.length+rest.length<=4000:=by rw[<- List.length_append,<- hbp];exact hb
 have g31:decide (((rest.map E.byte).length:Int)>0)=true:=decide_eq_true (by rw[hrl];omega)
 obtain⟨hq1,hq2,hq3⟩:=Z7 rest m hm
 have hbp2:b=(p++rest.take m)++rest.drop m:=by rw[List.append_assoc,List.take_append_drop];exact hbp
 have hdl:(rest.drop m).length=rest.length-m:=List.length_drop ..
 have hless:(rest.drop m).length+(cuts.length-(i+1))<k:=by
  rcases hc with⟨h1,cc,h2,h3,h4⟩ | ⟨⟨h1,cc,h2,h3⟩,h4⟩ | ⟨h1,h4⟩<;>omega
 have hi2:rest.drop m=[]\/(IntKind.i64.wrap ((i:Int)+1)=((i+1:Nat):Int)/\i+1<=cuts.length):=by
  rcases Nat.lt_or_ge i cuts.length with h|h
  ·exact .inr ⟨by rw[IntWalk.i64_in _ (by omega)];omega,h⟩
  ·exact .inl (List.eq_nil_of_length_eq_zero (by rcases hc with⟨h1,cc,h2,h3,h4⟩ | ⟨⟨h1,cc,h2,h3⟩,h4⟩ | ⟨h1,h4⟩<;>omega))
 have hst:=Yq (rest.take m) he
 have hlw:=Yr p
 have htm:(rest.take m).length<=rest.length:=by rw[List.length_take];omega
 obtain⟨r,hrr⟩:∃ r,r=Zy (p++rest.take m):=⟨_,rfl⟩
 have hr8:r.2.1.length<=8:=by rw[hrr];exact ZU _
 rw[hw,<- htl]at hst
 rw[<- hrr]at hr hst hw2
 rw[<- htl]at hlw
 have hF:=kfN tl (rest.take m) (by omega) (.sl (.own 0) (r.2.1.map rqE)) (cqF r.2.1.length) r hst (.inr (.inr ⟨hr,hw2,rfl,rfl⟩))
 have hz:r.2.2.2=0:=by rw[hrr]at hr ⊢;exact(YY hr).2
 have hnew:VB [] 0 (p++rest.take m) (.sl (.own 0) (r.2.1.map rqE)) r.1 r.2.2.1 ((r.2.2.2:Nat):Int) ([]++cqF r.2.1.length):=.inr (.inr ⟨hr,by rw[<- hrr];exact hr,by rw[<- hrr],by rw[hz];rfl,by rw[<- hrr];exact hw2,by rw[<- hrr],by rw[<- hrr]⟩)
 rcases hc with⟨h1,cc,h2,h3,rfl⟩ | ⟨⟨h1,cc,h2,h3⟩,rfl⟩ | ⟨h1,rfl⟩
 ·have gi:decide ((i:Int)<((cuts.map E.byte).length:Int))=true:=decide_eq_true (by rw[hcul];omega)
  have hv:(cuts.map E.byte)[((i:Nat):Int).toNat]?=some (E.byte cc):=by rw[Int.toNat_natCast,List.getElem?_map,h2];rfl
  have ew:IntKind.i64.wrap ((cc.toNat:Nat):Int)=((cc.toNat:Nat):Int):=IntWalk.i64_in _ (by have:=cc.toNat_lt;omega)
  have gc:decide (((cc.toNat:Nat):Int)<((rest.map E.byte).length:Int))=true:=decide_eq_true (by rw[hrl];omega)
  repeat'(first|rw[ew]|(apply Zb [2,3] [] (hF);kernel_rfl;(iterate 10 exact Z))|refine Zo Za Z Z Z Z Z (.dft _) (.lit _ _ _ _ rfl (Int.natCast_nonneg _)) (Nat.zero_le _) hq1 hU hq2 ?_|refine Zo Za Z Z Z Z Z (.lit _ _ _ _ rfl (Int.natCast_nonneg _)) (.dft _) hq1 (Nat.le_refl _) hU hq3 ?_|(apply Zj Za;exact Z)|(apply Zg Za;exact Z)|(apply Zq Za;exact Z)|(apply Zi;(iterate 3 exact Z);(first|with_reducible assumption|decide +kernel|(solve|simp only[bn])))|(apply Zk;exact Z;(first|with_reducible assumption|decide +kernel|(solve|simp only[bn]));exact Z;exact Z)|(apply Zf;exact Z;(first|with_reducible assumption|decide +kernel|(solve|simp only[bn])))|refine Zp Za Z Z Z Z ?_|(apply Zv Za;(iterate 6 exact Z);(first|exact Qt|rotate_left);(first|with_reducible assumption|decide +kernel|exact Z);(first|exact Zn rfl|with_reducible assumption|decide +kernel|rotate_left)))
  refine Lands.mk' hless ⟨p++rest.take cc.toNat,rest.drop cc.toNat,i+1,_,(.sl (.own 0) (r.2.1.map rqE)),r.1,r.2.2.1,((r.2.2.2:Nat):Int),rfl,hi2,hbp2,hnew,rfl,rfl⟩ ?_ rfl rfl rfl rfl rfl rfl
  exact .cons rfl (.cons rfl (.cons rfl (.cons rfl (.cons rfl (.cons rfl (.cons rfl .nil))))))
 ·have gi:decide ((i:Int)<((cuts.map E.byte).length:Int))=true:=decide_eq_true (by rw[hcul];omega)
  have hv:(cuts.map E.byte)[((i:Nat):Int).toNat]?=some (E.byte cc):=by rw[Int.toNat_natCast,List.getElem?_map,h2];rfl
  have ew:IntKind.i64.wrap ((cc.toNat:Nat):Int)=((cc.toNat:Nat):Int):=IntWalk.i64_in _ (by have:=cc.toNat_lt;omega)
  have gc:decide (((cc.toNat:Nat):Int)<((rest.map E.byte).length:Int))=false:=decide_eq_false (by rw[hrl];omega)
  repeat'(first|rw[ew]|(apply Zb [2,3] [] (hF);kernel_rfl;(iterate 10 exact Z))|refine Zo Za Z Z Z Z Z (.dft _) (.lit _ _ _ _ rfl (Int.natCast_nonneg _)) (Nat.zero_le _) hq1 hU hq2 ?_|refine Zo Za Z Z Z Z Z (.lit _ _ _ _ rfl (Int.natCast_nonneg _)) (.dft _) hq1 (Nat.le_refl _) hU hq3 ?_|(apply Zj Za;exact Z)|(apply Zg Za;exact Z)|(apply Zq Za;exact Z)|(apply Zi;(iterate 3 exact Z);(first|with_reducible assumption|decide +kernel|(solve|simp only[bn])))|(apply Zk;exact Z;(first|with_reducible assumption|decide +kernel|(solve|simp only[bn]));exact Z;exact Z)|(apply Zf;exact Z;(first|with_reducible assumption|decide +kernel|(solve|simp only[bn])))|(apply Ze;exact Z;(first|with_reducible assumption|decide +kernel|(solve|simp only[bn])))|refine Zp Za Z Z Z Z ?_|(apply Zv Za;(iterate 6 exact Z);(first|exact Qt|rotate_left);(first|with_reducible assumption|decide +kernel|exact Z);(first|exact Zn rfl|with_reducible assumption|decide +kernel|rotate_left)))
  refine Lands.mk' hless ⟨p++rest.take (rest.map E.byte).length,rest.drop (rest.map E.byte).length,i+1,_,(.sl (.own 0) (r.2.1.map rqE)),r.1,r.2.2.1,((r.2.2.2:Nat):Int),rfl,hi2,hbp2,hnew,rfl,rfl⟩ ?_ rfl rfl rfl rfl rfl rfl
  exact .cons rfl (.cons rfl (.cons rfl (.cons rfl (.cons rfl (.cons rfl (.cons rfl .nil))))))
 ·have gi:decide ((i:Int)<((cuts.map E.byte).length:Int))=false:=decide_eq_false (by rw[hcul];omega)
  repeat'(first|(apply Zb [2,3] [] (hF);kernel_rfl;(iterate 10 exact Z))|refine Zo Za Z Z Z Z Z (.dft _) (.lit _ _ _ _ rfl (Int.natCast_nonneg _)) (Nat.zero_le _) hq1 hU hq2 ?_|refine Zo Za Z Z Z Z Z (.lit _ _ _ _ rfl (Int.natCast_nonneg _)) (.dft _) hq1 (Nat.le_refl _) hU hq3 ?_|(apply Zj Za;exact Z)|(apply Zg Za;exact Z)|(apply Zq Za;exact Z)|(apply Zr;(iterate 3 exact Z);(first|with_reducible assumption|decide +kernel|(solve|simp only[bn])))|(apply Zl;exact Z;(first|with_reducible assumption|decide +kernel|(solve|simp only[bn]));exact Z;exact Z)|(apply Zf;exact Z;(first|with_reducible assumption|decide +kernel|(solve|simp only[bn])))|(apply Ze;exact Z;(first|with_reducible assumption|decide +kernel|(solve|simp only[bn])))|refine Zp Za Z Z Z Z ?_)
  refine Lands.mk' hless ⟨p++rest.take (rest.map E.byte).length,rest.drop (rest.map E.byte).length,i+1,_,(.sl (.own 0) (r.2.1.map rqE)),r.1,r.2.2.1,((r.2.2.2:Nat):Int),rfl,hi2,hbp2,hnew,rfl,rfl⟩ ?_ rfl rfl rfl rfl rfl rfl
  exact .cons rfl (.cons rfl (.cons rfl (.cons rfl (.cons rfl (.cons rfl (.cons rfl .nil))))))
set_option maxRecDepth 10000 in
theorem Ix [Known][KnownSc][KnownPow](b cuts p rest lb tl:List UInt8)(OL:List E)(oc eb te i k:Nat)(bb tb:Int)(hcl:cuts.length<=9223372036854775807)(hb:b.length<=4000)(hrest:rest ≠ [])(hk:k=rest.length+(cuts.length-i))(hi:i<=cuts.length)(hbp:b=p++rest)(he:(Zy p).2.2.1=0)(htl:tl=(Zy p).1)(m:Nat)(hm:m<=rest.length)(hw:(Zy p).2.1 ≠ [])(hr:(Zy (p++rest.take m)).2.2.1 ≠ 0)(hc:(i<cuts.length/\∃ cc,cuts[i]?=some cc/\cc.toNat<rest.length/\m=cc.toNat)\/((i<cuts.length/\∃ cc,cuts[i]?=some cc/\rest.length<=cc.toNat)/\m=(rest.map E.byte).length)\/(cuts.length<=i/\m=(rest.map E.byte).length))(Q:X->St->Prop) :
  AW Tryz.prog (Yv (Tryz.f4.body.getD .skip)) ⟨119,cpT cuts rest eb 0 (i:Int),cpB (.sl .nil []) eb lb bb (.sl (.own 0) ((Zy p).2.1.map rqE)) 0 tl 0,[⟨(Zy p).2.1.length,19,41⟩],(([]:List (List D)).length,([]:List Fr).length)⟩ (X.then (Lands (W4 b cuts (.sl .nil []) eb lb bb [] 0) 119 (([]:List (List D)).length,([]:List Fr).length) k) Q):=by
 conv=>enter [3];whnf
 have hU:=ZV rest
 have hUc:=ZV cuts
 have hrl:(rest.map E.byte).length=rest.length:=List.length_map ..
 have hcul:(cuts.map E.byte).length=cuts.length:=List.length_map ..
 have hpos:0<rest.length:=List.length_pos_iff.2 hrest
 have hbl2:p.length+rest.length<=4000:=by rw[<- List.length_append,<- hbp];exact hb
 have g31:decide (((rest.map E.byte).length:Int)>0)=true:=decide_eq_true (by rw[hrl];omega)
 obtain⟨hq1,hq2,hq3⟩:=Z7 rest m hm
 have hbp2:b=(p++rest.take m)++rest.drop m:=by rw[List.append_assoc,List.take_append_drop];exact hbp
 have hdl:(rest.drop m).length=rest.length-m:=List.length_drop ..
 have hless:(rest.drop m).length+(cuts.length-(i+1))<k:=by
  rcases hc with⟨h1,cc,h2,h3,h4⟩ | ⟨⟨h1,cc,h2,h3⟩,h4⟩ | ⟨h1,h4⟩<;>omega
 have hi2:rest.drop m=[]\/(IntKind.i64.wrap ((i:Int)+1)=((i+1:Nat):Int)/\i+1<=cuts.length):=by
  rcases Nat.lt_or_ge i cuts.length with h|h
  ·exact .inr ⟨by rw[IntWalk.i64_in _ (by omega)];omega,h⟩
  ·exact .inl (List.eq_nil_of_length_eq_zero (by rcases hc with⟨h1,cc,h2,h3,h4⟩ | ⟨⟨h1,cc,h2,h3⟩,h4⟩ | ⟨h1,h4⟩<;>omega))
 have hst:=Yq (rest.take m) he
 have hlw:=Yr p
 have htm:(rest.take m).length<=rest.length:=by rw[List.length_take];omega
 obtain⟨r,hrr⟩:∃ r,r=Zy (p++rest.take m):=⟨_,rfl⟩
 have hr8:r.2.1.length<=8:=by rw[hrr];exact ZU _
 rw[<- htl]at hst
 have hpw:=ZU p
 rw[<- hrr]at hr hst
 rw[<- htl]at hlw
 have hF:=kfO tl (rest.take m) (Zy p).2.1 hw hpw (by omega) (.sl .nil []) (cqF r.2.1.length) r hst (.inl ⟨hr,rfl,rfl⟩)
 have hnew:VB [] 0 (p++rest.take m) (.sl .nil []) r.1 r.2.2.1 ((r.2.2.2:Nat):Int) []:=.inl ⟨hr,by rw[<- hrr],rfl,rfl⟩
 generalize (Zy p).2.1=w0 at *
 rcases hc with⟨h1,cc,h2,h3,rfl⟩ | ⟨⟨h1,cc,h2,h3⟩,rfl⟩ | ⟨h1,rfl⟩
 ·have gi:decide ((i:Int)<((cuts.map E.byte).length:Int))=true:=decide_eq_true (by rw[hcul];omega)
  have hv:(cuts.map E.byte)[((i:Nat):Int).toNat]?=some (E.byte cc):=by rw[Int.toNat_natCast,List.getElem?_map,h2];rfl
  have ew:IntKind.i64.wrap ((cc.toNat:Nat):Int)=((cc.toNat:Nat):Int):=IntWalk.i64_in _ (by have:=cc.toNat_lt;omega)
  have gc:decide (((cc.toNat:Nat):Int)<((rest.map E.byte).length:Int))=true:=decide_eq_true (by rw[hrl];omega)
  repeat'(first|rw[ew]|(apply Zb [2,3] [0] (hF);kernel_rfl;(iterate 10 exact Z))|refine Zo Za Z Z Z Z Z (.dft _) (.lit _ _ _ _ rfl (Int.natCast_nonneg _)) (Nat.zero_le _) hq1 hU hq2 ?_|refine Zo Za Z Z Z Z Z (.lit _ _ _ _ rfl (Int.natCast_nonneg _)) (.dft _) hq1 (Nat.le_refl _) hU hq3 ?_|(apply Zj Za;exact Z)|(apply Zg Za;exact Z)|(apply Zq Za;exact Z)|(apply Zi;(iterate 3 exact Z);(first|with_reducible assumption|decide +kernel|(solve|simp only[bn])))|(apply Zk;exact Z;(first|with_reducible assumption|decide +kernel|(solve|simp only[bn]));exact Z;exact Z)|(apply Zf;exact Z;(first|with_reducible assumption|decide +kernel|(solve|simp only[bn])))|refine Zp Za Z Z Z Z ?_|(apply Zv Za;(iterate 6 exact Z);(first|exact Qt|rotate_left);(first|with_reducible assumption|decide +kernel|exact Z);(first|exact Zn rfl|with_reducible assumption|decide +kernel|rotate_left)))
  refine Lands.mk' hless ⟨p++rest.take cc.toNat,rest.drop cc.toNat,i+1,_,(.sl .nil []),r.1,r.2.2.1,((r.2.2.2:Nat):Int),rfl,hi2,hbp2,hnew,rfl,rfl⟩ ?_ rfl rfl rfl rfl rfl rfl
  exact .cons rfl (.cons rfl (.cons rfl (.cons rfl (.cons rfl (.cons rfl (.cons rfl .nil))))))
 ·have gi:decide ((i:Int)<((cuts.map E.byte).length:Int))=true:=decide_eq_true (by rw[hcul];omega)
  have hv:(cuts.map E.byte)[((i:Nat):Int).toNat]?=some (E.byte cc):=by rw[Int.toNat_natCast,List.getElem?_map,h2];rfl
  have ew:IntKind.i64.wrap ((cc.toNat:Nat):Int)=((cc.toNat:Nat):Int):=IntWalk.i64_in _ (by have:=cc.toNat_lt;omega)
  have gc:decide (((cc.toNat:Nat):Int)<((rest.map E.byte).length:Int))=false:=decide_eq_false (by rw[hrl];omega)
  repeat'(first|rw[ew]|(apply Zb [2,3] [0] (hF);kernel_rfl;(iterate 10 exact Z))|refine Zo Za Z Z Z Z Z (.dft _) (.lit _ _ _ _ rfl (Int.natCast_nonneg _)) (Nat.zero_le _) hq1 hU hq2 ?_|refine Zo Za Z Z Z Z Z (.lit _ _ _ _ rfl (Int.natCast_nonneg _)) (.dft _) hq1 (Nat.le_refl _) hU hq3 ?_|(apply Zj Za;exact Z)|(apply Zg Za;exact Z)|(apply Zq Za;exact Z)|(apply Zi;(iterate 3 exact Z);(first|with_reducible assumption|decide +kernel|(solve|simp only[bn])))|(apply Zk;exact Z;(first|with_reducible assumption|decide +kernel|(solve|simp only[bn]));exact Z;exact Z)|(apply Zf;exact Z;(first|with_reducible assumption|decide +kernel|(solve|simp only[bn])))|(apply Ze;exact Z;(first|with_reducible assumption|decide +kernel|(solve|simp only[bn])))|refine Zp Za Z Z Z Z ?_|(apply Zv Za;(iterate 6 exact Z);(first|exact Qt|rotate_left);(first|with_reducible assumption|decide +kernel|exact Z);(first|exact Zn rfl|with_reducible assumption|decide +kernel|rotate_left)))
  refine Lands.mk' hless ⟨p++rest.take (rest.map E.byte).length,rest.drop (rest.map E.byte).length,i+1,_,(.sl .nil []),r.1,r.2.2.1,((r.2.2.2:Nat):Int),rfl,hi2,hbp2,hnew,rfl,rfl⟩ ?_ rfl rfl rfl rfl rfl rfl
  exact .cons rfl (.cons rfl (.cons rfl (.cons rfl (.cons rfl (.cons rfl (.cons rfl .nil))))))
 ·have gi:decide ((i:Int)<((cuts.map E.byte).length:Int))=false:=decide_eq_false (by rw[hcul];omega)
  repeat'(first|(apply Zb [2,3] [0] (hF);kernel_rfl;(iterate 10 exact Z))|refine Zo Za Z Z Z Z Z (.dft _) (.lit _ _ _ _ rfl (Int.natCast_nonneg _)) (Nat.zero_le _) hq1 hU hq2 ?_|refine Zo Za Z Z Z Z Z (.lit _ _ _ _ rfl (Int.natCast_nonneg _)) (.dft _) hq1 (Nat.le_refl _) hU hq3 ?_|(apply Zj Za;exact Z)|(apply Zg Za;exact Z)|(apply Zq Za;exact Z)|(apply Zr;(iterate 3 exact Z);(first|with_reducible assumption|decide +kernel|(solve|simp only[bn])))|(apply Zl;exact Z;(first|with_reducible assumption|decide +kernel|(solve|simp only[bn]));exact Z;exact Z)|(apply Zf;exact Z;(first|with_reducible assumption|decide +kernel|(solve|simp only[bn])))|(apply Ze;exact Z;(first|with_reducible assumption|decide +kernel|(solve|simp only[bn])))|refine Zp Za Z Z Z Z ?_)
  refine Lands.mk' hless ⟨p++rest.take (rest.map E.byte).length,rest.drop (rest.map E.byte).length,i+1,_,(.sl .nil []),r.1,r.2.2.1,((r.2.2.2:Nat):Int),rfl,hi2,hbp2,hnew,rfl,rfl⟩ ?_ rfl rfl rfl rfl rfl rfl
  exact .cons rfl (.cons rfl (.cons rfl (.cons rfl (.cons rfl (.cons rfl (.cons rfl .nil))))))
set_option maxRecDepth 10000 in
theorem Iy [Known][KnownSc][KnownPow](b cuts p rest lb tl:List UInt8)(OL:List E)(oc eb te i k:Nat)(bb tb:Int)(hcl:cuts.length<=9223372036854775807)(hb:b.length<=4000)(hrest:rest ≠ [])(hk:k=rest.length+(cuts.length-i))(hi:i<=cuts.length)(hbp:b=p++rest)(he:(Zy p).2.2.1=0)(htl:tl=(Zy p).1)(m:Nat)(hm:m<=rest.length)(hw:(Zy p).2.1 ≠ [])(hr:(Zy (p++rest.take m)).2.2.1=0)(hc:(i<cuts.length/\∃ cc,cuts[i]?=some cc/\cc.toNat<rest.length/\m=cc.toNat)\/((i<cuts.length/\∃ cc,cuts[i]?=some cc/\rest.length<=cc.toNat)/\m=(rest.map E.byte).length)\/(cuts.length<=i/\m=(rest.map E.byte).length))(Q:X->St->Prop) :
  AW Tryz.prog (Yv (Tryz.f4.body.getD .skip)) ⟨119,cpT cuts rest eb 0 (i:Int),cpB (.sl .nil []) eb lb bb (.sl (.own 0) ((Zy p).2.1.map rqE)) 0 tl 0,[⟨(Zy p).2.1.length,19,41⟩],(([]:List (List D)).length,([]:List Fr).length)⟩ (X.then (Lands (W4 b cuts (.sl .nil []) eb lb bb [] 0) 119 (([]:List (List D)).length,([]:List Fr).length) k) Q):=by
 conv=>enter [3];whnf
 have hU:=ZV rest
 have hUc:=ZV cuts
 have hrl:(rest.map E.byte).length=rest.length:=List.length_map ..
 have hcul:(cuts.map E.byte).length=cuts.length:=List.length_map ..
 have hpos:0<rest.length:=List.length_pos_iff.2 hrest
 have hbl2:p.length+rest.length<=4000:=by rw[<- List.length_append,<- hbp];exact hb
 have g31:decide (((rest.map E.byte).length:Int)>0)=true:=decide_eq_true (by rw[hrl];omega)
 obtain⟨hq1,hq2,hq3⟩:=Z7 rest m hm
 have hbp2:b=(p++rest.take m)++rest.drop m:=by rw[List.append_assoc,List.take_append_drop];exact hbp
 have hdl:(rest.drop m).length=rest.length-m:=List.length_drop ..
 have hless:(rest.drop m).length+(cuts.length-(i+1))<k:=by
  rcases hc with⟨h1,cc,h2,h3,h4⟩ | ⟨⟨h1,cc,h2,h3⟩,h4⟩ | ⟨h1,h4⟩<;>omega
 have hi2:rest.drop m=[]\/(IntKind.i64.wrap ((i:Int)+1)=((i+1:Nat):Int)/\i+1<=cuts.length):=by
  rcases Nat.lt_or_ge i cuts.length with h|h
  ·exact .inr ⟨by rw[IntWalk.i64_in _ (by omega)];omega,h⟩
  ·exact .inl (List.eq_nil_of_length_eq_zero (by rcases hc with⟨h1,cc,h2,h3,h4⟩ | ⟨⟨h1,cc,h2,h3⟩,h4⟩ | ⟨h1,h4⟩<;>omega))
 have hst:=Yq (rest.take m) he
 have hlw:=Yr p
 have htm:(rest.take m).length<=rest.length:=by rw[List.length_take];omega
 obtain⟨r,hrr⟩:∃ r,r=Zy (p++rest.take m):=⟨_,rfl⟩
 have hr8:r.2.1.length<=8:=by rw[hrr];exact ZU _
 rw[<- htl]at hst
 have hpw:=ZU p
 rw[<- hrr]at hr hst
 rw[<- htl]at hlw
 have hF:=kfO tl (rest.take m) (Zy p).2.1 hw hpw (by omega) (.sl (.own 0) (r.2.1.map rqE)) (cqF r.2.1.length) r hst (.inr ⟨hr,rfl,rfl⟩)
 have hz:r.2.2.2=0:=by rw[hrr]at hr ⊢;exact(YY hr).2
 have hw2:r.2.1 ≠ []:=by rw[hst];exact Jw tl (Zy p).2.1 (rest.take m) hw
 have hnew:VB [] 0 (p++rest.take m) (.sl (.own 0) (r.2.1.map rqE)) r.1 r.2.2.1 ((r.2.2.2:Nat):Int) ([]++cqF r.2.1.length):=.inr (.inr ⟨hr,by rw[<- hrr];exact hr,by rw[<- hrr],by rw[hz];rfl,by rw[<- hrr];exact hw2,by rw[<- hrr],by rw[<- hrr]⟩)
 generalize (Zy p).2.1=w0 at *
 rcases hc with⟨h1,cc,h2,h3,rfl⟩ | ⟨⟨h1,cc,h2,h3⟩,rfl⟩ | ⟨h1,rfl⟩
 ·have gi:decide ((i:Int)<((cuts.map E.byte).length:Int))=true:=decide_eq_true (by rw[hcul];omega)
  have hv:(cuts.map E.byte)[((i:Nat):Int).toNat]?=some (E.byte cc):=by rw[Int.toNat_natCast,List.getElem?_map,h2];rfl
  have ew:IntKind.i64.wrap ((cc.toNat:Nat):Int)=((cc.toNat:Nat):Int):=IntWalk.i64_in _ (by have:=cc.toNat_lt;omega)
  have gc:decide (((cc.toNat:Nat):Int)<((rest.map E.byte).length:Int))=true:=decide_eq_true (by rw[hrl];omega)
  repeat'(first|rw[ew]|(apply Zb [2,3] [0] (hF);kernel_rfl;(iterate 10 exact Z))|refine Zo Za Z Z Z Z Z (.dft _) (.lit _ _ _ _ rfl (Int.natCast_nonneg _)) (Nat.zero_le _) hq1 hU hq2 ?_|refine Zo Za Z Z Z Z Z (.lit _ _ _ _ rfl (Int.natCast_nonneg _)) (.dft _) hq1 (Nat.le_refl _) hU hq3 ?_|(apply Zj Za;exact Z)|(apply Zg Za;exact Z)|(apply Zq Za;exact Z)|(apply Zi;(iterate 3 exact Z);(first|with_reducible assumption|decide +kernel|(solve|simp only[bn])))|(apply Zk;exact Z;(first|with_reducible assumption|decide +kernel|(solve|simp only[bn]));exact Z;exact Z)|(apply Zf;exact Z;(first|with_reducible assumption|decide +kernel|(solve|simp only[bn])))|refine Zp Za Z Z Z Z ?_|(apply Zv Za;(iterate 6 exact Z);(first|exact Qt|rotate_left);(first|with_reducible assumption|decide +kernel|exact Z);(first|exact Zn rfl|with_reducible assumption|decide +kernel|rotate_left)))
  refine Lands.mk' hless ⟨p++rest.take cc.toNat,rest.drop cc.toNat,i+1,_,(.sl (.own 0) (r.2.1.map rqE)),r.1,r.2.2.1,((r.2.2.2:Nat):Int),rfl,hi2,hbp2,hnew,rfl,rfl⟩ ?_ rfl rfl rfl rfl rfl rfl
  exact .cons rfl (.cons rfl (.cons rfl (.cons rfl (.cons rfl (.cons rfl (.cons rfl .nil))))))
 ·have gi:decide ((i:Int)<((cuts.map E.byte).length:Int))=true:=decide_eq_true (by rw[hcul];omega)
  have hv:(cuts.map E.byte)[((i:Nat):Int).toNat]?=some (E.byte cc):=by rw[Int.toNat_natCast,List.getElem?_map,h2];rfl
  have ew:IntKind.i64.wrap ((cc.toNat:Nat):Int)=((cc.toNat:Nat):Int):=IntWalk.i64_in _ (by have:=cc.toNat_lt;omega)
  have gc:decide (((cc.toNat:Nat):Int)<((rest.map E.byte).length:Int))=false:=decide_eq_false (by rw[hrl];omega)
  repeat'(first|rw[ew]|(apply Zb [2,3] [0] (hF);kernel_rfl;(iterate 10 exact Z))|refine Zo Za Z Z Z Z Z (.dft _) (.lit _ _ _ _ rfl (Int.natCast_nonneg _)) (Nat.zero_le _) hq1 hU hq2 ?_|refine Zo Za Z Z Z Z Z (.lit _ _ _ _ rfl (Int.natCast_nonneg _)) (.dft _) hq1 (Nat.le_refl _) hU hq3 ?_|(apply Zj Za;exact Z)|(apply Zg Za;exact Z)|(apply Zq Za;exact Z)|(apply Zi;(iterate 3 exact Z);(first|with_reducible assumption|decide +kernel|(solve|simp only[bn])))|(apply Zk;exact Z;(first|with_reducible assumption|decide +kernel|(solve|simp only[bn]));exact Z;exact Z)|(apply Zf;exact Z;(first|with_reducible assumption|decide +kernel|(solve|simp only[bn])))|(apply Ze;exact Z;(first|with_reducible assumption|decide +kernel|(solve|simp only[bn])))|refine Zp Za Z Z Z Z ?_|(apply Zv Za;(iterate 6 exact Z);(first|exact Qt|rotate_left);(first|with_reducible assumption|decide +kernel|exact Z);(first|exact Zn rfl|with_reducible assumption|decide +kernel|rotate_left)))
  refine Lands.mk' hless ⟨p++rest.take (rest.map E.byte).length,rest.drop (rest.map E.byte).length,i+1,_,(.sl (.own 0) (r.2.1.map rqE)),r.1,r.2.2.1,((r.2.2.2:Nat):Int),rfl,hi2,hbp2,hnew,rfl,rfl⟩ ?_ rfl rfl rfl rfl rfl rfl
  exact .cons rfl (.cons rfl (.cons rfl (.cons rfl (.cons rfl (.cons rfl (.cons rfl .nil))))))
 ·have gi:decide ((i:Int)<((cuts.map E.byte).length:Int))=false:=decide_eq_false (by rw[hcul];omega)
  repeat'(first|(apply Zb [2,3] [0] (hF);kernel_rfl;(iterate 10 exact Z))|refine Zo Za Z Z Z Z Z (.dft _) (.lit _ _ _ _ rfl (Int.natCast_nonneg _)) (Nat.zero_le _) hq1 hU hq2 ?_|refine Zo Za Z Z Z Z Z (.lit _ _ _ _ rfl (Int.natCast_nonneg _)) (.dft _) hq1 (Nat.le_refl _) hU hq3 ?_|(apply Zj Za;exact Z)|(apply Zg Za;exact Z)|(apply Zq Za;exact Z)|(apply Zr;(iterate 3 exact Z);(first|with_reducible assumption|decide +kernel|(solve|simp only[bn])))|(apply Zl;exact Z;(first|with_reducible assumption|decide +kernel|(solve|simp only[bn]));exact Z;exact Z)|(apply Zf;exact Z;(first|with_reducible assumption|decide +kernel|(solve|simp only[bn])))|(apply Ze;exact Z;(first|with_reducible assumption|decide +kernel|(solve|simp only[bn])))|refine Zp Za Z Z Z Z ?_)
  refine Lands.mk' hless ⟨p++rest.take (rest.map E.byte).length,rest.drop (rest.map E.byte).length,i+1,_,(.sl (.own 0) (r.2.1.map rqE)),r.1,r.2.2.1,((r.2.2.2:Nat):Int),rfl,hi2,hbp2,hnew,rfl,rfl⟩ ?_ rfl rfl rfl rfl rfl rfl
  exact .cons rfl (.cons rfl (.cons rfl (.cons rfl (.cons rfl (.cons rfl (.cons rfl .nil))))))
end Go.Proofs.YtkdpfkjlheajhaaGreatDoor
end

/- Package canon: numbers. -/
import Derived.Test.YtchlgagdbflkmaaGreatDoorK24
import Derived.Test.YtchlgagdbflkmaaGreatDoorK12
import Derived.Test.YtchlgagdbflkmaaGreatDoorK09
import Derived.Lib.Strings
import Derived.Lib.Slices
import Derived.Lib.Walk
import Derived.Lib.Bytealg
import Derived.Test.YtchlgagdbflkmaaGreatDoorK08
import Derived.LaidEql
import Derived.Test.YtchlgagdbflkmaaGreatDoorK13
import Derived.Test.YtchlgagdbflkmaaGreatDoorK15
import Derived.Test.YtchlgagdbflkmaaGreatDoorK18
set_option linter.unusedVariables false
set_option linter.unusedSimpArgs false
section
open Go.RowKit Go.Pl Go.Av
namespace Go.Proofs.YtchlgagdbflkmaaGreatDoor
set_option maxHeartbeats 4000000
theorem Sg (l:List Nat):Uni 1 (l.map fun n:Nat=>E.int .u64 (n:Int)):=Uni.map (f:=fun n:Nat=>E.int .u64 (n:Int)) (fun _=>rfl) l
def Q7 (n:Nat):Bool:=decide ((n:Int)<1)||decide ((n:Int)>255)
theorem Kp [Known](n:Nat):AP Tryz.prog 253 [.int .u64 (n:Int)] (.bool (Q7 n)) []:=by
 unfold Q7
 refine AP.ofA (Zl Tryz.func253 Z Tryz.ntmps253 Z Z ?_)
 repeat'(first|(apply Zg Za;exact Z)|(apply Zh Za;exact Z)|(apply Zd;(iterate 3 exact Z);(first|with_reducible assumption|(solve|simp only[bn])))|(apply Zo;(iterate 3 exact Z);(first|with_reducible assumption|(solve|simp only[bn])))|(apply Ym;exact Z;exact Z;all_goals intro hb)|(apply Zj;exact Z;(first|with_reducible assumption|(solve|simp only[bn]));exact Z;exact Z)|(apply Zi;exact Z;(first|with_reducible assumption|(solve|simp only[bn]));exact Z;exact Z))
 all_goals(apply Zt [];(apply Zc Za;exact Z);(iterate 4 exact Z))
 all_goals first|rfl|(simp only[*];done)|(simp only[*];rfl)
def B5:Bool->Bool->Int
 | true,_=>0
 | false,true=>1
 | false,false => -1
theorem LG [Known](a b:Nat)(x y:Bool)(hx:Q7 a=x)(hy:Q7 b=y):AP Tryz.prog 273 [.sl .ext [.int .u64 (a:Int),.int .u64 (b:Int)],.fn 253 []] (.int .i64 (B5 x y)) []:=by
 have ga:=Kp a
 have gb:=Kp b
 rw[hx]at ga
 rw[hy]at gb
 have hU:=Sg [a,b]
 have q0:decide ((0:Int)<(([.int .u64 (a:Int),.int .u64 (b:Int)]:List E).length:Int))=true:=rfl
 have q1:decide ((1:Int)<(([.int .u64 (a:Int),.int .u64 (b:Int)]:List E).length:Int))=true:=rfl
 have q2:decide ((2:Int)<(([.int .u64 (a:Int),.int .u64 (b:Int)]:List E).length:Int))=false:=rfl
 have e1:IntKind.i64.wrap (0+1)=1:=by decide
 have e2:IntKind.i64.wrap (1+1)=2:=by decide
 cases x<;>cases y
 all_goals
  refine AP.ofA (Zl Tryz.func273 Z Tryz.ntmps273 Z Z ?_)
  repeat'(first|rw[e1]|rw[e2]|(apply WR (ga);exact Z;kernel_rfl;(iterate 3 exact Z))|(apply WR (gb);exact Z;kernel_rfl;(iterate 3 exact Z))|refine Zw Za Z Z Z Z Z Z (by decide) Z hU ?_|refine Ws 20 ?_|refine W0 ?_|(apply Zg Za;exact Z)|(apply Zh Za;exact Z)|(apply Zs Za;exact Z)|refine Ze Z Qt ?_|refine Zf Z Qt ?_|refine WI ?_|refine Zn Za Z Z Z Z ?_)
  all_goals exact Qe
theorem Mf [Known](a b:Nat):AP Tryz.prog 252 [.sl .ext [.int .u64 (a:Int),.int .u64 (b:Int)],.fn 253 []] (.bool (Q7 a||Q7 b)) []:=by
 cases hx:Q7 a<;>cases hy:Q7 b
 all_goals
  have hI:=LG a b _ _ hx hy
  refine AP.ofA (Zl Tryz.func252 Z Tryz.ntmps252 Z Z ?_)
  repeat'(first|(apply Zb (hI);kernel_rfl;(iterate 4 exact Z))|(apply Zg Za;exact Z)|(apply Zh Za;exact Z))
  all_goals exact Qe
theorem G6 [Known](a b:Nat):AP Tryz.prog 220 [.sl .ext [.int .u64 (a:Int),.int .u64 (b:Int)]] (.bool (!(Q7 a||Q7 b))) []:=by
 have hI:=Mf a b
 refine AP.ofA (Zl Tryz.func220 Z Tryz.ntmps220 Z Z ?_)
 repeat'(first|(apply Zb (hI);kernel_rfl;(iterate 4 exact Z))|(apply Zg Za;exact Z)|(apply Zh Za;exact Z))
 all_goals exact Qe
theorem Ge [Known]:AT Tryz.prog 174 [.sl .nil []] [] [] (.agg [.int .i64 4,.int .u64 0,.sl .nil [],.sl .nil []]) [] []:=by
 refine Zl Tryz.func174 rfl Tryz.ntmps174 rfl rfl ?_
 repeat'(first|refine Ws 20 ?_|refine W0 ?_|(apply Zg Za;exact Z)|(apply Zh Za;exact Z)|refine Zf Z Qt ?_|refine Zn Za Z Z Z Z ?_)
 all_goals(apply Wg [] [];(apply Zc Za;exact Z);(iterate 7 exact Z))
 all_goals rfl
abbrev nmE (n:Nat):E:=.agg [.int .i64 0,.int .u64 (n:Int),.sl [],.sl []]
theorem Gf [Known](a b:Nat):AP Tryz.prog 219 [.sl .ext [.int .u64 (a:Int),.int .u64 (b:Int)]] (.agg [.int .i64 4,.int .u64 0,.sl .ext [],.sl .ext [nmE a,nmE b]]) []:=by
 have ga:=YY a
 have gb:=YY b
 have hL:=Ge
 have hU:=Sg [a,b]
 have e1:IntKind.i64.wrap (0+1)=1:=by decide
 have e2:IntKind.i64.wrap (1+1)=2:=by decide
 have hU4:∀(l:List Nat),Uni 4 (l.map nmE):=fun l=>Uni.map (f:=nmE) (fun _=>rfl) l
 have q0:decide ((0:Int)<(([.int .u64 (a:Int),.int .u64 (b:Int)]:List E).length:Int))=true:=rfl
 have q1:decide ((1:Int)<(([.int .u64 (a:Int),.int .u64 (b:Int)]:List E).length:Int))=true:=rfl
 have q2:decide ((2:Int)<(([.int .u64 (a:Int),.int .u64 (b:Int)]:List E).length:Int))=false:=rfl
 have hu1:=hU4 [a]
 have hu2:=hU4 [a,b]
 refine AP.ofA (Zl Tryz.func219 Z Tryz.ntmps219 Z Z ?_)
 repeat'(first|rw[e1]|rw[e2]|(apply Zx [] [] (hL);kernel_rfl;(iterate 10 exact Z))|(apply Zb (ga);kernel_rfl;(iterate 4 exact Z))|(apply Zb (gb);kernel_rfl;(iterate 4 exact Z))|refine Zw Za Z Z Z Z Z Z (by decide) Z hU ?_|refine Ws 20 ?_|refine W0 ?_|refine UI Za Z Z Z Z Z Z Z Z Z Z Z (Zk rfl) (Zk rfl) (List.cons_ne_nil _ _) Qd Qd Z Z ?_|refine Z9 Za Z Z Z Z Z Z (Zk rfl) (List.cons_ne_nil _ _) Z Qd Qd Z Z Z ?_|(apply Zg Za;exact Z)|(apply Zh Za;exact Z)|(apply Zs Za;exact Z)|refine Ze Z Qt ?_|refine Zf Z Qt ?_|refine Zn Za Z Z Z Z ?_|refine ZO Za Z Z Z Z Z Z Z Z Z Z Z Z ?_|(apply Zm 5 ZG;decide +kernel;kernel_rfl;kernel_rfl;kernel_rfl;exact Z;exact Z)|(apply Zq;(iterate 4 exact Z))|exact AE.nil _ _ _ _|(apply Zv;exact Z)|(apply ZA;exact Z;exact Z;decide +kernel;exact Z)|(apply ZB;exact Z)|exact AO.nil _ _ _|(apply Zp;(decide +kernel))|exact AOs.nil|exact ZJ rfl rfl|exact Y6 rfl rfl rfl rfl rfl)
 all_goals exact Qe
theorem Gg [Known](a b c d:Nat):AT Tryz.prog 219 [.sl .ext [.int .u64 (a:Int),.int .u64 (b:Int),.int .u64 (c:Int),.int .u64 (d:Int)]] [] [] (.agg [.int .i64 4,.int .u64 0,.sl .nil [],.sl (.own 0) [nmE a,nmE b,nmE c,nmE d]]) [] [⟨4,4,230⟩]:=by
 have ga:=YY a
 have gb:=YY b
 have gc:=YY c
 have gd:=YY d
 have hL:=Ge
 have hU:=Sg [a,b,c,d]
 have e1:IntKind.i64.wrap (0+1)=1:=by decide
 have e2:IntKind.i64.wrap (1+1)=2:=by decide
 have e3:IntKind.i64.wrap (2+1)=3:=by decide
 have e4:IntKind.i64.wrap (3+1)=4:=by decide
 have hU4:∀(l:List Nat),Uni 4 (l.map nmE):=fun l=>Uni.map (f:=nmE) (fun _=>rfl) l
 have q0:decide ((0:Int)<(([.int .u64 (a:Int),.int .u64 (b:Int),.int .u64 (c:Int),.int .u64 (d:Int)]:List E).length:Int))=true:=rfl
 have q1:decide ((1:Int)<(([.int .u64 (a:Int),.int .u64 (b:Int),.int .u64 (c:Int),.int .u64 (d:Int)]:List E).length:Int))=true:=rfl
 have q2:decide ((2:Int)<(([.int .u64 (a:Int),.int .u64 (b:Int),.int .u64 (c:Int),.int .u64 (d:Int)]:List E).length:Int))=true:=rfl
 have q3:decide ((3:Int)<(([.int .u64 (a:Int),.int .u64 (b:Int),.int .u64 (c:Int),.int .u64 (d:Int)]:List E).length:Int))=true:=rfl
 have q4:decide ((4:Int)<(([.int .u64 (a:Int),.int .u64 (b:Int),.int .u64 (c:Int),.int .u64 (d:Int)]:List E).length:Int))=false:=rfl
 have hu1:=hU4 [a]
 have hu2:=hU4 [a,b]
 have hu3:=hU4 [a,b,c]
 have hu4:=hU4 [a,b,c,d]
 refine Zl Tryz.func219 rfl Tryz.ntmps219 rfl rfl ?_
 repeat'(first|rw[e1]|rw[e2]|rw[e3]|rw[e4]|(apply Zx [] [] (hL);kernel_rfl;(iterate 10 exact Z))|(apply Zb (ga);kernel_rfl;(iterate 4 exact Z))|(apply Zb (gb);kernel_rfl;(iterate 4 exact Z))|(apply Zb (gc);kernel_rfl;(iterate 4 exact Z))|(apply Zb (gd);kernel_rfl;(iterate 4 exact Z))|refine Zw Za Z Z Z Z Z Z (by decide) Z hU ?_|refine Ws 20 ?_|refine W0 ?_|refine UI Za Z Z Z Z Z Z Z Z Z Z Z (Zk rfl) (Zk rfl) (List.cons_ne_nil _ _) Qd Qd Z Z ?_|refine Z9 Za Z Z Z Z Z Z (Zk rfl) (List.cons_ne_nil _ _) Z Qd Qd Z Z Z ?_|(apply Zg Za;exact Z)|(apply Zh Za;exact Z)|(apply Zs Za;exact Z)|refine Ze Z Qt ?_|refine Zf Z Qt ?_|refine Zn Za Z Z Z Z ?_|refine ZO Za Z Z Z Z Z Z Z Z Z Z Z Z ?_|(apply Zm 5 ZG;decide +kernel;kernel_rfl;kernel_rfl;kernel_rfl;exact Z;exact Z)|(apply Zq;(iterate 4 exact Z))|exact AE.nil _ _ _ _|(apply Zv;exact Z)|(apply ZA;exact Z;exact Z;decide +kernel;exact Z)|(apply ZB;exact Z)|exact AO.nil _ _ _|(apply Zp;(decide +kernel))|exact AOs.nil|exact ZJ rfl rfl|exact Y6 rfl rfl rfl rfl rfl)
 all_goals(apply Wg [] [0];(apply Zc Za;exact Z);(iterate 7 exact Z))
 all_goals rfl
def Uu (c:UInt8):List UInt8->List UInt8 × List UInt8 × Bool
 | []=>([],[],false)
 | x::s=>if x=c then([],s,true) else(x::(Uu c s).1,(Uu c s).2.1,(Uu c s).2.2)
theorem Tb {c:UInt8}:∀ {s:List UInt8},c ∉ s->Uu c s=(s,[],false)
 | [],_=>rfl
 | x::s,h=>by
  have h1:¬ x=c:=fun e=>h (by rw[e];exact List.mem_cons_self ..)
  have h2:=Tb (c:=c) (s:=s) fun hm=>h (List.mem_cons_of_mem _ hm)
  rw[Uu,if_neg h1,h2]
theorem Gh {c:UInt8}:∀ {a b:List UInt8},c ∉ a->Uu c (a++c::b)=(a,b,true)
 | [],b,_=>by rw[List.nil_append,Uu,if_pos rfl]
 | x::a,b,h=>by
  have h1:¬ x=c:=fun e=>h (by rw[e];exact List.mem_cons_self ..)
  have h2:=Gh (c:=c) (a:=a) (b:=b) fun hm=>h (List.mem_cons_of_mem _ hm)
  rw[List.cons_append,Uu,if_neg h1,h2]
def Qn (p s:List UInt8):List UInt8 × Bool:=if s.take p.length==p then(s.drop p.length,true) else(s,false)
theorem Mg (p r:List UInt8):Qn p (p++r)=(r,true):=by
 unfold Qn
 rw[List.take_left,beq_self_eq_true,if_pos rfl,List.drop_left]
theorem LH {p s:List UInt8}(h:(s.take p.length==p)=false):Qn p s=(s,false):=by
 unfold Qn;rw[h];rfl
def ppV (s:List UInt8):EidV × Bool:=
 (⟨false,0,0,(Uu 47 (Qn [47,47] s).1).1,(Uu 47 (Qn [47,47] s).1).2.1⟩,(Qn [47,47] s).2&&((Uu 47 (Qn [47,47] s).1).2.2&&((Uu 47 (Qn [47,47] s).1).1 != []&&Ys ⟨false,0,0,(Uu 47 (Qn [47,47] s).1).1,(Uu 47 (Qn [47,47] s).1).2.1⟩)))
set_option maxRecDepth 100000 in
theorem Mh (s:ByteArray)(c:Int)(w:World):Calls Tryz.prog 261 #[.string s,.int .u8 c] w fun e w'=>e=.returned (.int .i64 (Lib.indexByte s.data.toList c.toNat.toUInt8))/\w'=w:=by
 go_enter Tryz.func261,Tryz.ntmps261
 go_wp2
 rw[run_callFunc_extern Tryz.func279 (by kernel_rfl) (by kernel_rfl) (by kernel_rfl) (e:=Extern.BytealgIndexByte.indexByte) (by kernel_rfl),Lib.run_indexByteString]
 simp only[Result.andThen]
 rw[Oper.upon_value]
 go_wp2
 go_ret
 exact⟨rfl,rfl⟩
theorem Sh [Known](s:List UInt8)(c:Int):AP Tryz.prog 261 [.str s,.int .u8 c] (.int .i64 (Lib.indexByte s c.toNat.toUInt8)) []:=by
 refine⟨fun g w vs hmem hl hv=>?_⟩
 obtain⟨v0,v1,rfl⟩:∃ v0 v1,vs=[v0,v1]:=by
  match vs,hl with
  | [v0,v1],_=>exact⟨v0,v1,rfl⟩
 have h0:=(hv 0 _ _ rfl rfl).str_inv.1
 have h1:=(hv 1 _ _ rfl rfl).int_inv
 subst h0 h1
 exact(Mh ⟨s.toArray⟩ c w).mono fun e w' ⟨he,hb⟩=>IF hmem (hb ▸ Below.refl _ _) he (.int _ _)
theorem Ot [Known](s p:List UInt8)(hs:s.length<=4611686018427387904)(hp:p.length<=4611686018427387904):AP Tryz.prog 198 [.str s,.str p] (.bool (s.take p.length==p)) []:=by
 by_cases h:p.length<=s.length
 ·have t1:decide ((s.length:Int) ≥ (p.length:Int))=true:=decide_eq_true (by omega)
  have hq:((p.length:Nat):Int).toNat<=s.length:=by rw[Int.toNat_natCast];exact h
  have hs2:(s.take ((p.length:Nat):Int).toNat).drop 0=s.take p.length:=by rw[Int.toNat_natCast,List.drop_zero]
  generalize s.take p.length=s2 at *
  refine AP.ofA (Zl Tryz.func198 Z Tryz.ntmps198 Z Z ?_)
  repeat'(first|refine QD Za Z Z Z Z (.dft _) (.lit _ _ _ _ rfl (Int.natCast_nonneg _)) (Nat.zero_le _) hq hs2 ?_|(apply Zg Za;exact Z)|(apply Zh Za;exact Z)|refine Zd Z Z Z Qt ?_|refine Zj Z Qt Z Z ?_|refine V8 Za Z Z Z Z ?_)
  all_goals exact Qe
 ·have t1:decide ((s.length:Int) ≥ (p.length:Int))=false:=decide_eq_false (by omega)
  have e:(s.take p.length==p)=false:=by
   rw[beq_eq_false_iff_ne]
   intro e
   have:=congrArg List.length e
   rw[List.length_take]at this
   omega
  rw[e]
  refine AP.ofA (Zl Tryz.func198 Z Tryz.ntmps198 Z Z ?_)
  repeat'(first|(apply Zg Za;exact Z)|(apply Zh Za;exact Z)|refine Zr Z Z Z Qt ?_|refine Zi Z Qt Z Z ?_|refine V8 Za Z Z Z Z ?_)
  all_goals exact Qe
theorem G8 [Known](p r:List UInt8)(hs:(p++r).length<=4611686018427387904):AP Tryz.prog 143 [.str (p++r),.str p] (.tup [.str r,.bool true]) []:=by
 have hH:=Ot (p++r) p hs (by rw[List.length_append]at hs;omega)
 rw[List.take_left,beq_self_eq_true]at hH
 have hq:((p.length:Nat):Int).toNat<=(p++r).length:=by rw[Int.toNat_natCast,List.length_append];omega
 have hs2:((p++r).take (p++r).length).drop ((p.length:Nat):Int).toNat=r:=by rw[Int.toNat_natCast,List.take_length,List.drop_left]
 have hC:AP Tryz.prog 166 [.str (p++r),.str p] (.tup [.str r,.bool true]) []:=by
  generalize p++r=s at *
  refine AP.ofA (Zl Tryz.func166 Z Tryz.ntmps166 Z Z ?_)
  repeat'(first|(apply Zb (hH);kernel_rfl;(iterate 4 exact Z))|refine QD Za Z Z Z Z (.lit _ _ _ _ rfl (Int.natCast_nonneg _)) (.dft _) hq (Nat.le_refl _) hs2 ?_|(apply Zg Za;exact Z)|(apply Zh Za;exact Z)|(apply Zs Za;exact Z)|refine Zf Z Qt ?_|refine V8 Za Z Z Z Z ?_)
  all_goals exact Qe
 refine AP.ofA (Zl Tryz.func143 Z Tryz.ntmps143 Z Z ?_)
 repeat'(first|(apply Zb (hC);kernel_rfl;(iterate 4 exact Z))|(apply Zg Za;exact Z)|(apply Zh Za;exact Z))
 all_goals exact Qe
theorem G9 [Known](s p:List UInt8)(hs:s.length<=4611686018427387904)(hp:p.length<=4611686018427387904)(h:(s.take p.length==p)=false):AP Tryz.prog 143 [.str s,.str p] (.tup [.str s,.bool false]) []:=by
 have hH:=Ot s p hs hp
 rw[h]at hH
 have hC:AP Tryz.prog 166 [.str s,.str p] (.tup [.str s,.bool false]) []:=by
  refine AP.ofA (Zl Tryz.func166 Z Tryz.ntmps166 Z Z ?_)
  repeat'(first|(apply Zb (hH);kernel_rfl;(iterate 4 exact Z))|(apply Zg Za;exact Z)|(apply Zh Za;exact Z)|(apply Zs Za;exact Z)|refine Ze Z Qt ?_)
  all_goals exact Qe
 refine AP.ofA (Zl Tryz.func143 Z Tryz.ntmps143 Z Z ?_)
 repeat'(first|(apply Zb (hC);kernel_rfl;(iterate 4 exact Z))|(apply Zg Za;exact Z)|(apply Zh Za;exact Z))
 all_goals exact Qe
theorem TU (s p:List UInt8):(∃ r,s=p++r)\/(s.take p.length==p)=false:=by
 cases h:s.take p.length==p with
 | true=>
  refine .inl ⟨s.drop p.length,?_⟩
  have:=beq_iff_eq.1 h
  conv=>lhs;rw[<- List.take_append_drop p.length s,this]
 | false=>exact .inr rfl
theorem Mi:∀ {l:List UInt8} {c:UInt8},c ∉ l->Lib.indexByte l c = -1
 | [],_,_=>rfl
 | x::l,c,h=>by
  have h1:¬ x=c:=fun e=>h (by rw[e];exact List.mem_cons_self ..)
  have h2:=Mi (l:=l) (c:=c) fun hm=>h (List.mem_cons_of_mem _ hm)
  simp[Lib.indexByte,h1,h2]
theorem Tc:∀ {a b:List UInt8} {c:UInt8},c ∉ a->Lib.indexByte (a++c::b) c=(a.length:Int)
 | [],b,c,_=>by simp[Lib.indexByte]
 | x::a,b,c,h=>by
  have h1:¬ x=c:=fun e=>h (by rw[e];exact List.mem_cons_self ..)
  have h2:=Tc (a:=a) (b:=b) (c:=c) fun hm=>h (List.mem_cons_of_mem _ hm)
  rw[List.cons_append]
  simp only[Lib.indexByte,h2,List.length_cons,beq_iff_eq,h1,if_false]
  (repeat' split)<;>omega
theorem Ou [Known](s:List UInt8)(c:UInt8):AP Tryz.prog 234 [.str s,.str [c]] (.int .i64 (Lib.indexByte s c)) []:=by
 have hI:=Sh s (c.toNat:Int)
 have e:((c.toNat:Int)).toNat.toUInt8=c:=by rw[Int.toNat_natCast];simp
 rw[e]at hI
 have t0:((([c]:List UInt8).length:Int)==0)=false:=rfl
 have t1:((([c]:List UInt8).length:Int)==1)=true:=rfl
 by_cases hs:[c]=s
 ·subst hs
  have t2:([c]==[c])=true:=by simp
  have e0:Lib.indexByte [c] c=0:=by simp[Lib.indexByte]
  rw[e0]
  refine AP.ofA (Zl Tryz.func234 Z Tryz.ntmps234 Z Z ?_)
  repeat'(first|(apply Zg Za;exact Z)|(apply Zh Za;exact Z)|(apply Zs Za;exact Z)|refine Zd Z Z Z Qt ?_|refine Zi Z Qt Z Z ?_|refine Ze Z Qt ?_|refine V8 Za Z Z Z Z ?_)
  all_goals exact Qe
 ·have t2:([c]==s)=false:=by simpa using hs
  refine AP.ofA (Zl Tryz.func234 Z Tryz.ntmps234 Z Z ?_)
  repeat'(first|(apply Zb (hI);kernel_rfl;(iterate 4 exact Z))|refine Lb Za Z Z Z Z Z Qd Z ?_|(apply Zg Za;exact Z)|(apply Zh Za;exact Z)|(apply Zs Za;exact Z)|refine Zd Z Z Z Qt ?_|refine Zi Z Qt Z Z ?_|refine Ze Z Qt ?_|refine Zf Z Qt ?_|refine V8 Za Z Z Z Z ?_)
  all_goals exact Qe
theorem LI [Known](s:List UInt8)(c:UInt8)(h:c ∉ s):AP Tryz.prog 167 [.str s,.str [c]] (.tup [.str s,.str [],.bool false]) []:=by
 have hI:=Ou s c
 rw[Mi h]at hI
 have hC:AP Tryz.prog 199 [.str s,.str [c]] (.tup [.str s,.str [],.bool false]) []:=by
  refine AP.ofA (Zl Tryz.func199 Z Tryz.ntmps199 Z Z ?_)
  repeat'(first|(apply Zb (hI);kernel_rfl;(iterate 4 exact Z))|(apply Zg Za;exact Z)|(apply Zh Za;exact Z)|refine Zf Z Qt ?_)
  all_goals exact Qe
 refine AP.ofA (Zl Tryz.func167 Z Tryz.ntmps167 Z Z ?_)
 repeat'(first|(apply Zb (hC);kernel_rfl;(iterate 4 exact Z))|(apply Zg Za;exact Z)|(apply Zh Za;exact Z))
 all_goals exact Qe
theorem LJ [Known](a b:List UInt8)(c:UInt8)(h:c ∉ a)(hl:(a++c::b).length<=4611686018427387904):AP Tryz.prog 167 [.str (a++c::b),.str [c]] (.tup [.str a,.str b,.bool true]) []:=by
 have hI:=Ou (a++c::b) c
 rw[Tc h]at hI
 have hal:a.length+1<=(a++c::b).length:=by rw[List.length_append,List.length_cons];omega
 have t1:decide ((a.length:Int) ≥ 0)=true:=decide_eq_true (by omega)
 have e1:IntKind.i64.wrap ((a.length:Int)+(([c]:List UInt8).length:Int))=((a.length+1:Nat):Int):=by
  rw[IntWalk.i64_in _ (by simp;omega)];simp
 have q1:((a.length:Nat):Int).toNat<=(a++c::b).length:=by rw[Int.toNat_natCast];omega
 have q2:((a.length+1:Nat):Int).toNat<=(a++c::b).length:=by rw[Int.toNat_natCast];omega
 have s1:((a++c::b).take ((a.length:Nat):Int).toNat).drop 0=a:=by rw[Int.toNat_natCast,List.drop_zero,List.take_left]
 have s2:((a++c::b).take (a++c::b).length).drop ((a.length+1:Nat):Int).toNat=b:=by
  rw[Int.toNat_natCast,List.take_length,show a.length+1=(a++[c]).length by simp,show a++c::b=(a++[c])++b by simp,List.drop_left]
 have hC:AP Tryz.prog 199 [.str (a++c::b),.str [c]] (.tup [.str a,.str b,.bool true]) []:=by
  generalize a++c::b=s at *
  refine AP.ofA (Zl Tryz.func199 Z Tryz.ntmps199 Z Z ?_)
  repeat'(first|rw[e1]|(apply Zb (hI);kernel_rfl;(iterate 4 exact Z))|refine QD Za Z Z Z Z (.dft _) (.lit _ _ _ _ rfl (Int.natCast_nonneg _)) (Nat.zero_le _) q1 s1 ?_|refine QD Za Z Z Z Z (.lit _ _ _ _ rfl (Int.natCast_nonneg _)) (.dft _) q2 (Nat.le_refl _) s2 ?_|(apply Zg Za;exact Z)|(apply Zh Za;exact Z)|refine Ze Z Qt ?_|refine V8 Za Z Z Z Z ?_|(apply Zm 10 ZG;decide +kernel;kernel_rfl;kernel_rfl;kernel_rfl;exact Z;exact Z)|(apply Zq;(iterate 4 exact Z))|exact AE.nil _ _ _ _|(apply Zv;exact Z)|(apply ZA;exact Z;exact Z;decide +kernel;exact Z)|(apply ZB;exact Z)|exact AO.nil _ _ _|(apply Zp;(decide +kernel))|exact AOs.nil|exact ZJ rfl rfl)
  all_goals exact Qe
 refine AP.ofA (Zl Tryz.func167 Z Tryz.ntmps167 Z Z ?_)
 repeat'(first|(apply Zb (hC);kernel_rfl;(iterate 4 exact Z))|(apply Zg Za;exact Z)|(apply Zh Za;exact Z))
 all_goals exact Qe
theorem Ov (c:UInt8):∀ s:List UInt8,(c ∉ s)\/∃ a b,s=a++c::b/\c ∉ a
 | []=>.inl (by simp)
 | x::s=>by
  by_cases e:x=c
  ·subst e;exact .inr ⟨[],s,rfl,by simp⟩
  ·rcases Ov c s with h|⟨a,b,rfl,h⟩
   ·refine .inl fun hm=>?_
    rcases List.mem_cons.1 hm with h2|h2
    ·exact e h2.symm
    ·exact h h2
   ·refine .inr ⟨x::a,b,rfl,fun hm=>?_⟩
    rcases List.mem_cons.1 hm with h2|h2
    ·exact e h2.symm
    ·exact h h2
end Go.Proofs.YtchlgagdbflkmaaGreatDoor
end
section
open Go.RowKit Go.Pl
namespace Go.Av
section
variable {P:Program} {Q:X->St->Prop} {n:Nat} {ee:Nat × Nat} {tm:List (Nat × D)} {bx:List (List D)} {fr:List Fr}
variable {ops:Array Oper} {rest:List Oper} {t ty:Nat} {pos:String} {after:Array Edge}
end
end Go.Av
end
section
open Go.RowKit Go.Pl Go.Av
namespace Go.Proofs.YtchlgagdbflkmaaGreatDoor
set_option maxHeartbeats 4000000
theorem Mj (p s:List UInt8):(Qn p s).1.length<=s.length:=by
 unfold Qn
 split
 ·simp
 ·exact Nat.le_refl _
theorem Si [Known](s:List UInt8)(c:UInt8)(hl:s.length<=4611686018427387904):AP Tryz.prog 167 [.str s,.str [c]] (.tup [.str (Uu c s).1,.str (Uu c s).2.1,.bool (Uu c s).2.2]) []:=by
 rcases Ov c s with h|⟨a,b,rfl,h⟩
 ·rw[Tb h];exact LI s c h
 ·rw[Gh h];exact LJ a b c h hl
theorem TV [Known](s p:List UInt8)(hs:s.length<=4611686018427387904)(hp:p.length<=4611686018427387904):AP Tryz.prog 143 [.str s,.str p] (.tup [.str (Qn p s).1,.bool (Qn p s).2]) []:=by
 rcases TU s p with⟨r,rfl⟩ | h
 ·rw[Mg];exact G8 p r hs
 ·rw[LH h];exact G9 s p hs hp h
theorem Bp [Known](s:List UInt8)(hs:s.length<=140737488351232):AP Tryz.prog 145 [.str s] (.tup [.agg (eC (ppV s).1),.bool (ppV s).2]) []:=by
 have hP:=TV s [47,47] (by omega) (by decide)
 have hl:=Mj [47,47] s
 unfold ppV
 dsimp only
 generalize (Qn [47,47] s).1=r at *
 generalize (Qn [47,47] s).2=ok at *
 have hC:=Si r 47 (by omega)
 generalize (Uu 47 r).1=a at *
 generalize (Uu 47 r).2.1=b at *
 generalize (Uu 47 r).2.2=k at *
 have hR:=Vi ⟨false,0,0,a,b⟩
 generalize Ys ⟨false,0,0,a,b⟩=R at *
 replace hR:AP Tryz.prog _ [.agg [.bool false,.int .u64 0,.int .u64 0,.str a,.str b]] (.bool R) []:=hR
 show AP Tryz.prog _ _ (.tup [.agg [.bool false,.int .u64 0,.int .u64 0,.str a,.str b],_]) _
 obtain⟨ne,h1⟩:∃ ne,(a != [])=ne:=⟨_,rfl⟩
 rw[h1]
 cases ok with
 | false=>
  refine AP.ofA (Zl Tryz.func145 Z Tryz.ntmps145 Z Z ?_)
  repeat'(first|(apply Zb (hP);kernel_rfl;(iterate 4 exact Z))|(apply Zb (hC);kernel_rfl;(iterate 4 exact Z))|(apply Zg Za;exact Z)|(apply Zh Za;exact Z)|refine Zr Z Z Z Qt ?_|refine Zi Z Qt Z Z ?_|(apply Zm 14 ZG;decide +kernel;kernel_rfl;kernel_rfl;kernel_rfl;exact Z;exact Z)|(apply Zq;(iterate 4 exact Z))|exact AE.nil _ _ _ _|(apply Zv;exact Z)|(apply Vv;exact Z)|(apply ZA;exact Z;exact Z;decide +kernel;exact Z)|(apply ZB;exact Z)|(apply UZ;exact Z)|exact AO.nil _ _ _|(apply Zp;(decide +kernel))|(apply ZZ;(iterate 3 exact Z))|exact AOs.nil|exact ZJ rfl rfl|exact VS rfl)
  all_goals exact Qe
 | true=>
  cases k with
  | false=>
   refine AP.ofA (Zl Tryz.func145 Z Tryz.ntmps145 Z Z ?_)
   repeat'(first|(apply Zb (hP);kernel_rfl;(iterate 4 exact Z))|(apply Zb (hC);kernel_rfl;(iterate 4 exact Z))|(apply Zg Za;exact Z)|(apply Zh Za;exact Z)|refine Zd Z Z Z Qt ?_|refine Zr Z Z Z Qt ?_|refine Zj Z Qt Z Z ?_|refine Zi Z Qt Z Z ?_|(apply Zm 14 ZG;decide +kernel;kernel_rfl;kernel_rfl;kernel_rfl;exact Z;exact Z)|(apply Zq;(iterate 4 exact Z))|exact AE.nil _ _ _ _|(apply Zv;exact Z)|(apply Vv;exact Z)|(apply ZA;exact Z;exact Z;decide +kernel;exact Z)|(apply ZB;exact Z)|(apply UZ;exact Z)|exact AO.nil _ _ _|(apply Zp;(decide +kernel))|(apply ZZ;(iterate 3 exact Z))|exact AOs.nil|exact ZJ rfl rfl|exact VS rfl)
   all_goals exact Qe
  | true=>
   cases ne<;>cases R
   all_goals
    refine AP.ofA (Zl Tryz.func145 Z Tryz.ntmps145 Z Z ?_)
    repeat'(first|rw[h1]|(apply Zb (hP);kernel_rfl;(iterate 4 exact Z))|(apply Zb (hC);kernel_rfl;(iterate 4 exact Z))|(apply Zb (hR);kernel_rfl;(iterate 4 exact Z))|(apply Zg Za;exact Z)|(apply Zh Za;exact Z)|refine Zd Z Z Z Qt ?_|refine Zr Z Z Z Qt ?_|refine Zj Z Qt Z Z ?_|refine Zi Z Qt Z Z ?_|(apply Zm 14 ZG;decide +kernel;kernel_rfl;kernel_rfl;kernel_rfl;exact Z;exact Z)|(apply Zq;(iterate 4 exact Z))|exact AE.nil _ _ _ _|(apply Zv;exact Z)|(apply Vv;exact Z)|(apply ZA;exact Z;exact Z;decide +kernel;exact Z)|(apply ZB;exact Z)|(apply UZ;exact Z)|exact AO.nil _ _ _|(apply Zp;(decide +kernel))|(apply ZZ;(iterate 3 exact Z))|exact AOs.nil|exact ZJ rfl rfl|exact VS rfl)
    all_goals exact Qe
end Go.Proofs.YtchlgagdbflkmaaGreatDoor
end
section
open Go.RowKit Go.Pl
namespace Go.Av
inductive Zy where
 | pu (d:D)
 | al (cs:List D)
def z0 (p:Nat × Zy):Nat × D:=(p.1,match p.2 with | .pu d=>d | .al _=>.junk)
def Sj:Nat->List (Nat × Zy)->List (Nat × D)->List (Nat × D)
 | _,[],tm=>tm
 | m,(_,.pu _)::zs,tm=>Sj m zs tm
 | m,(t,.al _)::zs,tm=>Sj (m+1) zs ((t,.ptr m 0)::tm)
def zcs:List (Nat × Zy)->List (List D)
 | []=>[]
 | (_,.pu _)::zs=>zcs zs
 | (_,.al cs)::zs=>cs::zcs zs
section
variable {P:Program} {T:Tab} {Q:X->St->Prop} {n:Nat} {ee:Nat × Nat} {tm tm':List (Nat × D)} {bx:List (List D)} {fr:List Fr} {b0:Bs} {g g':G} {w w':World} {a:Act}
inductive AZ [Known][Dfr](P:Program) (T:Tab) (l:List Oper) (n:Nat) (bx:List (List D)) (fr:List Fr):List Oper->List (Nat × D)->List (Nat × Zy)->List (Nat × D)->Prop
 | nil (tm:List (Nat × D)):AZ P T l n bx fr [] tm [] tm
 | pu (o:Oper) (rest:List Oper) (t:Nat) (d:D) (tm:List (Nat × D)) (zs:List (Nat × Zy)) (tm':List (Nat × D)) (hd:o.dst=some t) (ht:Nat.blt t n=true) (h:AL P l.toArray [o] ⟨n,Z8 l o tm,bx,fr,(bx.length,fr.length)⟩ (qY o bx fr (.pu d))) (k:AZ P T l n bx fr rest ((t,d)::tm) zs tm'):AZ P T l n bx fr (o::rest) tm ((t,.pu d)::zs) tm'
 | al (t:Nat) (e:TypeId) (ty:Nat) (pos:String) (after:Array Edge) (rest:List Oper) (ti:Ti) (tm:List (Nat × D)) (zs:List (Nat × Zy)) (tm':List (Nat × D)) (ht:Nat.blt t n=true) (hti:tl T e=some ti) (k:AZ P T l n bx fr rest ((t,.junk)::tm) zs tm'):AZ P T l n bx fr (⟨some t,.alloc e,ty,pos,after,none⟩::rest) tm ((t,.al (ti.zero.map ZK.d))::zs) tm'
theorem UN (l:List Oper)(o:Oper):∀ tm:List (Nat × D),Z8 l o tm=tm.filter fun p=>(Wn l o).contains p.1
 | []=>rfl
 | p::tm=>by
  rw[Z8,List.filter_cons,UN l o tm]
  cases(Wn l o).contains p.1<;>rfl
theorem Evo.al [Known](hm:Mem g bx fr w)(o:Obj):Evo ⟨g,fr,w⟩ ⟨g,fr,w.alloc o⟩:=
 ⟨rfl,rfl,rfl,by simp,fun k hk _=>Below.heap_alloc w _ k hk,fun _ _ h=>h,fun k p h=>Vf w _ (hm.Clt k p h) p,fun _ _ h=>.inl h,fun _ _ h=>h,fun _ h=>.inl h,fun k c h=>.inl ⟨c,h⟩,WF.refl _ _⟩
theorem Mem.al [Known](hm:Mem g bx fr w)(o:Obj):Mem g bx fr (w.alloc o) where
 bl:=hm.bl
 bat i k cs' h1 h2:=by
  obtain⟨us,ty,k1,k2,k3⟩:=hm.bat i k cs' h1 h2
  exact⟨us,ty,(Below.heap_alloc w _ k (Array.getElem?_eq_some_iff.1 k1).1).trans k1,k2,fun j d v hd hv=>(k3 j d v hd hv).evo (Evo.al hm o)⟩
 bC:=hm.bC
 bN:=hm.bN
 tl:=hm.tl
 tat i k c f h1 h2:=by
  have hT:=hm.tat i k c f h1 h2
  obtain⟨cur,r1,r2⟩:=hT.row
  exact⟨⟨cur,(Below.heap_alloc w _ k (Array.getElem?_eq_some_iff.1 r1).1).trans r1,r2⟩,hT.le,hT.max,hT.pos,hT.far⟩
 tN:=hm.tN
 tρ:=hm.tρ
 Clt k p hC:=by
  have:=hm.Clt k p hC
  simp;omega
 gl:=hm.gl.evo (Evo.al hm o)
theorem Mk {k k':Nat}(h:M ⟨g.C,g.ρ++[k],g.τ⟩ k'):M g k'\/k'=k:=by
 rcases h with h|h
 ·rcases List.mem_append.1 h with h|h
  ·exact .inl (.inl h)
  ·simp at h;exact .inr h
 ·exact .inl (.inr h)
structure AZk [Known][Dfr](P:Program) (l acts:List Oper) (n:Nat) (zs:List (Nat × Zy)) (tm:List (Nat × D)) (bx:List (List D)) (fr:List Fr) (ee:Nat × Nat) (Q:X->St->Prop):Prop where
 run:AL P l.toArray acts ⟨n,Sj bx.length zs tm,bx++zcs zs,fr,ee⟩ Q
end
end Go.Av
end
section
open Go.RowKit Go.Pl Go.Av
namespace Go.Proofs.YtchlgagdbflkmaaGreatDoor
set_option maxHeartbeats 4000000
def Ue (m:Nat)(x:It):Bool:=It.beq x (.mk 0 m [] [])
def Xk:It->Option (Nat × Nat)
 | .mk k _ _ [y0,y1]=>if k=4 then(match Ue y0.n y0&&Ue y1.n y1 with|true=>some (y0.n,y1.n)|false=>none) else none
 | _=>none
def Bq:Option (Nat × Nat)->D
 | some (a,b)=>.tup [.sl .ext [.int .u64 (a:Int),.int .u64 (b:Int)],.bool true]
 | none=>.tup [.sl .ext [],.bool false]
theorem VY [Known](x:It)(hw:wfI x)(m:Nat)(hm:m<18446744073709551616):AP Tryz.prog 176 [itD x,.agg [.int .i64 0,.int .u64 (m:Int),.sl .ext [],.sl .ext []]] (.bool (Ue m x)) []:=
 Ub x hw (.mk 0 m [] []) (by simp[wfI,wfs];omega)
theorem UO [Known](n:Nat):AP Tryz.prog 211 [.int .u64 (n:Int)] (.agg [.int .i64 0,.int .u64 (n:Int),.sl .ext [],.sl .ext []]) []:=YY n
theorem LK [Known](x:It)(hw:wfI x):AP Tryz.prog 212 [itD x,.int .i64 2] (Bq (Xk x)) []:=by
 obtain⟨k,n,b,l⟩:=x
 obtain⟨_,_,_,hws⟩:=hw
 by_cases hk:k=4
 case neg=>
  have t1:(k != 4)=true:=by simpa using hk
  have e:Xk (.mk k n b l)=none:=by unfold Xk;split<;>simp_all
  rw[e]
  refine AP.ofA (Zl Tryz.func212 Z Tryz.ntmps212 Z Z ?_)
  repeat'(first|(apply Zg Za;exact Z)|(apply Zh Za;exact Z)|(apply Zs Za;exact Z)|refine Zo Z Z Z Qt ?_|refine Zj Z Qt Z Z ?_|refine Ze Z Qt ?_)
  all_goals exact Qe
 subst hk
 have t1:((4:Int) != 4)=false:=rfl
 by_cases hl:l.length=2
 case neg=>
  have t2:(((Zu l).length:Int) != 2)=true:=by rw[Zz];simp;omega
  have e:Xk (.mk 4 n b l)=none:=by unfold Xk;split<;>simp_all
  rw[e]
  refine AP.ofA (Zl Tryz.func212 Z Tryz.ntmps212 Z Z ?_)
  repeat'(first|(apply Zg Za;exact Z)|(apply Zh Za;exact Z)|(apply Zs Za;exact Z)|refine Zd Z Z Z Qt ?_|refine Zi Z Qt Z Z ?_|refine Ze Z Qt ?_|refine Zn Za Z Z Z Z ?_)
  all_goals exact Qe
 match l,hl with
 | [⟨k0,n0,b0,l0⟩,⟨k1,n1,b1,l1⟩],_=>
  have hU:=Y4 [It.mk k0 n0 b0 l0,It.mk k1 n1 b1 l1]
  obtain⟨hw0,hw1,_⟩:=hws
  have m0:n0<18446744073709551616:=hw0.1
  have m1:n1<18446744073709551616:=hw1.1
  have h0:=VY _ hw0 n0 m0
  have h1:=VY _ hw1 n1 m1
  have a0:=UO n0
  have a1:=UO n1
  unfold Xk
  simp only[It.n,if_true]
  have t2:(((Zu [It.mk k0 n0 b0 l0,It.mk k1 n1 b1 l1]).length:Int) != 2)=false:=rfl
  have t3:decide ((0:Int)<((Zu [It.mk k0 n0 b0 l0,It.mk k1 n1 b1 l1]).length:Int))=true:=rfl
  have t4:decide ((IntKind.i64.wrap (0+1):Int)<((Zu [It.mk k0 n0 b0 l0,It.mk k1 n1 b1 l1]).length:Int))=true:=rfl
  have t5:decide ((IntKind.i64.wrap (IntKind.i64.wrap (0+1)+1):Int)<((Zu [It.mk k0 n0 b0 l0,It.mk k1 n1 b1 l1]).length:Int))=false:=rfl
  have hv0:(Zu [It.mk k0 n0 b0 l0,It.mk k1 n1 b1 l1])[Int.toNat 0]?=some (.agg [.int .i64 k0,.int .u64 (n0:Int),.sl (b0.map E.byte),.sl (Zu l0)]):=rfl
  cases c0:Ue n0 (.mk k0 n0 b0 l0) with
  | false=>
   rw[c0]at h0
   refine AP.ofA (Zl Tryz.func212 Z Tryz.ntmps212 Z Z ?_)
   repeat'(first|(apply Zb (h0);kernel_rfl;(iterate 4 exact Z))|(apply Zb (a0);kernel_rfl;(iterate 4 exact Z))|refine Ws 70 ?_|refine W0 ?_|(apply Zg Za;exact Z)|(apply Zh Za;exact Z)|(apply Zs Za;exact Z)|refine Zd Z Z Z Qt ?_|refine Zi Z Qt Z Z ?_|refine Ze Z Qt ?_|refine Zf Z Qt ?_|refine WI ?_|refine Zn Za Z Z Z Z ?_|(apply Zm 4 ZG;decide +kernel;kernel_rfl;kernel_rfl;kernel_rfl;exact Z;exact Z)|(apply Zq;(iterate 4 exact Z))|exact AE.nil _ _ _ _|(apply Zv;exact Z)|(apply ZA;exact Z;exact Z;decide +kernel;exact Z)|(apply ZB;exact Z)|exact AO.nil _ _ _|(apply Zp;(decide +kernel))|exact AOs.nil|exact ZJ rfl rfl|(apply Zw Za;(iterate 6 exact Z);(first|exact Qt|rotate_left);(first|with_reducible assumption|decide +kernel|exact Z);(first|exact Zk rfl|with_reducible assumption|decide +kernel|rotate_left)))
   all_goals exact Qe
  | true=>
   rw[c0]at h0
   cases c1:Ue n1 (.mk k1 n1 b1 l1) with
   | false=>
    rw[c1]at h1
    refine AP.ofA (Zl Tryz.func212 Z Tryz.ntmps212 Z Z ?_)
    repeat'(first|(apply Zb (h0);kernel_rfl;(iterate 4 exact Z))|(apply Zb (a0);kernel_rfl;(iterate 4 exact Z))|(apply Zb (h1);kernel_rfl;(iterate 4 exact Z))|(apply Zb (a1);kernel_rfl;(iterate 4 exact Z))|refine Ws 70 ?_|refine W0 ?_|refine Z9 Za Z Z Z Z Z Z (Zk rfl) (List.cons_ne_nil _ _) Z Qd Qd Z Z Z ?_|(apply Zg Za;exact Z)|(apply Zh Za;exact Z)|(apply Zs Za;exact Z)|refine Zd Z Z Z Qt ?_|refine Zi Z Qt Z Z ?_|refine Ze Z Qt ?_|refine Zf Z Qt ?_|refine WI ?_|refine Zn Za Z Z Z Z ?_|refine ZO Za Z Z Z Z Z Z Z Z Z Z Z Z ?_|(apply Zm 4 ZG;decide +kernel;kernel_rfl;kernel_rfl;kernel_rfl;exact Z;exact Z)|(apply Zq;(iterate 4 exact Z))|exact AE.nil _ _ _ _|(apply Zv;exact Z)|(apply ZA;exact Z;exact Z;decide +kernel;exact Z)|(apply ZB;exact Z)|exact AO.nil _ _ _|(apply Zp;(decide +kernel))|exact AOs.nil|exact ZJ rfl rfl|(apply Zw Za;(iterate 6 exact Z);(first|exact Qt|rotate_left);(first|with_reducible assumption|decide +kernel|exact Z);(first|exact Zk rfl|with_reducible assumption|decide +kernel|rotate_left)))
    all_goals exact Qe
   | true=>
    rw[c1]at h1
    refine AP.ofA (Zl Tryz.func212 Z Tryz.ntmps212 Z Z ?_)
    repeat'(first|(apply Zb (h0);kernel_rfl;(iterate 4 exact Z))|(apply Zb (a0);kernel_rfl;(iterate 4 exact Z))|(apply Zb (h1);kernel_rfl;(iterate 4 exact Z))|(apply Zb (a1);kernel_rfl;(iterate 4 exact Z))|refine Ws 70 ?_|refine W0 ?_|refine UI Za Z Z Z Z Z Z Z Z Z Z Z (Zk rfl) (Zk rfl) (List.cons_ne_nil _ _) Qd Qd Z Z ?_|refine Z9 Za Z Z Z Z Z Z (Zk rfl) (List.cons_ne_nil _ _) Z Qd Qd Z Z Z ?_|(apply Zg Za;exact Z)|(apply Zh Za;exact Z)|(apply Zs Za;exact Z)|refine Zd Z Z Z Qt ?_|refine Zi Z Qt Z Z ?_|refine Ze Z Qt ?_|refine Zf Z Qt ?_|refine Zn Za Z Z Z Z ?_|refine ZO Za Z Z Z Z Z Z Z Z Z Z Z Z ?_|(apply Zm 4 ZG;decide +kernel;kernel_rfl;kernel_rfl;kernel_rfl;exact Z;exact Z)|(apply Zq;(iterate 4 exact Z))|exact AE.nil _ _ _ _|(apply Zv;exact Z)|(apply ZA;exact Z;exact Z;decide +kernel;exact Z)|(apply ZB;exact Z)|exact AO.nil _ _ _|(apply Zp;(decide +kernel))|exact AOs.nil|exact ZJ rfl rfl|(apply Zw Za;(iterate 6 exact Z);(first|exact Qt|rotate_left);(first|with_reducible assumption|decide +kernel|exact Z);(first|exact Zk rfl|with_reducible assumption|decide +kernel|rotate_left)))
    all_goals exact Qe
end Go.Proofs.YtchlgagdbflkmaaGreatDoor
end

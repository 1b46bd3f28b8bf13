/- Package canon: numbers. -/
import Derived.Test.YtkdpfkjlheajhaaGreatDoorE23
import Derived.Test.YtkdpfkjlheajhaaGreatDoorE11
import Derived.Test.YtkdpfkjlheajhaaGreatDoorE09
import Derived.Lib.Strings
import Derived.Lib.Slices
import Derived.Lib.Walk
import Derived.Lib.Bytealg
import Derived.Test.YtkdpfkjlheajhaaGreatDoorE07
import Derived.LaidEql
import Derived.Test.YtkdpfkjlheajhaaGreatDoorE12
import Derived.Test.YtkdpfkjlheajhaaGreatDoorE14
import Derived.Test.YtkdpfkjlheajhaaGreatDoorE17
set_option linter.unusedVariables false
set_option linter.unusedSimpArgs false
section
open Go.RowKit Go.Pl Go.Av
namespace Go.Proofs.YtkdpfkjlheajhaaGreatDoor
set_option maxHeartbeats 4000000
theorem Ss (l:List Nat):Uni 1 (l.map fun n:Nat=>E.int .u64 (n:Int)):=Uni.map (f:=fun n:Nat=>E.int .u64 (n:Int)) (fun _=>rfl) l
def Jc (n:Nat):Bool:=decide ((n:Int)<1)||decide ((n:Int)>255)
theorem KJ [Known](n:Nat):AP Tryz.prog 205 [.int .u64 (n:Int)] (.bool (Jc n)) []:=by
 unfold Jc
 refine AP.ofA (Zl Tryz.func205 Z Tryz.ntmps205 Z Z ?_)
 repeat'(first|(apply Zi Za;exact Z)|(apply Zg Za;exact Z)|(apply Ze;(iterate 3 exact Z);(first|with_reducible assumption|(solve|simp only[bn])))|(apply Zp;(iterate 3 exact Z);(first|with_reducible assumption|(solve|simp only[bn])))|(apply YF;exact Z;exact Z;all_goals intro hb)|(apply Zk;exact Z;(first|with_reducible assumption|(solve|simp only[bn]));exact Z;exact Z)|(apply Zj;exact Z;(first|with_reducible assumption|(solve|simp only[bn]));exact Z;exact Z))
 all_goals(apply Zs [];(apply Zc Za;exact Z);(iterate 4 exact Z))
 all_goals first|rfl|(simp only[*];done)|(simp only[*];rfl)
def BU:Bool->Bool->Int
 | true,_=>0
 | false,true=>1
 | false,false => -1
theorem LW [Known](a b:Nat)(x y:Bool)(hx:Jc a=x)(hy:Jc b=y):AP Tryz.prog 224 [.sl .ext [.int .u64 (a:Int),.int .u64 (b:Int)],.fn 205 []] (.int .i64 (BU x y)) []:=by
 have ga:=KJ a
 have gb:=KJ b
 rw[hx]at ga
 rw[hy]at gb
 have hU:=Ss [a,b]
 have q0:decide ((0:Int)<(([.int .u64 (a:Int),.int .u64 (b:Int)]:List E).length:Int))=true:=rfl
 have q1:decide ((1:Int)<(([.int .u64 (a:Int),.int .u64 (b:Int)]:List E).length:Int))=true:=rfl
 have q2:decide ((2:Int)<(([.int .u64 (a:Int),.int .u64 (b:Int)]:List E).length:Int))=false:=rfl
 have e1:IntKind.i64.wrap (0+1)=1:=by decide
 have e2:IntKind.i64.wrap (1+1)=2:=by decide
 cases x<;>cases y
 all_goals
  refine AP.ofA (Zl Tryz.func224 Z Tryz.ntmps224 Z Z ?_)
  repeat'(first|rw[e1]|rw[e2]|(apply VU (ga);exact Z;kernel_rfl;(iterate 3 exact Z))|(apply VU (gb);exact Z;kernel_rfl;(iterate 3 exact Z))|refine ZC Za Z Z Z Z Z Z (by decide) Z hU ?_|refine VB 20 ?_|refine Uf ?_|(apply Zi Za;exact Z)|(apply Zg Za;exact Z)|(apply Zu Za;exact Z)|refine Zd Z Qt ?_|refine Zf Z Qt ?_|refine Qf ?_|refine Zt Za Z Z Z Z ?_)
  all_goals exact Qe
theorem Ms [Known](a b:Nat):AP Tryz.prog 204 [.sl .ext [.int .u64 (a:Int),.int .u64 (b:Int)],.fn 205 []] (.bool (Jc a||Jc b)) []:=by
 cases hx:Jc a<;>cases hy:Jc b
 all_goals
  have hI:=LW a b _ _ hx hy
  refine AP.ofA (Zl Tryz.func204 Z Tryz.ntmps204 Z Z ?_)
  repeat'(first|(apply Zb (hI);kernel_rfl;(iterate 4 exact Z))|(apply Zi Za;exact Z)|(apply Zg Za;exact Z))
  all_goals exact Qe
theorem Ho [Known](a b:Nat):AP Tryz.prog 178 [.sl .ext [.int .u64 (a:Int),.int .u64 (b:Int)]] (.bool (!(Jc a||Jc b))) []:=by
 have hI:=Ms a b
 refine AP.ofA (Zl Tryz.func178 Z Tryz.ntmps178 Z Z ?_)
 repeat'(first|(apply Zb (hI);kernel_rfl;(iterate 4 exact Z))|(apply Zi Za;exact Z)|(apply Zg Za;exact Z))
 all_goals exact Qe
theorem Gz [Known]:AT Tryz.prog 145 [.sl .nil []] [] [] (.agg [.int .i64 4,.int .u64 0,.sl .nil [],.sl .nil []]) [] []:=by
 refine Zl Tryz.func145 rfl Tryz.ntmps145 rfl rfl ?_
 repeat'(first|refine VB 20 ?_|refine Uf ?_|(apply Zi Za;exact Z)|(apply Zg Za;exact Z)|refine Zf Z Qt ?_|refine Zt Za Z Z Z Z ?_)
 all_goals(apply U7 [] [];(apply Zc Za;exact Z);(iterate 7 exact Z))
 all_goals rfl
abbrev nmE (n:Nat):E:=.agg [.int .i64 0,.int .u64 (n:Int),.sl [],.sl []]
theorem GA [Known](a b:Nat):AP Tryz.prog 177 [.sl .ext [.int .u64 (a:Int),.int .u64 (b:Int)]] (.agg [.int .i64 4,.int .u64 0,.sl .ext [],.sl .ext [nmE a,nmE b]]) []:=by
 have ga:=Wd a
 have gb:=Wd b
 have hL:=Gz
 have hU:=Ss [a,b]
 have e1:IntKind.i64.wrap (0+1)=1:=by decide
 have e2:IntKind.i64.wrap (1+1)=2:=by decide
 have hU4:∀(l:List Nat),Uni 4 (l.map nmE):=fun l=>Uni.map (f:=nmE) (fun _=>rfl) l
 have q0:decide ((0:Int)<(([.int .u64 (a:Int),.int .u64 (b:Int)]:List E).length:Int))=true:=rfl
 have q1:decide ((1:Int)<(([.int .u64 (a:Int),.int .u64 (b:Int)]:List E).length:Int))=true:=rfl
 have q2:decide ((2:Int)<(([.int .u64 (a:Int),.int .u64 (b:Int)]:List E).length:Int))=false:=rfl
 have hu1:=hU4 [a]
 have hu2:=hU4 [a,b]
 refine AP.ofA (Zl Tryz.func177 Z Tryz.ntmps177 Z Z ?_)
 repeat'(first|rw[e1]|rw[e2]|(apply Zo [] [] (hL);kernel_rfl;(iterate 10 exact Z))|(apply Zb (ga);kernel_rfl;(iterate 4 exact Z))|(apply Zb (gb);kernel_rfl;(iterate 4 exact Z))|refine ZC Za Z Z Z Z Z Z (by decide) Z hU ?_|refine VB 20 ?_|refine Uf ?_|refine UO Za Z Z Z Z Z Z Z Z Z Z Z (Zm rfl) (Zm rfl) (List.cons_ne_nil _ _) Qd Qd Z Z ?_|refine Yg Za Z Z Z Z Z Z (Zm rfl) (List.cons_ne_nil _ _) Z Qd Qd Z Z Z ?_|(apply Zi Za;exact Z)|(apply Zg Za;exact Z)|(apply Zu Za;exact Z)|refine Zd Z Qt ?_|refine Zf Z Qt ?_|refine Zt Za Z Z Z Z ?_|refine Z7 Za Z Z Z Z Z Z Z Z Z Z Z Z ?_|(apply Zn 5 ZF;decide +kernel;kernel_rfl;kernel_rfl;kernel_rfl;exact Z;exact Z)|(apply Zr;(iterate 4 exact Z))|exact AE.nil _ _ _ _|(apply Zw;exact Z)|(apply ZA;exact Z;exact Z;decide +kernel;exact Z)|(apply ZB;exact Z)|exact AO.nil _ _ _|(apply Zq;(decide +kernel))|exact AOs.nil|exact ZG rfl rfl|exact WN rfl rfl rfl rfl rfl)
 all_goals exact Qe
theorem GB [Known](a b c d:Nat):AT Tryz.prog 177 [.sl .ext [.int .u64 (a:Int),.int .u64 (b:Int),.int .u64 (c:Int),.int .u64 (d:Int)]] [] [] (.agg [.int .i64 4,.int .u64 0,.sl .nil [],.sl (.own 0) [nmE a,nmE b,nmE c,nmE d]]) [] [⟨4,4,194⟩]:=by
 have ga:=Wd a
 have gb:=Wd b
 have gc:=Wd c
 have gd:=Wd d
 have hL:=Gz
 have hU:=Ss [a,b,c,d]
 have e1:IntKind.i64.wrap (0+1)=1:=by decide
 have e2:IntKind.i64.wrap (1+1)=2:=by decide
 have e3:IntKind.i64.wrap (2+1)=3:=by decide
 have e4:IntKind.i64.wrap (3+1)=4:=by decide
 have hU4:∀(l:List Nat),Uni 4 (l.map nmE):=fun l=>Uni.map (f:=nmE) (fun _=>rfl) l
 have q0:decide ((0:Int)<(([.int .u64 (a:Int),.int .u64 (b:Int),.int .u64 (c:Int),.int .u64 (d:Int)]:List E).length:Int))=true:=rfl
 have q1:decide ((1:Int)<(([.int .u64 (a:Int),.int .u64 (b:Int),.int .u64 (c:Int),.int .u64 (d:Int)]:List E).length:Int))=true:=rfl
 have q2:decide ((2:Int)<(([.int .u64 (a:Int),.int .u64 (b:Int),.int .u64 (c:Int),.int .u64 (d:Int)]:List E).length:Int))=true:=rfl
 have q3:decide ((3:Int)<(([.int .u64 (a:Int),.int .u64 (b:Int),.int .u64 (c:Int),.int .u64 (d:Int)]:List E).length:Int))=true:=rfl
 have q4:decide ((4:Int)<(([.int .u64 (a:Int),.int .u64 (b:Int),.int .u64 (c:Int),.int .u64 (d:Int)]:List E).length:Int))=false:=rfl
 have hu1:=hU4 [a]
 have hu2:=hU4 [a,b]
 have hu3:=hU4 [a,b,c]
 have hu4:=hU4 [a,b,c,d]
 refine Zl Tryz.func177 rfl Tryz.ntmps177 rfl rfl ?_
 repeat'(first|rw[e1]|rw[e2]|rw[e3]|rw[e4]|(apply Zo [] [] (hL);kernel_rfl;(iterate 10 exact Z))|(apply Zb (ga);kernel_rfl;(iterate 4 exact Z))|(apply Zb (gb);kernel_rfl;(iterate 4 exact Z))|(apply Zb (gc);kernel_rfl;(iterate 4 exact Z))|(apply Zb (gd);kernel_rfl;(iterate 4 exact Z))|refine ZC Za Z Z Z Z Z Z (by decide) Z hU ?_|refine VB 20 ?_|refine Uf ?_|refine UO Za Z Z Z Z Z Z Z Z Z Z Z (Zm rfl) (Zm rfl) (List.cons_ne_nil _ _) Qd Qd Z Z ?_|refine Yg Za Z Z Z Z Z Z (Zm rfl) (List.cons_ne_nil _ _) Z Qd Qd Z Z Z ?_|(apply Zi Za;exact Z)|(apply Zg Za;exact Z)|(apply Zu Za;exact Z)|refine Zd Z Qt ?_|refine Zf Z Qt ?_|refine Zt Za Z Z Z Z ?_|refine Z7 Za Z Z Z Z Z Z Z Z Z Z Z Z ?_|(apply Zn 5 ZF;decide +kernel;kernel_rfl;kernel_rfl;kernel_rfl;exact Z;exact Z)|(apply Zr;(iterate 4 exact Z))|exact AE.nil _ _ _ _|(apply Zw;exact Z)|(apply ZA;exact Z;exact Z;decide +kernel;exact Z)|(apply ZB;exact Z)|exact AO.nil _ _ _|(apply Zq;(decide +kernel))|exact AOs.nil|exact ZG rfl rfl|exact WN rfl rfl rfl rfl rfl)
 all_goals(apply U7 [] [0];(apply Zc Za;exact Z);(iterate 7 exact Z))
 all_goals rfl
def Ww (c:UInt8):List UInt8->List UInt8 × List UInt8 × Bool
 | []=>([],[],false)
 | x::s=>if x=c then([],s,true) else(x::(Ww c s).1,(Ww c s).2.1,(Ww c s).2.2)
theorem To {c:UInt8}:∀ {s:List UInt8},c ∉ s->Ww c s=(s,[],false)
 | [],_=>rfl
 | x::s,h=>by
  have h1:¬ x=c:=fun e=>h (by rw[e];exact List.mem_cons_self ..)
  have h2:=To (c:=c) (s:=s) fun hm=>h (List.mem_cons_of_mem _ hm)
  rw[Ww,if_neg h1,h2]
theorem JE {c:UInt8}:∀ {a b:List UInt8},c ∉ a->Ww c (a++c::b)=(a,b,true)
 | [],b,_=>by rw[List.nil_append,Ww,if_pos rfl]
 | x::a,b,h=>by
  have h1:¬ x=c:=fun e=>h (by rw[e];exact List.mem_cons_self ..)
  have h2:=JE (c:=c) (a:=a) (b:=b) fun hm=>h (List.mem_cons_of_mem _ hm)
  rw[List.cons_append,Ww,if_neg h1,h2]
def WX (p s:List UInt8):List UInt8 × Bool:=if s.take p.length==p then(s.drop p.length,true) else(s,false)
theorem JF (p r:List UInt8):WX p (p++r)=(r,true):=by
 unfold WX
 rw[List.take_left,beq_self_eq_true,if_pos rfl,List.drop_left]
theorem Tp {p s:List UInt8}(h:(s.take p.length==p)=false):WX p s=(s,false):=by
 unfold WX;rw[h];rfl
def ppV (s:List UInt8):EidV × Bool:=
 (⟨false,0,0,(Ww 47 (WX [47,47] s).1).1,(Ww 47 (WX [47,47] s).1).2.1⟩,(WX [47,47] s).2&&((Ww 47 (WX [47,47] s).1).2.2&&((Ww 47 (WX [47,47] s).1).1 != []&&Yh ⟨false,0,0,(Ww 47 (WX [47,47] s).1).1,(Ww 47 (WX [47,47] s).1).2.1⟩)))
def OJ:List UInt8:=[100,116,110,58,110,111,110,101]
def JG:List UInt8:=[105,112,110,58]
def Jd:List UInt8:=[100,116,110,58]
theorem LX {x:EidV}:isZ x=true ↔ x=ZN:=by
 obtain⟨i,n,s,h,d⟩:=x
 simp only[isZ,ZN,Bool.and_eq_true,beq_iff_eq,EidV.mk.injEq]
 constructor
 ·rintro⟨h1,h2,h3,h4,h5,_⟩
  exact⟨h1,by omega,by omega,h4,h5⟩
 ·rintro⟨h1,h2,h3,h4,h5⟩
  exact⟨h1,by omega,by omega,h4,h5,trivial⟩
theorem Hp {m:Nat}{c:UInt8}{l:List UInt8}(hl:l.all (okB m)=true)(h:okB m c=false):c ∉ l:=fun hm=>by
 have:=List.all_eq_true.1 hl c hm
 rw[h]at this;cases this
set_option maxRecDepth 100000 in
theorem Mt (s:ByteArray)(c:Int)(w:World):Calls Tryz.prog 212 #[.string s,.int .u8 c] w fun e w'=>e=.returned (.int .i64 (Lib.indexByte s.data.toList c.toNat.toUInt8))/\w'=w:=by
 go_enter Tryz.func212,Tryz.ntmps212
 go_wp2
 rw[run_callFunc_extern Tryz.func229 (by kernel_rfl) (by kernel_rfl) (by kernel_rfl) (e:=Extern.BytealgIndexByte.indexByte) (by kernel_rfl),Lib.run_indexByteString]
 simp only[Result.andThen]
 rw[Oper.upon_value]
 go_wp2
 go_ret
 exact⟨rfl,rfl⟩
theorem Su [Known](s:List UInt8)(c:Int):AP Tryz.prog 212 [.str s,.int .u8 c] (.int .i64 (Lib.indexByte s c.toNat.toUInt8)) []:=by
 refine⟨fun g w vs hmem hl hv=>?_⟩
 obtain⟨v0,v1,rfl⟩:∃ v0 v1,vs=[v0,v1]:=by
  match vs,hl with
  | [v0,v1],_=>exact⟨v0,v1,rfl⟩
 have h0:=(hv 0 _ _ rfl rfl).str_inv.1
 have h1:=(hv 1 _ _ rfl rfl).int_inv
 subst h0 h1
 exact(Mt ⟨s.toArray⟩ c w).mono fun e w' ⟨he,hb⟩=>Uy hmem (hb ▸ Below.refl _ _) he (.int _ _)
theorem OK [Known](s p:List UInt8)(hs:s.length<=4611686018427387904)(hp:p.length<=4611686018427387904):AP Tryz.prog 156 [.str s,.str p] (.bool (s.take p.length==p)) []:=by
 by_cases h:p.length<=s.length
 ·have t1:decide ((s.length:Int) ≥ (p.length:Int))=true:=decide_eq_true (by omega)
  have hq:((p.length:Nat):Int).toNat<=s.length:=by rw[Int.toNat_natCast];exact h
  have hs2:(s.take ((p.length:Nat):Int).toNat).drop 0=s.take p.length:=by rw[Int.toNat_natCast,List.drop_zero]
  generalize s.take p.length=s2 at *
  refine AP.ofA (Zl Tryz.func156 Z Tryz.ntmps156 Z Z ?_)
  repeat'(first|refine QF Za Z Z Z Z (.dft _) (.lit _ _ _ _ rfl (Int.natCast_nonneg _)) (Nat.zero_le _) hq hs2 ?_|(apply Zi Za;exact Z)|(apply Zg Za;exact Z)|refine Ze Z Z Z Qt ?_|refine Zk Z Qt Z Z ?_|refine Ud Za Z Z Z Z ?_)
  all_goals exact Qe
 ·have t1:decide ((s.length:Int) ≥ (p.length:Int))=false:=decide_eq_false (by omega)
  have e:(s.take p.length==p)=false:=by
   rw[beq_eq_false_iff_ne]
   intro e
   have:=congrArg List.length e
   rw[List.length_take]at this
   omega
  rw[e]
  refine AP.ofA (Zl Tryz.func156 Z Tryz.ntmps156 Z Z ?_)
  repeat'(first|(apply Zi Za;exact Z)|(apply Zg Za;exact Z)|refine Zv Z Z Z Qt ?_|refine Zj Z Qt Z Z ?_|refine Ud Za Z Z Z Z ?_)
  all_goals exact Qe
theorem Hq [Known](p r:List UInt8)(hs:(p++r).length<=4611686018427387904):AP Tryz.prog 126 [.str (p++r),.str p] (.tup [.str r,.bool true]) []:=by
 have hH:=OK (p++r) p hs (by rw[List.length_append]at hs;omega)
 rw[List.take_left,beq_self_eq_true]at hH
 have hq:((p.length:Nat):Int).toNat<=(p++r).length:=by rw[Int.toNat_natCast,List.length_append];omega
 have hs2:((p++r).take (p++r).length).drop ((p.length:Nat):Int).toNat=r:=by rw[Int.toNat_natCast,List.take_length,List.drop_left]
 have hC:AP Tryz.prog 137 [.str (p++r),.str p] (.tup [.str r,.bool true]) []:=by
  generalize p++r=s at *
  refine AP.ofA (Zl Tryz.func137 Z Tryz.ntmps137 Z Z ?_)
  repeat'(first|(apply Zb (hH);kernel_rfl;(iterate 4 exact Z))|refine QF Za Z Z Z Z (.lit _ _ _ _ rfl (Int.natCast_nonneg _)) (.dft _) hq (Nat.le_refl _) hs2 ?_|(apply Zi Za;exact Z)|(apply Zg Za;exact Z)|(apply Zu Za;exact Z)|refine Zf Z Qt ?_|refine Ud Za Z Z Z Z ?_)
  all_goals exact Qe
 refine AP.ofA (Zl Tryz.func126 Z Tryz.ntmps126 Z Z ?_)
 repeat'(first|(apply Zb (hC);kernel_rfl;(iterate 4 exact Z))|(apply Zi Za;exact Z)|(apply Zg Za;exact Z))
 all_goals exact Qe
theorem Hr [Known](s p:List UInt8)(hs:s.length<=4611686018427387904)(hp:p.length<=4611686018427387904)(h:(s.take p.length==p)=false):AP Tryz.prog 126 [.str s,.str p] (.tup [.str s,.bool false]) []:=by
 have hH:=OK s p hs hp
 rw[h]at hH
 have hC:AP Tryz.prog 137 [.str s,.str p] (.tup [.str s,.bool false]) []:=by
  refine AP.ofA (Zl Tryz.func137 Z Tryz.ntmps137 Z Z ?_)
  repeat'(first|(apply Zb (hH);kernel_rfl;(iterate 4 exact Z))|(apply Zi Za;exact Z)|(apply Zg Za;exact Z)|(apply Zu Za;exact Z)|refine Zd Z Qt ?_)
  all_goals exact Qe
 refine AP.ofA (Zl Tryz.func126 Z Tryz.ntmps126 Z Z ?_)
 repeat'(first|(apply Zb (hC);kernel_rfl;(iterate 4 exact Z))|(apply Zi Za;exact Z)|(apply Zg Za;exact Z))
 all_goals exact Qe
theorem Nd (s p:List UInt8):(∃ r,s=p++r)\/(s.take p.length==p)=false:=by
 cases h:s.take p.length==p with
 | true=>
  refine .inl ⟨s.drop p.length,?_⟩
  have:=beq_iff_eq.1 h
  conv=>lhs;rw[<- List.take_append_drop p.length s,this]
 | false=>exact .inr rfl
theorem Mu:∀ {l:List UInt8} {c:UInt8},c ∉ l->Lib.indexByte l c = -1
 | [],_,_=>rfl
 | x::l,c,h=>by
  have h1:¬ x=c:=fun e=>h (by rw[e];exact List.mem_cons_self ..)
  have h2:=Mu (l:=l) (c:=c) fun hm=>h (List.mem_cons_of_mem _ hm)
  simp[Lib.indexByte,h1,h2]
theorem Tq:∀ {a b:List UInt8} {c:UInt8},c ∉ a->Lib.indexByte (a++c::b) c=(a.length:Int)
 | [],b,c,_=>by simp[Lib.indexByte]
 | x::a,b,c,h=>by
  have h1:¬ x=c:=fun e=>h (by rw[e];exact List.mem_cons_self ..)
  have h2:=Tq (a:=a) (b:=b) (c:=c) fun hm=>h (List.mem_cons_of_mem _ hm)
  rw[List.cons_append]
  simp only[Lib.indexByte,h2,List.length_cons,beq_iff_eq,h1,if_false]
  (repeat' split)<;>omega
theorem OL [Known](s:List UInt8)(c:UInt8):AP Tryz.prog 186 [.str s,.str [c]] (.int .i64 (Lib.indexByte s c)) []:=by
 have hI:=Su s (c.toNat:Int)
 have e:((c.toNat:Int)).toNat.toUInt8=c:=by rw[Int.toNat_natCast];simp
 rw[e]at hI
 have t0:((([c]:List UInt8).length:Int)==0)=false:=rfl
 have t1:((([c]:List UInt8).length:Int)==1)=true:=rfl
 by_cases hs:[c]=s
 ·subst hs
  have t2:([c]==[c])=true:=by simp
  have e0:Lib.indexByte [c] c=0:=by simp[Lib.indexByte]
  rw[e0]
  refine AP.ofA (Zl Tryz.func186 Z Tryz.ntmps186 Z Z ?_)
  repeat'(first|(apply Zi Za;exact Z)|(apply Zg Za;exact Z)|(apply Zu Za;exact Z)|refine Ze Z Z Z Qt ?_|refine Zj Z Qt Z Z ?_|refine Zd Z Qt ?_|refine Ud Za Z Z Z Z ?_)
  all_goals exact Qe
 ·have t2:([c]==s)=false:=by simpa using hs
  refine AP.ofA (Zl Tryz.func186 Z Tryz.ntmps186 Z Z ?_)
  repeat'(first|(apply Zb (hI);kernel_rfl;(iterate 4 exact Z))|refine Lm Za Z Z Z Z Z Qd Z ?_|(apply Zi Za;exact Z)|(apply Zg Za;exact Z)|(apply Zu Za;exact Z)|refine Ze Z Z Z Qt ?_|refine Zj Z Qt Z Z ?_|refine Zd Z Qt ?_|refine Zf Z Qt ?_|refine Ud Za Z Z Z Z ?_)
  all_goals exact Qe
theorem LY [Known](s:List UInt8)(c:UInt8)(h:c ∉ s):AP Tryz.prog 138 [.str s,.str [c]] (.tup [.str s,.str [],.bool false]) []:=by
 have hI:=OL s c
 rw[Mu h]at hI
 have hC:AP Tryz.prog 157 [.str s,.str [c]] (.tup [.str s,.str [],.bool false]) []:=by
  refine AP.ofA (Zl Tryz.func157 Z Tryz.ntmps157 Z Z ?_)
  repeat'(first|(apply Zb (hI);kernel_rfl;(iterate 4 exact Z))|(apply Zi Za;exact Z)|(apply Zg Za;exact Z)|refine Zf Z Qt ?_)
  all_goals exact Qe
 refine AP.ofA (Zl Tryz.func138 Z Tryz.ntmps138 Z Z ?_)
 repeat'(first|(apply Zb (hC);kernel_rfl;(iterate 4 exact Z))|(apply Zi Za;exact Z)|(apply Zg Za;exact Z))
 all_goals exact Qe
theorem LZ [Known](a b:List UInt8)(c:UInt8)(h:c ∉ a)(hl:(a++c::b).length<=4611686018427387904):AP Tryz.prog 138 [.str (a++c::b),.str [c]] (.tup [.str a,.str b,.bool true]) []:=by
 have hI:=OL (a++c::b) c
 rw[Tq h]at hI
 have hal:a.length+1<=(a++c::b).length:=by rw[List.length_append,List.length_cons];omega
 have t1:decide ((a.length:Int) ≥ 0)=true:=decide_eq_true (by omega)
 have e1:IntKind.i64.wrap ((a.length:Int)+(([c]:List UInt8).length:Int))=((a.length+1:Nat):Int):=by
  rw[IntWalk.i64_in _ (by simp;omega)];simp
 have q1:((a.length:Nat):Int).toNat<=(a++c::b).length:=by rw[Int.toNat_natCast];omega
 have q2:((a.length+1:Nat):Int).toNat<=(a++c::b).length:=by rw[Int.toNat_natCast];omega
 have s1:((a++c::b).take ((a.length:Nat):Int).toNat).drop 0=a:=by rw[Int.toNat_natCast,List.drop_zero,List.take_left]
 have s2:((a++c::b).take (a++c::b).length).drop ((a.length+1:Nat):Int).toNat=b:=by
  rw[Int.toNat_natCast,List.take_length,show a.length+1=(a++[c]).length by simp,show a++c::b=(a++[c])++b by simp,List.drop_left]
 have hC:AP Tryz.prog 157 [.str (a++c::b),.str [c]] (.tup [.str a,.str b,.bool true]) []:=by
  generalize a++c::b=s at *
  refine AP.ofA (Zl Tryz.func157 Z Tryz.ntmps157 Z Z ?_)
  repeat'(first|rw[e1]|(apply Zb (hI);kernel_rfl;(iterate 4 exact Z))|refine QF Za Z Z Z Z (.dft _) (.lit _ _ _ _ rfl (Int.natCast_nonneg _)) (Nat.zero_le _) q1 s1 ?_|refine QF Za Z Z Z Z (.lit _ _ _ _ rfl (Int.natCast_nonneg _)) (.dft _) q2 (Nat.le_refl _) s2 ?_|(apply Zi Za;exact Z)|(apply Zg Za;exact Z)|refine Zd Z Qt ?_|refine Ud Za Z Z Z Z ?_|(apply Zn 10 ZF;decide +kernel;kernel_rfl;kernel_rfl;kernel_rfl;exact Z;exact Z)|(apply Zr;(iterate 4 exact Z))|exact AE.nil _ _ _ _|(apply Zw;exact Z)|(apply ZA;exact Z;exact Z;decide +kernel;exact Z)|(apply ZB;exact Z)|exact AO.nil _ _ _|(apply Zq;(decide +kernel))|exact AOs.nil|exact ZG rfl rfl)
  all_goals exact Qe
 refine AP.ofA (Zl Tryz.func138 Z Tryz.ntmps138 Z Z ?_)
 repeat'(first|(apply Zb (hC);kernel_rfl;(iterate 4 exact Z))|(apply Zi Za;exact Z)|(apply Zg Za;exact Z))
 all_goals exact Qe
theorem OM (c:UInt8):∀ s:List UInt8,(c ∉ s)\/∃ a b,s=a++c::b/\c ∉ a
 | []=>.inl (by simp)
 | x::s=>by
  by_cases e:x=c
  ·subst e;exact .inr ⟨[],s,rfl,by simp⟩
  ·rcases OM c s with h|⟨a,b,rfl,h⟩
   ·refine .inl fun hm=>?_
    rcases List.mem_cons.1 hm with h2|h2
    ·exact e h2.symm
    ·exact h h2
   ·refine .inr ⟨x::a,b,rfl,fun hm=>?_⟩
    rcases List.mem_cons.1 hm with h2|h2
    ·exact e h2.symm
    ·exact h h2
end Go.Proofs.YtkdpfkjlheajhaaGreatDoor
end
section
open Go.RowKit Go.Pl
namespace Go.Av
section
variable {P:Program} {Q:X->St->Prop} {n:Nat} {ee:Nat × Nat} {tm:List (Nat × D)} {bx:List (List D)} {fr:List Fr}
variable {ops:Array Oper} {rest:List Oper} {t ty:Nat} {pos:String} {after:Array Edge}
theorem Q0 {ti:TypeId}{w:World}{ms:Array (String × TypeId)}(tp:TypeId)(v:Value)(hi:P.underlying ti=some (.interface ms)):(Op.equal ti (.iface tp v) .nilIface).run P w=.ok false w:=by
 have h:∀ d:Nat,(Op.equalIn (d+1) ti (.iface tp v) .nilIface).run P w=.ok false w:=fun d=>by simp[Op.equalIn,run_underlying hi]
 simp only[Op.equal]
 exact h _
theorem KK [Known][Dfr]{op:BinOp}{x:Operand}{xt yt:Nat}{d d0:D}{t0:TypeId}(hx:ev tm x=.iface t0 d0)(hu:P.underlying xt=some (.interface (P.methodsAt xt)))(hd:(match op with | .eql=>some (D.bool false) | .neq=>some (D.bool true)|_=>none)=some d)(htd:Nat.blt t n=true)
  (k:AL P ops rest ⟨n,(t,d)::tm,bx,fr,ee⟩ Q):AL P ops (⟨some t,.binOp op xt x (.const .nilIface) yt,ty,pos,after,none⟩::rest) ⟨n,tm,bx,fr,ee⟩ Q:=
 Z5 _ htd (fun g a w hi=>by
  have h1:V w g fr (ev tm x) (a.eval x):=hi.ev x
  rw[hx]at h1
  obtain⟨v,h1⟩:∃ v,a.eval x=.iface t0 v:=by
   generalize a.eval x=v at h1
   cases h1 with|iface _ _ v _=>exact⟨v,rfl⟩
  have h2:a.eval (.const .nilIface)=.nilIface:=rfl
  have hrun:(Op.equal xt (.iface t0 v) .nilIface).run P w=.ok false w:=Q0 t0 v hu
  cases op<;>simp at hd<;>subst hd<;>first|exact⟨.bool false,by simp[execOp,h1,h2,eqGuard,binOp,Sem.run_bind,hrun],.bool _⟩ | exact⟨.bool true,by simp[execOp,h1,h2,eqGuard,binOp,Sem.run_bind,hrun],.bool _⟩) k
end
end Go.Av
end
section
open Go.RowKit Go.Pl Go.Av
namespace Go.Proofs.YtkdpfkjlheajhaaGreatDoor
set_option maxHeartbeats 4000000
theorem GC (c:UInt8):∀ s:List UInt8,(Ww c s).1.length<=s.length/\(Ww c s).2.1.length<=s.length
 | []=>⟨Nat.le_refl _,Nat.le_refl _⟩
 | x::s=>by
  rw[Ww]
  have:=GC c s
  split
  ·simp
  ·simp;omega
theorem KL (p s:List UInt8):(WX p s).1.length<=s.length:=by
 unfold WX
 split
 ·simp
 ·exact Nat.le_refl _
theorem Mv [Known](s:List UInt8)(c:UInt8)(hl:s.length<=4611686018427387904):AP Tryz.prog 138 [.str s,.str [c]] (.tup [.str (Ww c s).1,.str (Ww c s).2.1,.bool (Ww c s).2.2]) []:=by
 rcases OM c s with h|⟨a,b,rfl,h⟩
 ·rw[To h];exact LY s c h
 ·rw[JE h];exact LZ a b c h hl
theorem J9 [Known](s p:List UInt8)(hs:s.length<=4611686018427387904)(hp:p.length<=4611686018427387904):AP Tryz.prog 126 [.str s,.str p] (.tup [.str (WX p s).1,.bool (WX p s).2]) []:=by
 rcases Nd s p with⟨r,rfl⟩ | h
 ·rw[JF];exact Hq p r hs
 ·rw[Tp h];exact Hr s p hs hp h
theorem RK [Known](s:List UInt8)(hs:s.length<=140737488351232):AP Tryz.prog 128 [.str s] (.tup [.agg (eC (ppV s).1),.bool (ppV s).2]) []:=by
 have hP:=J9 s [47,47] (by omega) (by decide)
 have hl:=KL [47,47] s
 unfold ppV
 dsimp only
 generalize (WX [47,47] s).1=r at *
 generalize (WX [47,47] s).2=ok at *
 have hC:=Mv r 47 (by omega)
 generalize (Ww 47 r).1=a at *
 generalize (Ww 47 r).2.1=b at *
 generalize (Ww 47 r).2.2=k at *
 have hR:=WH ⟨false,0,0,a,b⟩
 generalize Yh ⟨false,0,0,a,b⟩=R at *
 replace hR:AP Tryz.prog _ [.agg [.bool false,.int .u64 0,.int .u64 0,.str a,.str b]] (.bool R) []:=hR
 show AP Tryz.prog _ _ (.tup [.agg [.bool false,.int .u64 0,.int .u64 0,.str a,.str b],_]) _
 obtain⟨ne,h1⟩:∃ ne,(a != [])=ne:=⟨_,rfl⟩
 rw[h1]
 cases ok with
 | false=>
  refine AP.ofA (Zl Tryz.func128 Z Tryz.ntmps128 Z Z ?_)
  repeat'(first|(apply Zb (hP);kernel_rfl;(iterate 4 exact Z))|(apply Zb (hC);kernel_rfl;(iterate 4 exact Z))|(apply Zi Za;exact Z)|(apply Zg Za;exact Z)|refine Zv Z Z Z Qt ?_|refine Zj Z Qt Z Z ?_|(apply Zn 14 ZF;decide +kernel;kernel_rfl;kernel_rfl;kernel_rfl;exact Z;exact Z)|(apply Zr;(iterate 4 exact Z))|exact AE.nil _ _ _ _|(apply Zw;exact Z)|(apply Wv;exact Z)|(apply ZA;exact Z;exact Z;decide +kernel;exact Z)|(apply ZB;exact Z)|(apply Vf;exact Z)|exact AO.nil _ _ _|(apply Zq;(decide +kernel))|(apply ZM;(iterate 3 exact Z))|exact AOs.nil|exact ZG rfl rfl|exact WC rfl)
  all_goals exact Qe
 | true=>
  cases k with
  | false=>
   refine AP.ofA (Zl Tryz.func128 Z Tryz.ntmps128 Z Z ?_)
   repeat'(first|(apply Zb (hP);kernel_rfl;(iterate 4 exact Z))|(apply Zb (hC);kernel_rfl;(iterate 4 exact Z))|(apply Zi Za;exact Z)|(apply Zg Za;exact Z)|refine Ze Z Z Z Qt ?_|refine Zv Z Z Z Qt ?_|refine Zk Z Qt Z Z ?_|refine Zj Z Qt Z Z ?_|(apply Zn 14 ZF;decide +kernel;kernel_rfl;kernel_rfl;kernel_rfl;exact Z;exact Z)|(apply Zr;(iterate 4 exact Z))|exact AE.nil _ _ _ _|(apply Zw;exact Z)|(apply Wv;exact Z)|(apply ZA;exact Z;exact Z;decide +kernel;exact Z)|(apply ZB;exact Z)|(apply Vf;exact Z)|exact AO.nil _ _ _|(apply Zq;(decide +kernel))|(apply ZM;(iterate 3 exact Z))|exact AOs.nil|exact ZG rfl rfl|exact WC rfl)
   all_goals exact Qe
  | true=>
   cases ne<;>cases R
   all_goals
    refine AP.ofA (Zl Tryz.func128 Z Tryz.ntmps128 Z Z ?_)
    repeat'(first|rw[h1]|(apply Zb (hP);kernel_rfl;(iterate 4 exact Z))|(apply Zb (hC);kernel_rfl;(iterate 4 exact Z))|(apply Zb (hR);kernel_rfl;(iterate 4 exact Z))|(apply Zi Za;exact Z)|(apply Zg Za;exact Z)|refine Ze Z Z Z Qt ?_|refine Zv Z Z Z Qt ?_|refine Zk Z Qt Z Z ?_|refine Zj Z Qt Z Z ?_|(apply Zn 14 ZF;decide +kernel;kernel_rfl;kernel_rfl;kernel_rfl;exact Z;exact Z)|(apply Zr;(iterate 4 exact Z))|exact AE.nil _ _ _ _|(apply Zw;exact Z)|(apply Wv;exact Z)|(apply ZA;exact Z;exact Z;decide +kernel;exact Z)|(apply ZB;exact Z)|(apply Vf;exact Z)|exact AO.nil _ _ _|(apply Zq;(decide +kernel))|(apply ZM;(iterate 3 exact Z))|exact AOs.nil|exact ZG rfl rfl|exact WC rfl)
    all_goals exact Qe
end Go.Proofs.YtkdpfkjlheajhaaGreatDoor
end
section
open Go.RowKit Go.Pl
namespace Go.Av
inductive Zy where
 | pu (d:D)
 | al (cs:List D)
def z0 (p:Nat × Zy):Nat × D:=(p.1,match p.2 with | .pu d=>d | .al _=>.junk)
def Sv:Nat->List (Nat × Zy)->List (Nat × D)->List (Nat × D)
 | _,[],tm=>tm
 | m,(_,.pu _)::zs,tm=>Sv m zs tm
 | m,(t,.al _)::zs,tm=>Sv (m+1) zs ((t,.ptr m 0)::tm)
def zcs:List (Nat × Zy)->List (List D)
 | []=>[]
 | (_,.pu _)::zs=>zcs zs
 | (_,.al cs)::zs=>cs::zcs zs
section
variable {P:Program} {T:Tab} {Q:X->St->Prop} {n:Nat} {ee:Nat × Nat} {tm tm':List (Nat × D)} {bx:List (List D)} {fr:List Fr} {b0:Bs} {g g':G} {w w':World} {a:Act}
inductive AZ [Known][Dfr](P:Program) (T:Tab) (l:List Oper) (n:Nat) (bx:List (List D)) (fr:List Fr):List Oper->List (Nat × D)->List (Nat × Zy)->List (Nat × D)->Prop
 | nil (tm:List (Nat × D)):AZ P T l n bx fr [] tm [] tm
 | pu (o:Oper) (rest:List Oper) (t:Nat) (d:D) (tm:List (Nat × D)) (zs:List (Nat × Zy)) (tm':List (Nat × D)) (hd:o.dst=some t) (ht:Nat.blt t n=true) (h:AL P l.toArray [o] ⟨n,Yx l o tm,bx,fr,(bx.length,fr.length)⟩ (qY o bx fr (.pu d))) (k:AZ P T l n bx fr rest ((t,d)::tm) zs tm'):AZ P T l n bx fr (o::rest) tm ((t,.pu d)::zs) tm'
 | al (t:Nat) (e:TypeId) (ty:Nat) (pos:String) (after:Array Edge) (rest:List Oper) (ti:Ti) (tm:List (Nat × D)) (zs:List (Nat × Zy)) (tm':List (Nat × D)) (ht:Nat.blt t n=true) (hti:tl T e=some ti) (k:AZ P T l n bx fr rest ((t,.junk)::tm) zs tm'):AZ P T l n bx fr (⟨some t,.alloc e,ty,pos,after,none⟩::rest) tm ((t,.al (ti.zero.map ZK.d))::zs) tm'
theorem UT (l:List Oper)(o:Oper):∀ tm:List (Nat × D),Yx l o tm=tm.filter fun p=>(WB l o).contains p.1
 | []=>rfl
 | p::tm=>by
  rw[Yx,List.filter_cons,UT l o tm]
  cases(WB l o).contains p.1<;>rfl
theorem Evo.al [Known](hm:Mem g bx fr w)(o:Obj):Evo ⟨g,fr,w⟩ ⟨g,fr,w.alloc o⟩:=
 ⟨rfl,rfl,rfl,by simp,fun k hk _=>Below.heap_alloc w _ k hk,fun _ _ h=>h,fun k p h=>WR w _ (hm.Clt k p h) p,fun _ _ h=>.inl h,fun _ _ h=>h,fun _ h=>.inl h,fun k c h=>.inl ⟨c,h⟩,WY.refl _ _⟩
theorem Mem.al [Known](hm:Mem g bx fr w)(o:Obj):Mem g bx fr (w.alloc o) where
 bl:=hm.bl
 bat i k cs' h1 h2:=by
  obtain⟨us,ty,k1,k2,k3⟩:=hm.bat i k cs' h1 h2
  exact⟨us,ty,(Below.heap_alloc w _ k (Array.getElem?_eq_some_iff.1 k1).1).trans k1,k2,fun j d v hd hv=>(k3 j d v hd hv).evo (Evo.al hm o)⟩
 bC:=hm.bC
 bN:=hm.bN
 tl:=hm.tl
 tat i k c f h1 h2:=by
  have hT:=hm.tat i k c f h1 h2
  obtain⟨cur,r1,r2⟩:=hT.row
  exact⟨⟨cur,(Below.heap_alloc w _ k (Array.getElem?_eq_some_iff.1 r1).1).trans r1,r2⟩,hT.le,hT.max,hT.pos,hT.far⟩
 tN:=hm.tN
 tρ:=hm.tρ
 Clt k p hC:=by
  have:=hm.Clt k p hC
  simp;omega
 gl:=hm.gl.evo (Evo.al hm o)
theorem Mw {k k':Nat}(h:M ⟨g.C,g.ρ++[k],g.τ⟩ k'):M g k'\/k'=k:=by
 rcases h with h|h
 ·rcases List.mem_append.1 h with h|h
  ·exact .inl (.inl h)
  ·simp at h;exact .inr h
 ·exact .inl (.inr h)
structure AZk [Known][Dfr](P:Program) (l acts:List Oper) (n:Nat) (zs:List (Nat × Zy)) (tm:List (Nat × D)) (bx:List (List D)) (fr:List Fr) (ee:Nat × Nat) (Q:X->St->Prop):Prop where
 run:AL P l.toArray acts ⟨n,Sv bx.length zs tm,bx++zcs zs,fr,ee⟩ Q
end
end Go.Av
end
section
open Go.RowKit Go.Pl Go.Av
namespace Go.Proofs.YtkdpfkjlheajhaaGreatDoor
set_option maxHeartbeats 4000000
def Uj (m:Nat)(x:It):Bool:=It.beq x (.mk 0 m [] [])
def XI:It->Option (Nat × Nat)
 | .mk k _ _ [y0,y1]=>if k=4 then(match Uj y0.n y0&&Uj y1.n y1 with|true=>some (y0.n,y1.n)|false=>none) else none
 | _=>none
def Bc:Option (Nat × Nat)->D
 | some (a,b)=>.tup [.sl .ext [.int .u64 (a:Int),.int .u64 (b:Int)],.bool true]
 | none=>.tup [.sl .ext [],.bool false]
theorem V5 [Known](x:It)(hw:wfI x)(m:Nat)(hm:m<18446744073709551616):AP Tryz.prog 147 [itD x,.agg [.int .i64 0,.int .u64 (m:Int),.sl .ext [],.sl .ext []]] (.bool (Uj m x)) []:=
 Ug x hw (.mk 0 m [] []) (by simp[wfI,wfs];omega)
theorem UU [Known](n:Nat):AP Tryz.prog 169 [.int .u64 (n:Int)] (.agg [.int .i64 0,.int .u64 (n:Int),.sl .ext [],.sl .ext []]) []:=Wd n
theorem L7 [Known](x:It)(hw:wfI x):AP Tryz.prog 170 [itD x,.int .i64 2] (Bc (XI x)) []:=by
 obtain⟨k,n,b,l⟩:=x
 obtain⟨_,_,_,hws⟩:=hw
 by_cases hk:k=4
 case neg=>
  have t1:(k != 4)=true:=by simpa using hk
  have e:XI (.mk k n b l)=none:=by unfold XI;split<;>simp_all
  rw[e]
  refine AP.ofA (Zl Tryz.func170 Z Tryz.ntmps170 Z Z ?_)
  repeat'(first|(apply Zi Za;exact Z)|(apply Zg Za;exact Z)|(apply Zu Za;exact Z)|refine Zp Z Z Z Qt ?_|refine Zk Z Qt Z Z ?_|refine Zd Z Qt ?_)
  all_goals exact Qe
 subst hk
 have t1:((4:Int) != 4)=false:=rfl
 by_cases hl:l.length=2
 case neg=>
  have t2:(((Zx l).length:Int) != 2)=true:=by rw[ZD];simp;omega
  have e:XI (.mk 4 n b l)=none:=by unfold XI;split<;>simp_all
  rw[e]
  refine AP.ofA (Zl Tryz.func170 Z Tryz.ntmps170 Z Z ?_)
  repeat'(first|(apply Zi Za;exact Z)|(apply Zg Za;exact Z)|(apply Zu Za;exact Z)|refine Ze Z Z Z Qt ?_|refine Zj Z Qt Z Z ?_|refine Zd Z Qt ?_|refine Zt Za Z Z Z Z ?_)
  all_goals exact Qe
 match l,hl with
 | [⟨k0,n0,b0,l0⟩,⟨k1,n1,b1,l1⟩],_=>
  have hU:=Wl [It.mk k0 n0 b0 l0,It.mk k1 n1 b1 l1]
  obtain⟨hw0,hw1,_⟩:=hws
  have m0:n0<18446744073709551616:=hw0.1
  have m1:n1<18446744073709551616:=hw1.1
  have h0:=V5 _ hw0 n0 m0
  have h1:=V5 _ hw1 n1 m1
  have a0:=UU n0
  have a1:=UU n1
  unfold XI
  simp only[It.n,if_true]
  have t2:(((Zx [It.mk k0 n0 b0 l0,It.mk k1 n1 b1 l1]).length:Int) != 2)=false:=rfl
  have t3:decide ((0:Int)<((Zx [It.mk k0 n0 b0 l0,It.mk k1 n1 b1 l1]).length:Int))=true:=rfl
  have t4:decide ((IntKind.i64.wrap (0+1):Int)<((Zx [It.mk k0 n0 b0 l0,It.mk k1 n1 b1 l1]).length:Int))=true:=rfl
  have t5:decide ((IntKind.i64.wrap (IntKind.i64.wrap (0+1)+1):Int)<((Zx [It.mk k0 n0 b0 l0,It.mk k1 n1 b1 l1]).length:Int))=false:=rfl
  have hv0:(Zx [It.mk k0 n0 b0 l0,It.mk k1 n1 b1 l1])[Int.toNat 0]?=some (.agg [.int .i64 k0,.int .u64 (n0:Int),.sl (b0.map E.byte),.sl (Zx l0)]):=rfl
  cases c0:Uj n0 (.mk k0 n0 b0 l0) with
  | false=>
   rw[c0]at h0
   refine AP.ofA (Zl Tryz.func170 Z Tryz.ntmps170 Z Z ?_)
   repeat'(first|(apply Zb (h0);kernel_rfl;(iterate 4 exact Z))|(apply Zb (a0);kernel_rfl;(iterate 4 exact Z))|refine VB 70 ?_|refine Uf ?_|(apply Zi Za;exact Z)|(apply Zg Za;exact Z)|(apply Zu Za;exact Z)|refine Ze Z Z Z Qt ?_|refine Zj Z Qt Z Z ?_|refine Zd Z Qt ?_|refine Zf Z Qt ?_|refine Qf ?_|refine Zt Za Z Z Z Z ?_|(apply Zn 4 ZF;decide +kernel;kernel_rfl;kernel_rfl;kernel_rfl;exact Z;exact Z)|(apply Zr;(iterate 4 exact Z))|exact AE.nil _ _ _ _|(apply Zw;exact Z)|(apply ZA;exact Z;exact Z;decide +kernel;exact Z)|(apply ZB;exact Z)|exact AO.nil _ _ _|(apply Zq;(decide +kernel))|exact AOs.nil|exact ZG rfl rfl|(apply ZC Za;(iterate 6 exact Z);(first|exact Qt|rotate_left);(first|with_reducible assumption|decide +kernel|exact Z);(first|exact Zm rfl|with_reducible assumption|decide +kernel|rotate_left)))
   all_goals exact Qe
  | true=>
   rw[c0]at h0
   cases c1:Uj n1 (.mk k1 n1 b1 l1) with
   | false=>
    rw[c1]at h1
    refine AP.ofA (Zl Tryz.func170 Z Tryz.ntmps170 Z Z ?_)
    repeat'(first|(apply Zb (h0);kernel_rfl;(iterate 4 exact Z))|(apply Zb (a0);kernel_rfl;(iterate 4 exact Z))|(apply Zb (h1);kernel_rfl;(iterate 4 exact Z))|(apply Zb (a1);kernel_rfl;(iterate 4 exact Z))|refine VB 70 ?_|refine Uf ?_|refine Yg Za Z Z Z Z Z Z (Zm rfl) (List.cons_ne_nil _ _) Z Qd Qd Z Z Z ?_|(apply Zi Za;exact Z)|(apply Zg Za;exact Z)|(apply Zu Za;exact Z)|refine Ze Z Z Z Qt ?_|refine Zj Z Qt Z Z ?_|refine Zd Z Qt ?_|refine Zf Z Qt ?_|refine Qf ?_|refine Zt Za Z Z Z Z ?_|refine Z7 Za Z Z Z Z Z Z Z Z Z Z Z Z ?_|(apply Zn 4 ZF;decide +kernel;kernel_rfl;kernel_rfl;kernel_rfl;exact Z;exact Z)|(apply Zr;(iterate 4 exact Z))|exact AE.nil _ _ _ _|(apply Zw;exact Z)|(apply ZA;exact Z;exact Z;decide +kernel;exact Z)|(apply ZB;exact Z)|exact AO.nil _ _ _|(apply Zq;(decide +kernel))|exact AOs.nil|exact ZG rfl rfl|(apply ZC Za;(iterate 6 exact Z);(first|exact Qt|rotate_left);(first|with_reducible assumption|decide +kernel|exact Z);(first|exact Zm rfl|with_reducible assumption|decide +kernel|rotate_left)))
    all_goals exact Qe
   | true=>
    rw[c1]at h1
    refine AP.ofA (Zl Tryz.func170 Z Tryz.ntmps170 Z Z ?_)
    repeat'(first|(apply Zb (h0);kernel_rfl;(iterate 4 exact Z))|(apply Zb (a0);kernel_rfl;(iterate 4 exact Z))|(apply Zb (h1);kernel_rfl;(iterate 4 exact Z))|(apply Zb (a1);kernel_rfl;(iterate 4 exact Z))|refine VB 70 ?_|refine Uf ?_|refine UO Za Z Z Z Z Z Z Z Z Z Z Z (Zm rfl) (Zm rfl) (List.cons_ne_nil _ _) Qd Qd Z Z ?_|refine Yg Za Z Z Z Z Z Z (Zm rfl) (List.cons_ne_nil _ _) Z Qd Qd Z Z Z ?_|(apply Zi Za;exact Z)|(apply Zg Za;exact Z)|(apply Zu Za;exact Z)|refine Ze Z Z Z Qt ?_|refine Zj Z Qt Z Z ?_|refine Zd Z Qt ?_|refine Zf Z Qt ?_|refine Zt Za Z Z Z Z ?_|refine Z7 Za Z Z Z Z Z Z Z Z Z Z Z Z ?_|(apply Zn 4 ZF;decide +kernel;kernel_rfl;kernel_rfl;kernel_rfl;exact Z;exact Z)|(apply Zr;(iterate 4 exact Z))|exact AE.nil _ _ _ _|(apply Zw;exact Z)|(apply ZA;exact Z;exact Z;decide +kernel;exact Z)|(apply ZB;exact Z)|exact AO.nil _ _ _|(apply Zq;(decide +kernel))|exact AOs.nil|exact ZG rfl rfl|(apply ZC Za;(iterate 6 exact Z);(first|exact Qt|rotate_left);(first|with_reducible assumption|decide +kernel|exact Z);(first|exact Zm rfl|with_reducible assumption|decide +kernel|rotate_left)))
    all_goals exact Qe
end Go.Proofs.YtkdpfkjlheajhaaGreatDoor
end

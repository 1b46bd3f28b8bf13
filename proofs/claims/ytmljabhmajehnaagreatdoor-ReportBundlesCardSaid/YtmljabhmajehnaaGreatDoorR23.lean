/- The document's answers for names: the name of a text, by cases. -/
import Derived.Test.YtmljabhmajehnaaGreatDoorR21
import Derived.Test.YtmljabhmajehnaaGreatDoorR22
import Derived.Test.YtmljabhmajehnaaGreatDoorR09
import Derived.Test.YtmljabhmajehnaaGreatDoorR17
import Derived.Lib.Strings
import Derived.Lib.Slices
import Derived.Lib.Walk
import Derived.Lib.Bytealg
import Derived.Test.YtmljabhmajehnaaGreatDoorR08
import Derived.LaidEql
import Derived.Test.YtmljabhmajehnaaGreatDoorR20
set_option linter.unusedVariables false
set_option linter.unusedSimpArgs false
section
open Go.RowKit Go.Pl Go.Av
namespace Go.Proofs.YtmljabhmajehnaaGreatDoor
set_option maxHeartbeats 4000000
abbrev KO (z4 z5 i:Bool)(n s:Nat)(h d:List UInt8):D:=match z4,z5 with
 | false,false=>.tup [.agg [.bool i,.int .u64 (n:Int),.int .u64 (s:Int),.str h,.str d],.bool true]
 | _,_=>.tup [.agg [.bool false,.int .u64 0,.int .u64 0,.str [],.str []],.bool false]
theorem Fa [Known](s:List UInt8)(h0:(s==[100,116,110,58,110,111,110,101])=true):AP Tryz.prog 152 [.str s] (.tup [.agg [.bool false,.int .u64 0,.int .u64 0,.str [],.str []],.bool true]) []:=by
 refine AP.ofA (Zl Tryz.func152 U Tryz.ntmps152 U U ?_)
 repeat'(first|(apply Zg Za;exact U)|(apply Zp Za;exact U)|refine Zd U Qt ?_)
 all_goals exact Qe
theorem Fb [Known](s:List UInt8)(h0:(s==[100,116,110,58,110,111,110,101])=false)
  (h1:decide ((s.length:Int)>4)=false\/decide ((s.length:Int)>4)=true/\4<=s.length/\((s.take (Int.toNat 4)).drop 0==[105,112,110,58])=false) (h2:decide ((s.length:Int)>6)=false\/decide ((s.length:Int)>6)=true/\6<=s.length/\((s.take (Int.toNat 6)).drop 0==[100,116,110,58,47,47])=false)
  (hK:AP Tryz.prog 87 [.agg [.bool false,.int .u64 0,.int .u64 0,.str [],.str []]] (.int .i64 0) []) :
  AP Tryz.prog 152 [.str s] (.tup [.agg [.bool false,.int .u64 0,.int .u64 0,.str [],.str []],.bool false]) []:=by
 rcases h1 with t1|⟨t1,b1,t2⟩<;>rcases h2 with t3|⟨t3,b3,t4⟩
 all_goals
  refine AP.ofA (Zl Tryz.func152 U Tryz.ntmps152 U U ?_)
  repeat'(first|(apply Zb (hK);kernel_rfl;(iterate 4 exact U))|(apply YX Za;(iterate 4 exact U);exact .dft _;exact .lit _ _ _ _ rfl (by decide);exact Nat.zero_le _;(first|exact b1|exact b3);exact U)|(apply Zi Za;exact U)|(apply Zg Za;exact U)|(apply Zp Za;exact U)|refine Ze U U U Qt ?_|refine Zt U U U Qt ?_|refine Zm U U U Qt ?_|refine Zj U Qt U U ?_|refine Zh U Qt U U ?_|refine Zd U Qt ?_|refine Zf U Qt ?_|refine Yb Za U U U U ?_)
  all_goals exact Qe
theorem Fc [Known](s:List UInt8)(a b p q:Nat)(κ:Int)(t:List UInt8)(z3 z4 z5:Bool)(h0:(s==[100,116,110,58,110,111,110,101])=false)
  (t1:decide ((s.length:Int)>4)=true) (b1:4<=s.length) (t2:((s.take (Int.toNat 4)).drop 0==[105,112,110,58])=true)
  (hC1:AP Tryz.prog 178 [.str s,.int .i64 4] (.tup [.int .u64 (a:Int),.int .i64 (p:Int)]) [])
  (t3:decide ((p:Int)<(s.length:Int))=z3) (e3:IntKind.i64.wrap ((p:Int)+1)=((p+1:Nat):Int))
  (hC2:z3=true->AP Tryz.prog 178 [.str s,.int .i64 ((p+1:Nat):Int)] (.tup [.int .u64 (b:Int),.int .i64 (q:Int)]) []) (hb0:z3=false->b=0)
  (hK:AP Tryz.prog 87 [.agg [.bool true,.int .u64 (a:Int),.int .u64 (b:Int),.str [],.str []]] (.int .i64 κ) []) (t4:decide (κ<1)=z4)
  (hT:z4=false->AP Tryz.prog 179 [.agg [.bool true,.int .u64 (a:Int),.int .u64 (b:Int),.str [],.str []]] (.str t) []) (t5:(t != s)=z5) :
  AP Tryz.prog 152 [.str s] (KO z4 z5 true a b [] []) []:=by
 cases z3 with
 | false=>
  obtain rfl:=hb0 rfl
  clear hC2
  cases z4 with
  | true=>
   clear hT
   cases z5
   all_goals
    refine AP.ofA (Zl Tryz.func152 U Tryz.ntmps152 U U ?_)
    repeat'(first|(apply Zb (hC1);kernel_rfl;(iterate 4 exact U))|(apply Zb (hK);kernel_rfl;(iterate 4 exact U))|refine YX Za U U U U (.dft _) (.lit _ _ _ _ rfl (by decide)) (Nat.zero_le _) b1 U ?_|(apply Zi Za;exact U)|(apply Zg Za;exact U)|(apply Zp Za;exact U)|refine Ze U U U Qt ?_|refine Zm U U U Qt ?_|refine Zj U Qt U U ?_|refine Zd U Qt ?_|refine Zf U Qt ?_|refine Yb Za U U U U ?_)
    all_goals exact Qe
  | false=>
   have hT:=hT rfl
   cases z5
   all_goals
    refine AP.ofA (Zl Tryz.func152 U Tryz.ntmps152 U U ?_)
    repeat'(first|(apply Zb (hC1);kernel_rfl;(iterate 4 exact U))|(apply Zb (hK);kernel_rfl;(iterate 4 exact U))|(apply Zb (hT);kernel_rfl;(iterate 4 exact U))|refine YX Za U U U U (.dft _) (.lit _ _ _ _ rfl (by decide)) (Nat.zero_le _) b1 U ?_|(apply Zi Za;exact U)|(apply Zg Za;exact U)|(apply Zp Za;exact U)|refine Ze U U U Qt ?_|refine Zj U Qt U U ?_|refine Zh U Qt U U ?_|refine Zd U Qt ?_|refine Zf U Qt ?_|refine Yb Za U U U U ?_)
    all_goals exact Qe
 | true=>
  have hC2:=hC2 rfl
  clear hb0
  cases z4 with
  | true=>
   clear hT
   cases z5
   all_goals
    refine AP.ofA (Zl Tryz.func152 U Tryz.ntmps152 U U ?_)
    repeat'(first|rw[e3]|(apply Zb (hC1);kernel_rfl;(iterate 4 exact U))|(apply Zb (hC2);kernel_rfl;(iterate 4 exact U))|(apply Zb (hK);kernel_rfl;(iterate 4 exact U))|refine YX Za U U U U (.dft _) (.lit _ _ _ _ rfl (by decide)) (Nat.zero_le _) b1 U ?_|(apply Zi Za;exact U)|(apply Zg Za;exact U)|(apply Zp Za;exact U)|refine Ze U U U Qt ?_|refine Zm U U U Qt ?_|refine Zj U Qt U U ?_|refine Zd U Qt ?_|refine Zf U Qt ?_|refine Yb Za U U U U ?_)
    all_goals exact Qe
  | false=>
   have hT:=hT rfl
   cases z5
   all_goals
    refine AP.ofA (Zl Tryz.func152 U Tryz.ntmps152 U U ?_)
    repeat'(first|rw[e3]|(apply Zb (hC1);kernel_rfl;(iterate 4 exact U))|(apply Zb (hC2);kernel_rfl;(iterate 4 exact U))|(apply Zb (hK);kernel_rfl;(iterate 4 exact U))|(apply Zb (hT);kernel_rfl;(iterate 4 exact U))|refine YX Za U U U U (.dft _) (.lit _ _ _ _ rfl (by decide)) (Nat.zero_le _) b1 U ?_|(apply Zi Za;exact U)|(apply Zg Za;exact U)|(apply Zp Za;exact U)|refine Ze U U U Qt ?_|refine Zj U Qt U U ?_|refine Zh U Qt U U ?_|refine Zd U Qt ?_|refine Zf U Qt ?_|refine Yb Za U U U U ?_)
    all_goals exact Qe
theorem Dr [Known](s:List UInt8)(m:Nat)(h d:List UInt8)(κ:Int)(t:List UInt8)(z4 z5:Bool)(h0:(s==[100,116,110,58,110,111,110,101])=false)(hsl:s.length<=4398046511104)
  (t1:decide ((s.length:Int)>4)=true) (b1:4<=s.length) (t2:((s.take (Int.toNat 4)).drop 0==[105,112,110,58])=false)
  (t3:decide ((s.length:Int)>6)=true) (b3:6<=s.length) (t6:((s.take (Int.toNat 6)).drop 0==[100,116,110,58,47,47])=true)
  (m6:6<=m) (ml:m<=s.length) (hm1:∀ i,6<=i->i<m->∃ c,s[i]?=some c/\c.toNat ≠ 47) (hm2:m<s.length->∃ c,s[m]?=some c/\c.toNat=47)
  (hh:(s.take m).drop 6=h) (hd:s.drop (m+1)=d)
  (hK:AP Tryz.prog 87 [.agg [.bool false,.int .u64 0,.int .u64 0,.str h,.str d]] (.int .i64 κ) []) (t4:decide (κ<1)=z4)
  (hT:z4=false->AP Tryz.prog 179 [.agg [.bool false,.int .u64 0,.int .u64 0,.str h,.str d]] (.str t) []) (t5:(t != s)=z5) :
  AP Tryz.prog 152 [.str s] (if m<s.length then KO z4 z5 false 0 0 h d else .tup [.agg [.bool false,.int .u64 0,.int .u64 0,.str [],.str []],.bool false]) []:=by
 refine AP.ofA (Zl Tryz.func152 U Tryz.ntmps152 U U ?_)
 repeat'(first|(apply YX Za;(iterate 4 exact U);exact .dft _;exact .lit _ _ _ _ rfl (by decide);exact Nat.zero_le _;(first|exact b1|exact b3);exact U)|(apply Zi Za;exact U)|(apply Zg Za;exact U)|(apply Zp Za;exact U)|refine Ze U U U Qt ?_|refine Zj U Qt U U ?_|refine Zd U Qt ?_|refine Zf U Qt ?_|refine Yb Za U U U U ?_)
 refine ZJ (fun k tm bx fr=>∃(a:Nat),k+a=m/\6<=a/\tm=[(0,.str s),(2,.ptr 0 0),(3,.bool false),(4,.ptr 1 0),(8,.int .i64 (a:Int))]/\bx=[[.bool false,.int .u64 0,.int .u64 0,.str [],.str []],[.bool false,.int .u64 0,.int .u64 0,.str [],.str []]]/\fr=[]) (m+1) (Lands.mk' (m:=m-6) (by omega) ⟨6,by omega,Nat.le_refl _,rfl,rfl,rfl⟩ ?_ rfl rfl rfl rfl rfl rfl) ?_
 ·exact .cons rfl (.cons rfl (.cons rfl (.cons rfl (.cons rfl .nil))))
 rintro k tm bx fr ⟨a,hk,ha,rfl,rfl,rfl⟩
 rcases Nat.lt_or_ge a m with hlt|hge
 ·have t7:decide ((a:Int)<(s.length:Int))=true:=decide_eq_true (by omega)
  obtain⟨c,hc,hne⟩:=hm1 a ha hlt
  have hidx:s[((a:Nat):Int).toNat]?=some c:=by simpa using hc
  have t8:((c.toNat:Int) != 47)=true:=by simp;omega
  have e5:IntKind.i64.wrap ((a:Int)+1)=((a+1:Nat):Int):=by rw[IntWalk.i64_in _ (by omega)];omega
  repeat'(first|rw[e5]|refine VY Za U U U U U (Int.natCast_nonneg _) hidx ?_|(apply Zi Za;exact U)|(apply Zg Za;exact U)|(apply Zp Za;exact U)|refine Ze U U U Qt ?_|refine Zj U Qt U U ?_|refine Zd U Qt ?_|refine Yt ?_|refine Yb Za U U U U ?_)
  refine Lands.mk' (m:=k-1) (by omega) ⟨a+1,by omega,by omega,rfl,rfl,rfl⟩ ?_ rfl rfl rfl rfl rfl rfl
  exact .cons rfl (.cons rfl (.cons rfl (.cons rfl (.cons rfl .nil))))
 ·obtain rfl:a=m:=by omega
  rcases Nat.lt_or_ge a s.length with hl|hl
  ·have t7:decide ((a:Int)<(s.length:Int))=true:=decide_eq_true (by omega)
   obtain⟨c,hc,hne⟩:=hm2 hl
   have hidx:s[((a:Nat):Int).toNat]?=some c:=by simpa using hc
   have t8:((c.toNat:Int) != 47)=false:=by simp;omega
   have t9:((a:Int)==(s.length:Int))=false:=by simp;omega
   have e5:IntKind.i64.wrap ((a:Int)+1)=((a+1:Nat):Int):=by rw[IntWalk.i64_in _ (by omega)];omega
   have q1:Int.toNat 6<=((a:Nat):Int).toNat:=by omega
   have q2:((a:Nat):Int).toNat<=s.length:=by omega
   have q3:((a+1:Nat):Int).toNat<=s.length:=by omega
   have s1:(s.take ((a:Nat):Int).toNat).drop (Int.toNat 6)=h:=by rw[<- hh];rfl
   have s2:(s.take s.length).drop ((a+1:Nat):Int).toNat=d:=by rw[List.take_length,<- hd];rfl
   rw[if_pos hl]
   clear hm1 hm2
   cases z4 with
   | true=>
    clear hT
    cases z5
    all_goals
     repeat'(first|rw[e5]|(apply Zb (hK);kernel_rfl;(iterate 4 exact U))|refine VY Za U U U U U (Int.natCast_nonneg _) hidx ?_|refine YX Za U U U U (.lit _ _ _ _ rfl (by decide)) (.lit _ _ _ _ rfl (Int.natCast_nonneg _)) q1 q2 s1 ?_|refine YX Za U U U U (.lit _ _ _ _ rfl (Int.natCast_nonneg _)) (.dft _) q3 (Nat.le_refl _) s2 ?_|(apply Zi Za;exact U)|(apply Zg Za;exact U)|(apply Zp Za;exact U)|refine Ze U U U Qt ?_|refine Zm U U U Qt ?_|refine Zj U Qt U U ?_|refine Zd U Qt ?_|refine Zf U Qt ?_|refine Yb Za U U U U ?_|(apply Zo 7 ZB;decide +kernel;kernel_rfl;kernel_rfl;kernel_rfl;exact U;exact U)|(apply Zs;(iterate 4 exact U))|exact AE.nil _ _ _ _|(apply Zx;exact U)|(apply Zz;exact U;exact U;decide +kernel;exact U)|(apply ZA;exact U)|exact AO.nil _ _ _|(apply Zr;(decide +kernel))|exact AOs.nil|exact ZF rfl rfl)
     all_goals exact Qe
   | false=>
    have hT:=hT rfl
    cases z5
    all_goals
     repeat'(first|rw[e5]|(apply Zb (hK);kernel_rfl;(iterate 4 exact U))|(apply Zb (hT);kernel_rfl;(iterate 4 exact U))|refine VY Za U U U U U (Int.natCast_nonneg _) hidx ?_|refine YX Za U U U U (.lit _ _ _ _ rfl (by decide)) (.lit _ _ _ _ rfl (Int.natCast_nonneg _)) q1 q2 s1 ?_|refine YX Za U U U U (.lit _ _ _ _ rfl (Int.natCast_nonneg _)) (.dft _) q3 (Nat.le_refl _) s2 ?_|(apply Zi Za;exact U)|(apply Zg Za;exact U)|(apply Zp Za;exact U)|refine Ze U U U Qt ?_|refine Zj U Qt U U ?_|refine Zh U Qt U U ?_|refine Zd U Qt ?_|refine Zf U Qt ?_|refine Yb Za U U U U ?_|(apply Zo 7 ZB;decide +kernel;kernel_rfl;kernel_rfl;kernel_rfl;exact U;exact U)|(apply Zs;(iterate 4 exact U))|exact AE.nil _ _ _ _|(apply Zx;exact U)|(apply Zz;exact U;exact U;decide +kernel;exact U)|(apply ZA;exact U)|exact AO.nil _ _ _|(apply Zr;(decide +kernel))|exact AOs.nil|exact ZF rfl rfl)
     all_goals exact Qe
  ·have t7:decide ((a:Int)<(s.length:Int))=false:=decide_eq_false (by omega)
   have t9:((a:Int)==(s.length:Int))=true:=by simp;omega
   rw[if_neg (by omega)]
   repeat'(first|(apply Zi Za;exact U)|(apply Zg Za;exact U)|(apply Zp Za;exact U)|refine Zt U U U Qt ?_|refine Zh U Qt U U ?_|refine Zd U Qt ?_|refine Zf U Qt ?_|refine Yb Za U U U U ?_)
   all_goals exact Qe
set_option maxRecDepth 100000 in
theorem LO (s:ByteArray)(c:Int)(w:World):Calls Tryz.prog 201 #[.string s,.int .u8 c] w fun e w'=>e=.returned (.int .i64 (Lib.indexByte s.data.toList c.toNat.toUInt8))/\w'=w:=by
 go_enter Tryz.func201,Tryz.ntmps201
 go_wp2
 rw[run_callFunc_extern Tryz.func206 (by kernel_rfl) (by kernel_rfl) (by kernel_rfl) (e:=Extern.BytealgIndexByte.indexByte) (by kernel_rfl),Lib.run_indexByteString]
 simp only[Result.andThen]
 rw[Oper.upon_value]
 go_wp2
 go_ret
 exact⟨rfl,rfl⟩
theorem Bv [Known](s:List UInt8)(c:Int):AP Tryz.prog 201 [.str s,.int .u8 c] (.int .i64 (Lib.indexByte s c.toNat.toUInt8)) []:=by
 refine⟨fun g w vs hmem hl hv=>?_⟩
 obtain⟨v0,v1,rfl⟩:∃ v0 v1,vs=[v0,v1]:=by
  match vs,hl with
  | [v0,v1],_=>exact⟨v0,v1,rfl⟩
 have h0:=(hv 0 _ _ rfl rfl).str_inv.1
 have h1:=(hv 1 _ _ rfl rfl).int_inv
 subst h0 h1
 exact(LO ⟨s.toArray⟩ c w).mono fun e w' ⟨he,hb⟩=>Gr hmem (hb ▸ Below.refl _ _) he (.int _ _)
theorem O4 [Known](s p:List UInt8)(hs:s.length<=4611686018427387904)(hp:p.length<=4611686018427387904):AP Tryz.prog 197 [.str s,.str p] (.bool (s.take p.length==p)) []:=by
 by_cases h:p.length<=s.length
 ·have t1:decide ((s.length:Int) ≥ (p.length:Int))=true:=decide_eq_true (by omega)
  have hq:((p.length:Nat):Int).toNat<=s.length:=by rw[Int.toNat_natCast];exact h
  have hs2:(s.take ((p.length:Nat):Int).toNat).drop 0=s.take p.length:=by rw[Int.toNat_natCast,List.drop_zero]
  generalize s.take p.length=s2 at *
  refine AP.ofA (Zl Tryz.func197 U Tryz.ntmps197 U U ?_)
  repeat'(first|refine YX Za U U U U (.dft _) (.lit _ _ _ _ rfl (Int.natCast_nonneg _)) (Nat.zero_le _) hq hs2 ?_|(apply Zi Za;exact U)|(apply Zg Za;exact U)|refine Ze U U U Qt ?_|refine Zj U Qt U U ?_|refine Yb Za U U U U ?_)
  all_goals exact Qe
 ·have t1:decide ((s.length:Int) ≥ (p.length:Int))=false:=decide_eq_false (by omega)
  have e:(s.take p.length==p)=false:=by
   rw[beq_eq_false_iff_ne]
   intro e
   have:=congrArg List.length e
   rw[List.length_take]at this
   omega
  rw[e]
  refine AP.ofA (Zl Tryz.func197 U Tryz.ntmps197 U U ?_)
  repeat'(first|(apply Zi Za;exact U)|(apply Zg Za;exact U)|refine Zt U U U Qt ?_|refine Zh U Qt U U ?_|refine Yb Za U U U U ?_)
  all_goals exact Qe
theorem Td [Known](p r:List UInt8)(hs:(p++r).length<=4611686018427387904):AP Tryz.prog 169 [.str (p++r),.str p] (.tup [.str r,.bool true]) []:=by
 have hH:=O4 (p++r) p hs (by rw[List.length_append]at hs;omega)
 rw[List.take_left,beq_self_eq_true]at hH
 have hq:((p.length:Nat):Int).toNat<=(p++r).length:=by rw[Int.toNat_natCast,List.length_append];omega
 have hs2:((p++r).take (p++r).length).drop ((p.length:Nat):Int).toNat=r:=by rw[Int.toNat_natCast,List.take_length,List.drop_left]
 have hC:AP Tryz.prog 189 [.str (p++r),.str p] (.tup [.str r,.bool true]) []:=by
  generalize p++r=s at *
  refine AP.ofA (Zl Tryz.func189 U Tryz.ntmps189 U U ?_)
  repeat'(first|(apply Zb (hH);kernel_rfl;(iterate 4 exact U))|refine YX Za U U U U (.lit _ _ _ _ rfl (Int.natCast_nonneg _)) (.dft _) hq (Nat.le_refl _) hs2 ?_|(apply Zi Za;exact U)|(apply Zg Za;exact U)|(apply Zp Za;exact U)|refine Zf U Qt ?_|refine Yb Za U U U U ?_)
  all_goals exact Qe
 refine AP.ofA (Zl Tryz.func169 U Tryz.ntmps169 U U ?_)
 repeat'(first|(apply Zb (hC);kernel_rfl;(iterate 4 exact U))|(apply Zi Za;exact U)|(apply Zg Za;exact U))
 all_goals exact Qe
theorem Te [Known](s p:List UInt8)(hs:s.length<=4611686018427387904)(hp:p.length<=4611686018427387904)(h:(s.take p.length==p)=false):AP Tryz.prog 169 [.str s,.str p] (.tup [.str s,.bool false]) []:=by
 have hH:=O4 s p hs hp
 rw[h]at hH
 have hC:AP Tryz.prog 189 [.str s,.str p] (.tup [.str s,.bool false]) []:=by
  refine AP.ofA (Zl Tryz.func189 U Tryz.ntmps189 U U ?_)
  repeat'(first|(apply Zb (hH);kernel_rfl;(iterate 4 exact U))|(apply Zi Za;exact U)|(apply Zg Za;exact U)|(apply Zp Za;exact U)|refine Zd U Qt ?_)
  all_goals exact Qe
 refine AP.ofA (Zl Tryz.func169 U Tryz.ntmps169 U U ?_)
 repeat'(first|(apply Zb (hC);kernel_rfl;(iterate 4 exact U))|(apply Zi Za;exact U)|(apply Zg Za;exact U))
 all_goals exact Qe
theorem N3 (s p:List UInt8):(∃ r,s=p++r)\/(s.take p.length==p)=false:=by
 cases h:s.take p.length==p with
 | true=>
  refine .inl ⟨s.drop p.length,?_⟩
  have:=beq_iff_eq.1 h
  conv=>lhs;rw[<- List.take_append_drop p.length s,this]
 | false=>exact .inr rfl
theorem LP:∀ {l:List UInt8} {c:UInt8},c ∉ l->Lib.indexByte l c = -1
 | [],_,_=>rfl
 | x::l,c,h=>by
  have h1:¬ x=c:=fun e=>h (by rw[e];exact List.mem_cons_self ..)
  have h2:=LP (l:=l) (c:=c) fun hm=>h (List.mem_cons_of_mem _ hm)
  simp[Lib.indexByte,h1,h2]
theorem Nm:∀ {a b:List UInt8} {c:UInt8},c ∉ a->Lib.indexByte (a++c::b) c=(a.length:Int)
 | [],b,c,_=>by simp[Lib.indexByte]
 | x::a,b,c,h=>by
  have h1:¬ x=c:=fun e=>h (by rw[e];exact List.mem_cons_self ..)
  have h2:=Nm (a:=a) (b:=b) (c:=c) fun hm=>h (List.mem_cons_of_mem _ hm)
  rw[List.cons_append]
  simp only[Lib.indexByte,h2,List.length_cons,beq_iff_eq,h1,if_false]
  (repeat' split)<;>omega
theorem O5 [Known](s:List UInt8)(c:UInt8):AP Tryz.prog 198 [.str s,.str [c]] (.int .i64 (Lib.indexByte s c)) []:=by
 have hI:=Bv s (c.toNat:Int)
 have e:((c.toNat:Int)).toNat.toUInt8=c:=by rw[Int.toNat_natCast];simp
 rw[e]at hI
 have t0:((([c]:List UInt8).length:Int)==0)=false:=rfl
 have t1:((([c]:List UInt8).length:Int)==1)=true:=rfl
 by_cases hs:[c]=s
 ·subst hs
  have t2:([c]==[c])=true:=by simp
  have e0:Lib.indexByte [c] c=0:=by simp[Lib.indexByte]
  rw[e0]
  refine AP.ofA (Zl Tryz.func198 U Tryz.ntmps198 U U ?_)
  repeat'(first|(apply Zi Za;exact U)|(apply Zg Za;exact U)|(apply Zp Za;exact U)|refine Ze U U U Qt ?_|refine Zh U Qt U U ?_|refine Zd U Qt ?_|refine Yb Za U U U U ?_)
  all_goals exact Qe
 ·have t2:([c]==s)=false:=by simpa using hs
  refine AP.ofA (Zl Tryz.func198 U Tryz.ntmps198 U U ?_)
  repeat'(first|(apply Zb (hI);kernel_rfl;(iterate 4 exact U))|refine VY Za U U U U U Qd U ?_|(apply Zi Za;exact U)|(apply Zg Za;exact U)|(apply Zp Za;exact U)|refine Ze U U U Qt ?_|refine Zh U Qt U U ?_|refine Zd U Qt ?_|refine Zf U Qt ?_|refine Yb Za U U U U ?_)
  all_goals exact Qe
theorem Sh [Known](s:List UInt8)(c:UInt8)(h:c ∉ s):AP Tryz.prog 170 [.str s,.str [c]] (.tup [.str s,.str [],.bool false]) []:=by
 have hI:=O5 s c
 rw[LP h]at hI
 have hC:AP Tryz.prog 190 [.str s,.str [c]] (.tup [.str s,.str [],.bool false]) []:=by
  refine AP.ofA (Zl Tryz.func190 U Tryz.ntmps190 U U ?_)
  repeat'(first|(apply Zb (hI);kernel_rfl;(iterate 4 exact U))|(apply Zi Za;exact U)|(apply Zg Za;exact U)|refine Zf U Qt ?_)
  all_goals exact Qe
 refine AP.ofA (Zl Tryz.func170 U Tryz.ntmps170 U U ?_)
 repeat'(first|(apply Zb (hC);kernel_rfl;(iterate 4 exact U))|(apply Zi Za;exact U)|(apply Zg Za;exact U))
 all_goals exact Qe
theorem Si [Known](a b:List UInt8)(c:UInt8)(h:c ∉ a)(hl:(a++c::b).length<=4611686018427387904):AP Tryz.prog 170 [.str (a++c::b),.str [c]] (.tup [.str a,.str b,.bool true]) []:=by
 have hI:=O5 (a++c::b) c
 rw[Nm h]at hI
 have hal:a.length+1<=(a++c::b).length:=by rw[List.length_append,List.length_cons];omega
 have t1:decide ((a.length:Int) ≥ 0)=true:=decide_eq_true (by omega)
 have e1:IntKind.i64.wrap ((a.length:Int)+(([c]:List UInt8).length:Int))=((a.length+1:Nat):Int):=by
  rw[IntWalk.i64_in _ (by simp;omega)];simp
 have q1:((a.length:Nat):Int).toNat<=(a++c::b).length:=by rw[Int.toNat_natCast];omega
 have q2:((a.length+1:Nat):Int).toNat<=(a++c::b).length:=by rw[Int.toNat_natCast];omega
 have s1:((a++c::b).take ((a.length:Nat):Int).toNat).drop 0=a:=by rw[Int.toNat_natCast,List.drop_zero,List.take_left]
 have s2:((a++c::b).take (a++c::b).length).drop ((a.length+1:Nat):Int).toNat=b:=by
  rw[Int.toNat_natCast,List.take_length,show a.length+1=(a++[c]).length by simp,show a++c::b=(a++[c])++b by simp,List.drop_left]
 have hC:AP Tryz.prog 190 [.str (a++c::b),.str [c]] (.tup [.str a,.str b,.bool true]) []:=by
  generalize a++c::b=s at *
  refine AP.ofA (Zl Tryz.func190 U Tryz.ntmps190 U U ?_)
  repeat'(first|rw[e1]|(apply Zb (hI);kernel_rfl;(iterate 4 exact U))|refine YX Za U U U U (.dft _) (.lit _ _ _ _ rfl (Int.natCast_nonneg _)) (Nat.zero_le _) q1 s1 ?_|refine YX Za U U U U (.lit _ _ _ _ rfl (Int.natCast_nonneg _)) (.dft _) q2 (Nat.le_refl _) s2 ?_|(apply Zi Za;exact U)|(apply Zg Za;exact U)|refine Zd U Qt ?_|refine Yb Za U U U U ?_|(apply Zo 10 ZB;decide +kernel;kernel_rfl;kernel_rfl;kernel_rfl;exact U;exact U)|(apply Zs;(iterate 4 exact U))|exact AE.nil _ _ _ _|(apply Zx;exact U)|(apply Zz;exact U;exact U;decide +kernel;exact U)|(apply ZA;exact U)|exact AO.nil _ _ _|(apply Zr;(decide +kernel))|exact AOs.nil|exact ZF rfl rfl)
  all_goals exact Qe
 refine AP.ofA (Zl Tryz.func170 U Tryz.ntmps170 U U ?_)
 repeat'(first|(apply Zb (hC);kernel_rfl;(iterate 4 exact U))|(apply Zi Za;exact U)|(apply Zg Za;exact U))
 all_goals exact Qe
theorem Xz (c:UInt8):∀ s:List UInt8,(c ∉ s)\/∃ a b,s=a++c::b/\c ∉ a
 | []=>.inl (by simp)
 | x::s=>by
  by_cases e:x=c
  ·subst e;exact .inr ⟨[],s,rfl,by simp⟩
  ·rcases Xz c s with h|⟨a,b,rfl,h⟩
   ·refine .inl fun hm=>?_
    rcases List.mem_cons.1 hm with h2|h2
    ·exact e h2.symm
    ·exact h h2
   ·refine .inr ⟨x::a,b,rfl,fun hm=>?_⟩
    rcases List.mem_cons.1 hm with h2|h2
    ·exact e h2.symm
    ·exact h h2
theorem GW {c:UInt8}(h:c ≠ 47):c.toNat ≠ 47:=fun e=>h (UInt8.toNat_inj.1 (by rw[e];rfl))
theorem GX {s:List UInt8}{c:EidV}(h0:s ≠ Us)(hc:(Yc s).2=true->c=(Yc s).1){i:Bool}{n q:Nat}{h d:List UInt8}(ec:c=⟨i,n,q,h,d⟩):KO (decide (Y8 c<1)) (WR c != s) i n q h d=JH s:=by
 cases hk:decide (Y8 c<1) with
 | true=>rw[UM (Bq h0 hc hk)];cases(WR c != s)<;>rfl
 | false=>
  cases ht:(WR c != s) with
  | true=>rw[UM (Br hc ht)];rfl
  | false=>rw[KM (Bt hk ht),ec]
theorem JJ {c:EidV}(h:decide (Y8 c<1)=false):ZQ c=true:=by
 rw[IL,Bool.or_eq_false_iff]at h
 simpa using h.1
theorem GY [Known](s:List UInt8)(hs:s.length<=1099511627776):AP Tryz.prog 152 [.str s] (JH s) []:=by
 cases h0:(s==Us) with
 | true=>
  have e:Yc s=(Yi,true):=by unfold Yc;rw[if_pos h0]
  rw[KM e]
  exact Fa s h0
 | false=>
  have hne:s ≠ Us:=by simpa using h0
  by_cases hI:∃ r,r ≠ []/\s=Vm++r
  ·obtain⟨r,hr,rfl⟩:=hI
   have hl:(Vm++r).length=4+r.length:=by simp[Vm];omega
   have hrl:0<r.length:=List.length_pos_iff.2 hr
   have hn:=GS 11 0 r
   have hC1:=O0 (Vm++r) 4 (by omega) (by omega)
   have ed:(Vm++r).drop 4=r:=rfl
   rw[ed]at hC1
   have hK:=W4 (X4 r) ⟨by simp[X4],by simp[X4]⟩
   rw[<- GX hne LG (show X4 r=⟨true,_,_,[],[]⟩ from rfl)]
   refine Fc (Vm++r) (WB 11 0 r).1 (if 4+(WB 11 0 r).2<4+r.length then(WB 11 0 (r.drop ((WB 11 0 r).2+1))).1 else 0) (4+(WB 11 0 r).2) ((4+(WB 11 0 r).2+1)+(WB 11 0 (r.drop ((WB 11 0 r).2+1))).2) (Y8 (X4 r)) (WR (X4 r)) (decide (4+(WB 11 0 r).2<4+r.length)) _ _ h0 (decide_eq_true (by omega)) (by omega) rfl hC1 (by rw[hl];simp only[Int.ofNat_lt]) (by rw[IntWalk.i64_in _ (by omega)];omega) (fun hz=>?_) (fun hz=>if_neg (of_decide_eq_false hz)) hK rfl (fun hz=>JI _ (JJ hz)) rfl
   have hz:=of_decide_eq_true hz
   rw[if_pos hz]
   have hC2:=O0 (Vm++r) (4+(WB 11 0 r).2+1) (by omega) (by omega)
   have ed2:(Vm++r).drop (4+(WB 11 0 r).2+1)=r.drop ((WB 11 0 r).2+1):=by
    rw[show 4+(WB 11 0 r).2+1=4+((WB 11 0 r).2+1) by omega,<- List.drop_drop,ed]
   rw[ed2]at hC2
   exact hC2
  ·by_cases hT:∃ r,r ≠ []/\s=[100,116,110,58,47,47]++r
   ·obtain⟨r,hr,rfl⟩:=hT
    have hl:([100,116,110,58,47,47]++r:List UInt8).length=6+r.length:=by simp;omega
    have hrl:0<r.length:=List.length_pos_iff.2 hr
    have ed:([100,116,110,58,47,47]++r:List UInt8).drop 6=r:=rfl
    have eg:∀ i,([100,116,110,58,47,47]++r:List UInt8)[6+i]?=r[i]? := fun i=>by rw[<- List.getElem?_drop,ed]
    rcases Xz 47 r with hno|⟨a,b,rfl,hno⟩
    ·have hK:=W4 ⟨false,0,0,r,[]⟩ ⟨by show r.length<=_;omega,by simp⟩
     have h:=Dr ([100,116,110,58,47,47]++r) (6+r.length) r [] (Y8 ⟨false,0,0,r,[]⟩) (WR ⟨false,0,0,r,[]⟩) _ _ h0 (by omega) (decide_eq_true (by omega)) (by omega) rfl (decide_eq_true (by omega)) (by omega) rfl (by omega) (by omega)
      (fun i h6 hi=>by
       obtain⟨j,rfl⟩:∃ j,i=6+j:=⟨i-6,by omega⟩
       rw[eg]
       have hj:j<r.length:=by omega
       exact⟨r[j],List.getElem?_eq_getElem hj,GW fun e=>hno (e ▸ List.getElem_mem hj)⟩)
      (fun h=>by omega) (by rw[List.take_of_length_le (by omega),ed]) (List.drop_of_length_le (by omega)) hK rfl (fun hz=>JI _ (JJ hz)) rfl
     rw[if_neg (by omega)]at h
     rw[UM (GR hne (fun r' hr' e=>hI ⟨r',hr',e⟩) (fun h d hh e=>hno (by rw[List.append_cancel_left e];simp)))]
     exact h
    ·have hal:(a++47::b).length=a.length+(b.length+1):=by simp
     have hK:=W4 ⟨false,0,0,a,b⟩ ⟨by show a.length<=_;omega,by show b.length<=_;omega⟩
     have h:=Dr ([100,116,110,58,47,47]++(a++47::b)) (6+a.length) a b (Y8 ⟨false,0,0,a,b⟩) (WR ⟨false,0,0,a,b⟩) _ _ h0 (by omega) (decide_eq_true (by omega)) (by omega) rfl (decide_eq_true (by omega)) (by omega) rfl (by omega) (by omega)
      (fun i h6 hi=>by
       obtain⟨j,rfl⟩:∃ j,i=6+j:=⟨i-6,by omega⟩
       rw[eg]
       have hj:j<a.length:=by omega
       exact⟨a[j],by rw[List.getElem?_append_left hj,List.getElem?_eq_getElem hj],GW fun e=>hno (e ▸ List.getElem_mem hj)⟩)
      (fun h=>⟨47,by rw[eg,List.getElem?_append_right (Nat.le_refl _),Nat.sub_self];rfl,rfl⟩)
      (by
       have e:([100,116,110,58,47,47]++(a++47::b):List UInt8).take (6+a.length)=[100,116,110,58,47,47]++a:=by
        rw[<- List.append_assoc,List.take_append_of_le_length (by simp;omega),List.take_of_length_le (by simp;omega)]
       rw[e];rfl)
      (by
       have e:([100,116,110,58,47,47]++(a++47::b):List UInt8).drop (6+(a.length+1))=(a++47::b).drop (a.length+1):=by rw[<- List.drop_drop,ed]
       rw[show 6+a.length+1=6+(a.length+1) by omega,e,List.drop_append,List.drop_of_length_le (by omega)];simp)
      hK rfl (fun hz=>JI _ (JJ hz)) rfl
     rw[if_pos (by omega)]at h
     rw[<- GX hne (LH hno) rfl]
     exact h
   ·have hpn:=GR hne (fun r' hr' e=>hI ⟨r',hr',e⟩) (fun h d hh e=>hT ⟨_,by simp,e⟩)
    rw[UM hpn]
    have hK:=W4 Yi ⟨by decide,by decide⟩
    refine Fb s h0 ?_ ?_ hK
    ·rcases Nat.lt_or_ge 4 s.length with h4|h4
     ·refine .inr ⟨decide_eq_true (by omega),by omega,?_⟩
      cases hb:((s.take (Int.toNat 4)).drop 0==[105,112,110,58]) with
      | false=>rfl
      | true=>
       have e:s.take 4=Vm:=beq_iff_eq.1 hb
       refine absurd ⟨s.drop 4,?_,?_⟩ hI
       ·intro hn;have:=congrArg List.length hn;simp at this;omega
       ·rw[<- e,List.take_append_drop]
     ·exact .inl (decide_eq_false (by omega))
    ·rcases Nat.lt_or_ge 6 s.length with h4|h4
     ·refine .inr ⟨decide_eq_true (by omega),by omega,?_⟩
      cases hb:((s.take (Int.toNat 6)).drop 0==[100,116,110,58,47,47]) with
      | false=>rfl
      | true=>
       have e:s.take 6=[100,116,110,58,47,47]:=beq_iff_eq.1 hb
       refine absurd ⟨s.drop 6,?_,?_⟩ hT
       ·intro hn;have:=congrArg List.length hn;simp at this;omega
       ·rw[<- e,List.take_append_drop]
     ·exact .inl (decide_eq_false (by omega))
end Go.Proofs.YtmljabhmajehnaaGreatDoor
end
section
open Go.RowKit Go.Pl
namespace Go.Av
section
variable {P:Program} {Q:X->St->Prop} {n:Nat} {ee:Nat × Nat} {tm:List (Nat × D)} {bx:List (List D)} {fr:List Fr}
variable {ops:Array Oper} {rest:List Oper} {t ty:Nat} {pos:String} {after:Array Edge}
end
end Go.Av
end
section
open Go.RowKit Go.Pl Go.Av
namespace Go.Proofs.YtmljabhmajehnaaGreatDoor
set_option maxHeartbeats 4000000
theorem LQ (p s:List UInt8):(W9 p s).1.length<=s.length:=by
 unfold W9
 split
 ·simp
 ·exact Nat.le_refl _
theorem Bw [Known](s:List UInt8)(c:UInt8)(hl:s.length<=4611686018427387904):AP Tryz.prog 170 [.str s,.str [c]] (.tup [.str (WN c s).1,.str (WN c s).2.1,.bool (WN c s).2.2]) []:=by
 rcases Xz c s with h|⟨a,b,rfl,h⟩
 ·rw[Ng h];exact Sh s c h
 ·rw[Ug h];exact Si a b c h hl
theorem N4 [Known](s p:List UInt8)(hs:s.length<=4611686018427387904)(hp:p.length<=4611686018427387904):AP Tryz.prog 169 [.str s,.str p] (.tup [.str (W9 p s).1,.bool (W9 p s).2]) []:=by
 rcases N3 s p with⟨r,rfl⟩ | h
 ·rw[QO];exact Td p r hs
 ·rw[Nh h];exact Te s p hs hp h
theorem Ds [Known](s:List UInt8)(hs:s.length<=140737488351232):AP Tryz.prog 147 [.str s] (.tup [.agg (eC (ppV s).1),.bool (ppV s).2]) []:=by
 have hP:=N4 s [47,47] (by omega) (by decide)
 have hl:=LQ [47,47] s
 unfold ppV
 dsimp only
 generalize (W9 [47,47] s).1=r at *
 generalize (W9 [47,47] s).2=ok at *
 have hC:=Bw r 47 (by omega)
 generalize (WN 47 r).1=a at *
 generalize (WN 47 r).2.1=b at *
 generalize (WN 47 r).2.2=k at *
 have hR:=V6 ⟨false,0,0,a,b⟩
 generalize ZQ ⟨false,0,0,a,b⟩=R at *
 replace hR:AP Tryz.prog _ [.agg [.bool false,.int .u64 0,.int .u64 0,.str a,.str b]] (.bool R) []:=hR
 show AP Tryz.prog _ _ (.tup [.agg [.bool false,.int .u64 0,.int .u64 0,.str a,.str b],_]) _
 obtain⟨ne,h1⟩:∃ ne,(a != [])=ne:=⟨_,rfl⟩
 rw[h1]
 cases ok with
 | false=>
  refine AP.ofA (Zl Tryz.func147 U Tryz.ntmps147 U U ?_)
  repeat'(first|(apply Zb (hP);kernel_rfl;(iterate 4 exact U))|(apply Zb (hC);kernel_rfl;(iterate 4 exact U))|(apply Zi Za;exact U)|(apply Zg Za;exact U)|refine Zt U U U Qt ?_|refine Zh U Qt U U ?_|(apply Zo 14 ZB;decide +kernel;kernel_rfl;kernel_rfl;kernel_rfl;exact U;exact U)|(apply Zs;(iterate 4 exact U))|exact AE.nil _ _ _ _|(apply Zx;exact U)|(apply VW;exact U)|(apply Zz;exact U;exact U;decide +kernel;exact U)|(apply ZA;exact U)|(apply Qs;exact U)|exact AO.nil _ _ _|(apply Zr;(decide +kernel))|(apply ZU;(iterate 3 exact U))|exact AOs.nil|exact ZF rfl rfl|exact Ue rfl)
  all_goals exact Qe
 | true=>
  cases k with
  | false=>
   refine AP.ofA (Zl Tryz.func147 U Tryz.ntmps147 U U ?_)
   repeat'(first|(apply Zb (hP);kernel_rfl;(iterate 4 exact U))|(apply Zb (hC);kernel_rfl;(iterate 4 exact U))|(apply Zi Za;exact U)|(apply Zg Za;exact U)|refine Ze U U U Qt ?_|refine Zt U U U Qt ?_|refine Zj U Qt U U ?_|refine Zh U Qt U U ?_|(apply Zo 14 ZB;decide +kernel;kernel_rfl;kernel_rfl;kernel_rfl;exact U;exact U)|(apply Zs;(iterate 4 exact U))|exact AE.nil _ _ _ _|(apply Zx;exact U)|(apply VW;exact U)|(apply Zz;exact U;exact U;decide +kernel;exact U)|(apply ZA;exact U)|(apply Qs;exact U)|exact AO.nil _ _ _|(apply Zr;(decide +kernel))|(apply ZU;(iterate 3 exact U))|exact AOs.nil|exact ZF rfl rfl|exact Ue rfl)
   all_goals exact Qe
  | true=>
   cases ne<;>cases R
   all_goals
    refine AP.ofA (Zl Tryz.func147 U Tryz.ntmps147 U U ?_)
    repeat'(first|rw[h1]|(apply Zb (hP);kernel_rfl;(iterate 4 exact U))|(apply Zb (hC);kernel_rfl;(iterate 4 exact U))|(apply Zb (hR);kernel_rfl;(iterate 4 exact U))|(apply Zi Za;exact U)|(apply Zg Za;exact U)|refine Ze U U U Qt ?_|refine Zt U U U Qt ?_|refine Zj U Qt U U ?_|refine Zh U Qt U U ?_|(apply Zo 14 ZB;decide +kernel;kernel_rfl;kernel_rfl;kernel_rfl;exact U;exact U)|(apply Zs;(iterate 4 exact U))|exact AE.nil _ _ _ _|(apply Zx;exact U)|(apply VW;exact U)|(apply Zz;exact U;exact U;decide +kernel;exact U)|(apply ZA;exact U)|(apply Qs;exact U)|exact AO.nil _ _ _|(apply Zr;(decide +kernel))|(apply ZU;(iterate 3 exact U))|exact AOs.nil|exact ZF rfl rfl|exact Ue rfl)
    all_goals exact Qe
end Go.Proofs.YtmljabhmajehnaaGreatDoor
end

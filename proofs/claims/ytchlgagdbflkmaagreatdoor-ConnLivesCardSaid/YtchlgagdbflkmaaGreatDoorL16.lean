/- Names read out of texts: plain laws, no program in sight. -/
import Derived.Test.YtchlgagdbflkmaaGreatDoorL15
import Derived.Lib.ParseIntBCases
import Derived.Test.YtchlgagdbflkmaaGreatDoorL10
import Derived.Test.YtchlgagdbflkmaaGreatDoorL11
import Derived.Lib.Strings
import Derived.Lib.Slices
import Derived.Lib.Walk
import Derived.Lib.Bytealg
import Derived.Test.YtchlgagdbflkmaaGreatDoorL08
import Derived.LaidEql
import Derived.Test.YtchlgagdbflkmaaGreatDoorL12
set_option linter.unusedVariables false
set_option linter.unusedSimpArgs false
section
open Go.RowKit Go.Pl Go.Av
namespace Go.Proofs.YtchlgagdbflkmaaGreatDoor
set_option maxHeartbeats 4000000
def puN (s:List UInt8):Nat:=match Lib.parseUintB 32 s with
 | .ok u=>u
 | .range=>4294967295
 | _=>0
def puB (s:List UInt8):Bool:=match Lib.parseUintB 32 s with
 | .ok _=>true
 | _=>false
theorem Gq (s:List UInt8):puN s<=4294967295:=by
 unfold puN
 cases h:Lib.parseUintB 32 s with
 | ok u=>exact Lib.parseUintB_le h
 | range=>exact Nat.le_refl _
 | _=>exact Nat.zero_le _
theorem Tr (s:List UInt8):puD s=.tup [.int .u64 (puN s:Int),if puB s then .nili else .iface 346 .junk]:=by
 unfold puD puN puB
 cases h:Lib.parseUintB 32 s<;>rfl
theorem O6 {M:Nat}:∀ {l r:List UInt8} {acc v:Nat},Lib.parseUintM M acc l=.ok v->Lib.parseUintM M acc (l++r)=Lib.parseUintM M v r
 | [],r,acc,v,h=>by
  rw[Lib.parseUintM]at h
  injection h with h
  rw[List.nil_append,h]
 | c::l,r,acc,v,h=>by
  rw[Lib.parseUintM]at h
  rw[List.cons_append,Lib.parseUintM]
  split at h
  ·rename_i h1
   rw[if_pos h1]
   split at h
   ·cases h
   ·rename_i h2
    rw[if_neg h2]
    split at h
    ·cases h
    ·rename_i h3
     rw[if_neg h3]
     exact O6 h
  ·cases h
theorem QB {k:Nat}(h:k<10):(UInt8.ofNat (48+k)).toNat=48+k:=by
 rw[UInt8.toNat_ofNat'];omega
theorem Hw:∀(u:Nat),u<=4294967295->Lib.parseUintM 4294967295 0 (Lib.decDigits u)=.ok u:=by
 intro u
 induction u using Nat.strongRecOn with
 | _ u ih=>
  intro hu
  rw[Lib.decDigits]
  by_cases h:u<10
  ·rw[dif_pos h,Lib.parseUintM,QB h,if_pos (by omega),if_neg (by omega),if_neg (by omega),Lib.parseUintM]
   congr 1;omega
  ·rw[dif_neg h,O6 (ih (u/10) (by omega) (by omega)),Lib.parseUintM,QB (by omega),if_pos (by omega),if_neg (by omega),if_neg (by omega),Lib.parseUintM]
   congr 1;omega
theorem Ts (u:Nat):Lib.decDigits u ≠ []:=by
 intro h
 have:=congrArg List.length h
 rw[Lib.decDigits_length]at this
 have:=Lib.nDigits_pos u
 simp at *;omega
theorem Kq {u:Nat}(h:u<=4294967295):puN (Lib.decDigits u)=u/\puB (Lib.decDigits u)=true:=by
 have e:Lib.parseUintB 32 (Lib.decDigits u)=.ok u:=by
  unfold Lib.parseUintB
  rw[if_neg (Ts u)]
  exact Hw u h
 unfold puN puB
 rw[e]
 exact⟨rfl,rfl⟩
theorem XZ:∀(u:Nat) (c:UInt8),c ∈ Lib.decDigits u->48<=c.toNat/\c.toNat<=57:=by
 intro u
 induction u using Nat.strongRecOn with
 | _ u ih=>
  intro c hc
  rw[Lib.decDigits]at hc
  by_cases h:u<10
  ·rw[dif_pos h]at hc
   rw[List.mem_singleton]at hc
   subst hc
   have:=QB h
   rw[this];omega
  ·rw[dif_neg h]at hc
   rcases List.mem_append.1 hc with hc|hc
   ·exact ih (u/10) (by omega) c hc
   ·rw[List.mem_singleton]at hc
    subst hc
    have:=QB (k:=u % 10) (by omega)
    rw[this];omega
def pnV (s:List UInt8):EidV × Bool:=
 (⟨true,puN (Wg 46 s).1,puN (Wg 46 s).2.1,[],[]⟩,(Wg 46 s).2.2&&(puB (Wg 46 s).1&&(puB (Wg 46 s).2.1&&(ZY ⟨true,puN (Wg 46 s).1,puN (Wg 46 s).2.1,[],[]⟩&&(Lib.decDigits (puN (Wg 46 s).1)==(Wg 46 s).1&&Lib.decDigits (puN (Wg 46 s).2.1)==(Wg 46 s).2.1)))))
def ZW (s:List UInt8):EidV × Bool:=
 if s==V3 then(Zx,true)
 else if(WG WQ s).2 then pnV (WG WQ s).1
 else if(WG Ql s).2 then ppV (WG Ql s).1
 else(Zx,false)
theorem VI {s:List UInt8}(h:(ZW s).2=true):ZY (ZW s).1=true/\ZC (ZW s).1=s:=by
 unfold ZW at h ⊢
 by_cases h0:(s==V3)=true
 ·rw[if_pos h0]
  refine⟨by decide,?_⟩
  rw[beq_iff_eq.1 h0];decide
 rw[if_neg h0]at h ⊢
 by_cases h1:(WG WQ s).2=true
 ·rw[if_pos h1]at h ⊢
  have e1:=Js h1
  generalize (WG WQ s).1=r at *
  unfold pnV at h ⊢
  dsimp only at h ⊢
  simp only[Bool.and_eq_true,beq_iff_eq]at h
  obtain⟨h2,h3,h4,h5,h6,h7⟩:=h
  refine⟨h5,?_⟩
  unfold ZC
  rw[if_neg (by simp[isZ]),if_pos rfl,h6,h7,e1]
  have:=Jr h2
  conv=>rhs;rw[this]
  simp[WQ]
 rw[if_neg h1]at h ⊢
 by_cases h2:(WG Ql s).2=true
 ·rw[if_pos h2]at h ⊢
  have e1:=Js h2
  generalize (WG Ql s).1=r at *
  unfold ppV at h ⊢
  dsimp only at h ⊢
  simp only[Bool.and_eq_true,bne_iff_ne]at h
  obtain⟨h3,h4,h5,h6⟩:=h
  have e2:=Js h3
  generalize (WG [47,47] r).1=q at *
  refine⟨h6,?_⟩
  unfold ZC
  rw[if_neg (by rw[VT];intro e;exact h5 (congrArg EidV.h e)),if_neg (by simp),e1,e2]
  have:=Jr h4
  conv=>rhs;rw[this]
  simp[QS,Ql]
 ·rw[if_neg h2]at h;cases h
theorem KU {c:UInt8}(h:c.toNat<48\/57<c.toNat)(u:Nat):c ∉ Lib.decDigits u:=fun hm=>by
 have:=XZ u c hm
 omega
theorem Xo {x:EidV}(h:ZY x=true):ZW (ZC x)=(x,true):=by
 unfold ZC
 cases hz:isZ x with
 | true=>
  rw[if_pos rfl]
  rw[VT.1 hz]
  decide
 | false=>
  rw[if_neg (by simp)]
  cases hi:x.i with
  | true=>
   obtain⟨b1,b2,b3,b4,b5⟩:=VG h hz hi
   rw[if_pos rfl]
   have e1:[105,112,110,58]++Lib.decDigits x.n++[46]++Lib.decDigits x.s=WQ++(Lib.decDigits x.n++46::Lib.decDigits x.s):=by simp[WQ]
   rw[e1]
   unfold ZW
   have e2:(WQ++(Lib.decDigits x.n++46::Lib.decDigits x.s)==V3)=false:=by simp[WQ,V3]
   rw[e2,Je,if_neg (by simp),if_pos rfl]
   unfold pnV
   dsimp only
   rw[UB (KU (by decide) x.n)]
   dsimp only
   rw[(Kq b1).1,(Kq b1).2,(Kq b2).1,(Kq b2).2]
   have ex:(⟨true,x.n,x.s,[],[]⟩:EidV)=x:=by
    obtain⟨i,n,s,hh,d⟩:=x
    simp only at hi b3 b4
    rw[hi,b3,b4]
   rw[ex,h]
   simp
  | false=>
   obtain⟨b1,b2,b3,b4,b5,b6,b7⟩:=VH h hz hi
   rw[if_neg (by simp)]
   have e1:[100,116,110,58]++QS x=Ql++([47,47]++(x.h++47::x.d)):=by simp[QS,Ql]
   rw[e1]
   unfold ZW
   have e2:(Ql++([47,47]++(x.h++47::x.d))==V3)=false:=by simp[Ql,V3]
   have e3:WG WQ (Ql++([47,47]++(x.h++47::x.d)))=(Ql++([47,47]++(x.h++47::x.d)),false):=O5 (by simp[Ql,WQ])
   rw[e2,e3,Je,if_neg (by simp),if_neg (by simp),if_pos rfl]
   unfold ppV
   rw[Je]
   dsimp only
   rw[UB (Xn b6 (by decide))]
   dsimp only
   have ex:(⟨false,0,0,x.h,x.d⟩:EidV)=x:=by
    obtain⟨i,n,s,hh,d⟩:=x
    simp only at hi b1 b2
    rw[hi,b1,b2]
   rw[ex,h]
   have:(x.h != [])=true:=by
    rw[bne_iff_ne]
    intro e
    rw[e]at b3
    simp at b3
   rw[this]
   rfl
set_option maxRecDepth 100000 in
theorem Gr (s:ByteArray)(c:Int)(w:World):Calls Tryz.prog 261 #[.string s,.int .u8 c] w fun e w'=>e=.returned (.int .i64 (Lib.indexByte s.data.toList c.toNat.toUInt8))/\w'=w:=by
 go_enter Tryz.func261,Tryz.ntmps261
 go_wp2
 rw[run_callFunc_extern Tryz.func279 (by kernel_rfl) (by kernel_rfl) (by kernel_rfl) (e:=Extern.BytealgIndexByte.indexByte) (by kernel_rfl),Lib.run_indexByteString]
 simp only[Result.andThen]
 rw[Oper.upon_value]
 go_wp2
 go_ret
 exact⟨rfl,rfl⟩
theorem Tt [Known](s:List UInt8)(c:Int):AP Tryz.prog 261 [.str s,.int .u8 c] (.int .i64 (Lib.indexByte s c.toNat.toUInt8)) []:=by
 refine⟨fun g w vs hmem hl hv=>?_⟩
 obtain⟨v0,v1,rfl⟩:∃ v0 v1,vs=[v0,v1]:=by
  match vs,hl with
  | [v0,v1],_=>exact⟨v0,v1,rfl⟩
 have h0:=(hv 0 _ _ rfl rfl).str_inv.1
 have h1:=(hv 1 _ _ rfl rfl).int_inv
 subst h0 h1
 exact(Gr ⟨s.toArray⟩ c w).mono fun e w' ⟨he,hb⟩=>Uw hmem (hb ▸ Below.refl _ _) he (.int _ _)
theorem X0 [Known](s p:List UInt8)(hs:s.length<=4611686018427387904)(hp:p.length<=4611686018427387904):AP Tryz.prog 198 [.str s,.str p] (.bool (s.take p.length==p)) []:=by
 by_cases h:p.length<=s.length
 ·have t1:decide ((s.length:Int) ≥ (p.length:Int))=true:=decide_eq_true (by omega)
  have hq:((p.length:Nat):Int).toNat<=s.length:=by rw[Int.toNat_natCast];exact h
  have hs2:(s.take ((p.length:Nat):Int).toNat).drop 0=s.take p.length:=by rw[Int.toNat_natCast,List.drop_zero]
  generalize s.take p.length=s2 at *
  refine AP.ofA (Zp Tryz.func198 Z Tryz.ntmps198 Z Z ?_)
  repeat'(first|refine YI Zb Z Z Z Z (.dft _) (.lit _ _ _ _ rfl (Int.natCast_nonneg _)) (Nat.zero_le _) hq hs2 ?_|(apply Zl Zb;exact Z)|(apply Zj Zb;exact Z)|refine Zi Z Z Z Qt ?_|refine Zo Z Qt Z Z ?_|refine ZG Zb Z Z Z Z ?_)
  all_goals exact Qe
 ·have t1:decide ((s.length:Int) ≥ (p.length:Int))=false:=decide_eq_false (by omega)
  have e:(s.take p.length==p)=false:=by
   rw[beq_eq_false_iff_ne]
   intro e
   have:=congrArg List.length e
   rw[List.length_take]at this
   omega
  rw[e]
  refine AP.ofA (Zp Tryz.func198 Z Tryz.ntmps198 Z Z ?_)
  repeat'(first|(apply Zl Zb;exact Z)|(apply Zj Zb;exact Z)|refine Zs Z Z Z Qt ?_|refine Zn Z Qt Z Z ?_|refine ZG Zb Z Z Z Z ?_)
  all_goals exact Qe
theorem OF [Known](p r:List UInt8)(hs:(p++r).length<=4611686018427387904):AP Tryz.prog 143 [.str (p++r),.str p] (.tup [.str r,.bool true]) []:=by
 have hH:=X0 (p++r) p hs (by rw[List.length_append]at hs;omega)
 rw[List.take_left,beq_self_eq_true]at hH
 have hq:((p.length:Nat):Int).toNat<=(p++r).length:=by rw[Int.toNat_natCast,List.length_append];omega
 have hs2:((p++r).take (p++r).length).drop ((p.length:Nat):Int).toNat=r:=by rw[Int.toNat_natCast,List.take_length,List.drop_left]
 have hC:AP Tryz.prog 166 [.str (p++r),.str p] (.tup [.str r,.bool true]) []:=by
  generalize p++r=s at *
  refine AP.ofA (Zp Tryz.func166 Z Tryz.ntmps166 Z Z ?_)
  repeat'(first|(apply Zc (hH);kernel_rfl;(iterate 4 exact Z))|refine YI Zb Z Z Z Z (.lit _ _ _ _ rfl (Int.natCast_nonneg _)) (.dft _) hq (Nat.le_refl _) hs2 ?_|(apply Zl Zb;exact Z)|(apply Zj Zb;exact Z)|(apply Zt Zb;exact Z)|refine Zg Z Qt ?_|refine ZG Zb Z Z Z Z ?_)
  all_goals exact Qe
 refine AP.ofA (Zp Tryz.func143 Z Tryz.ntmps143 Z Z ?_)
 repeat'(first|(apply Zc (hC);kernel_rfl;(iterate 4 exact Z))|(apply Zl Zb;exact Z)|(apply Zj Zb;exact Z))
 all_goals exact Qe
theorem OG [Known](s p:List UInt8)(hs:s.length<=4611686018427387904)(hp:p.length<=4611686018427387904)(h:(s.take p.length==p)=false):AP Tryz.prog 143 [.str s,.str p] (.tup [.str s,.bool false]) []:=by
 have hH:=X0 s p hs hp
 rw[h]at hH
 have hC:AP Tryz.prog 166 [.str s,.str p] (.tup [.str s,.bool false]) []:=by
  refine AP.ofA (Zp Tryz.func166 Z Tryz.ntmps166 Z Z ?_)
  repeat'(first|(apply Zc (hH);kernel_rfl;(iterate 4 exact Z))|(apply Zl Zb;exact Z)|(apply Zj Zb;exact Z)|(apply Zt Zb;exact Z)|refine Zf Z Qt ?_)
  all_goals exact Qe
 refine AP.ofA (Zp Tryz.func143 Z Tryz.ntmps143 Z Z ?_)
 repeat'(first|(apply Zc (hC);kernel_rfl;(iterate 4 exact Z))|(apply Zl Zb;exact Z)|(apply Zj Zb;exact Z))
 all_goals exact Qe
theorem IE (s p:List UInt8):(∃ r,s=p++r)\/(s.take p.length==p)=false:=by
 cases h:s.take p.length==p with
 | true=>
  refine .inl ⟨s.drop p.length,?_⟩
  have:=beq_iff_eq.1 h
  conv=>lhs;rw[<- List.take_append_drop p.length s,this]
 | false=>exact .inr rfl
theorem Gs:∀ {l:List UInt8} {c:UInt8},c ∉ l->Lib.indexByte l c = -1
 | [],_,_=>rfl
 | x::l,c,h=>by
  have h1:¬ x=c:=fun e=>h (by rw[e];exact List.mem_cons_self ..)
  have h2:=Gs (l:=l) (c:=c) fun hm=>h (List.mem_cons_of_mem _ hm)
  simp[Lib.indexByte,h1,h2]
theorem O7:∀ {a b:List UInt8} {c:UInt8},c ∉ a->Lib.indexByte (a++c::b) c=(a.length:Int)
 | [],b,c,_=>by simp[Lib.indexByte]
 | x::a,b,c,h=>by
  have h1:¬ x=c:=fun e=>h (by rw[e];exact List.mem_cons_self ..)
  have h2:=O7 (a:=a) (b:=b) (c:=c) fun hm=>h (List.mem_cons_of_mem _ hm)
  rw[List.cons_append]
  simp only[Lib.indexByte,h2,List.length_cons,beq_iff_eq,h1,if_false]
  (repeat' split)<;>omega
theorem X1 [Known](s:List UInt8)(c:UInt8):AP Tryz.prog 234 [.str s,.str [c]] (.int .i64 (Lib.indexByte s c)) []:=by
 have hI:=Tt s (c.toNat:Int)
 have e:((c.toNat:Int)).toNat.toUInt8=c:=by rw[Int.toNat_natCast];simp
 rw[e]at hI
 have t0:((([c]:List UInt8).length:Int)==0)=false:=rfl
 have t1:((([c]:List UInt8).length:Int)==1)=true:=rfl
 by_cases hs:[c]=s
 ·subst hs
  have t2:([c]==[c])=true:=by simp
  have e0:Lib.indexByte [c] c=0:=by simp[Lib.indexByte]
  rw[e0]
  refine AP.ofA (Zp Tryz.func234 Z Tryz.ntmps234 Z Z ?_)
  repeat'(first|(apply Zl Zb;exact Z)|(apply Zj Zb;exact Z)|(apply Zt Zb;exact Z)|refine Zi Z Z Z Qt ?_|refine Zn Z Qt Z Z ?_|refine Zf Z Qt ?_|refine ZG Zb Z Z Z Z ?_)
  all_goals exact Qe
 ·have t2:([c]==s)=false:=by simpa using hs
  refine AP.ofA (Zp Tryz.func234 Z Tryz.ntmps234 Z Z ?_)
  repeat'(first|(apply Zc (hI);kernel_rfl;(iterate 4 exact Z))|refine Yo Zb Z Z Z Z Z Qd Z ?_|(apply Zl Zb;exact Z)|(apply Zj Zb;exact Z)|(apply Zt Zb;exact Z)|refine Zi Z Z Z Qt ?_|refine Zn Z Qt Z Z ?_|refine Zf Z Qt ?_|refine Zg Z Qt ?_|refine ZG Zb Z Z Z Z ?_)
  all_goals exact Qe
theorem Hx [Known](s:List UInt8)(c:UInt8)(h:c ∉ s):AP Tryz.prog 167 [.str s,.str [c]] (.tup [.str s,.str [],.bool false]) []:=by
 have hI:=X1 s c
 rw[Gs h]at hI
 have hC:AP Tryz.prog 199 [.str s,.str [c]] (.tup [.str s,.str [],.bool false]) []:=by
  refine AP.ofA (Zp Tryz.func199 Z Tryz.ntmps199 Z Z ?_)
  repeat'(first|(apply Zc (hI);kernel_rfl;(iterate 4 exact Z))|(apply Zl Zb;exact Z)|(apply Zj Zb;exact Z)|refine Zg Z Qt ?_)
  all_goals exact Qe
 refine AP.ofA (Zp Tryz.func167 Z Tryz.ntmps167 Z Z ?_)
 repeat'(first|(apply Zc (hC);kernel_rfl;(iterate 4 exact Z))|(apply Zl Zb;exact Z)|(apply Zj Zb;exact Z))
 all_goals exact Qe
theorem Hy [Known](a b:List UInt8)(c:UInt8)(h:c ∉ a)(hl:(a++c::b).length<=4611686018427387904):AP Tryz.prog 167 [.str (a++c::b),.str [c]] (.tup [.str a,.str b,.bool true]) []:=by
 have hI:=X1 (a++c::b) c
 rw[O7 h]at hI
 have hal:a.length+1<=(a++c::b).length:=by rw[List.length_append,List.length_cons];omega
 have t1:decide ((a.length:Int) ≥ 0)=true:=decide_eq_true (by omega)
 have e1:IntKind.i64.wrap ((a.length:Int)+(([c]:List UInt8).length:Int))=((a.length+1:Nat):Int):=by
  rw[IntWalk.i64_in _ (by simp;omega)];simp
 have q1:((a.length:Nat):Int).toNat<=(a++c::b).length:=by rw[Int.toNat_natCast];omega
 have q2:((a.length+1:Nat):Int).toNat<=(a++c::b).length:=by rw[Int.toNat_natCast];omega
 have s1:((a++c::b).take ((a.length:Nat):Int).toNat).drop 0=a:=by rw[Int.toNat_natCast,List.drop_zero,List.take_left]
 have s2:((a++c::b).take (a++c::b).length).drop ((a.length+1:Nat):Int).toNat=b:=by
  rw[Int.toNat_natCast,List.take_length,show a.length+1=(a++[c]).length by simp,show a++c::b=(a++[c])++b by simp,List.drop_left]
 have hC:AP Tryz.prog 199 [.str (a++c::b),.str [c]] (.tup [.str a,.str b,.bool true]) []:=by
  generalize a++c::b=s at *
  refine AP.ofA (Zp Tryz.func199 Z Tryz.ntmps199 Z Z ?_)
  repeat'(first|rw[e1]|(apply Zc (hI);kernel_rfl;(iterate 4 exact Z))|refine YI Zb Z Z Z Z (.dft _) (.lit _ _ _ _ rfl (Int.natCast_nonneg _)) (Nat.zero_le _) q1 s1 ?_|refine YI Zb Z Z Z Z (.lit _ _ _ _ rfl (Int.natCast_nonneg _)) (.dft _) q2 (Nat.le_refl _) s2 ?_|(apply Zl Zb;exact Z)|(apply Zj Zb;exact Z)|refine Zf Z Qt ?_|refine ZG Zb Z Z Z Z ?_|(apply Za 10 Ze;decide +kernel;kernel_rfl;kernel_rfl;kernel_rfl;exact Z;exact Z)|(apply Zv;(iterate 4 exact Z))|exact AE.nil _ _ _ _|(apply ZB;exact Z)|(apply ZD;exact Z;exact Z;decide +kernel;exact Z)|(apply ZE;exact Z)|exact AO.nil _ _ _|(apply Zu;(decide +kernel))|exact AOs.nil|exact ZR rfl rfl)
  all_goals exact Qe
 refine AP.ofA (Zp Tryz.func167 Z Tryz.ntmps167 Z Z ?_)
 repeat'(first|(apply Zc (hC);kernel_rfl;(iterate 4 exact Z))|(apply Zl Zb;exact Z)|(apply Zj Zb;exact Z))
 all_goals exact Qe
theorem Jt (c:UInt8):∀ s:List UInt8,(c ∉ s)\/∃ a b,s=a++c::b/\c ∉ a
 | []=>.inl (by simp)
 | x::s=>by
  by_cases e:x=c
  ·subst e;exact .inr ⟨[],s,rfl,by simp⟩
  ·rcases Jt c s with h|⟨a,b,rfl,h⟩
   ·refine .inl fun hm=>?_
    rcases List.mem_cons.1 hm with h2|h2
    ·exact e h2.symm
    ·exact h h2
   ·refine .inr ⟨x::a,b,rfl,fun hm=>?_⟩
    rcases List.mem_cons.1 hm with h2|h2
    ·exact e h2.symm
    ·exact h h2
end Go.Proofs.YtchlgagdbflkmaaGreatDoor
end
section
open Go.RowKit Go.Pl
namespace Go.Av
section
variable {P:Program} {Q:X->St->Prop} {n:Nat} {ee:Nat × Nat} {tm:List (Nat × D)} {bx:List (List D)} {fr:List Fr}
variable {ops:Array Oper} {rest:List Oper} {t ty:Nat} {pos:String} {after:Array Edge}
theorem QP {ti:TypeId}{w:World}{ms:Array (String × TypeId)}(tp:TypeId)(v:Value)(hi:P.underlying ti=some (.interface ms)):(Op.equal ti (.iface tp v) .nilIface).run P w=.ok false w:=by
 have h:∀ d:Nat,(Op.equalIn (d+1) ti (.iface tp v) .nilIface).run P w=.ok false w:=fun d=>by simp[Op.equalIn,run_underlying hi]
 simp only[Op.equal]
 exact h _
theorem Xp [Known][Dfr]{op:BinOp}{x:Operand}{xt yt:Nat}{d d0:D}{t0:TypeId}(hx:ev tm x=.iface t0 d0)(hu:P.underlying xt=some (.interface (P.methodsAt xt)))(hd:(match op with | .eql=>some (D.bool false) | .neq=>some (D.bool true)|_=>none)=some d)(htd:Nat.blt t n=true)
  (k:AL P ops rest ⟨n,(t,d)::tm,bx,fr,ee⟩ Q):AL P ops (⟨some t,.binOp op xt x (.const .nilIface) yt,ty,pos,after,none⟩::rest) ⟨n,tm,bx,fr,ee⟩ Q:=
 Z6 _ htd (fun g a w hi=>by
  have h1:V w g fr (ev tm x) (a.eval x):=hi.ev x
  rw[hx]at h1
  obtain⟨v,h1⟩:∃ v,a.eval x=.iface t0 v:=by
   generalize a.eval x=v at h1
   cases h1 with|iface _ _ v _=>exact⟨v,rfl⟩
  have h2:a.eval (.const .nilIface)=.nilIface:=rfl
  have hrun:(Op.equal xt (.iface t0 v) .nilIface).run P w=.ok false w:=QP t0 v hu
  cases op<;>simp at hd<;>subst hd<;>first|exact⟨.bool false,by simp[execOp,h1,h2,eqGuard,binOp,Sem.run_bind,hrun],.bool _⟩ | exact⟨.bool true,by simp[execOp,h1,h2,eqGuard,binOp,Sem.run_bind,hrun],.bool _⟩) k
end
end Go.Av
end
section
open Go.RowKit Go.Pl Go.Av
namespace Go.Proofs.YtchlgagdbflkmaaGreatDoor
set_option maxHeartbeats 4000000
theorem KV (c:UInt8):∀ s:List UInt8,(Wg c s).1.length<=s.length/\(Wg c s).2.1.length<=s.length
 | []=>⟨Nat.le_refl _,Nat.le_refl _⟩
 | x::s=>by
  rw[Wg]
  have:=KV c s
  split
  ·simp
  ·simp;omega
theorem Xq (p s:List UInt8):(WG p s).1.length<=s.length:=by
 unfold WG
 split
 ·simp
 ·exact Nat.le_refl _
theorem Gt [Known](s:List UInt8)(c:UInt8)(hl:s.length<=4611686018427387904):AP Tryz.prog 167 [.str s,.str [c]] (.tup [.str (Wg c s).1,.str (Wg c s).2.1,.bool (Wg c s).2.2]) []:=by
 rcases Jt c s with h|⟨a,b,rfl,h⟩
 ·rw[O4 h];exact Hx s c h
 ·rw[UB h];exact Hy a b c h hl
theorem Ju [Known](s p:List UInt8)(hs:s.length<=4611686018427387904)(hp:p.length<=4611686018427387904):AP Tryz.prog 143 [.str s,.str p] (.tup [.str (WG p s).1,.bool (WG p s).2]) []:=by
 rcases IE s p with⟨r,rfl⟩ | h
 ·rw[Je];exact OF p r hs
 ·rw[O5 h];exact OG s p hs hp h
theorem T9 [Known](s:List UInt8)(hs:s.length<=140737488351232):AP Tryz.prog 145 [.str s] (.tup [.agg (eC (ppV s).1),.bool (ppV s).2]) []:=by
 have hP:=Ju s [47,47] (by omega) (by decide)
 have hl:=Xq [47,47] s
 unfold ppV
 dsimp only
 generalize (WG [47,47] s).1=r at *
 generalize (WG [47,47] s).2=ok at *
 have hC:=Gt r 47 (by omega)
 generalize (Wg 47 r).1=a at *
 generalize (Wg 47 r).2.1=b at *
 generalize (Wg 47 r).2.2=k at *
 have hR:=QA ⟨false,0,0,a,b⟩
 generalize ZY ⟨false,0,0,a,b⟩=R at *
 replace hR:AP Tryz.prog _ [.agg [.bool false,.int .u64 0,.int .u64 0,.str a,.str b]] (.bool R) []:=hR
 show AP Tryz.prog _ _ (.tup [.agg [.bool false,.int .u64 0,.int .u64 0,.str a,.str b],_]) _
 obtain⟨ne,h1⟩:∃ ne,(a != [])=ne:=⟨_,rfl⟩
 rw[h1]
 cases ok with
 | false=>
  refine AP.ofA (Zp Tryz.func145 Z Tryz.ntmps145 Z Z ?_)
  repeat'(first|(apply Zc (hP);kernel_rfl;(iterate 4 exact Z))|(apply Zc (hC);kernel_rfl;(iterate 4 exact Z))|(apply Zl Zb;exact Z)|(apply Zj Zb;exact Z)|refine Zs Z Z Z Qt ?_|refine Zn Z Qt Z Z ?_|(apply Za 14 Ze;decide +kernel;kernel_rfl;kernel_rfl;kernel_rfl;exact Z;exact Z)|(apply Zv;(iterate 4 exact Z))|exact AE.nil _ _ _ _|(apply ZB;exact Z)|(apply Y3;exact Z)|(apply ZD;exact Z;exact Z;decide +kernel;exact Z)|(apply ZE;exact Z)|(apply WP;exact Z)|exact AO.nil _ _ _|(apply Zu;(decide +kernel))|(apply ZP;(iterate 3 exact Z))|exact AOs.nil|exact ZR rfl rfl|exact Y6 rfl)
  all_goals exact Qe
 | true=>
  cases k with
  | false=>
   refine AP.ofA (Zp Tryz.func145 Z Tryz.ntmps145 Z Z ?_)
   repeat'(first|(apply Zc (hP);kernel_rfl;(iterate 4 exact Z))|(apply Zc (hC);kernel_rfl;(iterate 4 exact Z))|(apply Zl Zb;exact Z)|(apply Zj Zb;exact Z)|refine Zi Z Z Z Qt ?_|refine Zs Z Z Z Qt ?_|refine Zo Z Qt Z Z ?_|refine Zn Z Qt Z Z ?_|(apply Za 14 Ze;decide +kernel;kernel_rfl;kernel_rfl;kernel_rfl;exact Z;exact Z)|(apply Zv;(iterate 4 exact Z))|exact AE.nil _ _ _ _|(apply ZB;exact Z)|(apply Y3;exact Z)|(apply ZD;exact Z;exact Z;decide +kernel;exact Z)|(apply ZE;exact Z)|(apply WP;exact Z)|exact AO.nil _ _ _|(apply Zu;(decide +kernel))|(apply ZP;(iterate 3 exact Z))|exact AOs.nil|exact ZR rfl rfl|exact Y6 rfl)
   all_goals exact Qe
  | true=>
   cases ne<;>cases R
   all_goals
    refine AP.ofA (Zp Tryz.func145 Z Tryz.ntmps145 Z Z ?_)
    repeat'(first|rw[h1]|(apply Zc (hP);kernel_rfl;(iterate 4 exact Z))|(apply Zc (hC);kernel_rfl;(iterate 4 exact Z))|(apply Zc (hR);kernel_rfl;(iterate 4 exact Z))|(apply Zl Zb;exact Z)|(apply Zj Zb;exact Z)|refine Zi Z Z Z Qt ?_|refine Zs Z Z Z Qt ?_|refine Zo Z Qt Z Z ?_|refine Zn Z Qt Z Z ?_|(apply Za 14 Ze;decide +kernel;kernel_rfl;kernel_rfl;kernel_rfl;exact Z;exact Z)|(apply Zv;(iterate 4 exact Z))|exact AE.nil _ _ _ _|(apply ZB;exact Z)|(apply Y3;exact Z)|(apply ZD;exact Z;exact Z;decide +kernel;exact Z)|(apply ZE;exact Z)|(apply WP;exact Z)|exact AO.nil _ _ _|(apply Zu;(decide +kernel))|(apply ZP;(iterate 3 exact Z))|exact AOs.nil|exact ZR rfl rfl|exact Y6 rfl)
    all_goals exact Qe
theorem Uk {x:RqV}(h:ZI x=true):x.kd=1\/x.kd=2\/x.kd=3\/x.kd=4\/x.kd=5\/x.kd=6\/x.kd=7\/x.kd=8\/x.kd=9\/x.kd=10\/x.kd=11\/x.kd=12:=by
 rcases Xe x.kd with h1|h1|h1|h1|h1|h1|h1|h1|h1|h1|h1|h1|⟨n1,n2,n3,n4,n5,n6,n7,n8,n9,n10,n11,n12⟩
 all_goals first|(simp[h1];done)|skip
 exfalso
 unfold ZI VS at h
 simp[n1,n2,n3,n4,n5,n6,n7,n8,n9,n10,n11,n12]at h
end Go.Proofs.YtchlgagdbflkmaaGreatDoor
end

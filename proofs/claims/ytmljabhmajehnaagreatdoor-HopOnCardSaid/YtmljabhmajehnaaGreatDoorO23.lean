/- Package strings: a prefix cut off; a text cut at a byte. -/
import Derived.Test.YtmljabhmajehnaaGreatDoorO22
import Derived.Test.YtmljabhmajehnaaGreatDoorO08
import Derived.LaidEql
import Derived.Test.YtmljabhmajehnaaGreatDoorO13
import Derived.Test.YtmljabhmajehnaaGreatDoorO16
set_option linter.unusedVariables false
set_option linter.unusedSimpArgs false
section
open Go.RowKit Go.Pl Go.Av
namespace Go.Proofs.YtmljabhmajehnaaGreatDoor
set_option maxHeartbeats 4000000
theorem OW [Known](s p:List UInt8)(hs:s.length<=4611686018427387904)(hp:p.length<=4611686018427387904):AP Tryz.prog 197 [.str s,.str p] (.bool (s.take p.length==p)) []:=by
 by_cases h:p.length<=s.length
 ·have t1:decide ((s.length:Int) ≥ (p.length:Int))=true:=decide_eq_true (by omega)
  have hq:((p.length:Nat):Int).toNat<=s.length:=by rw[Int.toNat_natCast];exact h
  have hs2:(s.take ((p.length:Nat):Int).toNat).drop 0=s.take p.length:=by rw[Int.toNat_natCast,List.drop_zero]
  generalize s.take p.length=s2 at *
  refine AP.ofA (Zl Tryz.func197 U Tryz.ntmps197 U U ?_)
  repeat'(first|refine YN Za U U U U (.dft _) (.lit _ _ _ _ rfl (Int.natCast_nonneg _)) (Nat.zero_le _) hq hs2 ?_|(apply Zh Za;exact U)|(apply Zg Za;exact U)|refine Ze U U U Qt ?_|refine Zk U Qt U U ?_|refine Yh Za U U U U ?_)
  all_goals exact Qe
 ·have t1:decide ((s.length:Int) ≥ (p.length:Int))=false:=decide_eq_false (by omega)
  have e:(s.take p.length==p)=false:=by
   rw[beq_eq_false_iff_ne]
   intro e
   have:=congrArg List.length e
   rw[List.length_take]at this
   omega
  rw[e]
  refine AP.ofA (Zl Tryz.func197 U Tryz.ntmps197 U U ?_)
  repeat'(first|(apply Zh Za;exact U)|(apply Zg Za;exact U)|refine Zr U U U Qt ?_|refine Zi U Qt U U ?_|refine Yh Za U U U U ?_)
  all_goals exact Qe
theorem Tj [Known](p r:List UInt8)(hs:(p++r).length<=4611686018427387904):AP Tryz.prog 169 [.str (p++r),.str p] (.tup [.str r,.bool true]) []:=by
 have hH:=OW (p++r) p hs (by rw[List.length_append]at hs;omega)
 rw[List.take_left,beq_self_eq_true]at hH
 have hq:((p.length:Nat):Int).toNat<=(p++r).length:=by rw[Int.toNat_natCast,List.length_append];omega
 have hs2:((p++r).take (p++r).length).drop ((p.length:Nat):Int).toNat=r:=by rw[Int.toNat_natCast,List.take_length,List.drop_left]
 have hC:AP Tryz.prog 189 [.str (p++r),.str p] (.tup [.str r,.bool true]) []:=by
  generalize p++r=s at *
  refine AP.ofA (Zl Tryz.func189 U Tryz.ntmps189 U U ?_)
  repeat'(first|(apply Zb (hH);kernel_rfl;(iterate 4 exact U))|refine YN Za U U U U (.lit _ _ _ _ rfl (Int.natCast_nonneg _)) (.dft _) hq (Nat.le_refl _) hs2 ?_|(apply Zh Za;exact U)|(apply Zg Za;exact U)|(apply Zo Za;exact U)|refine Zf U Qt ?_|refine Yh Za U U U U ?_)
  all_goals exact Qe
 refine AP.ofA (Zl Tryz.func169 U Tryz.ntmps169 U U ?_)
 repeat'(first|(apply Zb (hC);kernel_rfl;(iterate 4 exact U))|(apply Zh Za;exact U)|(apply Zg Za;exact U))
 all_goals exact Qe
theorem Tk [Known](s p:List UInt8)(hs:s.length<=4611686018427387904)(hp:p.length<=4611686018427387904)(h:(s.take p.length==p)=false):AP Tryz.prog 169 [.str s,.str p] (.tup [.str s,.bool false]) []:=by
 have hH:=OW s p hs hp
 rw[h]at hH
 have hC:AP Tryz.prog 189 [.str s,.str p] (.tup [.str s,.bool false]) []:=by
  refine AP.ofA (Zl Tryz.func189 U Tryz.ntmps189 U U ?_)
  repeat'(first|(apply Zb (hH);kernel_rfl;(iterate 4 exact U))|(apply Zh Za;exact U)|(apply Zg Za;exact U)|(apply Zo Za;exact U)|refine Zd U Qt ?_)
  all_goals exact Qe
 refine AP.ofA (Zl Tryz.func169 U Tryz.ntmps169 U U ?_)
 repeat'(first|(apply Zb (hC);kernel_rfl;(iterate 4 exact U))|(apply Zh Za;exact U)|(apply Zg Za;exact U))
 all_goals exact Qe
theorem Mg (s p:List UInt8):(∃ r,s=p++r)\/(s.take p.length==p)=false:=by
 cases h:s.take p.length==p with
 | true=>
  refine .inl ⟨s.drop p.length,?_⟩
  have:=beq_iff_eq.1 h
  conv=>lhs;rw[<- List.take_append_drop p.length s,this]
 | false=>exact .inr rfl
theorem LS:∀ {l:List UInt8} {c:UInt8},c ∉ l->Lib.indexByte l c = -1
 | [],_,_=>rfl
 | x::l,c,h=>by
  have h1:¬ x=c:=fun e=>h (by rw[e];exact List.mem_cons_self ..)
  have h2:=LS (l:=l) (c:=c) fun hm=>h (List.mem_cons_of_mem _ hm)
  simp[Lib.indexByte,h1,h2]
theorem Np:∀ {a b:List UInt8} {c:UInt8},c ∉ a->Lib.indexByte (a++c::b) c=(a.length:Int)
 | [],b,c,_=>by simp[Lib.indexByte]
 | x::a,b,c,h=>by
  have h1:¬ x=c:=fun e=>h (by rw[e];exact List.mem_cons_self ..)
  have h2:=Np (a:=a) (b:=b) (c:=c) fun hm=>h (List.mem_cons_of_mem _ hm)
  rw[List.cons_append]
  simp only[Lib.indexByte,h2,List.length_cons,beq_iff_eq,h1,if_false]
  (repeat' split)<;>omega
theorem OX [Known](s:List UInt8)(c:UInt8):AP Tryz.prog 198 [.str s,.str [c]] (.int .i64 (Lib.indexByte s c)) []:=by
 have hI:=BR s (c.toNat:Int)
 have e:((c.toNat:Int)).toNat.toUInt8=c:=by rw[Int.toNat_natCast];simp
 rw[e]at hI
 have t0:((([c]:List UInt8).length:Int)==0)=false:=rfl
 have t1:((([c]:List UInt8).length:Int)==1)=true:=rfl
 by_cases hs:[c]=s
 ·subst hs
  have t2:([c]==[c])=true:=by simp
  have e0:Lib.indexByte [c] c=0:=by simp[Lib.indexByte]
  rw[e0]
  refine AP.ofA (Zl Tryz.func198 U Tryz.ntmps198 U U ?_)
  repeat'(first|(apply Zh Za;exact U)|(apply Zg Za;exact U)|(apply Zo Za;exact U)|refine Ze U U U Qt ?_|refine Zi U Qt U U ?_|refine Zd U Qt ?_|refine Yh Za U U U U ?_)
  all_goals exact Qe
 ·have t2:([c]==s)=false:=by simpa using hs
  refine AP.ofA (Zl Tryz.func198 U Tryz.ntmps198 U U ?_)
  repeat'(first|(apply Zb (hI);kernel_rfl;(iterate 4 exact U))|refine V0 Za U U U U U Qd U ?_|(apply Zh Za;exact U)|(apply Zg Za;exact U)|(apply Zo Za;exact U)|refine Ze U U U Qt ?_|refine Zi U Qt U U ?_|refine Zd U Qt ?_|refine Zf U Qt ?_|refine Yh Za U U U U ?_)
  all_goals exact Qe
theorem SJ [Known](s:List UInt8)(c:UInt8)(h:c ∉ s):AP Tryz.prog 170 [.str s,.str [c]] (.tup [.str s,.str [],.bool false]) []:=by
 have hI:=OX s c
 rw[LS h]at hI
 have hC:AP Tryz.prog 190 [.str s,.str [c]] (.tup [.str s,.str [],.bool false]) []:=by
  refine AP.ofA (Zl Tryz.func190 U Tryz.ntmps190 U U ?_)
  repeat'(first|(apply Zb (hI);kernel_rfl;(iterate 4 exact U))|(apply Zh Za;exact U)|(apply Zg Za;exact U)|refine Zf U Qt ?_)
  all_goals exact Qe
 refine AP.ofA (Zl Tryz.func170 U Tryz.ntmps170 U U ?_)
 repeat'(first|(apply Zb (hC);kernel_rfl;(iterate 4 exact U))|(apply Zh Za;exact U)|(apply Zg Za;exact U))
 all_goals exact Qe
theorem SK [Known](a b:List UInt8)(c:UInt8)(h:c ∉ a)(hl:(a++c::b).length<=4611686018427387904):AP Tryz.prog 170 [.str (a++c::b),.str [c]] (.tup [.str a,.str b,.bool true]) []:=by
 have hI:=OX (a++c::b) c
 rw[Np h]at hI
 have hal:a.length+1<=(a++c::b).length:=by rw[List.length_append,List.length_cons];omega
 have t1:decide ((a.length:Int) ≥ 0)=true:=decide_eq_true (by omega)
 have e1:IntKind.i64.wrap ((a.length:Int)+(([c]:List UInt8).length:Int))=((a.length+1:Nat):Int):=by
  rw[IntWalk.i64_in _ (by simp;omega)];simp
 have q1:((a.length:Nat):Int).toNat<=(a++c::b).length:=by rw[Int.toNat_natCast];omega
 have q2:((a.length+1:Nat):Int).toNat<=(a++c::b).length:=by rw[Int.toNat_natCast];omega
 have s1:((a++c::b).take ((a.length:Nat):Int).toNat).drop 0=a:=by rw[Int.toNat_natCast,List.drop_zero,List.take_left]
 have s2:((a++c::b).take (a++c::b).length).drop ((a.length+1:Nat):Int).toNat=b:=by
  rw[Int.toNat_natCast,List.take_length,show a.length+1=(a++[c]).length by simp,show a++c::b=(a++[c])++b by simp,List.drop_left]
 have hC:AP Tryz.prog 190 [.str (a++c::b),.str [c]] (.tup [.str a,.str b,.bool true]) []:=by
  generalize a++c::b=s at *
  refine AP.ofA (Zl Tryz.func190 U Tryz.ntmps190 U U ?_)
  repeat'(first|rw[e1]|(apply Zb (hI);kernel_rfl;(iterate 4 exact U))|refine YN Za U U U U (.dft _) (.lit _ _ _ _ rfl (Int.natCast_nonneg _)) (Nat.zero_le _) q1 s1 ?_|refine YN Za U U U U (.lit _ _ _ _ rfl (Int.natCast_nonneg _)) (.dft _) q2 (Nat.le_refl _) s2 ?_|(apply Zh Za;exact U)|(apply Zg Za;exact U)|refine Zd U Qt ?_|refine Yh Za U U U U ?_|(apply Zq 10 ZF;decide +kernel;kernel_rfl;kernel_rfl;kernel_rfl;exact U;exact U)|(apply Zt;(iterate 4 exact U))|exact AE.nil _ _ _ _|(apply Zw;exact U)|(apply Zz;exact U;exact U;decide +kernel;exact U)|(apply ZA;exact U)|exact AO.nil _ _ _|(apply Zs;(decide +kernel))|exact AOs.nil|exact ZI rfl rfl)
  all_goals exact Qe
 refine AP.ofA (Zl Tryz.func170 U Tryz.ntmps170 U U ?_)
 repeat'(first|(apply Zb (hC);kernel_rfl;(iterate 4 exact U))|(apply Zh Za;exact U)|(apply Zg Za;exact U))
 all_goals exact Qe
theorem Xw (c:UInt8):∀ s:List UInt8,(c ∉ s)\/∃ a b,s=a++c::b/\c ∉ a
 | []=>.inl (by simp)
 | x::s=>by
  by_cases e:x=c
  ·subst e;exact .inr ⟨[],s,rfl,by simp⟩
  ·rcases Xw c s with h|⟨a,b,rfl,h⟩
   ·refine .inl fun hm=>?_
    rcases List.mem_cons.1 hm with h2|h2
    ·exact e h2.symm
    ·exact h h2
   ·refine .inr ⟨x::a,b,rfl,fun hm=>?_⟩
    rcases List.mem_cons.1 hm with h2|h2
    ·exact e h2.symm
    ·exact h h2
end Go.Proofs.YtmljabhmajehnaaGreatDoor
end
section
open Go.RowKit Go.Pl
namespace Go.Av
section
variable {P:Program} {Q:X->St->Prop} {n:Nat} {ee:Nat × Nat} {tm:List (Nat × D)} {bx:List (List D)} {fr:List Fr}
variable {ops:Array Oper} {rest:List Oper} {t ty:Nat} {pos:String} {after:Array Edge}
end
end Go.Av
end
section
open Go.RowKit Go.Pl Go.Av
namespace Go.Proofs.YtmljabhmajehnaaGreatDoor
set_option maxHeartbeats 4000000
theorem LU (p s:List UInt8):(Vc p s).1.length<=s.length:=by
 unfold Vc
 split
 ·simp
 ·exact Nat.le_refl _
theorem BS [Known](s:List UInt8)(c:UInt8)(hl:s.length<=4611686018427387904):AP Tryz.prog 170 [.str s,.str [c]] (.tup [.str (WM c s).1,.str (WM c s).2.1,.bool (WM c s).2.2]) []:=by
 rcases Xw c s with h|⟨a,b,rfl,h⟩
 ·rw[Nn h];exact SJ s c h
 ·rw[Uj h];exact SK a b c h hl
theorem Mh [Known](s p:List UInt8)(hs:s.length<=4611686018427387904)(hp:p.length<=4611686018427387904):AP Tryz.prog 169 [.str s,.str p] (.tup [.str (Vc p s).1,.bool (Vc p s).2]) []:=by
 rcases Mg s p with⟨r,rfl⟩ | h
 ·rw[QO];exact Tj p r hs
 ·rw[No h];exact Tk s p hs hp h
theorem DL [Known](s:List UInt8)(hs:s.length<=140737488351232):AP Tryz.prog 147 [.str s] (.tup [.agg (eC (ppV s).1),.bool (ppV s).2]) []:=by
 have hP:=Mh s [47,47] (by omega) (by decide)
 have hl:=LU [47,47] s
 unfold ppV
 dsimp only
 generalize (Vc [47,47] s).1=r at *
 generalize (Vc [47,47] s).2=ok at *
 have hC:=BS r 47 (by omega)
 generalize (WM 47 r).1=a at *
 generalize (WM 47 r).2.1=b at *
 generalize (WM 47 r).2.2=k at *
 have hR:=VI ⟨false,0,0,a,b⟩
 generalize ZE ⟨false,0,0,a,b⟩=R at *
 replace hR:AP Tryz.prog _ [.agg [.bool false,.int .u64 0,.int .u64 0,.str a,.str b]] (.bool R) []:=hR
 show AP Tryz.prog _ _ (.tup [.agg [.bool false,.int .u64 0,.int .u64 0,.str a,.str b],_]) _
 obtain⟨ne,h1⟩:∃ ne,(a != [])=ne:=⟨_,rfl⟩
 rw[h1]
 cases ok with
 | false=>
  refine AP.ofA (Zl Tryz.func147 U Tryz.ntmps147 U U ?_)
  repeat'(first|(apply Zb (hP);kernel_rfl;(iterate 4 exact U))|(apply Zb (hC);kernel_rfl;(iterate 4 exact U))|(apply Zh Za;exact U)|(apply Zg Za;exact U)|refine Zr U U U Qt ?_|refine Zi U Qt U U ?_|(apply Zq 14 ZF;decide +kernel;kernel_rfl;kernel_rfl;kernel_rfl;exact U;exact U)|(apply Zt;(iterate 4 exact U))|exact AE.nil _ _ _ _|(apply Zw;exact U)|(apply WI;exact U)|(apply Zz;exact U;exact U;decide +kernel;exact U)|(apply ZA;exact U)|(apply VA;exact U)|exact AO.nil _ _ _|(apply Zs;(decide +kernel))|(apply Yf;(iterate 3 exact U))|exact AOs.nil|exact ZI rfl rfl|exact WP rfl)
  all_goals exact Qe
 | true=>
  cases k with
  | false=>
   refine AP.ofA (Zl Tryz.func147 U Tryz.ntmps147 U U ?_)
   repeat'(first|(apply Zb (hP);kernel_rfl;(iterate 4 exact U))|(apply Zb (hC);kernel_rfl;(iterate 4 exact U))|(apply Zh Za;exact U)|(apply Zg Za;exact U)|refine Ze U U U Qt ?_|refine Zr U U U Qt ?_|refine Zk U Qt U U ?_|refine Zi U Qt U U ?_|(apply Zq 14 ZF;decide +kernel;kernel_rfl;kernel_rfl;kernel_rfl;exact U;exact U)|(apply Zt;(iterate 4 exact U))|exact AE.nil _ _ _ _|(apply Zw;exact U)|(apply WI;exact U)|(apply Zz;exact U;exact U;decide +kernel;exact U)|(apply ZA;exact U)|(apply VA;exact U)|exact AO.nil _ _ _|(apply Zs;(decide +kernel))|(apply Yf;(iterate 3 exact U))|exact AOs.nil|exact ZI rfl rfl|exact WP rfl)
   all_goals exact Qe
  | true=>
   cases ne<;>cases R
   all_goals
    refine AP.ofA (Zl Tryz.func147 U Tryz.ntmps147 U U ?_)
    repeat'(first|rw[h1]|(apply Zb (hP);kernel_rfl;(iterate 4 exact U))|(apply Zb (hC);kernel_rfl;(iterate 4 exact U))|(apply Zb (hR);kernel_rfl;(iterate 4 exact U))|(apply Zh Za;exact U)|(apply Zg Za;exact U)|refine Ze U U U Qt ?_|refine Zr U U U Qt ?_|refine Zk U Qt U U ?_|refine Zi U Qt U U ?_|(apply Zq 14 ZF;decide +kernel;kernel_rfl;kernel_rfl;kernel_rfl;exact U;exact U)|(apply Zt;(iterate 4 exact U))|exact AE.nil _ _ _ _|(apply Zw;exact U)|(apply WI;exact U)|(apply Zz;exact U;exact U;decide +kernel;exact U)|(apply ZA;exact U)|(apply VA;exact U)|exact AO.nil _ _ _|(apply Zs;(decide +kernel))|(apply Yf;(iterate 3 exact U))|exact AOs.nil|exact ZI rfl rfl|exact WP rfl)
    all_goals exact Qe
end Go.Proofs.YtmljabhmajehnaaGreatDoor
end
section
open Go.RowKit Go.Pl
namespace Go.Av
inductive Zy where
 | pu (d:D)
 | al (cs:List D)
def z0 (p:Nat × Zy):Nat × D:=(p.1,match p.2 with | .pu d=>d | .al _=>.junk)
def BT:Nat->List (Nat × Zy)->List (Nat × D)->List (Nat × D)
 | _,[],tm=>tm
 | m,(_,.pu _)::zs,tm=>BT m zs tm
 | m,(t,.al _)::zs,tm=>BT (m+1) zs ((t,.ptr m 0)::tm)
def zcs:List (Nat × Zy)->List (List D)
 | []=>[]
 | (_,.pu _)::zs=>zcs zs
 | (_,.al cs)::zs=>cs::zcs zs
section
variable {P:Program} {T:Tab} {Q:X->St->Prop} {n:Nat} {ee:Nat × Nat} {tm tm':List (Nat × D)} {bx:List (List D)} {fr:List Fr} {b0:Bs} {g g':G} {w w':World} {a:Act}
inductive AZ [Known][Dfr](P:Program) (T:Tab) (l:List Oper) (n:Nat) (bx:List (List D)) (fr:List Fr):List Oper->List (Nat × D)->List (Nat × Zy)->List (Nat × D)->Prop
 | nil (tm:List (Nat × D)):AZ P T l n bx fr [] tm [] tm
 | pu (o:Oper) (rest:List Oper) (t:Nat) (d:D) (tm:List (Nat × D)) (zs:List (Nat × Zy)) (tm':List (Nat × D)) (hd:o.dst=some t) (ht:Nat.blt t n=true) (h:AL P l.toArray [o] ⟨n,Yt l o tm,bx,fr,(bx.length,fr.length)⟩ (qY o bx fr (.pu d))) (k:AZ P T l n bx fr rest ((t,d)::tm) zs tm'):AZ P T l n bx fr (o::rest) tm ((t,.pu d)::zs) tm'
 | al (t:Nat) (e:TypeId) (ty:Nat) (pos:String) (after:Array Edge) (rest:List Oper) (ti:Ti) (tm:List (Nat × D)) (zs:List (Nat × Zy)) (tm':List (Nat × D)) (ht:Nat.blt t n=true) (hti:tl T e=some ti) (k:AZ P T l n bx fr rest ((t,.junk)::tm) zs tm'):AZ P T l n bx fr (⟨some t,.alloc e,ty,pos,after,none⟩::rest) tm ((t,.al (ti.zero.map ZK.d))::zs) tm'
theorem Qj (l:List Oper)(o:Oper):∀ tm:List (Nat × D),Yt l o tm=tm.filter fun p=>(WO l o).contains p.1
 | []=>rfl
 | p::tm=>by
  rw[Yt,List.filter_cons,Qj l o tm]
  cases(WO l o).contains p.1<;>rfl
theorem Evo.al [Known](hm:Mem g bx fr w)(o:Obj):Evo ⟨g,fr,w⟩ ⟨g,fr,w.alloc o⟩:=
 ⟨rfl,rfl,rfl,by simp,fun k hk _=>Below.heap_alloc w _ k hk,fun _ _ h=>h,fun k p h=>WN w _ (hm.Clt k p h) p,fun _ _ h=>.inl h,fun _ _ h=>h,fun _ h=>.inl h,fun k c h=>.inl ⟨c,h⟩,Ve.refl _ _⟩
theorem Mem.al [Known](hm:Mem g bx fr w)(o:Obj):Mem g bx fr (w.alloc o) where
 bl:=hm.bl
 bat i k cs' h1 h2:=by
  obtain⟨us,ty,k1,k2,k3⟩:=hm.bat i k cs' h1 h2
  exact⟨us,ty,(Below.heap_alloc w _ k (Array.getElem?_eq_some_iff.1 k1).1).trans k1,k2,fun j d v hd hv=>(k3 j d v hd hv).evo (Evo.al hm o)⟩
 bC:=hm.bC
 bN:=hm.bN
 tl:=hm.tl
 tat i k c f h1 h2:=by
  have hT:=hm.tat i k c f h1 h2
  obtain⟨cur,r1,r2⟩:=hT.row
  exact⟨⟨cur,(Below.heap_alloc w _ k (Array.getElem?_eq_some_iff.1 r1).1).trans r1,r2⟩,hT.le,hT.max,hT.pos,hT.far⟩
 tN:=hm.tN
 tρ:=hm.tρ
 Clt k p hC:=by
  have:=hm.Clt k p hC
  simp;omega
 gl:=hm.gl.evo (Evo.al hm o)
theorem LV {k k':Nat}(h:M ⟨g.C,g.ρ++[k],g.τ⟩ k'):M g k'\/k'=k:=by
 rcases h with h|h
 ·rcases List.mem_append.1 h with h|h
  ·exact .inl (.inl h)
  ·simp at h;exact .inr h
 ·exact .inl (.inr h)
structure AZk [Known][Dfr](P:Program) (l acts:List Oper) (n:Nat) (zs:List (Nat × Zy)) (tm:List (Nat × D)) (bx:List (List D)) (fr:List Fr) (ee:Nat × Nat) (Q:X->St->Prop):Prop where
 run:AL P l.toArray acts ⟨n,BT bx.length zs tm,bx++zcs zs,fr,ee⟩ Q
end
end Go.Av
end
section
open Go.RowKit Go.Pl Go.Av
namespace Go.Proofs.YtmljabhmajehnaaGreatDoor
set_option maxHeartbeats 4000000
def W0 (m:Nat)(x:It):Bool:=It.beq x (.mk 0 m [] [])
def UQ:It->Option (Nat × Nat)
 | .mk k _ _ [y0,y1]=>if k=4 then(match W0 y0.n y0&&W0 y1.n y1 with|true=>some (y0.n,y1.n)|false=>none) else none
 | _=>none
def DM:Option (Nat × Nat)->D
 | some (a,b)=>.tup [.sl .ext [.int .u64 (a:Int),.int .u64 (b:Int)],.bool true]
 | none=>.tup [.sl .ext [],.bool false]
theorem Uk [Known](x:It)(hw:wfI x)(m:Nat)(hm:m<18446744073709551616):AP Tryz.prog 96 [itD x,.agg [.int .i64 0,.int .u64 (m:Int),.sl .ext [],.sl .ext []]] (.bool (W0 m x)) []:=
 Ki x hw (.mk 0 m [] []) (by simp[wfI,wfs];omega)
theorem Ql [Known](n:Nat):AP Tryz.prog 65 [.int .u64 (n:Int)] (.agg [.int .i64 0,.int .u64 (n:Int),.sl .ext [],.sl .ext []]) []:=Wc n
theorem SL [Known](x:It)(hw:wfI x):AP Tryz.prog 148 [itD x,.int .i64 2] (DM (UQ x)) []:=by
 obtain⟨k,n,b,l⟩:=x
 obtain⟨_,_,_,hws⟩:=hw
 by_cases hk:k=4
 case neg=>
  have t1:(k != 4)=true:=by simpa using hk
  have e:UQ (.mk k n b l)=none:=by unfold UQ;split<;>simp_all
  rw[e]
  refine AP.ofA (Zl Tryz.func148 U Tryz.ntmps148 U U ?_)
  repeat'(first|(apply Zh Za;exact U)|(apply Zg Za;exact U)|(apply Zo Za;exact U)|refine Zn U U U Qt ?_|refine Zk U Qt U U ?_|refine Zd U Qt ?_)
  all_goals exact Qe
 subst hk
 have t1:((4:Int) != 4)=false:=rfl
 by_cases hl:l.length=2
 case neg=>
  have t2:(((Zx l).length:Int) != 2)=true:=by rw[Zv];simp;omega
  have e:UQ (.mk 4 n b l)=none:=by unfold UQ;split<;>simp_all
  rw[e]
  refine AP.ofA (Zl Tryz.func148 U Tryz.ntmps148 U U ?_)
  repeat'(first|(apply Zh Za;exact U)|(apply Zg Za;exact U)|(apply Zo Za;exact U)|refine Ze U U U Qt ?_|refine Zi U Qt U U ?_|refine Zd U Qt ?_|refine Zm Za U U U U ?_)
  all_goals exact Qe
 match l,hl with
 | [⟨k0,n0,b0,l0⟩,⟨k1,n1,b1,l1⟩],_=>
  have hU:=Wl [It.mk k0 n0 b0 l0,It.mk k1 n1 b1 l1]
  obtain⟨hw0,hw1,_⟩:=hws
  have m0:n0<18446744073709551616:=hw0.1
  have m1:n1<18446744073709551616:=hw1.1
  have h0:=Uk _ hw0 n0 m0
  have h1:=Uk _ hw1 n1 m1
  have a0:=Ql n0
  have a1:=Ql n1
  unfold UQ
  simp only[It.n,if_true]
  have t2:(((Zx [It.mk k0 n0 b0 l0,It.mk k1 n1 b1 l1]).length:Int) != 2)=false:=rfl
  have t3:decide ((0:Int)<((Zx [It.mk k0 n0 b0 l0,It.mk k1 n1 b1 l1]).length:Int))=true:=rfl
  have t4:decide ((IntKind.i64.wrap (0+1):Int)<((Zx [It.mk k0 n0 b0 l0,It.mk k1 n1 b1 l1]).length:Int))=true:=rfl
  have t5:decide ((IntKind.i64.wrap (IntKind.i64.wrap (0+1)+1):Int)<((Zx [It.mk k0 n0 b0 l0,It.mk k1 n1 b1 l1]).length:Int))=false:=rfl
  have hv0:(Zx [It.mk k0 n0 b0 l0,It.mk k1 n1 b1 l1])[Int.toNat 0]?=some (.agg [.int .i64 k0,.int .u64 (n0:Int),.sl (b0.map E.byte),.sl (Zx l0)]):=rfl
  cases c0:W0 n0 (.mk k0 n0 b0 l0) with
  | false=>
   rw[c0]at h0
   refine AP.ofA (Zl Tryz.func148 U Tryz.ntmps148 U U ?_)
   repeat'(first|(apply Zb (h0);kernel_rfl;(iterate 4 exact U))|(apply Zb (a0);kernel_rfl;(iterate 4 exact U))|refine Yo 70 ?_|refine YH ?_|(apply Zh Za;exact U)|(apply Zg Za;exact U)|(apply Zo Za;exact U)|refine Ze U U U Qt ?_|refine Zi U Qt U U ?_|refine Zd U Qt ?_|refine Zf U Qt ?_|refine Z0 ?_|refine Zm Za U U U U ?_|(apply Zq 4 ZF;decide +kernel;kernel_rfl;kernel_rfl;kernel_rfl;exact U;exact U)|(apply Zt;(iterate 4 exact U))|exact AE.nil _ _ _ _|(apply Zw;exact U)|(apply Zz;exact U;exact U;decide +kernel;exact U)|(apply ZA;exact U)|exact AO.nil _ _ _|(apply Zs;(decide +kernel))|exact AOs.nil|exact ZI rfl rfl|(apply Zu Za;(iterate 6 exact U);(first|exact Qt|rotate_left);(first|with_reducible assumption|decide +kernel|exact U);(first|exact Zj rfl|with_reducible assumption|decide +kernel|rotate_left)))
   all_goals exact Qe
  | true=>
   rw[c0]at h0
   cases c1:W0 n1 (.mk k1 n1 b1 l1) with
   | false=>
    rw[c1]at h1
    refine AP.ofA (Zl Tryz.func148 U Tryz.ntmps148 U U ?_)
    repeat'(first|(apply Zb (h0);kernel_rfl;(iterate 4 exact U))|(apply Zb (a0);kernel_rfl;(iterate 4 exact U))|(apply Zb (h1);kernel_rfl;(iterate 4 exact U))|(apply Zb (a1);kernel_rfl;(iterate 4 exact U))|refine Yo 70 ?_|refine YH ?_|refine ZT Za U U U U U U (Zj rfl) (List.cons_ne_nil _ _) U Qd Qd U U U ?_|(apply Zh Za;exact U)|(apply Zg Za;exact U)|(apply Zo Za;exact U)|refine Ze U U U Qt ?_|refine Zi U Qt U U ?_|refine Zd U Qt ?_|refine Zf U Qt ?_|refine Z0 ?_|refine Zm Za U U U U ?_|refine ZO Za U U U U U U U U U U U U ?_|(apply Zq 4 ZF;decide +kernel;kernel_rfl;kernel_rfl;kernel_rfl;exact U;exact U)|(apply Zt;(iterate 4 exact U))|exact AE.nil _ _ _ _|(apply Zw;exact U)|(apply Zz;exact U;exact U;decide +kernel;exact U)|(apply ZA;exact U)|exact AO.nil _ _ _|(apply Zs;(decide +kernel))|exact AOs.nil|exact ZI rfl rfl|(apply Zu Za;(iterate 6 exact U);(first|exact Qt|rotate_left);(first|with_reducible assumption|decide +kernel|exact U);(first|exact Zj rfl|with_reducible assumption|decide +kernel|rotate_left)))
    all_goals exact Qe
   | true=>
    rw[c1]at h1
    refine AP.ofA (Zl Tryz.func148 U Tryz.ntmps148 U U ?_)
    repeat'(first|(apply Zb (h0);kernel_rfl;(iterate 4 exact U))|(apply Zb (a0);kernel_rfl;(iterate 4 exact U))|(apply Zb (h1);kernel_rfl;(iterate 4 exact U))|(apply Zb (a1);kernel_rfl;(iterate 4 exact U))|refine Yo 70 ?_|refine YH ?_|refine Wk Za U U U U U U U U U U U (Zj rfl) (Zj rfl) (List.cons_ne_nil _ _) Qd Qd U U ?_|refine ZT Za U U U U U U (Zj rfl) (List.cons_ne_nil _ _) U Qd Qd U U U ?_|(apply Zh Za;exact U)|(apply Zg Za;exact U)|(apply Zo Za;exact U)|refine Ze U U U Qt ?_|refine Zi U Qt U U ?_|refine Zd U Qt ?_|refine Zf U Qt ?_|refine Zm Za U U U U ?_|refine ZO Za U U U U U U U U U U U U ?_|(apply Zq 4 ZF;decide +kernel;kernel_rfl;kernel_rfl;kernel_rfl;exact U;exact U)|(apply Zt;(iterate 4 exact U))|exact AE.nil _ _ _ _|(apply Zw;exact U)|(apply Zz;exact U;exact U;decide +kernel;exact U)|(apply ZA;exact U)|exact AO.nil _ _ _|(apply Zs;(decide +kernel))|exact AOs.nil|exact ZI rfl rfl|(apply Zu Za;(iterate 6 exact U);(first|exact Qt|rotate_left);(first|with_reducible assumption|decide +kernel|exact U);(first|exact Zj rfl|with_reducible assumption|decide +kernel|rotate_left)))
    all_goals exact Qe
end Go.Proofs.YtmljabhmajehnaaGreatDoor
end

/- The document's blocks: which may be, joined (dkgen.py). -/
import Derived.Test.YtmljabhmajehnaaGreatDoorR42
import Derived.Test.YtmljabhmajehnaaGreatDoorR29
import Derived.Test.YtmljabhmajehnaaGreatDoorR41
import Derived.Test.YtmljabhmajehnaaGreatDoorR30
import Derived.Test.YtmljabhmajehnaaGreatDoorR36
import Derived.Test.YtmljabhmajehnaaGreatDoorR19
import Derived.Test.YtmljabhmajehnaaGreatDoorR20
import Derived.Test.YtmljabhmajehnaaGreatDoorR13
import Derived.Test.YtmljabhmajehnaaGreatDoorR21
set_option linter.unusedVariables false
set_option linter.unusedSimpArgs false
section
open Go.RowKit Go.Pl Go.Av
namespace Go.Proofs.YtmljabhmajehnaaGreatDoor
set_option maxHeartbeats 4000000
theorem DZ (fl:Nat)(h:fl<18446744073709551616):(bits .andNot .u64 (fl:Int) 23==0) = !decide (((if fl ≥ 16 then fl-16 else fl:Nat):Int)>7):=by
 rw[show(23:Int)=((23:Nat):Int) from rfl,u64_andNot_nat fl 23 h (by omega)]
 have hs:fl=fl/32*32+fl % 32:=by omega
 rcases Nat.lt_or_ge fl 32 with h1|h1
 ·have:∀ x,x<32->((((x &&& (18446744073709551615-23):Nat):Int))==0) = !decide (((if x ≥ 16 then x-16 else x:Nat):Int)>7):=by decide +kernel
  exact this fl h1
 ·have e1:decide (((if fl ≥ 16 then fl-16 else fl:Nat):Int)>7)=true:=decide_eq_true (by rw[if_pos (by omega)];omega)
  rw[e1]
  have hne:fl &&& (18446744073709551615-23) ≠ 0:=fun e=>by
   have h5:(fl &&& (18446744073709551615-23))/32=fl/32:=by
    have:(18446744073709551615-23:Nat)/32=2 ^ 59-1:=by decide
    rw[show(32:Nat)=2 ^ 5 from rfl,<- Nat.shiftRight_eq_div_pow,Nat.shiftRight_and_distrib,Nat.shiftRight_eq_div_pow,Nat.shiftRight_eq_div_pow]
    rw[show(18446744073709551615-23:Nat)/2 ^ 5=2 ^ 59-1 from by decide,Nat.and_two_pow_sub_one_eq_mod,Nat.mod_eq_of_lt (by omega)]
   rw[e]at h5
   omega
  simpa using hne
theorem Mx [Known][KnownU8](b:BlkV)(hfl:b.fl<18446744073709551616)(hd:b.data.length<=100000):AP Tryz.prog 80 [.agg (bkC b)] (.bool (Z2 b)) []:=by
 have hP:=Rh b.data hd
 have hA:=SA b.data hd
 have hH:=Rl b.data hd
 have hk:=DZ b.fl hfl
 obtain⟨ty,num,fl,sum,d⟩:=b
 dsimp only at *
 unfold Z2 K4 LZ Jn
 dsimp only
 rw[hk]
 have hdl:(d.map E.byte).length=d.length:=List.length_map ..
 generalize hF:(if fl ≥ 16 then fl-16 else fl)=F at *
 have hg1:decide ((fl:Int) ≥ 16)=false->fl=F:=fun h=>by
  have:=of_decide_eq_false h
  rw[<- hF,if_neg (by omega)]
 have hg2:decide ((fl:Int) ≥ 16)=true->IntKind.u64.wrap ((fl:Int)-16)=(F:Int):=fun h=>by
  have:=of_decide_eq_true h
  rw[<- hF,if_pos (by omega),IntKind.wrap_u64]
  omega
 rw[<- hdl]
 cases t0:decide ((ty:Int)<1) with
 | true=>
  have h:=FI ty num fl F sum d _ rfl hg1 hg2 t0
  simpa[bne]using h
 | false=>
 cases t1:decide ((ty:Int)>255) with
 | true=>
  have h:=FJ ty num fl F sum d _ rfl hg1 hg2 t0 t1
  simpa[bne]using h
 | false=>
 cases t2:decide ((num:Int)<1) with
 | true=>
  have h:=FK ty num fl F sum d _ rfl hg1 hg2 t0 t1 t2
  simpa[bne]using h
 | false=>
 cases t3:decide ((num:Int)>255) with
 | true=>
  have h:=FL ty num fl F sum d _ rfl hg1 hg2 t0 t1 t2 t3
  simpa[bne]using h
 | false=>
 cases t4:decide ((F:Int)>7) with
 | true=>
  have h:=FM ty num fl F sum d _ rfl hg1 hg2 t0 t1 t2 t3 t4
  simpa[bne]using h
 | false=>
 cases t5:decide (sum<0) with
 | true=>
  have c5:decide (sum ≥ 0)=false:=decide_eq_false (by have:=of_decide_eq_true t5;omega)
  have h:=FN ty num fl F sum d _ rfl hg1 hg2 t0 t1 t2 t3 t4 t5
  simpa[c5]using h
 | false=>
 cases t6:decide (sum>2) with
 | true=>
  have c6:decide (sum<=2)=false:=decide_eq_false (by have:=of_decide_eq_true t6;omega)
  have h:=FO ty num fl F sum d _ rfl hg1 hg2 t0 t1 t2 t3 t4 t5 t6
  simpa[c6]using h
 | false=>
 cases t7:decide (((d.map E.byte).length:Int)>200) with
 | true=>
  have c7:decide ((d.length:Int)<=200)=false:=decide_eq_false (by have:=of_decide_eq_true t7;rw[hdl]at this;omega)
  have h:=FP ty num fl F sum d _ rfl hg1 hg2 t0 t1 t2 t3 t4 t5 t6 t7
  simpa[c7]using h
 | false=>
 have c5:decide (sum ≥ 0)=true:=decide_eq_true (by have:=of_decide_eq_false t5;omega)
 have c6:decide (sum<=2)=true:=decide_eq_true (by have:=of_decide_eq_false t6;omega)
 have c7:decide (((d.map E.byte).length:Int)<=200)=true:=decide_eq_true (by have:=of_decide_eq_false t7;omega)
 rw[c5,c6,c7]
 simp only[Bool.or_self,Bool.not_false,Bool.true_and,Bool.and_true]
 cases u6:((ty:Int)==6) with
 | true=>
  have e6:(ty:Int)=6:=by simpa using u6
  dsimp only
  generalize Rg d=z at *
  obtain⟨zi,zn,zs,zh,zd⟩:=z
  exact DW ty num fl F sum d _ zi _ zn zs zh zd rfl hg1 hg2 t0 t1 t2 t3 t4 t5 t6 t7 u6 (by rw[e6];rfl) (by rw[e6];rfl) hP
 | false=>
 cases u7:((ty:Int)==7) with
 | true=>
  have e7:(ty:Int)=7:=by simpa using u7
  exact DX ty num fl F sum d _ _ _ rfl hg1 hg2 t0 t1 t2 t3 t4 t5 t6 t7 u6 u7 (by rw[e7];rfl) hA
 | false=>
 cases u10:((ty:Int)==10) with
 | true=>exact BV ty num fl F sum d _ _ _ _ rfl hg1 hg2 t0 t1 t2 t3 t4 t5 t6 t7 u6 u7 u10 hH
 | false=>exact DY ty num fl F sum d _ rfl hg1 hg2 t0 t1 t2 t3 t4 t5 t6 t7 u6 u7 u10
theorem BW [Known](b:BlkV):AP Tryz.prog 39 [.agg (bkC b)] (.agg (bkC b)) []:=by
 obtain⟨ty,num,fl,sum,d⟩:=b
 refine AP.ofA (Zl Tryz.func39 U Tryz.ntmps39 U U ?_)
 repeat'(first|(apply Zg Za;exact U))
 all_goals exact Qe
theorem Hw {c:BlkV}(h:Z2 c=true):c.data.length<=200:=by
 unfold Z2 K4 at h
 simp only[Bool.and_eq_true,decide_eq_true_eq]at h
 have:=h.2.2.2.2.2
 omega
theorem BX {b:BlkV}(h:Z2 b=true)(hfl:b.fl<18446744073709551616)(s:Nat)(hs:s<=2):(ZI (ZV s (YV b))).length<=1000000000:=by
 obtain⟨h1,h2,h3,h4,_⟩:=UU h
 have hd:=Hw h
 have h9:¬ 3000<b.data.length:=by omega
 have hg:Wk (ZV s (YV b)) 1 300=293:=by
  rcases(show s=0\/s=1\/s=2 by omega) with rfl|rfl|rfl<;>simp[ZV,YV,Wk,WS,h9]
 have hn:nI (ZV s (YV b)):=by
  simp[ZV,YV,nI,nIs]
  omega
 have:=(KR _ 1 300 (by omega) (by omega) hn).2.1
 omega
def WM (b:BlkV):It:=(Wg (YV b) b.sum.toNat).1
theorem Iq (b:BlkV):(YV b).length=5:=rfl
theorem Ke (b:BlkV):Yg (YV b)=5:=by simp[YV,Yg,YD]
theorem TI [Known][KnownU8](b:BlkV)(h:Z2 b=true)(hfl:b.fl<18446744073709551616):AP Tryz.prog 82 [.agg (bkC b)] (itD (WM b)) []:=by
 obtain⟨h1,h2,h3,h4,h5⟩:=UU h
 have hdl:=Hw h
 have hS:=Oi (YV b) b.sum.toNat (by omega) (L0 h hfl (by omega)) (by rw[Iq];omega) (by rw[Ke];omega) (BX h hfl b.sum.toNat (by omega))
 have e1:((b.sum.toNat:Nat):Int)=b.sum:=by omega
 have e2:IntKind.u64.wrap b.sum=((b.sum.toNat:Nat):Int):=by rw[IntKind.wrap_u64];omega
 rw[e1]at hS
 unfold WM
 generalize Wg (YV b) b.sum.toNat=S at *
 obtain⟨ty,num,fl,sum,d⟩:=b
 obtain⟨⟨k,n,bb,l⟩,ok⟩:=S
 dsimp only at *
 replace hS:AP Tryz.prog 123 [.sl .ext [.agg [.int .i64 0,.int .u64 (ty:Int),.sl [],.sl []],.agg [.int .i64 0,.int .u64 (num:Int),.sl [],.sl []],.agg [.int .i64 0,.int .u64 (fl:Int),.sl [],.sl []],.agg [.int .i64 0,.int .u64 ((sum.toNat:Nat):Int),.sl [],.sl []],.agg [.int .i64 2,.int .u64 0,.sl (d.map E.byte),.sl []]],.int .i64 sum] (.tup [.agg (itC k n bb l),.bool ok]) []:=hS
 refine AP.ofA (Zl Tryz.func82 U Tryz.ntmps82 U U ?_)
 repeat'(first|rw[e2]|(apply Zb (hS);kernel_rfl;(iterate 4 exact U))|(apply Zi Za;exact U)|(apply Zg Za;exact U)|refine ZM Za U U U U U U U U U U U U ?_)
 all_goals exact Qe
theorem Kf (b:BlkV)(x:List It)(hx:Yg x<=4/\YN x 5=true/\Y9 x=true):ZC (.mk 4 0 [] (YV b++x))=true:=by
 rw[YY,YU,YD,Yz,UZ,Ke,U0,U1,hx.2.1,hx.2.2]
 have h1:YN (YV b) 5=true:=by simp[YV,YN,YU]
 have h2:Y9 (YV b)=true:=by simp[YV,Y9,Yz,Wp]
 have h3:Wp 4 0 [] (YV b++x)=true:=by simp[Wp]
 rw[h1,h2,h3]
 simp
 omega
theorem Hx {b:BlkV}(h0:0<=b.sum)(h2:b.sum<=2):Wv (YV b) 3=b.sum:=by
 unfold Wv YV
 rw[if_neg (by omega)]
 show(match decide (((b.sum.toNat:Nat):Int)>2) with|true=>(-1:Int)|false=>match It.beq (.mk 0 b.sum.toNat [] []) (.mk 0 b.sum.toNat [] []) with|true=>((b.sum.toNat:Nat):Int)|false => -1)=b.sum
 rw[show decide (((b.sum.toNat:Nat):Int)>2)=false from decide_eq_false (by omega),It.beq_iff.2 rfl]
 exact Int.toNat_of_nonneg h0
theorem My {b:BlkV}(s:Nat):(Wg (YV b) s).2=true:=by
 cases s with
 | zero=>
  unfold Wg
  have:=Kf b [] ⟨by simp[Yg],rfl,rfl⟩
  rw[List.append_nil]at this
  exact this
 | succ s=>
  unfold Wg
  dsimp only
  have:ZC (ZV (s+1) (YV b))=true:=Kf b [.mk 2 0 (List.replicate (2*(s+1)) 0) []] ⟨by simp[Yg,YD],by simp[YN,YU],by simp[Y9,Yz,Wp]⟩
  rw[this]
theorem Ol {b:BlkV}(h:Z2 b=true):YW b=(WM b,0):=by
 obtain⟨_,_,h3,h4,_⟩:=UU h
 unfold YW
 rw[h]
 dsimp only
 rw[Ny]
 unfold Nx WM
 rw[Hx h3 h4,Iq]
 rw[show(decide ((3:Int)<0)||decide ((3:Int) ≥ ((5:Nat):Int)))=false from by decide]
 dsimp only
 rw[decide_eq_true (show b.sum ≥ 0 from h3),My]
theorem Mz {b:BlkV}(h:Z2 b=false):YW b=(z0,3):=by
 unfold YW
 rw[h]
def Hy (kind Y4:Nat)(c:BlkV):Bool:=(decide ((kind:Int)>0)&&((c.ty:Int)==(kind:Int)))||(((kind:Int)==0)&&((c.num:Int)==(Y4:Int)))
def W0 (l:List BlkV)(kind Y4:Nat):Nat:=l.countP (Hy kind Y4)
def I4 (l:List BlkV)(i:Nat)(c:BlkV):Bool:=Z2 c&&(!decide ((W0 l 0 c.num:Int)>1)&&((((c.ty:Int)==1)==((i:Int)==((l.length-1:Nat):Int)))&&(((c.num:Int)==1)==((i:Int)==((l.length-1:Nat):Int)))))
theorem Rm (n:Nat)(c:BlkV):Hy 0 n c=decide (c.num=n):=by
 unfold Hy
 rw[Bool.eq_iff_iff]
 simp
 omega
theorem SE {k:Nat}(hk:0<k)(n:Nat)(c:BlkV):Hy k n c=decide (c.ty=k):=by
 unfold Hy
 rw[Bool.eq_iff_iff]
 simp
 omega
theorem U2 {q:BlkV->Bool}:∀ {l:List BlkV},l.Pairwise (fun c d=>¬(q c=true/\q d=true)) ↔ l.countP q<=1
 | []=>by simp
 | c::l=>by
  rw[List.pairwise_cons,U2 (l:=l),List.countP_cons]
  cases hc:q c with
  | false=>simp
  | true=>
   simp only[if_pos]
   constructor
   ·rintro⟨h1,_⟩
    have:l.countP q=0:=List.countP_eq_zero.2 fun d hd h=>h1 d hd ⟨trivial,h⟩
    omega
   ·intro h
    have h0:l.countP q=0:=by omega
    exact⟨fun d hd h2=>List.countP_eq_zero.1 h0 d hd h2.2,by omega⟩
abbrev goB (c d:BlkV):Prop:=c.num ≠ d.num/\(c.ty ≠ d.ty\/Uu d.ty=false)
theorem Ir:∀(l pre:List BlkV),Ki pre l=true ↔ ((∀ b ∈ l,Z2 b=true)/\(∀ c ∈ pre,∀ b ∈ l,goB c b)/\l.Pairwise goB)
 | [],pre=>by simp[Ki]
 | b::r,pre=>by
  rw[Ki,Bool.and_eq_true,Bool.and_eq_true,Ir r (pre++[b]),List.pairwise_cons,List.all_eq_true]
  have hg:∀ c,(c.num != b.num&&(c.ty != b.ty || !Uu b.ty))=true ↔ goB c b:=fun c=>by
   simp[goB]
  constructor
  ·rintro⟨h1,h2,h3,h4,h5⟩
   refine⟨fun x hx=>?_,fun c hc x hx=>?_,fun x hx=>h4 b (by simp) x hx,h5⟩
   ·rcases List.mem_cons.1 hx with rfl|hx
    ·exact h1
    ·exact h3 x hx
   ·rcases List.mem_cons.1 hx with rfl|hx
    ·exact(hg c).1 (h2 c hc)
    ·exact h4 c (List.mem_append.2 (.inl hc)) x hx
  ·rintro⟨h1,h2,h3,h4⟩
   refine⟨h1 b (by simp),fun c hc=>(hg c).2 (h2 c hc b (by simp)),fun x hx=>h1 x (by simp[hx]),fun c hc x hx=>?_,h4⟩
   rcases List.mem_append.1 hc with hc|hc
   ·exact h2 c hc x (by simp[hx])
   ·simp at hc;subst hc;exact h3 x hx
structure FitD (l:List BlkV):Prop where
 one:1<=l.length
 few:l.length<=8
 ok:∀ i c,l[i]?=some c->I4 l i c=true
 c6:W0 l 6 0<=1
 c7:W0 l 7 0<=1
 c10:W0 l 10 0<=1
theorem U3 {l:List BlkV}{i:Nat}{c:BlkV}:I4 l i c=true ↔ Z2 c=true/\l.countP (fun d=>decide (d.num=c.num))<=1/\(c.ty=1 ↔ i=l.length-1)/\(c.num=1 ↔ i=l.length-1):=by
 have e:W0 l 0 c.num=l.countP (fun d=>decide (d.num=c.num)):=by
  unfold W0
  congr 1
  funext d
  exact Rm _ _
 unfold I4
 rw[e]
 have hb:∀ a b c d:Int,((a==b)=(c==d)) ↔ (a=b ↔ c=d):=fun a b c d=>by rw[Bool.eq_iff_iff,beq_iff_eq,beq_iff_eq]
 simp only[Bool.and_eq_true,Bool.not_eq_true',decide_eq_false_iff_not,beq_iff_eq]
 rw[hb,hb]
 constructor
 ·rintro⟨h1,h2,h3,h4⟩
  exact⟨h1,by omega,by omega,by omega⟩
 ·rintro⟨h1,h2,h3,h4⟩
  exact⟨h1,by omega,by omega,by omega⟩
theorem I5 {l:List BlkV}{k:Nat}(hk:0<k):W0 l k 0=l.countP (fun d=>decide (d.ty=k)):=by
 unfold W0
 congr 1
 funext d
 exact SE hk _ _
theorem MA (k:Nat):Uu k=true ↔ k=1\/k=6\/k=7\/k=10:=by
 unfold Uu
 simp
theorem SF (l:List BlkV):Tw l=true ↔ FitD l:=by
 have hlast:l.getLast? = l[l.length-1]? := List.getLast?_eq_getElem? ..
 unfold Tw
 rw[hlast]
 cases hb:l[l.length-1]? with
 | none=>
  simp only[Bool.false_eq_true,false_iff]
  intro h
  have:=h.one
  have h2:=List.getElem?_eq_none_iff.1 hb
  omega
 | some b=>
  have hlt:l.length-1<l.length:=by
   rcases Nat.lt_or_ge (l.length-1) l.length with h|h
   ·exact h
   ·rw[List.getElem?_eq_none h]at hb;cases hb
  dsimp only
  rw[Bool.and_eq_true,Bool.and_eq_true,Bool.and_eq_true,decide_eq_true_eq,beq_iff_eq,beq_iff_eq,Ir]
  constructor
  ·rintro⟨h8,ht,hn,hr,_,hp⟩
   have hpi:=List.pairwise_iff_getElem.1 hp
   have hnum:l.Pairwise (fun c d=>c.num ≠ d.num):=hp.imp fun h=>h.1
   have hty:∀ k,Uu k=true->l.countP (fun d=>decide (d.ty=k))<=1:=fun k hk=>U2.1 (hp.imp fun {c d} h=>by
    rintro⟨h1,h2⟩
    have h1:=of_decide_eq_true h1
    have h2:=of_decide_eq_true h2
    rcases h.2 with h|h
    ·exact h (by rw[h1,h2])
    ·rw[h2,hk]at h;cases h)
   refine⟨by omega,h8,fun i c hc=>?_,?_,?_,?_⟩
   ·obtain⟨hi,hci⟩:=List.getElem?_eq_some_iff.1 hc
    obtain⟨_,hbi⟩:=List.getElem?_eq_some_iff.1 hb
    have hlast:i<l.length-1->goB c b:=fun h=>by
     have:=hpi i (l.length-1) hi hlt h
     rw[hci,hbi]at this
     exact this
    refine U3.2 ⟨hr c (List.mem_of_getElem? hc),U2.1 (hnum.imp fun {x y} h=>?_),?_,?_⟩
    ·rintro⟨h1,h2⟩
     exact h ((of_decide_eq_true h1).trans (of_decide_eq_true h2).symm)
    ·constructor
     ·intro h1
      rcases Nat.lt_or_ge i (l.length-1) with h|h
      ·rcases(hlast h).2 with h2|h2
       ·exact absurd (h1.trans ht.symm) h2
       ·rw[ht]at h2;cases h2
      ·omega
     ·rintro rfl
      rw[hb]at hc
      cases hc
      exact ht
    ·constructor
     ·intro h1
      rcases Nat.lt_or_ge i (l.length-1) with h|h
      ·exact absurd (h1.trans hn.symm) (hlast h).1
      ·omega
     ·rintro rfl
      rw[hb]at hc
      cases hc
      exact hn
   ·rw[I5 (by omega)];exact hty 6 rfl
   ·rw[I5 (by omega)];exact hty 7 rfl
   ·rw[I5 (by omega)];exact hty 10 rfl
  ·intro h
   have hb2:=U3.1 (h.ok _ _ hb)
   have hall:∀ c ∈ l,Z2 c=true/\l.countP (fun d=>decide (d.num=c.num))<=1:=fun c hc=>by
    obtain⟨i,hi⟩:=List.getElem?_of_mem hc
    have:=U3.1 (h.ok i c hi)
    exact⟨this.1,this.2.1⟩
   refine⟨h.few,hb2.2.2.1.2 rfl,hb2.2.2.2.2 rfl,fun c hc=>(hall c hc).1,fun c hc=>by simp at hc,?_⟩
   rw[List.pairwise_iff_getElem]
   intro i j hi hj hij
   have oi:=U3.1 (h.ok i _ (List.getElem?_eq_getElem hi))
   have oj:=U3.1 (h.ok j _ (List.getElem?_eq_getElem hj))
   refine⟨fun e=>?_,?_⟩
   ·have:=U2.2 oj.2.1
    rw[List.pairwise_iff_getElem]at this
    exact this i j hi hj hij ⟨decide_eq_true e,decide_eq_true rfl⟩
   ·cases ha:Uu (l[j]).ty with
    | false=>exact .inr rfl
    | true=>
     left
     intro e
     have hk:∀ k,W0 l k 0<=1->0<k->(l[j]).ty=k->False:=fun k hc h0 hk=>by
      rw[I5 h0]at hc
      have:=U2.2 hc
      rw[List.pairwise_iff_getElem]at this
      exact this i j hi hj hij ⟨decide_eq_true (e.trans hk),decide_eq_true hk⟩
     rcases(MA _).1 ha with h1|h1|h1|h1
     ·have:=oi.2.2.1.1 (e.trans h1)
      omega
     ·exact hk 6 h.c6 (by omega) h1
     ·exact hk 7 h.c7 (by omega) h1
     ·exact hk 10 h.c10 (by omega) h1
def Jo (p:PriV)(l:List BlkV):List UInt8:=159::(ZI (W6 p)++ZO (l.map WM))
def Va (b:BunV):List UInt8 × Bool:=match YZ b with
 | true=>(Jo b.p b.bl++[255],true)
 | false=>([],false)
theorem MB (b:BunV):Jv b=true ↔ YA b.p=true/\∀ c ∈ b.bl,Z2 c=true:=by
 unfold Jv
 rw[Bool.and_eq_true,List.all_eq_true,beq_iff_eq]
 have hp:(WJ b.p).2=0 ↔ YA b.p=true:=by
  cases h:YA b.p with
  | true=>rw[XQ h];simp
  | false=>unfold WJ;rw[h];simp
 have hb:∀ c,((YW c).2==0)=true ↔ Z2 c=true:=fun c=>by
  cases h:Z2 c with
  | true=>rw[Ol h];simp
  | false=>rw[Mz h];simp
 rw[hp]
 exact⟨fun h=>⟨h.1,fun c hc=>(hb c).1 (h.2 c hc)⟩,fun h=>⟨h.1,fun c hc=>(hb c).2 (h.2 c hc)⟩⟩
theorem Nz {b:BunV}(hp:YA b.p=true)(hb:∀ c ∈ b.bl,Z2 c=true):ZO (Un b)=ZI (W6 b.p)++ZO (b.bl.map WM):=by
 unfold Un
 rw[ZO,XQ hp]
 have:(b.bl.map fun c=>(YW c).1)=b.bl.map WM:=List.map_congr_left fun c hc=>by rw[Ol (hb c hc)]
 rw[this]
theorem XR (b:BunV):YZ b=true ↔ FitD b.bl/\YA b.p=true/\(Jo b.p b.bl).length<=599:=by
 unfold YZ
 rw[Bool.and_eq_true,Bool.and_eq_true,SF,MB,decide_eq_true_eq]
 constructor
 ·rintro⟨h1,⟨h2,h3⟩,h4⟩
  rw[Nz h2 h3]at h4
  exact⟨h1,h2,by unfold Jo;rw[List.length_cons];omega⟩
 ·rintro⟨h1,h2,h4⟩
  have h3:∀ c ∈ b.bl,Z2 c=true:=fun c hc=>by
   obtain⟨i,hi⟩:=List.getElem?_of_mem hc
   exact(U3.1 (h1.ok i c hi)).1
  refine⟨h1,⟨h2,h3⟩,?_⟩
  rw[Nz h2 h3]
  unfold Jo at h4
  rw[List.length_cons]at h4
  omega
theorem MC {b:BunV}(h:¬ (FitD b.bl/\YA b.p=true/\(Jo b.p b.bl).length<=599)):Va b=([],false):=by
 have:YZ b=false:=by
  cases hr:YZ b with
  | false=>rfl
  | true=>exact absurd ((XR b).1 hr) h
 unfold Va
 rw[this]
theorem TJ {b:BunV}(h:FitD b.bl/\YA b.p=true/\(Jo b.p b.bl).length<=599):Va b=(Jo b.p b.bl++[255],true):=by
 unfold Va
 rw[(XR b).2 h]
theorem QW [Known](x:EidV)(t q:Nat):AP Tryz.prog 29 [.agg (iC x t q)] (.agg (iC x t q)) []:=by
 have hE:=Qh x
 obtain⟨xi,xn,xs,xh,xd⟩:=x
 refine AP.ofA (Zl Tryz.func29 U Tryz.ntmps29 U U ?_)
 repeat'(first|(apply Zb (hE);kernel_rfl;(iterate 4 exact U))|(apply Zi Za;exact U)|(apply Zg Za;exact U)|(apply Zo 7 ZB;decide +kernel;kernel_rfl;kernel_rfl;kernel_rfl;exact U;exact U)|(apply Zs;(iterate 4 exact U))|exact AE.nil _ _ _ _|(apply Zx;exact U)|(apply Zz;exact U;exact U;decide +kernel;exact U)|(apply ZA;exact U)|exact AO.nil _ _ _|(apply Zr;(decide +kernel))|exact AOs.nil|exact ZF rfl rfl)
 all_goals exact Qe
theorem BY [Known](p:PriV):AP Tryz.prog 77 [.agg (prC p)] (.agg (prC p)) []:=by
 have hD:=Qh p.dest
 have hR:=Qh p.rep
 have hI:=QW p.src p.t p.q
 obtain⟨fl,sum,⟨di,dn,ds,dh,dd⟩,⟨ri,rn,rs,rh,rd⟩,⟨xi,xn,xs,xh,xd⟩,t,q,life⟩:=p
 refine AP.ofA (Zl Tryz.func77 U Tryz.ntmps77 U U ?_)
 repeat'(first|(apply Zb (hD);kernel_rfl;(iterate 4 exact U))|(apply Zb (hR);kernel_rfl;(iterate 4 exact U))|(apply Zb (hI);kernel_rfl;(iterate 4 exact U))|(apply Zi Za;exact U)|(apply Zg Za;exact U)|(apply Zo 15 ZB;decide +kernel;kernel_rfl;kernel_rfl;kernel_rfl;exact U;exact U)|(apply Zs;(iterate 4 exact U))|exact AE.nil _ _ _ _|(apply Zx;exact U)|(apply Zz;exact U;exact U;decide +kernel;exact U)|(apply ZA;exact U)|exact AO.nil _ _ _|(apply Zr;(decide +kernel))|exact AOs.nil|exact ZF rfl rfl)
 all_goals exact Qe
theorem MD [Known](a b:BlkV):AP Tryz.prog 38 [.agg (bkC a),.agg (bkC b)] (.bool (JL a b)) []:=by
 obtain⟨ty,num,fl,sum,data⟩:=a
 obtain⟨ty2,num2,fl2,sum2,data2⟩:=b
 unfold JL
 dsimp only
 cases t1:((ty:Int)==(ty2:Int))<;>cases t2:((num:Int)==(num2:Int))<;>cases t3:((fl:Int)==(fl2:Int))<;>cases t4:(sum==sum2)<;>cases t5:(data==data2)
 all_goals
  refine AP.ofA (Zl Tryz.func38 U Tryz.ntmps38 U U ?_)
  repeat'(first|(apply Zi Za;exact U)|(apply Zg Za;exact U)|refine Ze U U U Qt ?_|refine Zt U U U Qt ?_|refine Zj U Qt U U ?_|refine Zh U Qt U U ?_|refine Vf Za U U U U U U U U U ?_)
  all_goals(apply Zq [];(apply Zc Za;exact U);(iterate 4 exact U))
  all_goals first|rfl|(dsimp only;rw[t5];rfl)
abbrev bnS (p:PriV)(d:D):List D:=[.int .u64 (p.fl:Int),.int .i64 p.sum,.bool p.dest.i,.int .u64 (p.dest.n:Int),.int .u64 (p.dest.s:Int),.str p.dest.h,.str p.dest.d,.bool p.rep.i,.int .u64 (p.rep.n:Int),.int .u64 (p.rep.s:Int),.str p.rep.h,.str p.rep.d,.bool p.src.i,.int .u64 (p.src.n:Int),.int .u64 (p.src.s:Int),.str p.src.h,.str p.src.d,.int .u64 (p.t:Int),.int .u64 (p.q:Int),.int .u64 (p.life:Int),d]
abbrev zBs:List D:=[.int .u64 0,.int .i64 0,.bool false,.int .u64 0,.int .u64 0,.str [],.str [],.bool false,.int .u64 0,.int .u64 0,.str [],.str [],.bool false,.int .u64 0,.int .u64 0,.str [],.str [],.int .u64 0,.int .u64 0,.int .u64 0,.sl .nil []]
theorem Rn [Known](b:BunV)(hl:b.bl.length<=1000000):AP Tryz.prog 34 [.agg (bnC b)] (.agg (bnC b)) []:=by
 have hP:=BY b.p
 have hlen:=WW b.bl
 have hUb:=JO b.bl
 obtain⟨⟨fl,sum,⟨di,dn,ds,dh,dd⟩,⟨ri,rn,rs,rh,rd⟩,⟨xi,xn,xs,xh,xd⟩,t,q,life⟩,l⟩:=b
 dsimp only at *
 refine AP.ofA (Zl Tryz.func34 U Tryz.ntmps34 U U ?_)
 repeat'(first|(apply Zb (hP);kernel_rfl;(iterate 4 exact U))|(apply Zi Za;exact U)|(apply Zg Za;exact U))
 refine ZJ (fun f tm bx fr=>∃(i c:Nat) (L:List E),f+i=l.length/\c=L.length/\L=Yo (l.take i)/\tm=[(1,.ptr 0 0),(3,.ptr 2 0),(2,.ptr 1 0),(4,.int .i64 (i:Int))] /\
  ((i=0/\bx=[bnS ⟨fl,sum,⟨di,dn,ds,dh,dd⟩,⟨ri,rn,rs,rh,rd⟩,⟨xi,xn,xs,xh,xd⟩,t,q,life⟩ (.sl .ext (Yo l)),zBs,bnS ⟨fl,sum,⟨di,dn,ds,dh,dd⟩,⟨ri,rn,rs,rh,rd⟩,⟨xi,xn,xs,xh,xd⟩,t,q,life⟩ (.sl .nil [])]/\fr=[]) \/
  (bx=[bnS ⟨fl,sum,⟨di,dn,ds,dh,dd⟩,⟨ri,rn,rs,rh,rd⟩,⟨xi,xn,xs,xh,xd⟩,t,q,life⟩ (.sl .ext (Yo l)),zBs,bnS ⟨fl,sum,⟨di,dn,ds,dh,dd⟩,⟨ri,rn,rs,rh,rd⟩,⟨xi,xn,xs,xh,xd⟩,t,q,life⟩ (.sl (.own 0) L)]/\fr=[⟨c,5,88⟩]))) (l.length+1) (Lands.mk' (m:=l.length) (Nat.lt_succ_self _) ⟨0,0,[],rfl,rfl,rfl,rfl,.inl ⟨rfl,rfl,rfl⟩⟩ ?_ rfl rfl rfl rfl rfl rfl) ?_
 ·exact .cons rfl (.cons rfl (.cons rfl (.cons rfl .nil)))
 rintro f tm bx fr ⟨i,c,L,hf,hc,hL,rfl,hst⟩
 rcases Nat.lt_or_ge i l.length with hlt|hge
 ·have hdl:decide ((i:Int)<((Yo l).length:Int))=true:=decide_eq_true (by omega)
  obtain⟨y,hy⟩:∃ y,l[i]?=some y:=⟨_,List.getElem?_eq_getElem hlt⟩
  have hv:=WX hy
  have hc7:=BW y
  have ei:IntKind.i64.wrap ((i:Int)+1)=((i+1:Nat):Int):=by rw[IntWalk.i64_in _ (by omega)];omega
  have hs:L++[bkE y]=Yo (l.take (i+1)):=by
   rw[hL,List.take_add_one,hy];exact(List.map_append (f:=bkE) (l₁:=l.take i) (l₂:=[y])).symm
  have hU5:Uni 5 L:=hL ▸ JO (l.take i)
  have hUc:=JO [y]
  have hbl:=WW (l.take i)
  rw[<- hL,List.length_take]at hbl
  subst hc
  rcases hst with⟨rfl,rfl,rfl⟩ | ⟨rfl,rfl⟩
  ·repeat'(first|(apply Zb (hc7);kernel_rfl;(iterate 4 exact U))|rw[ei]|refine Z7 Za U U U U U U (Zk rfl) (List.cons_ne_nil _ _) U Qd Qd U U U ?_|(apply Zi Za;exact U)|(apply Zg Za;exact U)|(apply Zp Za;exact U)|(apply Zd;exact U;(first|with_reducible assumption|decide +kernel|(solve|simp only[bn])))|refine Zn Za U U U U ?_|refine ZM Za U U U U U U U U U U U U ?_|(apply Zo 9 ZB;decide +kernel;kernel_rfl;kernel_rfl;kernel_rfl;exact U;exact U)|(apply Zs;(iterate 4 exact U))|exact AE.nil _ _ _ _|(apply Zx;exact U)|(apply Zz;exact U;exact U;decide +kernel;exact U)|(apply ZA;exact U)|exact AO.nil _ _ _|(apply Zr;(decide +kernel))|exact AOs.nil|exact ZF rfl rfl|exact WH rfl rfl rfl rfl rfl|(apply Zu Za;(iterate 6 exact U);(first|exact Qt|rotate_left);(first|with_reducible assumption|decide +kernel|exact U);(first|exact Zk rfl|with_reducible assumption|decide +kernel|rotate_left)))
   refine Lands.mk' (m:=f-1) (by omega) ⟨1,1,[bkE y],by omega,rfl,by rw[<- hs,hL];rfl,rfl,.inr ⟨rfl,rfl⟩⟩ ?_ rfl rfl rfl rfl rfl rfl
   exact .cons rfl (.cons rfl (.cons rfl (.cons rfl .nil)))
  ·repeat'(first|(apply Zb (hc7);kernel_rfl;(iterate 4 exact U))|rw[ei]|(apply Zi Za;exact U)|(apply Zg Za;exact U)|(apply Zp Za;exact U)|(apply Zd;exact U;(first|with_reducible assumption|decide +kernel|(solve|simp only[bn])))|refine Zn Za U U U U ?_|refine ZM Za U U U U U U U U U U U U ?_|(apply Zo 9 ZB;decide +kernel;kernel_rfl;kernel_rfl;kernel_rfl;exact U;exact U)|(apply Zs;(iterate 4 exact U))|exact AE.nil _ _ _ _|(apply Zx;exact U)|(apply Zz;exact U;exact U;decide +kernel;exact U)|(apply ZA;exact U)|exact AO.nil _ _ _|(apply Zr;(decide +kernel))|exact AOs.nil|exact ZF rfl rfl|exact WH rfl rfl rfl rfl rfl|(apply ZR Za;(iterate 6 exact U);(first|with_reducible assumption|decide +kernel|exact U|rotate_left);exact U;exact U;(first|exact Zk rfl|with_reducible assumption|decide +kernel|rotate_left);(first|exact Zk rfl|with_reducible assumption|decide +kernel|rotate_left);(first|exact Qt|rotate_left);(first|exact Qt|rotate_left);(first|exact Qt|rotate_left);exact U;exact U)|(apply Zu Za;(iterate 6 exact U);(first|exact Qt|rotate_left);(first|with_reducible assumption|decide +kernel|exact U);(first|exact Zk rfl|with_reducible assumption|decide +kernel|rotate_left)))
   ·refine Lands.mk' (m:=f-1) (by omega) ⟨i+1,L.length+1,_,by omega,by rw[List.length_append];rfl,hs,rfl,.inr ⟨rfl,rfl⟩⟩ ?_ rfl rfl rfl rfl rfl rfl
    exact .cons rfl (.cons rfl (.cons rfl (.cons rfl .nil)))
   all_goals(first|rfl|(simp only[List.length_append,List.length_cons,List.length_nil,List.length_map,Zw];done)|(simp only[List.length_append,List.length_cons,List.length_nil,List.length_map,Zw]at *;(try unfold maxLen);(try simp only[Nat.add_mul]);omega))
 ·have hdl:decide ((i:Int)<((Yo l).length:Int))=false:=decide_eq_false (by omega)
  rw[List.take_of_length_le hge]at hL
  subst hL
  rcases hst with⟨rfl,rfl,rfl⟩ | ⟨rfl,rfl⟩
  ·have:l=[]:=List.eq_nil_of_length_eq_zero (by omega)
   subst this
   repeat'(first|(apply Zi Za;exact U)|(apply Zg Za;exact U)|(apply Zp Za;exact U)|(apply Zf;exact U;(first|with_reducible assumption|decide +kernel|(solve|simp only[bn])))|refine Zn Za U U U U ?_)
   all_goals exact Qe
  ·repeat'(first|(apply Zi Za;exact U)|(apply Zg Za;exact U)|(apply Zp Za;exact U)|(apply Zf;exact U;(first|with_reducible assumption|decide +kernel|(solve|simp only[bn])))|refine Zn Za U U U U ?_)
   all_goals exact Qe
theorem Ro (l:List BlkV)(k n:Nat)(c:BlkV):W0 (l++[c]) k n=W0 l k n+(if Hy k n c then 1 else 0):=by
 unfold W0
 rw[List.countP_append]
 simp[List.countP_cons]
theorem Jj [Known](b:BunV)(kind Y4:Nat)(hl:b.bl.length<=1000000):AP Tryz.prog 81 [.agg (bnC b),.int .u64 (kind:Int),.int .u64 (Y4:Int)] (.int .i64 (W0 b.bl kind Y4:Int)) []:=by
 have hlen:=WW b.bl
 have hUb:=JO b.bl
 obtain⟨⟨fl,sum,⟨di,dn,ds,dh,dd⟩,⟨ri,rn,rs,rh,rd⟩,⟨xi,xn,xs,xh,xd⟩,t,q,life⟩,l⟩:=b
 dsimp only at *
 refine AP.ofA (Zl Tryz.func81 U Tryz.ntmps81 U U ?_)
 repeat'(first|(apply Zg Za;exact U))
 refine ZJ (fun f tm bx fr=>∃(i:Nat),f+i=l.length/\tm=[(1,.int .u64 (kind:Int)),(2,.int .u64 (Y4:Int)),(3,.ptr 0 0),(7,.int .i64 (W0 (l.take i) kind Y4:Int)),(8,.int .i64 (i:Int))]/\bx=[bnS ⟨fl,sum,⟨di,dn,ds,dh,dd⟩,⟨ri,rn,rs,rh,rd⟩,⟨xi,xn,xs,xh,xd⟩,t,q,life⟩ (.sl .ext (Yo l))]/\fr=[]) (l.length+1) (Lands.mk' (m:=l.length) (Nat.lt_succ_self _) ⟨0,rfl,rfl,rfl,rfl⟩ ?_ rfl rfl rfl rfl rfl rfl) ?_
 ·exact .cons rfl (.cons rfl (.cons rfl (.cons rfl (.cons rfl .nil))))
 rintro f tm bx fr ⟨i,hf,rfl,rfl,rfl⟩
 rcases Nat.lt_or_ge i l.length with hlt|hge
 ·have hdl:decide ((i:Int)<((Yo l).length:Int))=true:=decide_eq_true (by omega)
  obtain⟨y,hy⟩:∃ y,l[i]?=some y:=⟨_,List.getElem?_eq_getElem hlt⟩
  have hv:=WX hy
  have ei:IntKind.i64.wrap ((i:Int)+1)=((i+1:Nat):Int):=by rw[IntWalk.i64_in _ (by omega)];omega
  have hcl:W0 (l.take i) kind Y4<=(l.take i).length:=List.countP_le_length
  rw[List.length_take]at hcl
  have hn:W0 (l.take (i+1)) kind Y4=W0 (l.take i) kind Y4+(if Hy kind Y4 y then 1 else 0):=by
   rw[List.take_add_one,hy];exact Ro _ _ _ _
  unfold Hy at hn
  generalize W0 (l.take i) kind Y4=m at *
  have em:IntKind.i64.wrap ((m:Int)+1)=((m+1:Nat):Int):=by rw[IntWalk.i64_in _ (by omega)];omega
  cases t1:decide ((kind:Int)>0)<;>cases t2:((y.ty:Int)==(kind:Int))<;>cases t3:((kind:Int)==0)<;>cases t4:((y.num:Int)==(Y4:Int))<;>rw[t1,t2,t3,t4]at hn
  all_goals repeat'(first|rw[ei]|rw[em]|(apply Zi Za;exact U)|(apply Zg Za;exact U)|(apply Zp Za;exact U)|(apply Ze;(iterate 3 exact U);(first|with_reducible assumption|decide +kernel|(solve|simp only[bn])))|(apply Zt;(iterate 3 exact U);(first|with_reducible assumption|decide +kernel|(solve|simp only[bn])))|(apply Zm;(iterate 3 exact U);(first|with_reducible assumption|decide +kernel|(solve|simp only[bn])))|refine UC U U U ?_|(apply Zj;exact U;(first|with_reducible assumption|decide +kernel|(solve|simp only[bn]));exact U;exact U)|(apply Zh;exact U;(first|with_reducible assumption|decide +kernel|(solve|simp only[bn]));exact U;exact U)|(apply Zd;exact U;(first|with_reducible assumption|decide +kernel|(solve|simp only[bn])))|(apply Zf;exact U;(first|with_reducible assumption|decide +kernel|(solve|simp only[bn])))|refine Zn Za U U U U ?_|(apply Zu Za;(iterate 6 exact U);(first|exact Qt|rotate_left);(first|with_reducible assumption|decide +kernel|exact U);(first|exact Zk rfl|with_reducible assumption|decide +kernel|rotate_left)))
  all_goals refine Lands.mk' (m:=f-1) (by omega) ⟨i+1,by omega,by rw[hn],rfl,rfl⟩ ?_ rfl rfl rfl rfl rfl rfl
  all_goals exact .cons rfl (.cons rfl (.cons rfl (.cons rfl (.cons rfl .nil))))
 ·have hdl:decide ((i:Int)<((Yo l).length:Int))=false:=decide_eq_false (by omega)
  rw[List.take_of_length_le hge]
  repeat'(first|(apply Zi Za;exact U)|(apply Zg Za;exact U)|(apply Zp Za;exact U)|(apply Zf;exact U;(first|with_reducible assumption|decide +kernel|(solve|simp only[bn])))|refine Zn Za U U U U ?_)
  all_goals exact Qe
theorem FQ [Known](fl sm t q life:Nat)(sum:Int)(di:Bool)(dn ds:Nat)(dh dd:List UInt8)(ri:Bool)(rn rs:Nat)(rh rd:List UInt8)(xi:Bool)(xn xs:Nat)(xh xd:List UInt8)(ak:Int)(an:Nat)(ab:List UInt8)(al:List It)(bk:Int)(bn:Nat)(bb:List UInt8)(bl:List It)(ck:Int)(cn:Nat)(cb:List UInt8)(cl:List It)(sk:Int)(sn:Nat)(sb:List UInt8)(sl:List It)(ok:Bool)(e2:IntKind.u64.wrap sum=(sm:Int))
  (hL:AP Tryz.prog 122 [.sl .ext [nmE t,nmE q]] (.agg [.int .i64 4,.int .u64 0,.sl .ext [],.sl .ext [nmE t,nmE q]]) [])
  (hD:AP Tryz.prog 90 [.agg [.bool di,.int .u64 (dn:Int),.int .u64 (ds:Int),.str dh,.str dd]] (.agg (itC ak an ab al)) [])
  (hX:AP Tryz.prog 90 [.agg [.bool xi,.int .u64 (xn:Int),.int .u64 (xs:Int),.str xh,.str xd]] (.agg (itC ck cn cb cl)) [])
  (hR:AP Tryz.prog 90 [.agg [.bool ri,.int .u64 (rn:Int),.int .u64 (rs:Int),.str rh,.str rd]] (.agg (itC bk bn bb bl)) [])
  (hS:AP Tryz.prog 123 [.sl .ext [nmE 7,nmE fl,nmE sm,.agg [.int .i64 ak,.int .u64 (an:Int),.sl (ab.map E.byte),.sl (Zv al)],.agg [.int .i64 ck,.int .u64 (cn:Int),.sl (cb.map E.byte),.sl (Zv cl)],.agg [.int .i64 bk,.int .u64 (bn:Int),.sl (bb.map E.byte),.sl (Zv bl)],.agg [.int .i64 4,.int .u64 0,.sl [],.sl [nmE t,nmE q]],nmE life],.int .i64 sum] (.tup [.agg (itC sk sn sb sl),.bool ok]) []) :
  AP Tryz.prog 79 [.agg [.int .u64 (fl:Int),.int .i64 sum,.bool di,.int .u64 (dn:Int),.int .u64 (ds:Int),.str dh,.str dd,.bool ri,.int .u64 (rn:Int),.int .u64 (rs:Int),.str rh,.str rd,.bool xi,.int .u64 (xn:Int),.int .u64 (xs:Int),.str xh,.str xd,.int .u64 (t:Int),.int .u64 (q:Int),.int .u64 (life:Int)]] (.agg (itC sk sn sb sl)) []:=by
 refine AP.ofA (Zl Tryz.func79 U Tryz.ntmps79 U U ?_)
 repeat'(first|(apply Zb (hL);kernel_rfl;(iterate 4 exact U))|rw[e2]|(apply Zb (hD);kernel_rfl;(iterate 4 exact U))|(apply Zb (hX);kernel_rfl;(iterate 4 exact U))|(apply Zb (hR);kernel_rfl;(iterate 4 exact U))|(apply Zb (hS);kernel_rfl;(iterate 4 exact U))|(apply Zi Za;exact U)|(apply Zg Za;exact U)|refine ZM Za U U U U U U U U U U U U ?_|(apply Zo 22 ZB;decide +kernel;kernel_rfl;kernel_rfl;kernel_rfl;exact U;exact U)|(apply Zs;(iterate 4 exact U))|exact AE.nil _ _ _ _|(apply Zx;exact U)|(apply Zz;exact U;exact U;decide +kernel;exact U)|(apply ZA;exact U)|exact AO.nil _ _ _|(apply Zr;(decide +kernel))|exact AOs.nil|exact ZF rfl rfl)
 all_goals exact Qe
theorem TK [Known][KnownU8](p:PriV)(h:YA p=true)(hfl:p.fl<18446744073709551616):AP Tryz.prog 79 [.agg (prC p)] (itD (W6 p)) []:=by
 obtain⟨h1,h2,h3,h4,h5,h6⟩:=VR h
 obtain⟨i1,_,_⟩:=YG.1 h5
 have hS:=Oi (YO p) p.sum.toNat (by omega) (LU h hfl) (by rw[Ip];omega) (by have:=(Kb h).1;omega) (BU h p.sum.toNat (by omega))
 have e1:((p.sum.toNat:Nat):Int)=p.sum:=by omega
 have e2:IntKind.u64.wrap p.sum=((p.sum.toNat:Nat):Int):=by rw[IntKind.wrap_u64];omega
 rw[e1]at hS
 have hD:=WF p.dest h3
 have hR:=WF p.rep h4
 have hX:=WF p.src i1
 have hL:=XN [nmE p.t,nmE p.q]
 unfold W6
 generalize Wg (YO p) p.sum.toNat=S at *
 unfold YO at hS
 obtain⟨fl,sum,d,r,x,t,q,life⟩:=p
 dsimp only at *
 generalize ZY d=I1 at *
 generalize ZY r=I2 at *
 generalize ZY x=I3 at *
 obtain⟨di,dn,ds,dh,dd⟩:=d
 obtain⟨ri,rn,rs,rh,rd⟩:=r
 obtain⟨xi,xn,xs,xh,xd⟩:=x
 obtain⟨ak,an,ab,al⟩:=I1
 obtain⟨bk,bn,bb,bl⟩:=I2
 obtain⟨ck,cn,cb,cl⟩:=I3
 obtain⟨⟨k,n,b,l⟩,ok⟩:=S
 exact FQ fl sum.toNat t q life sum di dn ds dh dd ri rn rs rh rd xi xn xs xh xd ak an ab al bk bn bb bl ck cn cb cl k n b l ok e2 hL hD hX hR hS
end Go.Proofs.YtmljabhmajehnaaGreatDoor
end

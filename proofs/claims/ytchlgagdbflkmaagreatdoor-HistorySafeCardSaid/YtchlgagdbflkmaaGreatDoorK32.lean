/- Package bundle: read. -/
import Derived.Test.YtchlgagdbflkmaaGreatDoorK31
import Derived.Test.YtchlgagdbflkmaaGreatDoorK30
import Derived.Test.YtchlgagdbflkmaaGreatDoorK13
set_option linter.unusedVariables false
set_option linter.unusedSimpArgs false
section
open Go.RowKit Go.Pl Go.Av
namespace Go.Proofs.YtchlgagdbflkmaaGreatDoor
set_option maxHeartbeats 4000000
abbrev bnT (p:PriV)(d:D):List D:=[.int .u64 (p.fl:Int),.int .i64 p.sum,.bool p.dest.i,.int .u64 (p.dest.n:Int),.int .u64 (p.dest.s:Int),.str p.dest.h,.str p.dest.d,.bool p.rep.i,.int .u64 (p.rep.n:Int),.int .u64 (p.rep.s:Int),.str p.rep.h,.str p.rep.d,.bool p.src.i,.int .u64 (p.src.n:Int),.int .u64 (p.src.s:Int),.str p.src.h,.str p.src.d,.int .u64 (p.t:Int),.int .u64 (p.q:Int),.int .u64 (p.life:Int),d]
abbrev zBn:List D:=[.int .u64 0,.int .i64 0,.bool false,.int .u64 0,.int .u64 0,.str [],.str [],.bool false,.int .u64 0,.int .u64 0,.str [],.str [],.bool false,.int .u64 0,.int .u64 0,.str [],.str [],.int .u64 0,.int .u64 0,.int .u64 0,.sl .nil []]
theorem BH {z:It}(hw:wfI z)(hb:∀ y ∈ z.l,y.b.length<=3000):(VB z).1.fl<18446744073709551616/\(VB z).1.data.length<=3000:=by
 have hsub:=Qo z 3
 have hws:wfs z.l:=by obtain⟨k,n,b,l⟩:=z;exact hw.2.2.2
 unfold VB
 generalize Qm z 3=o at *
 have h0:bk0.fl<18446744073709551616/\bk0.data.length<=3000:=by decide
 unfold Tf
 split
 ·exact h0
 ·split
  ·rename_i heq
   rw[heq]at hsub
   split
   ·exact h0
   ·split
    ·exact h0
    ·split
     ·exact h0
     ·exact⟨Ms (YD hws _ (hsub _ (List.mem_cons_of_mem _ (List.mem_cons_of_mem _ (List.mem_cons_self ..))))),hb _ (hsub _ (List.mem_cons_of_mem _ (List.mem_cons_of_mem _ (List.mem_cons_of_mem _ (List.mem_cons_of_mem _ (List.mem_cons_self ..))))))⟩
  ·exact h0
theorem Ig:∀ {l:List It} {y:It},y ∈ l->(ZU y).length<=(ZQ l).length
 | x::l,y,h=>by
  rw[ZQ,List.length_append]
  rcases List.mem_cons.1 h with rfl|h
  ·omega
  ·have:=Ig h;omega
theorem XI (y:It):y.b.length<=(ZU y).length/\(ZQ y.l).length<=(ZU y).length:=by
 obtain⟨k,n,b,l⟩:=y
 rw[ZU,List.length_append,List.length_append]
 show b.length<=_/\(ZQ l).length<=_
 omega
theorem ME (x:It):1<=VA x:=by obtain⟨k,n,b,l⟩:=x;rw[VA];omega
theorem MF:∀(l:List It),l.length<=Vc l
 | []=>by simp
 | x::l=>by
  have h1:=ME x
  have h2:=MF l
  rw[Vc,List.length_cons];omega
theorem Tj:∀ {l:List It} {y:It},y ∈ l->VA y<=Vc l
 | x::l,y,h=>by
  rw[Vc]
  rcases List.mem_cons.1 h with rfl|h
  ·omega
  ·have:=Tj h;omega
theorem T5 {y:It}(h:(ZU y).length<=100000)(hy:∀ z ∈ y.l,(ZU z).length<=3000)(hl:y.l.length<=1000000):(∀ z ∈ y.l,z.b.length<=3000)/\∀ s m,s=1\/s=2->(ZU (Yh s (y.l.take m))).length<=1000000000:=by
 refine⟨fun z hz=>Nat.le_trans (XI z).1 (hy z hz),fun s m hs=>?_⟩
 have h0:=YO 4 0 [] (y.l.take m++[.mk 2 0 (List.replicate (2*s) 0) []])
 have h1:=YO 2 0 (List.replicate (2*s) 0) []
 have h2:=W8 y.l m
 have h3:=(XI y).2
 rw[QL]at h0
 simp only[ZQ,List.length_append,List.length_nil,List.length_replicate,Nat.add_zero,Nat.zero_add]at h0 h1
 show(ZU (.mk 4 0 [] (y.l.take m++[.mk 2 0 (List.replicate (2*s) 0) []]))).length<=_
 omega
abbrev bnR (r:BunV × Int):D:=.tup [.agg (bnC r.1),.int .i64 r.2]
def Gq (acc:List BlkV)(r:List It):Except Int (List BlkV):=match Va r with
 | .error e=>.error e
 | .ok l=>.ok (acc++l)
theorem T6 (acc:List BlkV)(y:It)(r:List It):Gq acc (y::r)=match(VB y).2==0 with
  | false=>.error (VB y).2
  | true=>Gq (acc++[(VB y).1]) r:=by
 unfold Gq
 rw[Va]
 cases(VB y).2==0 with
 | false=>rfl
 | true=>
  dsimp only
  cases Va r with
  | error e=>rfl
  | ok l=>simp
theorem T7 [Known][KnownU8](x:List UInt8)(hx:x.length<=3000):AP Tryz.prog 125 [byE x] (bnR (UQ x)) []:=by
 have hR:=Kg x 0 (by omega)
 have hlm:(x.map E.byte).length=x.length:=List.length_map ..
 unfold UQ
 cases t0:decide ((x.length:Int)>1200) with
 | true=>
  have t1:decide (((x.map E.byte).length:Int)>1200)=true:=by rw[hlm];exact t0
  refine AP.ofA (Zl Tryz.func125 Z Tryz.ntmps125 Z Z ?_)
  repeat'(first|(apply Zg Za;exact Z)|(apply Zh Za;exact Z)|(apply Zs Za;exact Z)|refine Ze Z Qt ?_|refine Zn Za Z Z Z Z ?_)
  all_goals exact Qe
 | false=>
 have t1:decide (((x.map E.byte).length:Int)>1200)=false:=by rw[hlm];exact t0
 dsimp only
 rcases Oo x (by omega) with⟨e,he,h,_⟩ | ⟨y,n,h,hw,hr,hpl,hn⟩
 ·rw[h]at hR ⊢
  have te:((e:Int) != 0)=true:=by simpa using he
  dsimp only
  rw[te]
  refine AP.ofA (Zl Tryz.func125 Z Tryz.ntmps125 Z Z ?_)
  repeat'(first|(apply Zb (hR);kernel_rfl;(iterate 4 exact Z))|(apply Zg Za;exact Z)|(apply Zh Za;exact Z)|(apply Zs Za;exact Z)|refine Ze Z Qt ?_|refine Zf Z Qt ?_|refine Zn Za Z Z Z Z ?_)
  all_goals exact Qe
 rw[h]at hR ⊢
 have te:(((0:Nat):Int) != 0)=false:=rfl
 dsimp only
 rw[te]
 dsimp only
 cases t2:(n==x.length) with
 | false=>
  have t3:((n:Int) != ((x.map E.byte).length:Int))=true:=by rw[hlm];simp at t2 ⊢;omega
  obtain⟨k,n1,b,l⟩:=y
  refine AP.ofA (Zl Tryz.func125 Z Tryz.ntmps125 Z Z ?_)
  repeat'(first|(apply Zb (hR);kernel_rfl;(iterate 4 exact Z))|(apply Zg Za;exact Z)|(apply Zh Za;exact Z)|(apply Zs Za;exact Z)|refine Zo Z Z Z Qt ?_|refine Zj Z Qt Z Z ?_|refine Ze Z Qt ?_|refine Zf Z Qt ?_|refine Zn Za Z Z Z Z ?_)
  all_goals exact Qe
 | true=>
 have t3:((n:Int) != ((x.map E.byte).length:Int))=false:=by rw[hlm];simp at t2 ⊢;omega
 have hyl:(ZU y).length<=3000:=by omega
 have hsub:=XI y
 have hws:wfs y.l:=by obtain⟨k,n1,b,l⟩:=y;exact hw.2.2.2
 have hsz:Vc y.l<=256:=by
  rw[TQ]at hr
  simp only[Bool.and_eq_true,decide_eq_true_eq]at hr
  obtain⟨k,n1,b,l⟩:=y
  have:=hr.2.1
  rw[VA]at this
  show Vc l<=256
  omega
 clear h hr t2 hpl hn
 obtain⟨k,n1,b,l⟩:=y
 dsimp only[It.l]at hsub hws hsz
 have hlen:=Zz l
 unfold Th
 dsimp only
 cases t4:(k==4) with
 | false=>
  have t5:(k != 4)=true:=by simpa using t4
  refine AP.ofA (Zl Tryz.func125 Z Tryz.ntmps125 Z Z ?_)
  repeat'(first|(apply Zb (hR);kernel_rfl;(iterate 4 exact Z))|(apply Zg Za;exact Z)|(apply Zh Za;exact Z)|(apply Zs Za;exact Z)|refine Zd Z Z Z Qt ?_|refine Zo Z Z Z Qt ?_|refine Zj Z Qt Z Z ?_|refine Zi Z Qt Z Z ?_|refine Ze Z Qt ?_|refine Zf Z Qt ?_|refine Zn Za Z Z Z Z ?_)
  all_goals exact Qe
 | true=>
 have t5:(k != 4)=false:=by simpa using t4
 cases t6:decide (2<=l.length) with
 | false=>
  have t7:decide (((Zu l).length:Int)<2)=true:=by rw[hlen];simp at t6 ⊢;omega
  refine AP.ofA (Zl Tryz.func125 Z Tryz.ntmps125 Z Z ?_)
  repeat'(first|(apply Zb (hR);kernel_rfl;(iterate 4 exact Z))|(apply Zg Za;exact Z)|(apply Zh Za;exact Z)|(apply Zs Za;exact Z)|refine Zd Z Z Z Qt ?_|refine Zo Z Z Z Qt ?_|refine Zj Z Qt Z Z ?_|refine Zi Z Qt Z Z ?_|refine Ze Z Qt ?_|refine Zf Z Qt ?_|refine Zn Za Z Z Z Z ?_)
  all_goals exact Qe
 | true=>
 have t7:decide (((Zu l).length:Int)<2)=false:=by rw[hlen];simp at t6 ⊢;omega
 cases t8:decide (l.length<=9) with
 | false=>
  have t9:decide (((Zu l).length:Int)>9)=true:=by rw[hlen];simp at t8 ⊢;omega
  refine AP.ofA (Zl Tryz.func125 Z Tryz.ntmps125 Z Z ?_)
  repeat'(first|(apply Zb (hR);kernel_rfl;(iterate 4 exact Z))|(apply Zg Za;exact Z)|(apply Zh Za;exact Z)|(apply Zs Za;exact Z)|refine Zd Z Z Z Qt ?_|refine Zi Z Qt Z Z ?_|refine Ze Z Qt ?_|refine Zf Z Qt ?_|refine Zn Za Z Z Z Z ?_)
  all_goals exact Qe
 | true=>
 have t9:decide (((Zu l).length:Int)>9)=false:=by rw[hlen];simp at t8 ⊢;omega
 have hl9:=of_decide_eq_true t8
 have hl2:=of_decide_eq_true t6
 clear t6 t8
 rw[Bool.true_and,Bool.true_and]
 cases l with
 | nil=>simp at hl2
 | cons y0 r=>
 dsimp only
 have hmem:∀ z ∈ y0::r,wfI z/\(ZU z).length<=3000:=fun z hz=>⟨YD hws z hz,Nat.le_trans (Ig hz) (Nat.le_trans hsub.2 hyl)⟩
 have hpart:∀ z ∈ y0::r,z.l.length<=1000000/\(∀ u ∈ z.l,u.b.length<=3000)/\∀ s m,s=1\/s=2->(ZU (Yh s (z.l.take m))).length<=1000000000:=fun z hz=>by
  obtain⟨h1,h2⟩:=hmem z hz
  have h3:=(XI z).2
  have h5:=Tj hz
  have h6:=MF z.l
  have h4:z.l.length<=1000000:=by
   obtain⟨kz,nz,bz,lz⟩:=z
   rw[VA]at h5
   dsimp only[It.l]at h6 ⊢
   omega
  exact⟨h4,T5 (by omega) (fun u hu=>Nat.le_trans (Ig hu) (by omega)) h4⟩
 have hw0:=(hmem y0 (List.mem_cons_self ..)).1
 obtain⟨p1,_,p3⟩:=hpart y0 (List.mem_cons_self ..)
 have hP:=Mw y0 hw0 p1 p3
 have hpf:=Rt hw0
 have hU:=Y4 (y0::r)
 obtain⟨k0,n0,b0,l0⟩:=y0
 have hv0:(Zu (It.mk k0 n0 b0 l0::r))[(0:Int).toNat]?=some (.agg [.int .i64 k0,.int .u64 (n0:Int),.sl (b0.map E.byte),.sl (Zu l0)]):=rfl
 generalize hLe:Zu (It.mk k0 n0 b0 l0::r)=LL at *
 replace hR:AP Tryz.prog 146 [byE x,.int .i64 0] (.tup [.agg [.int .i64 k,.int .u64 (n1:Int),.sl .ext (b.map E.byte),.sl .ext LL],.int .i64 (n:Int),.int .i64 0]) []:=by rw[<- hLe];exact hR
 generalize JH (.mk k0 n0 b0 l0)=rp at *
 obtain⟨p,e⟩:=rp
 dsimp only at hpf ⊢
 cases t10:(e != 0) with
 | true=>
  refine AP.ofA (Zl Tryz.func125 Z Tryz.ntmps125 Z Z ?_)
  repeat'(first|(apply Zb (hR);kernel_rfl;(iterate 4 exact Z))|(apply Zb (hP);kernel_rfl;(iterate 4 exact Z))|(apply Zg Za;exact Z)|(apply Zh Za;exact Z)|(apply Zs Za;exact Z)|refine Zd Z Z Z Qt ?_|refine Zi Z Qt Z Z ?_|refine Ze Z Qt ?_|refine Zf Z Qt ?_|refine Zn Za Z Z Z Z ?_|(apply Zw Za;(iterate 6 exact Z);(first|exact Qt|rotate_left);(first|with_reducible assumption|decide +kernel|exact Z);(first|exact Zk rfl|with_reducible assumption|decide +kernel|rotate_left)))
  all_goals exact Qe
 | false=>
 dsimp only
 have hle1:(1:Int).toNat<=LL.length:=by rw[hlen];show 1<=_;omega
 have hI:LL.drop (1:Int).toNat=Zu r:=by rw[<- hLe];rfl
 have hr0:1<=r.length:=by rw[List.length_cons]at hl2;omega
 have hr9:r.length<=9:=by rw[List.length_cons]at hl9;omega
 have hlr:=Zz r
 have hUr:=Y4 r
 have hF:Gq [] r=Va r:=by unfold Gq;cases Va r<;>rfl
 rw[<- hF]
 generalize hF2:Gq [] r=F
 have key:∀ d,bnR (match F with | .error e=>(bn0,e) | .ok bl=>match VD ⟨p,bl⟩ with|false=>(bn0,3)|true=>(⟨p,bl⟩,0))=d->AP Tryz.prog 125 [byE x] d []:=fun d hd=>by
  refine AP.ofA (Zl Tryz.func125 Z Tryz.ntmps125 Z Z ?_)
  repeat'(first|(apply Zb (hR);kernel_rfl;(iterate 4 exact Z))|(apply Zb (hP);kernel_rfl;(iterate 4 exact Z))|refine NZ Za Z Z Z Z Z Z hU (by decide) hle1 hI ?_|(apply Zg Za;exact Z)|(apply Zh Za;exact Z)|(apply Zs Za;exact Z)|refine Zd Z Z Z Qt ?_|refine Zi Z Qt Z Z ?_|refine Zf Z Qt ?_|refine Zn Za Z Z Z Z ?_|(apply Zw Za;(iterate 6 exact Z);(first|exact Qt|rotate_left);(first|with_reducible assumption|decide +kernel|exact Z);(first|exact Zk rfl|with_reducible assumption|decide +kernel|rotate_left)))
  show AW _ _ _ _
  refine Yf (fun f tm bx fr=>∃(i c:Nat) (acc:List BlkV) (f0:Fr),f+i=r.length/\c=(Y5 acc).length/\acc.length=i/\(∀ c ∈ acc,c.fl<18446744073709551616/\c.data.length<=3000)/\Gq acc (r.drop i)=F/\tm=[(2,.ptr 0 0),(7,.ptr 2 0),(65,.sl .ext (Zu r)),(66,.int .i64 ((Zu r).length:Int)),(67,.int .i64 (i:Int))] /\
   ((i=0/\acc=[]/\bx=[zBn,[.int .i64 k,.int .u64 (n1:Int),.sl .ext (b.map E.byte),.sl .ext LL],bnT p (.sl .nil [])]/\fr=[]) \/
   (bx=[zBn,[.int .i64 k,.int .u64 (n1:Int),.sl .ext (b.map E.byte),.sl .ext LL],bnT p (.sl (.own 1) (Y5 acc))]/\fr=[f0,⟨c,5,235⟩]))) (r.length+1) (Lands.mk' (m:=r.length) (Nat.lt_succ_self _) ⟨0,0,[],default,rfl,rfl,rfl,by simp,hF2,rfl,.inl ⟨rfl,rfl,rfl,rfl⟩⟩ ?_ rfl rfl rfl rfl rfl rfl) ?_
  ·exact .cons rfl (.cons rfl (.cons rfl (.cons rfl (.cons rfl .nil))))
  rintro f tm bx fr ⟨i,c,acc,f0,hf,hc,hai,hab,hq,rfl,hst⟩
  rcases Nat.lt_or_ge i r.length with hlt|hge
  ·have hdl:decide ((i:Int)<((Zu r).length:Int))=true:=decide_eq_true (by omega)
   obtain⟨z,hy⟩:∃ y,r[i]?=some y:=⟨_,List.getElem?_eq_getElem hlt⟩
   have hzm:z ∈ It.mk k0 n0 b0 l0::r:=List.mem_cons_of_mem _ (List.mem_of_getElem? hy)
   have hwz:=(hmem z hzm).1
   obtain⟨q1,q2,q3⟩:=hpart z hzm
   have hB:=Mr z hwz q1 q3 q2
   have hbf:=BH hwz q2
   have hdr:r.drop i=z::r.drop (i+1):=by
    rw[List.drop_eq_getElem_cons hlt];congr 1
    exact(List.getElem?_eq_some_iff.1 hy).2
   rw[hdr,T6]at hq
   have ei:IntKind.i64.wrap ((i:Int)+1)=((i+1:Nat):Int):=by rw[IntWalk.i64_in _ (by omega)];omega
   obtain⟨kz,nz,bz,lz⟩:=z
   have hv:(Zu r)[((i:Nat):Int).toNat]?=some (.agg [.int .i64 kz,.int .u64 (nz:Int),.sl (bz.map E.byte),.sl (Zu lz)]):=by
    rw[Int.toNat_natCast,Yi,List.getElem?_map,hy];rfl
   generalize VB (.mk kz nz bz lz)=rb at *
   obtain⟨cb,e2⟩:=rb
   dsimp only at hbf hq
   cases t11:(e2==0) with
   | false=>
    have t12:(e2 != 0)=true:=by simpa using t11
    rw[t11]at hq
    dsimp only at hq
    subst hq
    dsimp only at hd
    subst hd
    rcases hst with⟨rfl,rfl,rfl,rfl⟩ | ⟨rfl,rfl⟩
    ·repeat'(first|(apply Zb (hB);kernel_rfl;(iterate 4 exact Z))|(apply Zg Za;exact Z)|(apply Zh Za;exact Z)|(apply Zs Za;exact Z)|refine Ze Z Qt ?_|(apply Zw Za;(iterate 6 exact Z);(first|exact Qt|rotate_left);(first|with_reducible assumption|decide +kernel|exact Z);(first|exact Zk rfl|with_reducible assumption|decide +kernel|rotate_left)))
     all_goals exact Qe
    ·repeat'(first|(apply Zb (hB);kernel_rfl;(iterate 4 exact Z))|(apply Zg Za;exact Z)|(apply Zh Za;exact Z)|(apply Zs Za;exact Z)|refine Ze Z Qt ?_|(apply Zw Za;(iterate 6 exact Z);(first|exact Qt|rotate_left);(first|with_reducible assumption|decide +kernel|exact Z);(first|exact Zk rfl|with_reducible assumption|decide +kernel|rotate_left)))
     all_goals exact Qe
   | true=>
    have t12:(e2 != 0)=false:=by simpa using t11
    rw[t11]at hq
    dsimp only at hq
    have hab2:∀ c ∈ acc++[cb],c.fl<18446744073709551616/\c.data.length<=3000:=fun c hc=>by
     rcases List.mem_append.1 hc with hc|hc
     ·exact hab c hc
     ·simp at hc;subst hc;exact hbf
    have hU5:=My acc
    have hUc:=My [cb]
    subst hc
    have hbl:=XG acc
    rcases hst with⟨rfl,rfl,rfl,rfl⟩ | ⟨rfl,rfl⟩
    ·repeat'(first|(apply Zb (hB);kernel_rfl;(iterate 4 exact Z))|rw[ei]|refine Z9 Za Z Z Z Z Z Z (Zk rfl) (List.cons_ne_nil _ _) Z Qd Qd Z Z Z ?_|(apply Zg Za;exact Z)|(apply Zh Za;exact Z)|refine Ze Z Qt ?_|refine Zf Z Qt ?_|refine ZO Za Z Z Z Z Z Z Z Z Z Z Z Z ?_|(apply Zw Za;(iterate 6 exact Z);(first|exact Qt|rotate_left);(first|with_reducible assumption|decide +kernel|exact Z);(first|exact Zk rfl|with_reducible assumption|decide +kernel|rotate_left)))
     refine Lands.mk' (m:=f-1) (by omega) ⟨1,1,[cb],_,by omega,rfl,rfl,hab2,hq,rfl,.inr ⟨rfl,rfl⟩⟩ ?_ rfl rfl rfl rfl rfl rfl
     exact .cons rfl (.cons rfl (.cons rfl (.cons rfl (.cons rfl .nil))))
    ·have hs:Y5 acc++[bkE cb]=Y5 (acc++[cb]):=(List.map_append (f:=bkE) (l₁:=acc) (l₂:=[cb])).symm
     repeat'(first|(apply Zb (hB);kernel_rfl;(iterate 4 exact Z))|rw[ei]|(apply Zg Za;exact Z)|(apply Zh Za;exact Z)|refine Ze Z Qt ?_|refine Zf Z Qt ?_|refine ZO Za Z Z Z Z Z Z Z Z Z Z Z Z ?_|(apply Z3 Za;(iterate 6 exact Z);(first|with_reducible assumption|decide +kernel|exact Z|rotate_left);exact Z;exact Z;(first|exact Zk rfl|with_reducible assumption|decide +kernel|rotate_left);(first|exact Zk rfl|with_reducible assumption|decide +kernel|rotate_left);(first|exact Qt|rotate_left);(first|exact Qt|rotate_left);(first|exact Qt|rotate_left);exact Z;exact Z)|(apply Zw Za;(iterate 6 exact Z);(first|exact Qt|rotate_left);(first|with_reducible assumption|decide +kernel|exact Z);(first|exact Zk rfl|with_reducible assumption|decide +kernel|rotate_left)))
     ·refine Lands.mk' (m:=f-1) (by omega) ⟨i+1,(Y5 acc).length+1,acc++[cb],f0,by omega,by rw[<- hs,List.length_append];rfl,by rw[List.length_append,hai];rfl,hab2,hq,rfl,.inr ⟨by rw[<- hs],rfl⟩⟩ ?_ rfl rfl rfl rfl rfl rfl
      exact .cons rfl (.cons rfl (.cons rfl (.cons rfl (.cons rfl .nil))))
     all_goals(first|rfl|(simp only[List.length_append,List.length_cons,List.length_nil,List.length_map,Zz];done)|(simp only[List.length_append,List.length_cons,List.length_nil,List.length_map,Zz]at *;(try unfold maxLen);(try simp only[Nat.add_mul]);omega))
  ·have hdl:decide ((i:Int)<((Zu r).length:Int))=false:=decide_eq_false (by omega)
   have hqn:F=.ok acc:=by
    rw[<- hq,List.drop_eq_nil_of_le hge]
    unfold Gq
    rw[Va]
    dsimp only
    rw[List.append_nil]
   subst hqn
   dsimp only at hd
   have hRt:=Hi ⟨p,acc⟩ ⟨hpf,by show acc.length<=_;omega,hab⟩
   rcases hst with⟨rfl,_,_,_⟩ | ⟨rfl,rfl⟩
   ·omega
   cases t13:VD ⟨p,acc⟩ with
   | false=>
    rw[t13]at hRt hd
    dsimp only at hd
    subst hd
    repeat'(first|(apply Zb (hRt);kernel_rfl;(iterate 4 exact Z))|(apply Zg Za;exact Z)|(apply Zh Za;exact Z)|(apply Zs Za;exact Z)|refine Ze Z Qt ?_|refine Zf Z Qt ?_)
    all_goals exact Qe
   | true=>
    rw[t13]at hRt hd
    dsimp only at hd
    subst hd
    repeat'(first|(apply Zb (hRt);kernel_rfl;(iterate 4 exact Z))|(apply Zg Za;exact Z)|(apply Zh Za;exact Z)|(apply Zs Za;exact Z)|refine Zf Z Qt ?_)
    all_goals exact Qe
 exact key _ rfl
theorem Su {z:It}(hw:wfI z):(VB z).1.fl<18446744073709551616:=by
 have hsub:=Qo z 3
 have hws:wfs z.l:=by obtain⟨k,n,b,l⟩:=z;exact hw.2.2.2
 unfold VB
 generalize Qm z 3=o at *
 have h0:bk0.fl<18446744073709551616:=by decide
 unfold Tf
 split
 ·exact h0
 ·split
  ·rename_i heq
   rw[heq]at hsub
   split
   ·exact h0
   ·split
    ·exact h0
    ·split
     ·exact h0
     ·exact Ms (YD hws _ (hsub _ (List.mem_cons_of_mem _ (List.mem_cons_of_mem _ (List.mem_cons_self ..)))))
  ·exact h0
theorem OJ:∀ {l:List It} {bl:List BlkV},wfs l->Va l=.ok bl->∀ c ∈ bl,c.fl<18446744073709551616
 | [],bl,_,h,c,hc=>by rw[Va]at h;cases h;simp at hc
 | y::r,bl,hw,h,c,hc=>by
  rw[Va]at h
  split at h
  ·cases h
  ·split at h
   ·cases h
   ·rename_i l hr
    cases h
    rcases List.mem_cons.1 hc with rfl|hc
    ·exact Su hw.1
    ·exact OJ hw.2 hr c hc
theorem LW {x:List UInt8}(hx:x.length<=3000){c:BunV}(h:UQ x=(c,0)):BunOk c:=by
 have hr:=KA h
 unfold VD at hr
 rw[Bool.and_eq_true]at hr
 obtain⟨h8,hb⟩:=KP hr.1
 have key:c.p.fl<18446744073709551616/\∀ y ∈ c.bl,y.fl<18446744073709551616:=by
  unfold UQ at h
  split at h
  ·simp at h
  ·rcases Oo x (by omega) with⟨e,he,hi,_⟩ | ⟨y,n,hi,hw,_⟩
   ·rw[hi]at h
    have te:((e:Int) != 0)=true:=by simpa using he
    dsimp only at h
    rw[te]at h
    simp only[Prod.mk.injEq]at h
    exact absurd h.2 (by omega)
   ·rw[hi]at h
    dsimp only at h
    rw[show(((0:Nat):Int) != 0)=false from rfl]at h
    dsimp only at h
    split at h
    ·simp at h
    ·unfold Th at h
     obtain⟨k,n2,b,l⟩:=y
     have hws:wfs l:=hw.2.2.2
     dsimp only at h
     split at h
     ·simp at h
     ·split at h
      ·simp at h
      ·split at h
       ·rename_i t
        simp only[Prod.mk.injEq]at h
        rw[h.2]at t
        cases t
       ·split at h
        ·rename_i e he
         simp only[Prod.mk.injEq]at h
         exact absurd h.2 (Ja he)
        ·rename_i bl he
         split at h
         ·simp at h
         ·simp only[Prod.mk.injEq,and_true]at h
          subst h
          exact⟨Rt hws.1,OJ hws.2 he⟩
 exact⟨key.1,by omega,fun y hy=>⟨key.2 y hy,Nat.le_trans (Mx (hb y hy)) (by omega)⟩⟩
theorem LX (a b:List UInt8):(a==b)=(b==a):=by
 rw[Bool.eq_iff_iff,beq_iff_eq,beq_iff_eq];exact eq_comm
theorem Hj [Known][KnownU8](x:List UInt8)(hx:x.length<=3000):AP Tryz.prog 109 [byE x] (.bool (XF x)) []:=by
 have hR:=T7 x hx
 unfold XF
 rcases hr:UQ x with⟨c,e⟩
 rw[hr]at hR
 dsimp only[bnR]at hR ⊢
 by_cases he:e=0
 case neg=>
  have te:(e != 0)=true:=by simpa using he
  have te2:(e==0)=false:=by simpa using he
  rw[te2,Bool.false_and]
  obtain⟨⟨fl,sum,⟨di,dn,ds,dh,dd⟩,⟨ri,rn,rs,rh,rd⟩,⟨xi,xn,xs,xh,xd⟩,t,q,life⟩,bl⟩:=c
  try dsimp only at *
  refine AP.ofA (Zl Tryz.func109 Z Tryz.ntmps109 Z Z ?_)
  repeat'(first|(apply Zb (hR);kernel_rfl;(iterate 4 exact Z))|(apply Zg Za;exact Z)|(apply Zh Za;exact Z)|(apply Zs Za;exact Z)|refine Ze Z Qt ?_)
  all_goals exact Qe
 subst he
 have hW:=KC c (LW hx hr)
 unfold JI at hW
 rw[KA hr]at hW
 have hE:=Q4 x (OI c)
 rw[show((0:Int)==0)=true from rfl,Bool.true_and,LX]
 clear hr
 generalize OI c=pb at *
 obtain⟨⟨fl,sum,⟨di,dn,ds,dh,dd⟩,⟨ri,rn,rs,rh,rd⟩,⟨xi,xn,xs,xh,xd⟩,t,q,life⟩,bl⟩:=c
 try dsimp only at *
 refine AP.ofA (Zl Tryz.func109 Z Tryz.ntmps109 Z Z ?_)
 repeat'(first|(apply Zb (hR);kernel_rfl;(iterate 4 exact Z))|(apply Zb (hW);kernel_rfl;(iterate 4 exact Z))|(apply Zb (hE);kernel_rfl;(iterate 4 exact Z))|(apply Zg Za;exact Z)|(apply Zh Za;exact Z)|refine Zd Z Z Z Qt ?_|refine Zj Z Qt Z Z ?_|refine Zf Z Qt ?_)
 all_goals exact Qe
structure EvV where
 now:Nat
 kd:Int
 tok:Nat
 ses:Int
 rq:RqV
 data:List UInt8
abbrev evC (x:EvV):List D:=[.int .u64 (x.now:Int),.int .i64 x.kd,.int .u64 (x.tok:Int),.int .i64 x.ses,.int .u64 (x.rq.id:Int),.int .i64 x.rq.kd,.bool x.rq.ep.i,.int .u64 (x.rq.ep.n:Int),.int .u64 (x.rq.ep.s:Int),.str x.rq.ep.h,.str x.rq.ep.d,.bool x.rq.ds.i,.int .u64 (x.rq.ds.n:Int),.int .u64 (x.rq.ds.s:Int),.str x.rq.ds.h,.str x.rq.ds.d,.int .i64 x.rq.pol,.int .i64 x.rq.num,.int .i64 x.rq.tik,byE x.rq.pay,.int .u64 (x.rq.life:Int),.int .u64 (x.rq.tok:Int),.bool x.rq.on,byE x.data]
abbrev rq0:RqV:=⟨0,0,Wt,Wt,0,0,0,[],0,0,false⟩
abbrev evZ (x:EvV):EvV:=⟨x.now,x.kd,0,0,rq0,[]⟩
def OK (x:EvV):EvV:=
 if x.kd==1||x.kd==2 then { evZ x with tok:=x.tok }
 else if x.kd==3 then { evZ x with ses:=x.ses }
 else if x.kd==4 then { evZ x with ses:=x.ses,rq:=x.rq }
 else if x.kd==5 then { evZ x with data:=x.data }
 else evZ x
def Gr (n:Int):Bool:=decide (n ≥ 1)&&decide (n<=1099511627776)
def XJ (x:EvV):Bool:=
 if x.kd==1||x.kd==2 then decide ((x.tok:Int) ≥ 1)&&decide ((x.tok:Int)<=2147483648)
 else if x.kd==3 then Gr x.ses
 else if x.kd==4 then Gr x.ses&&(Xx x.rq&&((x.rq.kd != 11)&&(x.rq.kd != 12)))
 else if x.kd==5 then XF x.data
 else x.kd==6||(x.kd==7||x.kd==8)
def Ih (a b:EvV):Bool:=((a.now:Int)==(b.now:Int))&&((a.kd==b.kd)&&(((a.tok:Int)==(b.tok:Int))&&((a.ses==b.ses)&&(JU a.rq b.rq&&(a.data==b.data)))))
def Ye (x:EvV):Bool:=decide ((x.now:Int)<=1099511627776)&&(Ih x (OK x)&&XJ x)
theorem Ru (k:Int):k=1\/k=2\/k=3\/k=4\/k=5\/k=6\/k=7\/k=8\/((k==1)=false/\(k==2)=false/\(k==3)=false/\(k==4)=false/\(k==5)=false/\(k==6)=false/\(k==7)=false/\(k==8)=false):=by
 simp only[beq_eq_false_iff_ne];omega
end Go.Proofs.YtchlgagdbflkmaaGreatDoor
end

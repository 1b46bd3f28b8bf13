/- Package bundle: read. -/
import Derived.Test.YtkdpfkjlheajhaaGreatDoorE30
import Derived.Test.YtkdpfkjlheajhaaGreatDoorE29
import Derived.Test.YtkdpfkjlheajhaaGreatDoorE12
set_option linter.unusedVariables false
set_option linter.unusedSimpArgs false
section
open Go.RowKit Go.Pl Go.Av
namespace Go.Proofs.YtkdpfkjlheajhaaGreatDoor
set_option maxHeartbeats 4000000
abbrev bnT (p:PriV)(d:D):List D:=[.int .u64 (p.fl:Int),.int .i64 p.sum,.bool p.dest.i,.int .u64 (p.dest.n:Int),.int .u64 (p.dest.s:Int),.str p.dest.h,.str p.dest.d,.bool p.rep.i,.int .u64 (p.rep.n:Int),.int .u64 (p.rep.s:Int),.str p.rep.h,.str p.rep.d,.bool p.src.i,.int .u64 (p.src.n:Int),.int .u64 (p.src.s:Int),.str p.src.h,.str p.src.d,.int .u64 (p.t:Int),.int .u64 (p.q:Int),.int .u64 (p.life:Int),d]
abbrev zBn:List D:=[.int .u64 0,.int .i64 0,.bool false,.int .u64 0,.int .u64 0,.str [],.str [],.bool false,.int .u64 0,.int .u64 0,.str [],.str [],.bool false,.int .u64 0,.int .u64 0,.str [],.str [],.int .u64 0,.int .u64 0,.int .u64 0,.sl .nil []]
theorem Bn {z:It}(hw:wfI z)(hb:∀ y ∈ z.l,y.b.length<=3000):(VN z).1.fl<18446744073709551616/\(VN z).1.data.length<=3000:=by
 have hsub:=Qu z 3
 have hws:wfs z.l:=by obtain⟨k,n,b,l⟩:=z;exact hw.2.2.2
 unfold VN
 generalize Qs z 3=o at *
 have h0:bk0.fl<18446744073709551616/\bk0.data.length<=3000:=by decide
 unfold Tt
 split
 ·exact h0
 ·split
  ·rename_i heq
   rw[heq]at hsub
   split
   ·exact h0
   ·split
    ·exact h0
    ·split
     ·exact h0
     ·exact⟨MC (YM hws _ (hsub _ (List.mem_cons_of_mem _ (List.mem_cons_of_mem _ (List.mem_cons_self ..))))),hb _ (hsub _ (List.mem_cons_of_mem _ (List.mem_cons_of_mem _ (List.mem_cons_of_mem _ (List.mem_cons_of_mem _ (List.mem_cons_self ..))))))⟩
  ·exact h0
theorem Iv:∀ {l:List It} {y:It},y ∈ l->(Z0 y).length<=(ZT l).length
 | x::l,y,h=>by
  rw[ZT,List.length_append]
  rcases List.mem_cons.1 h with rfl|h
  ·omega
  ·have:=Iv h;omega
theorem X2 (y:It):y.b.length<=(Z0 y).length/\(ZT y.l).length<=(Z0 y).length:=by
 obtain⟨k,n,b,l⟩:=y
 rw[Z0,List.length_append,List.length_append]
 show b.length<=_/\(ZT l).length<=_
 omega
theorem MO (x:It):1<=VM x:=by obtain⟨k,n,b,l⟩:=x;rw[VM];omega
theorem MP:∀(l:List It),l.length<=Vg l
 | []=>by simp
 | x::l=>by
  have h1:=MO x
  have h2:=MP l
  rw[Vg,List.length_cons];omega
theorem Tx:∀ {l:List It} {y:It},y ∈ l->VM y<=Vg l
 | x::l,y,h=>by
  rw[Vg]
  rcases List.mem_cons.1 h with rfl|h
  ·omega
  ·have:=Tx h;omega
theorem Nl {y:It}(h:(Z0 y).length<=100000)(hy:∀ z ∈ y.l,(Z0 z).length<=3000)(hl:y.l.length<=1000000):(∀ z ∈ y.l,z.b.length<=3000)/\∀ s m,s=1\/s=2->(Z0 (Yt s (y.l.take m))).length<=1000000000:=by
 refine⟨fun z hz=>Nat.le_trans (X2 z).1 (hy z hz),fun s m hs=>?_⟩
 have h0:=Y1 4 0 [] (y.l.take m++[.mk 2 0 (List.replicate (2*s) 0) []])
 have h1:=Y1 2 0 (List.replicate (2*s) 0) []
 have h2:=W9 y.l m
 have h3:=(X2 y).2
 rw[QL]at h0
 simp only[ZT,List.length_append,List.length_nil,List.length_replicate,Nat.add_zero,Nat.zero_add]at h0 h1
 show(Z0 (.mk 4 0 [] (y.l.take m++[.mk 2 0 (List.replicate (2*s) 0) []]))).length<=_
 omega
abbrev bnR (r:BunV × Int):D:=.tup [.agg (bnC r.1),.int .i64 r.2]
def GJ (acc:List BlkV)(r:List It):Except Int (List BlkV):=match Vb r with
 | .error e=>.error e
 | .ok l=>.ok (acc++l)
theorem Nm (acc:List BlkV)(y:It)(r:List It):GJ acc (y::r)=match(VN y).2==0 with
  | false=>.error (VN y).2
  | true=>GJ (acc++[(VN y).1]) r:=by
 unfold GJ
 rw[Vb]
 cases(VN y).2==0 with
 | false=>rfl
 | true=>
  dsimp only
  cases Vb r with
  | error e=>rfl
  | ok l=>simp
theorem Nn [Known][KnownU8](x:List UInt8)(hx:x.length<=3000):AP Tryz.prog 119 [byE x] (bnR (UW x)) []:=by
 have hR:=KA x 0 (by omega)
 have hlm:(x.map E.byte).length=x.length:=List.length_map ..
 unfold UW
 cases t0:decide ((x.length:Int)>1200) with
 | true=>
  have t1:decide (((x.map E.byte).length:Int)>1200)=true:=by rw[hlm];exact t0
  refine AP.ofA (Zl Tryz.func119 Z Tryz.ntmps119 Z Z ?_)
  repeat'(first|(apply Zi Za;exact Z)|(apply Zg Za;exact Z)|(apply Zu Za;exact Z)|refine Zd Z Qt ?_|refine Zt Za Z Z Z Z ?_)
  all_goals exact Qe
 | false=>
 have t1:decide (((x.map E.byte).length:Int)>1200)=false:=by rw[hlm];exact t0
 dsimp only
 rcases OH x (by omega) with⟨e,he,h,_⟩ | ⟨y,n,h,hw,hr,hpl,hn⟩
 ·rw[h]at hR ⊢
  have te:((e:Int) != 0)=true:=by simpa using he
  dsimp only
  rw[te]
  refine AP.ofA (Zl Tryz.func119 Z Tryz.ntmps119 Z Z ?_)
  repeat'(first|(apply Zb (hR);kernel_rfl;(iterate 4 exact Z))|(apply Zi Za;exact Z)|(apply Zg Za;exact Z)|(apply Zu Za;exact Z)|refine Zd Z Qt ?_|refine Zf Z Qt ?_|refine Zt Za Z Z Z Z ?_)
  all_goals exact Qe
 rw[h]at hR ⊢
 have te:(((0:Nat):Int) != 0)=false:=rfl
 dsimp only
 rw[te]
 dsimp only
 cases t2:(n==x.length) with
 | false=>
  have t3:((n:Int) != ((x.map E.byte).length:Int))=true:=by rw[hlm];simp at t2 ⊢;omega
  obtain⟨k,n1,b,l⟩:=y
  refine AP.ofA (Zl Tryz.func119 Z Tryz.ntmps119 Z Z ?_)
  repeat'(first|(apply Zb (hR);kernel_rfl;(iterate 4 exact Z))|(apply Zi Za;exact Z)|(apply Zg Za;exact Z)|(apply Zu Za;exact Z)|refine Zp Z Z Z Qt ?_|refine Zk Z Qt Z Z ?_|refine Zd Z Qt ?_|refine Zf Z Qt ?_|refine Zt Za Z Z Z Z ?_)
  all_goals exact Qe
 | true=>
 have t3:((n:Int) != ((x.map E.byte).length:Int))=false:=by rw[hlm];simp at t2 ⊢;omega
 have hyl:(Z0 y).length<=3000:=by omega
 have hsub:=X2 y
 have hws:wfs y.l:=by obtain⟨k,n1,b,l⟩:=y;exact hw.2.2.2
 have hsz:Vg y.l<=256:=by
  rw[T9]at hr
  simp only[Bool.and_eq_true,decide_eq_true_eq]at hr
  obtain⟨k,n1,b,l⟩:=y
  have:=hr.2.1
  rw[VM]at this
  show Vg l<=256
  omega
 clear h hr t2 hpl hn
 obtain⟨k,n1,b,l⟩:=y
 dsimp only[It.l]at hsub hws hsz
 have hlen:=ZD l
 unfold Tw
 dsimp only
 cases t4:(k==4) with
 | false=>
  have t5:(k != 4)=true:=by simpa using t4
  refine AP.ofA (Zl Tryz.func119 Z Tryz.ntmps119 Z Z ?_)
  repeat'(first|(apply Zb (hR);kernel_rfl;(iterate 4 exact Z))|(apply Zi Za;exact Z)|(apply Zg Za;exact Z)|(apply Zu Za;exact Z)|refine Ze Z Z Z Qt ?_|refine Zp Z Z Z Qt ?_|refine Zk Z Qt Z Z ?_|refine Zj Z Qt Z Z ?_|refine Zd Z Qt ?_|refine Zf Z Qt ?_|refine Zt Za Z Z Z Z ?_)
  all_goals exact Qe
 | true=>
 have t5:(k != 4)=false:=by simpa using t4
 cases t6:decide (2<=l.length) with
 | false=>
  have t7:decide (((Zx l).length:Int)<2)=true:=by rw[hlen];simp at t6 ⊢;omega
  refine AP.ofA (Zl Tryz.func119 Z Tryz.ntmps119 Z Z ?_)
  repeat'(first|(apply Zb (hR);kernel_rfl;(iterate 4 exact Z))|(apply Zi Za;exact Z)|(apply Zg Za;exact Z)|(apply Zu Za;exact Z)|refine Ze Z Z Z Qt ?_|refine Zp Z Z Z Qt ?_|refine Zk Z Qt Z Z ?_|refine Zj Z Qt Z Z ?_|refine Zd Z Qt ?_|refine Zf Z Qt ?_|refine Zt Za Z Z Z Z ?_)
  all_goals exact Qe
 | true=>
 have t7:decide (((Zx l).length:Int)<2)=false:=by rw[hlen];simp at t6 ⊢;omega
 cases t8:decide (l.length<=9) with
 | false=>
  have t9:decide (((Zx l).length:Int)>9)=true:=by rw[hlen];simp at t8 ⊢;omega
  refine AP.ofA (Zl Tryz.func119 Z Tryz.ntmps119 Z Z ?_)
  repeat'(first|(apply Zb (hR);kernel_rfl;(iterate 4 exact Z))|(apply Zi Za;exact Z)|(apply Zg Za;exact Z)|(apply Zu Za;exact Z)|refine Ze Z Z Z Qt ?_|refine Zj Z Qt Z Z ?_|refine Zd Z Qt ?_|refine Zf Z Qt ?_|refine Zt Za Z Z Z Z ?_)
  all_goals exact Qe
 | true=>
 have t9:decide (((Zx l).length:Int)>9)=false:=by rw[hlen];simp at t8 ⊢;omega
 have hl9:=of_decide_eq_true t8
 have hl2:=of_decide_eq_true t6
 clear t6 t8
 rw[Bool.true_and,Bool.true_and]
 cases l with
 | nil=>simp at hl2
 | cons y0 r=>
 dsimp only
 have hmem:∀ z ∈ y0::r,wfI z/\(Z0 z).length<=3000:=fun z hz=>⟨YM hws z hz,Nat.le_trans (Iv hz) (Nat.le_trans hsub.2 hyl)⟩
 have hpart:∀ z ∈ y0::r,z.l.length<=1000000/\(∀ u ∈ z.l,u.b.length<=3000)/\∀ s m,s=1\/s=2->(Z0 (Yt s (z.l.take m))).length<=1000000000:=fun z hz=>by
  obtain⟨h1,h2⟩:=hmem z hz
  have h3:=(X2 z).2
  have h5:=Tx hz
  have h6:=MP z.l
  have h4:z.l.length<=1000000:=by
   obtain⟨kz,nz,bz,lz⟩:=z
   rw[VM]at h5
   dsimp only[It.l]at h6 ⊢
   omega
  exact⟨h4,Nl (by omega) (fun u hu=>Nat.le_trans (Iv hu) (by omega)) h4⟩
 have hw0:=(hmem y0 (List.mem_cons_self ..)).1
 obtain⟨p1,_,p3⟩:=hpart y0 (List.mem_cons_self ..)
 have hP:=MG y0 hw0 p1 p3
 have hpf:=RP hw0
 have hU:=Wl (y0::r)
 obtain⟨k0,n0,b0,l0⟩:=y0
 have hv0:(Zx (It.mk k0 n0 b0 l0::r))[(0:Int).toNat]?=some (.agg [.int .i64 k0,.int .u64 (n0:Int),.sl (b0.map E.byte),.sl (Zx l0)]):=rfl
 generalize hLe:Zx (It.mk k0 n0 b0 l0::r)=LL at *
 replace hR:AP Tryz.prog 129 [byE x,.int .i64 0] (.tup [.agg [.int .i64 k,.int .u64 (n1:Int),.sl .ext (b.map E.byte),.sl .ext LL],.int .i64 (n:Int),.int .i64 0]) []:=by rw[<- hLe];exact hR
 generalize JK (.mk k0 n0 b0 l0)=rp at *
 obtain⟨p,e⟩:=rp
 dsimp only at hpf ⊢
 cases t10:(e != 0) with
 | true=>
  refine AP.ofA (Zl Tryz.func119 Z Tryz.ntmps119 Z Z ?_)
  repeat'(first|(apply Zb (hR);kernel_rfl;(iterate 4 exact Z))|(apply Zb (hP);kernel_rfl;(iterate 4 exact Z))|(apply Zi Za;exact Z)|(apply Zg Za;exact Z)|(apply Zu Za;exact Z)|refine Ze Z Z Z Qt ?_|refine Zj Z Qt Z Z ?_|refine Zd Z Qt ?_|refine Zf Z Qt ?_|refine Zt Za Z Z Z Z ?_|(apply ZC Za;(iterate 6 exact Z);(first|exact Qt|rotate_left);(first|with_reducible assumption|decide +kernel|exact Z);(first|exact Zm rfl|with_reducible assumption|decide +kernel|rotate_left)))
  all_goals exact Qe
 | false=>
 dsimp only
 have hle1:(1:Int).toNat<=LL.length:=by rw[hlen];show 1<=_;omega
 have hI:LL.drop (1:Int).toNat=Zx r:=by rw[<- hLe];rfl
 have hr0:1<=r.length:=by rw[List.length_cons]at hl2;omega
 have hr9:r.length<=9:=by rw[List.length_cons]at hl9;omega
 have hlr:=ZD r
 have hUr:=Wl r
 have hF:GJ [] r=Vb r:=by unfold GJ;cases Vb r<;>rfl
 rw[<- hF]
 generalize hF2:GJ [] r=F
 have key:∀ d,bnR (match F with | .error e=>(bn0,e) | .ok bl=>match VQ ⟨p,bl⟩ with|false=>(bn0,3)|true=>(⟨p,bl⟩,0))=d->AP Tryz.prog 119 [byE x] d []:=fun d hd=>by
  refine AP.ofA (Zl Tryz.func119 Z Tryz.ntmps119 Z Z ?_)
  repeat'(first|(apply Zb (hR);kernel_rfl;(iterate 4 exact Z))|(apply Zb (hP);kernel_rfl;(iterate 4 exact Z))|refine Mc Za Z Z Z Z Z Z hU (by decide) hle1 hI ?_|(apply Zi Za;exact Z)|(apply Zg Za;exact Z)|(apply Zu Za;exact Z)|refine Ze Z Z Z Qt ?_|refine Zj Z Qt Z Z ?_|refine Zf Z Qt ?_|refine Zt Za Z Z Z Z ?_|(apply ZC Za;(iterate 6 exact Z);(first|exact Qt|rotate_left);(first|with_reducible assumption|decide +kernel|exact Z);(first|exact Zm rfl|with_reducible assumption|decide +kernel|rotate_left)))
  show AW _ _ _ _
  refine Yb (fun f tm bx fr=>∃(i c:Nat) (acc:List BlkV) (f0:Fr),f+i=r.length/\c=(Wm acc).length/\acc.length=i/\(∀ c ∈ acc,c.fl<18446744073709551616/\c.data.length<=3000)/\GJ acc (r.drop i)=F/\tm=[(2,.ptr 0 0),(7,.ptr 2 0),(65,.sl .ext (Zx r)),(66,.int .i64 ((Zx r).length:Int)),(67,.int .i64 (i:Int))] /\
   ((i=0/\acc=[]/\bx=[zBn,[.int .i64 k,.int .u64 (n1:Int),.sl .ext (b.map E.byte),.sl .ext LL],bnT p (.sl .nil [])]/\fr=[]) \/
   (bx=[zBn,[.int .i64 k,.int .u64 (n1:Int),.sl .ext (b.map E.byte),.sl .ext LL],bnT p (.sl (.own 1) (Wm acc))]/\fr=[f0,⟨c,5,200⟩]))) (r.length+1) (Lands.mk' (m:=r.length) (Nat.lt_succ_self _) ⟨0,0,[],default,rfl,rfl,rfl,by simp,hF2,rfl,.inl ⟨rfl,rfl,rfl,rfl⟩⟩ ?_ rfl rfl rfl rfl rfl rfl) ?_
  ·exact .cons rfl (.cons rfl (.cons rfl (.cons rfl (.cons rfl .nil))))
  rintro f tm bx fr ⟨i,c,acc,f0,hf,hc,hai,hab,hq,rfl,hst⟩
  rcases Nat.lt_or_ge i r.length with hlt|hge
  ·have hdl:decide ((i:Int)<((Zx r).length:Int))=true:=decide_eq_true (by omega)
   obtain⟨z,hy⟩:∃ y,r[i]?=some y:=⟨_,List.getElem?_eq_getElem hlt⟩
   have hzm:z ∈ It.mk k0 n0 b0 l0::r:=List.mem_cons_of_mem _ (List.mem_of_getElem? hy)
   have hwz:=(hmem z hzm).1
   obtain⟨q1,q2,q3⟩:=hpart z hzm
   have hB:=MB z hwz q1 q3 q2
   have hbf:=Bn hwz q2
   have hdr:r.drop i=z::r.drop (i+1):=by
    rw[List.drop_eq_getElem_cons hlt];congr 1
    exact(List.getElem?_eq_some_iff.1 hy).2
   rw[hdr,Nm]at hq
   have ei:IntKind.i64.wrap ((i:Int)+1)=((i+1:Nat):Int):=by rw[IntWalk.i64_in _ (by omega)];omega
   obtain⟨kz,nz,bz,lz⟩:=z
   have hv:(Zx r)[((i:Nat):Int).toNat]?=some (.agg [.int .i64 kz,.int .u64 (nz:Int),.sl (bz.map E.byte),.sl (Zx lz)]):=by
    rw[Int.toNat_natCast,Yu,List.getElem?_map,hy];rfl
   generalize VN (.mk kz nz bz lz)=rb at *
   obtain⟨cb,e2⟩:=rb
   dsimp only at hbf hq
   cases t11:(e2==0) with
   | false=>
    have t12:(e2 != 0)=true:=by simpa using t11
    rw[t11]at hq
    dsimp only at hq
    subst hq
    dsimp only at hd
    subst hd
    rcases hst with⟨rfl,rfl,rfl,rfl⟩ | ⟨rfl,rfl⟩
    ·repeat'(first|(apply Zb (hB);kernel_rfl;(iterate 4 exact Z))|(apply Zi Za;exact Z)|(apply Zg Za;exact Z)|(apply Zu Za;exact Z)|refine Zd Z Qt ?_|(apply ZC Za;(iterate 6 exact Z);(first|exact Qt|rotate_left);(first|with_reducible assumption|decide +kernel|exact Z);(first|exact Zm rfl|with_reducible assumption|decide +kernel|rotate_left)))
     all_goals exact Qe
    ·repeat'(first|(apply Zb (hB);kernel_rfl;(iterate 4 exact Z))|(apply Zi Za;exact Z)|(apply Zg Za;exact Z)|(apply Zu Za;exact Z)|refine Zd Z Qt ?_|(apply ZC Za;(iterate 6 exact Z);(first|exact Qt|rotate_left);(first|with_reducible assumption|decide +kernel|exact Z);(first|exact Zm rfl|with_reducible assumption|decide +kernel|rotate_left)))
     all_goals exact Qe
   | true=>
    have t12:(e2 != 0)=false:=by simpa using t11
    rw[t11]at hq
    dsimp only at hq
    have hab2:∀ c ∈ acc++[cb],c.fl<18446744073709551616/\c.data.length<=3000:=fun c hc=>by
     rcases List.mem_append.1 hc with hc|hc
     ·exact hab c hc
     ·simp at hc;subst hc;exact hbf
    have hU5:=MI acc
    have hUc:=MI [cb]
    subst hc
    have hbl:=X0 acc
    rcases hst with⟨rfl,rfl,rfl,rfl⟩ | ⟨rfl,rfl⟩
    ·repeat'(first|(apply Zb (hB);kernel_rfl;(iterate 4 exact Z))|rw[ei]|refine Yg Za Z Z Z Z Z Z (Zm rfl) (List.cons_ne_nil _ _) Z Qd Qd Z Z Z ?_|(apply Zi Za;exact Z)|(apply Zg Za;exact Z)|refine Zd Z Qt ?_|refine Zf Z Qt ?_|refine Z7 Za Z Z Z Z Z Z Z Z Z Z Z Z ?_|(apply ZC Za;(iterate 6 exact Z);(first|exact Qt|rotate_left);(first|with_reducible assumption|decide +kernel|exact Z);(first|exact Zm rfl|with_reducible assumption|decide +kernel|rotate_left)))
     refine Lands.mk' (m:=f-1) (by omega) ⟨1,1,[cb],_,by omega,rfl,rfl,hab2,hq,rfl,.inr ⟨rfl,rfl⟩⟩ ?_ rfl rfl rfl rfl rfl rfl
     exact .cons rfl (.cons rfl (.cons rfl (.cons rfl (.cons rfl .nil))))
    ·have hs:Wm acc++[bkE cb]=Wm (acc++[cb]):=(List.map_append (f:=bkE) (l₁:=acc) (l₂:=[cb])).symm
     repeat'(first|(apply Zb (hB);kernel_rfl;(iterate 4 exact Z))|rw[ei]|(apply Zi Za;exact Z)|(apply Zg Za;exact Z)|refine Zd Z Qt ?_|refine Zf Z Qt ?_|refine Z7 Za Z Z Z Z Z Z Z Z Z Z Z Z ?_|(apply Z4 Za;(iterate 6 exact Z);(first|with_reducible assumption|decide +kernel|exact Z|rotate_left);exact Z;exact Z;(first|exact Zm rfl|with_reducible assumption|decide +kernel|rotate_left);(first|exact Zm rfl|with_reducible assumption|decide +kernel|rotate_left);(first|exact Qt|rotate_left);(first|exact Qt|rotate_left);(first|exact Qt|rotate_left);exact Z;exact Z)|(apply ZC Za;(iterate 6 exact Z);(first|exact Qt|rotate_left);(first|with_reducible assumption|decide +kernel|exact Z);(first|exact Zm rfl|with_reducible assumption|decide +kernel|rotate_left)))
     ·refine Lands.mk' (m:=f-1) (by omega) ⟨i+1,(Wm acc).length+1,acc++[cb],f0,by omega,by rw[<- hs,List.length_append];rfl,by rw[List.length_append,hai];rfl,hab2,hq,rfl,.inr ⟨by rw[<- hs],rfl⟩⟩ ?_ rfl rfl rfl rfl rfl rfl
      exact .cons rfl (.cons rfl (.cons rfl (.cons rfl (.cons rfl .nil))))
     all_goals(first|rfl|(simp only[List.length_append,List.length_cons,List.length_nil,List.length_map,ZD];done)|(simp only[List.length_append,List.length_cons,List.length_nil,List.length_map,ZD]at *;(try unfold maxLen);(try simp only[Nat.add_mul]);omega))
  ·have hdl:decide ((i:Int)<((Zx r).length:Int))=false:=decide_eq_false (by omega)
   have hqn:F=.ok acc:=by
    rw[<- hq,List.drop_eq_nil_of_le hge]
    unfold GJ
    rw[Vb]
    dsimp only
    rw[List.append_nil]
   subst hqn
   dsimp only at hd
   have hRt:=Hy ⟨p,acc⟩ ⟨hpf,by show acc.length<=_;omega,hab⟩
   rcases hst with⟨rfl,_,_,_⟩ | ⟨rfl,rfl⟩
   ·omega
   cases t13:VQ ⟨p,acc⟩ with
   | false=>
    rw[t13]at hRt hd
    dsimp only at hd
    subst hd
    repeat'(first|(apply Zb (hRt);kernel_rfl;(iterate 4 exact Z))|(apply Zi Za;exact Z)|(apply Zg Za;exact Z)|(apply Zu Za;exact Z)|refine Zd Z Qt ?_|refine Zf Z Qt ?_)
    all_goals exact Qe
   | true=>
    rw[t13]at hRt hd
    dsimp only at hd
    subst hd
    repeat'(first|(apply Zb (hRt);kernel_rfl;(iterate 4 exact Z))|(apply Zi Za;exact Z)|(apply Zg Za;exact Z)|(apply Zu Za;exact Z)|refine Zf Z Qt ?_)
    all_goals exact Qe
 exact key _ rfl
theorem SE {z:It}(hw:wfI z):(VN z).1.fl<18446744073709551616:=by
 have hsub:=Qu z 3
 have hws:wfs z.l:=by obtain⟨k,n,b,l⟩:=z;exact hw.2.2.2
 unfold VN
 generalize Qs z 3=o at *
 have h0:bk0.fl<18446744073709551616:=by decide
 unfold Tt
 split
 ·exact h0
 ·split
  ·rename_i heq
   rw[heq]at hsub
   split
   ·exact h0
   ·split
    ·exact h0
    ·split
     ·exact h0
     ·exact MC (YM hws _ (hsub _ (List.mem_cons_of_mem _ (List.mem_cons_of_mem _ (List.mem_cons_self ..)))))
  ·exact h0
theorem O0:∀ {l:List It} {bl:List BlkV},wfs l->Vb l=.ok bl->∀ c ∈ bl,c.fl<18446744073709551616
 | [],bl,_,h,c,hc=>by rw[Vb]at h;cases h;simp at hc
 | y::r,bl,hw,h,c,hc=>by
  rw[Vb]at h
  split at h
  ·cases h
  ·split at h
   ·cases h
   ·rename_i l hr
    cases h
    rcases List.mem_cons.1 hc with rfl|hc
    ·exact SE hw.1
    ·exact O0 hw.2 hr c hc
theorem Re {x:List UInt8}(hx:x.length<=3000){c:BunV}(h:UW x=(c,0)):BunOk c:=by
 have hr:=KT h
 unfold VQ at hr
 rw[Bool.and_eq_true]at hr
 obtain⟨h8,hb⟩:=K6 hr.1
 have key:c.p.fl<18446744073709551616/\∀ y ∈ c.bl,y.fl<18446744073709551616:=by
  unfold UW at h
  split at h
  ·simp at h
  ·rcases OH x (by omega) with⟨e,he,hi,_⟩ | ⟨y,n,hi,hw,_⟩
   ·rw[hi]at h
    have te:((e:Int) != 0)=true:=by simpa using he
    dsimp only at h
    rw[te]at h
    simp only[Prod.mk.injEq]at h
    exact absurd h.2 (by omega)
   ·rw[hi]at h
    dsimp only at h
    rw[show(((0:Nat):Int) != 0)=false from rfl]at h
    dsimp only at h
    split at h
    ·simp at h
    ·unfold Tw at h
     obtain⟨k,n2,b,l⟩:=y
     have hws:wfs l:=hw.2.2.2
     dsimp only at h
     split at h
     ·simp at h
     ·split at h
      ·simp at h
      ·split at h
       ·rename_i t
        simp only[Prod.mk.injEq]at h
        rw[h.2]at t
        cases t
       ·split at h
        ·rename_i e he
         simp only[Prod.mk.injEq]at h
         exact absurd h.2 (Jf he)
        ·rename_i bl he
         split at h
         ·simp at h
         ·simp only[Prod.mk.injEq,and_true]at h
          subst h
          exact⟨RP hws.1,O0 hws.2 he⟩
 exact⟨key.1,by omega,fun y hy=>⟨key.2 y hy,Nat.le_trans (MH (hb y hy)) (by omega)⟩⟩
theorem Rf (a b:List UInt8):(a==b)=(b==a):=by
 rw[Bool.eq_iff_iff,beq_iff_eq,beq_iff_eq];exact eq_comm
theorem Hz [Known][KnownU8](x:List UInt8)(hx:x.length<=3000):AP Tryz.prog 110 [byE x] (.bool (XZ x)) []:=by
 have hR:=Nn x hx
 unfold XZ
 rcases hr:UW x with⟨c,e⟩
 rw[hr]at hR
 dsimp only[bnR]at hR ⊢
 by_cases he:e=0
 case neg=>
  have te:(e != 0)=true:=by simpa using he
  have te2:(e==0)=false:=by simpa using he
  rw[te2,Bool.false_and]
  obtain⟨⟨fl,sum,⟨di,dn,ds,dh,dd⟩,⟨ri,rn,rs,rh,rd⟩,⟨xi,xn,xs,xh,xd⟩,t,q,life⟩,bl⟩:=c
  try dsimp only at *
  refine AP.ofA (Zl Tryz.func110 Z Tryz.ntmps110 Z Z ?_)
  repeat'(first|(apply Zb (hR);kernel_rfl;(iterate 4 exact Z))|(apply Zi Za;exact Z)|(apply Zg Za;exact Z)|(apply Zu Za;exact Z)|refine Zd Z Qt ?_)
  all_goals exact Qe
 subst he
 have hW:=KV c (Re hx hr)
 unfold JL at hW
 rw[KT hr]at hW
 have hE:=Wn x (OZ c)
 rw[show((0:Int)==0)=true from rfl,Bool.true_and,Rf]
 clear hr
 generalize OZ c=pb at *
 obtain⟨⟨fl,sum,⟨di,dn,ds,dh,dd⟩,⟨ri,rn,rs,rh,rd⟩,⟨xi,xn,xs,xh,xd⟩,t,q,life⟩,bl⟩:=c
 try dsimp only at *
 refine AP.ofA (Zl Tryz.func110 Z Tryz.ntmps110 Z Z ?_)
 repeat'(first|(apply Zb (hR);kernel_rfl;(iterate 4 exact Z))|(apply Zb (hW);kernel_rfl;(iterate 4 exact Z))|(apply Zb (hE);kernel_rfl;(iterate 4 exact Z))|(apply Zi Za;exact Z)|(apply Zg Za;exact Z)|refine Ze Z Z Z Qt ?_|refine Zk Z Qt Z Z ?_|refine Zf Z Qt ?_)
 all_goals exact Qe
structure EvV where
 now:Nat
 kd:Int
 tok:Nat
 ses:Int
 rq:RqV
 data:List UInt8
abbrev evC (x:EvV):List D:=[.int .u64 (x.now:Int),.int .i64 x.kd,.int .u64 (x.tok:Int),.int .i64 x.ses,.int .u64 (x.rq.id:Int),.int .i64 x.rq.kd,.bool x.rq.ep.i,.int .u64 (x.rq.ep.n:Int),.int .u64 (x.rq.ep.s:Int),.str x.rq.ep.h,.str x.rq.ep.d,.bool x.rq.ds.i,.int .u64 (x.rq.ds.n:Int),.int .u64 (x.rq.ds.s:Int),.str x.rq.ds.h,.str x.rq.ds.d,.int .i64 x.rq.pol,.int .i64 x.rq.num,.int .i64 x.rq.tik,byE x.rq.pay,.int .u64 (x.rq.life:Int),.int .u64 (x.rq.tok:Int),.bool x.rq.on,byE x.data]
abbrev rq0:RqV:=⟨0,0,ZN,ZN,0,0,0,[],0,0,false⟩
abbrev evZ (x:EvV):EvV:=⟨x.now,x.kd,0,0,rq0,[]⟩
def JM (x:EvV):EvV:=
 if x.kd==1||x.kd==2 then { evZ x with tok:=x.tok }
 else if x.kd==3 then { evZ x with ses:=x.ses }
 else if x.kd==4 then { evZ x with ses:=x.ses,rq:=x.rq }
 else if x.kd==5 then { evZ x with data:=x.data }
 else evZ x
def JN (n:Int):Bool:=decide (n ≥ 1)&&decide (n<=1099511627776)
def Vy (x:EvV):Bool:=
 if x.kd==1||x.kd==2 then decide ((x.tok:Int) ≥ 1)&&decide ((x.tok:Int)<=2147483648)
 else if x.kd==3 then JN x.ses
 else if x.kd==4 then JN x.ses&&(Yj x.rq&&((x.rq.kd != 11)&&(x.rq.kd != 12)))
 else if x.kd==5 then XZ x.data
 else x.kd==6||(x.kd==7||x.kd==8)
def UX (a b:EvV):Bool:=((a.now:Int)==(b.now:Int))&&((a.kd==b.kd)&&(((a.tok:Int)==(b.tok:Int))&&((a.ses==b.ses)&&(Us a.rq b.rq&&(a.data==b.data)))))
def ZY (x:EvV):Bool:=decide ((x.now:Int)<=1099511627776)&&(UX x (JM x)&&Vy x)
theorem Ty (k:Int):k=1\/k=2\/k=3\/k=4\/k=5\/k=6\/k=7\/k=8\/((k==1)=false/\(k==2)=false/\(k==3)=false/\(k==4)=false/\(k==5)=false/\(k==6)=false/\(k==7)=false/\(k==8)=false):=by
 simp only[beq_eq_false_iff_ne];omega
end Go.Proofs.YtkdpfkjlheajhaaGreatDoor
end

/- Package bundle: read. -/
import Derived.Test.YtmljabhmajehnaaDoorP29
import Derived.Test.YtmljabhmajehnaaDoorP28
import Derived.Test.YtmljabhmajehnaaDoorP27
import Derived.Test.YtmljabhmajehnaaDoorP15
set_option linter.unusedVariables false
set_option linter.unusedSimpArgs false
section
open Go.RowKit Go.Pl Go.Av
namespace Go.Proofs.YtmljabhmajehnaaDoor
set_option maxHeartbeats 4000000
abbrev bnT (p:PriV)(d:D):List D:=[.int .u64 (p.fl:Int),.int .i64 p.sum,.bool p.dest.i,.int .u64 (p.dest.n:Int),.int .u64 (p.dest.s:Int),.str p.dest.h,.str p.dest.d,.bool p.rep.i,.int .u64 (p.rep.n:Int),.int .u64 (p.rep.s:Int),.str p.rep.h,.str p.rep.d,.bool p.src.i,.int .u64 (p.src.n:Int),.int .u64 (p.src.s:Int),.str p.src.h,.str p.src.d,.int .u64 (p.t:Int),.int .u64 (p.q:Int),.int .u64 (p.life:Int),d]
abbrev zBn:List D:=[.int .u64 0,.int .i64 0,.bool false,.int .u64 0,.int .u64 0,.str [],.str [],.bool false,.int .u64 0,.int .u64 0,.str [],.str [],.bool false,.int .u64 0,.int .u64 0,.str [],.str [],.int .u64 0,.int .u64 0,.int .u64 0,.sl .nil []]
theorem LI {z:It}(hw:wfI z)(hb:∀ y ∈ z.l,y.b.length<=3000):(WO z).1.fl<18446744073709551616/\(WO z).1.data.length<=3000:=by
 have hsub:=UF z 3
 have hws:wfs z.l:=by obtain⟨k,n,b,l⟩:=z;exact hw.2.2.2
 unfold WO
 generalize VB z 3=o at *
 have h0:bk0.fl<18446744073709551616/\bk0.data.length<=3000:=by decide
 unfold OS
 split
 ·exact h0
 ·split
  ·rename_i heq
   rw[heq]at hsub
   split
   ·exact h0
   ·split
    ·exact h0
    ·split
     ·exact h0
     ·exact⟨TJ (Ys hws _ (hsub _ (List.mem_cons_of_mem _ (List.mem_cons_of_mem _ (List.mem_cons_self ..))))),hb _ (hsub _ (List.mem_cons_of_mem _ (List.mem_cons_of_mem _ (List.mem_cons_of_mem _ (List.mem_cons_of_mem _ (List.mem_cons_self ..))))))⟩
  ·exact h0
theorem KS:∀ {l:List It} {y:It},y ∈ l->(ZM y).length<=(ZH l).length
 | x::l,y,h=>by
  rw[ZH,List.length_append]
  rcases List.mem_cons.1 h with rfl|h
  ·omega
  ·have:=KS h;omega
theorem JD (y:It):y.b.length<=(ZM y).length/\(ZH y.l).length<=(ZM y).length:=by
 obtain⟨k,n,b,l⟩:=y
 rw[ZM,List.length_append,List.length_append]
 show b.length<=_/\(ZH l).length<=_
 omega
theorem TV (x:It):1<=YX x:=by obtain⟨k,n,b,l⟩:=x;rw[YX];omega
theorem TW:∀(l:List It),l.length<=Y9 l
 | []=>by simp
 | x::l=>by
  have h1:=TV x
  have h2:=TW l
  rw[Y9,List.length_cons];omega
theorem Gv:∀ {l:List It} {y:It},y ∈ l->YX y<=Y9 l
 | x::l,y,h=>by
  rw[Y9]
  rcases List.mem_cons.1 h with rfl|h
  ·omega
  ·have:=Gv h;omega
theorem Ho {y:It}(h:(ZM y).length<=100000)(hy:∀ z ∈ y.l,(ZM z).length<=3000)(hl:y.l.length<=1000000):(∀ z ∈ y.l,z.b.length<=3000)/\∀ s m,s=1\/s=2->(ZM (ZU s (y.l.take m))).length<=1000000000:=by
 refine⟨fun z hz=>Nat.le_trans (JD z).1 (hy z hz),fun s m hs=>?_⟩
 have h0:=YG 4 0 [] (y.l.take m++[.mk 2 0 (List.replicate (2*s) 0) []])
 have h1:=YG 2 0 (List.replicate (2*s) 0) []
 have h2:=WE y.l m
 have h3:=(JD y).2
 rw[UT]at h0
 simp only[ZH,List.length_append,List.length_nil,List.length_replicate,Nat.add_zero,Nat.zero_add]at h0 h1
 show(ZM (.mk 4 0 [] (y.l.take m++[.mk 2 0 (List.replicate (2*s) 0) []]))).length<=_
 omega
abbrev bnR (r:BunV × Int):D:=.tup [.agg (bnC r.1),.int .i64 r.2]
def OY (acc:List BlkV)(r:List It):Except Int (List BlkV):=match Wj r with
 | .error e=>.error e
 | .ok l=>.ok (acc++l)
theorem Hp (acc:List BlkV)(y:It)(r:List It):OY acc (y::r)=match(WO y).2==0 with
  | false=>.error (WO y).2
  | true=>OY (acc++[(WO y).1]) r:=by
 unfold OY
 rw[Wj]
 cases(WO y).2==0 with
 | false=>rfl
 | true=>
  dsimp only
  cases Wj r with
  | error e=>rfl
  | ok l=>simp
theorem UV [Known][KnownU8](x:List UInt8)(hx:x.length<=3000):AP Tryd.prog 12 [byE x] (bnR (W9 x)) []:=by
 have hR:=JY x 0 (by omega)
 have hlm:(x.map E.byte).length=x.length:=List.length_map ..
 unfold W9
 cases t0:decide ((x.length:Int)>1200) with
 | true=>
  have t1:decide (((x.map E.byte).length:Int)>1200)=true:=by rw[hlm];exact t0
  refine AP.ofA (Zl Tryd.func12 Z Tryd.ntmps12 Z Z ?_)
  repeat'(first|(apply Zh Za;exact Z)|(apply Zf Za;exact Z)|(apply Zt Za;exact Z)|refine Zd Z Qt ?_|refine Zm Za Z Z Z Z ?_)
  all_goals exact Qe
 | false=>
 have t1:decide (((x.map E.byte).length:Int)>1200)=false:=by rw[hlm];exact t0
 dsimp only
 rcases X4 x (by omega) with⟨e,he,h,_⟩ | ⟨y,n,h,hw,hr,hpl,hn⟩
 ·rw[h]at hR ⊢
  have te:((e:Int) != 0)=true:=by simpa using he
  dsimp only
  rw[te]
  refine AP.ofA (Zl Tryd.func12 Z Tryd.ntmps12 Z Z ?_)
  repeat'(first|(apply Zb (hR);kernel_rfl;(iterate 4 exact Z))|(apply Zh Za;exact Z)|(apply Zf Za;exact Z)|(apply Zt Za;exact Z)|refine Zd Z Qt ?_|refine Zg Z Qt ?_|refine Zm Za Z Z Z Z ?_)
  all_goals exact Qe
 rw[h]at hR ⊢
 have te:(((0:Nat):Int) != 0)=false:=rfl
 dsimp only
 rw[te]
 dsimp only
 cases t2:(n==x.length) with
 | false=>
  have t3:((n:Int) != ((x.map E.byte).length:Int))=true:=by rw[hlm];simp at t2 ⊢;omega
  obtain⟨k,n1,b,l⟩:=y
  refine AP.ofA (Zl Tryd.func12 Z Tryd.ntmps12 Z Z ?_)
  repeat'(first|(apply Zb (hR);kernel_rfl;(iterate 4 exact Z))|(apply Zh Za;exact Z)|(apply Zf Za;exact Z)|(apply Zt Za;exact Z)|refine Zo Z Z Z Qt ?_|refine Zk Z Qt Z Z ?_|refine Zd Z Qt ?_|refine Zg Z Qt ?_|refine Zm Za Z Z Z Z ?_)
  all_goals exact Qe
 | true=>
 have t3:((n:Int) != ((x.map E.byte).length:Int))=false:=by rw[hlm];simp at t2 ⊢;omega
 have hyl:(ZM y).length<=3000:=by omega
 have hsub:=JD y
 have hws:wfs y.l:=by obtain⟨k,n1,b,l⟩:=y;exact hw.2.2.2
 have hsz:Y9 y.l<=256:=by
  rw[X3]at hr
  simp only[Bool.and_eq_true,decide_eq_true_eq]at hr
  obtain⟨k,n1,b,l⟩:=y
  have:=hr.2.1
  rw[YX]at this
  show Y9 l<=256
  omega
 clear h hr t2 hpl hn
 obtain⟨k,n1,b,l⟩:=y
 dsimp only[It.l]at hsub hws hsz
 have hlen:=Zx l
 unfold OW
 dsimp only
 cases t4:(k==4) with
 | false=>
  have t5:(k != 4)=true:=by simpa using t4
  refine AP.ofA (Zl Tryd.func12 Z Tryd.ntmps12 Z Z ?_)
  repeat'(first|(apply Zb (hR);kernel_rfl;(iterate 4 exact Z))|(apply Zh Za;exact Z)|(apply Zf Za;exact Z)|(apply Zt Za;exact Z)|refine Ze Z Z Z Qt ?_|refine Zo Z Z Z Qt ?_|refine Zk Z Qt Z Z ?_|refine Zi Z Qt Z Z ?_|refine Zd Z Qt ?_|refine Zg Z Qt ?_|refine Zm Za Z Z Z Z ?_)
  all_goals exact Qe
 | true=>
 have t5:(k != 4)=false:=by simpa using t4
 cases t6:decide (2<=l.length) with
 | false=>
  have t7:decide (((Zp l).length:Int)<2)=true:=by rw[hlen];simp at t6 ⊢;omega
  refine AP.ofA (Zl Tryd.func12 Z Tryd.ntmps12 Z Z ?_)
  repeat'(first|(apply Zb (hR);kernel_rfl;(iterate 4 exact Z))|(apply Zh Za;exact Z)|(apply Zf Za;exact Z)|(apply Zt Za;exact Z)|refine Ze Z Z Z Qt ?_|refine Zo Z Z Z Qt ?_|refine Zk Z Qt Z Z ?_|refine Zi Z Qt Z Z ?_|refine Zd Z Qt ?_|refine Zg Z Qt ?_|refine Zm Za Z Z Z Z ?_)
  all_goals exact Qe
 | true=>
 have t7:decide (((Zp l).length:Int)<2)=false:=by rw[hlen];simp at t6 ⊢;omega
 cases t8:decide (l.length<=9) with
 | false=>
  have t9:decide (((Zp l).length:Int)>9)=true:=by rw[hlen];simp at t8 ⊢;omega
  refine AP.ofA (Zl Tryd.func12 Z Tryd.ntmps12 Z Z ?_)
  repeat'(first|(apply Zb (hR);kernel_rfl;(iterate 4 exact Z))|(apply Zh Za;exact Z)|(apply Zf Za;exact Z)|(apply Zt Za;exact Z)|refine Ze Z Z Z Qt ?_|refine Zi Z Qt Z Z ?_|refine Zd Z Qt ?_|refine Zg Z Qt ?_|refine Zm Za Z Z Z Z ?_)
  all_goals exact Qe
 | true=>
 have t9:decide (((Zp l).length:Int)>9)=false:=by rw[hlen];simp at t8 ⊢;omega
 have hl9:=of_decide_eq_true t8
 have hl2:=of_decide_eq_true t6
 clear t6 t8
 rw[Bool.true_and,Bool.true_and]
 cases l with
 | nil=>simp at hl2
 | cons y0 r=>
 dsimp only
 have hmem:∀ z ∈ y0::r,wfI z/\(ZM z).length<=3000:=fun z hz=>⟨Ys hws z hz,Nat.le_trans (KS hz) (Nat.le_trans hsub.2 hyl)⟩
 have hpart:∀ z ∈ y0::r,z.l.length<=1000000/\(∀ u ∈ z.l,u.b.length<=3000)/\∀ s m,s=1\/s=2->(ZM (ZU s (z.l.take m))).length<=1000000000:=fun z hz=>by
  obtain⟨h1,h2⟩:=hmem z hz
  have h3:=(JD z).2
  have h5:=Gv hz
  have h6:=TW z.l
  have h4:z.l.length<=1000000:=by
   obtain⟨kz,nz,bz,lz⟩:=z
   rw[YX]at h5
   dsimp only[It.l]at h6 ⊢
   omega
  exact⟨h4,Ho (by omega) (fun u hu=>Nat.le_trans (KS hu) (by omega)) h4⟩
 have hw0:=(hmem y0 (List.mem_cons_self ..)).1
 obtain⟨p1,_,p3⟩:=hpart y0 (List.mem_cons_self ..)
 have hP:=TN y0 hw0 p1 p3
 have hpf:=Mm hw0
 have hU:=YV (y0::r)
 obtain⟨k0,n0,b0,l0⟩:=y0
 have hv0:(Zp (It.mk k0 n0 b0 l0::r))[(0:Int).toNat]?=some (.agg [.int .i64 k0,.int .u64 (n0:Int),.sl (b0.map E.byte),.sl (Zp l0)]):=rfl
 generalize hLe:Zp (It.mk k0 n0 b0 l0::r)=LL at *
 replace hR:AP Tryd.prog 21 [byE x,.int .i64 0] (.tup [.agg [.int .i64 k,.int .u64 (n1:Int),.sl .ext (b.map E.byte),.sl .ext LL],.int .i64 (n:Int),.int .i64 0]) []:=by rw[<- hLe];exact hR
 generalize UJ (.mk k0 n0 b0 l0)=rp at *
 obtain⟨p,e⟩:=rp
 dsimp only at hpf ⊢
 cases t10:(e != 0) with
 | true=>
  refine AP.ofA (Zl Tryd.func12 Z Tryd.ntmps12 Z Z ?_)
  repeat'(first|(apply Zb (hR);kernel_rfl;(iterate 4 exact Z))|(apply Zb (hP);kernel_rfl;(iterate 4 exact Z))|(apply Zh Za;exact Z)|(apply Zf Za;exact Z)|(apply Zt Za;exact Z)|refine Ze Z Z Z Qt ?_|refine Zi Z Qt Z Z ?_|refine Zd Z Qt ?_|refine Zg Z Qt ?_|refine Zm Za Z Z Z Z ?_|(apply Zu Za;(iterate 6 exact Z);(first|exact Qt|rotate_left);(first|with_reducible assumption|decide +kernel|exact Z);(first|exact Zj rfl|with_reducible assumption|decide +kernel|rotate_left)))
  all_goals exact Qe
 | false=>
 dsimp only
 have hle1:(1:Int).toNat<=LL.length:=by rw[hlen];show 1<=_;omega
 have hI:LL.drop (1:Int).toNat=Zp r:=by rw[<- hLe];rfl
 have hr0:1<=r.length:=by rw[List.length_cons]at hl2;omega
 have hr9:r.length<=9:=by rw[List.length_cons]at hl9;omega
 have hlr:=Zx r
 have hUr:=YV r
 have hF:OY [] r=Wj r:=by unfold OY;cases Wj r<;>rfl
 rw[<- hF]
 generalize hF2:OY [] r=F
 have key:∀ d,bnR (match F with | .error e=>(bn0,e) | .ok bl=>match Z8 ⟨p,bl⟩ with|false=>(bn0,3)|true=>(⟨p,bl⟩,0))=d->AP Tryd.prog 12 [byE x] d []:=fun d hd=>by
  refine AP.ofA (Zl Tryd.func12 Z Tryd.ntmps12 Z Z ?_)
  repeat'(first|(apply Zb (hR);kernel_rfl;(iterate 4 exact Z))|(apply Zb (hP);kernel_rfl;(iterate 4 exact Z))|refine Tf Za Z Z Z Z Z Z hU (by decide) hle1 hI ?_|(apply Zh Za;exact Z)|(apply Zf Za;exact Z)|(apply Zt Za;exact Z)|refine Ze Z Z Z Qt ?_|refine Zi Z Qt Z Z ?_|refine Zg Z Qt ?_|refine Zm Za Z Z Z Z ?_|(apply Zu Za;(iterate 6 exact Z);(first|exact Qt|rotate_left);(first|with_reducible assumption|decide +kernel|exact Z);(first|exact Zj rfl|with_reducible assumption|decide +kernel|rotate_left)))
  show AW _ _ _ _
  refine Z5 (fun f tm bx fr=>∃(i c:Nat) (acc:List BlkV) (f0:Fr),f+i=r.length/\c=(Z0 acc).length/\acc.length=i/\(∀ c ∈ acc,c.fl<18446744073709551616/\c.data.length<=3000)/\OY acc (r.drop i)=F/\tm=[(2,.ptr 0 0),(7,.ptr 2 0),(65,.sl .ext (Zp r)),(66,.int .i64 ((Zp r).length:Int)),(67,.int .i64 (i:Int))] /\
   ((i=0/\acc=[]/\bx=[zBn,[.int .i64 k,.int .u64 (n1:Int),.sl .ext (b.map E.byte),.sl .ext LL],bnT p (.sl .nil [])]/\fr=[]) \/
   (bx=[zBn,[.int .i64 k,.int .u64 (n1:Int),.sl .ext (b.map E.byte),.sl .ext LL],bnT p (.sl (.own 1) (Z0 acc))]/\fr=[f0,⟨c,5,41⟩]))) (r.length+1) (Lands.mk' (m:=r.length) (Nat.lt_succ_self _) ⟨0,0,[],default,rfl,rfl,rfl,by simp,hF2,rfl,.inl ⟨rfl,rfl,rfl,rfl⟩⟩ ?_ rfl rfl rfl rfl rfl rfl) ?_
  ·exact .cons rfl (.cons rfl (.cons rfl (.cons rfl (.cons rfl .nil))))
  rintro f tm bx fr ⟨i,c,acc,f0,hf,hc,hai,hab,hq,rfl,hst⟩
  rcases Nat.lt_or_ge i r.length with hlt|hge
  ·have hdl:decide ((i:Int)<((Zp r).length:Int))=true:=decide_eq_true (by omega)
   obtain⟨z,hy⟩:∃ y,r[i]?=some y:=⟨_,List.getElem?_eq_getElem hlt⟩
   have hzm:z ∈ It.mk k0 n0 b0 l0::r:=List.mem_cons_of_mem _ (List.mem_of_getElem? hy)
   have hwz:=(hmem z hzm).1
   obtain⟨q1,q2,q3⟩:=hpart z hzm
   have hB:=TH z hwz q1 q3 q2
   have hbf:=LI hwz q2
   have hdr:r.drop i=z::r.drop (i+1):=by
    rw[List.drop_eq_getElem_cons hlt];congr 1
    exact(List.getElem?_eq_some_iff.1 hy).2
   rw[hdr,Hp]at hq
   have ei:IntKind.i64.wrap ((i:Int)+1)=((i+1:Nat):Int):=by rw[IntWalk.i64_in _ (by omega)];omega
   obtain⟨kz,nz,bz,lz⟩:=z
   have hv:(Zp r)[((i:Nat):Int).toNat]?=some (.agg [.int .i64 kz,.int .u64 (nz:Int),.sl (bz.map E.byte),.sl (Zp lz)]):=by
    rw[Int.toNat_natCast,Z9,List.getElem?_map,hy];rfl
   generalize WO (.mk kz nz bz lz)=rb at *
   obtain⟨cb,e2⟩:=rb
   dsimp only at hbf hq
   cases t11:(e2==0) with
   | false=>
    have t12:(e2 != 0)=true:=by simpa using t11
    rw[t11]at hq
    dsimp only at hq
    subst hq
    dsimp only at hd
    subst hd
    rcases hst with⟨rfl,rfl,rfl,rfl⟩ | ⟨rfl,rfl⟩
    ·repeat'(first|(apply Zb (hB);kernel_rfl;(iterate 4 exact Z))|(apply Zh Za;exact Z)|(apply Zf Za;exact Z)|(apply Zt Za;exact Z)|refine Zd Z Qt ?_|(apply Zu Za;(iterate 6 exact Z);(first|exact Qt|rotate_left);(first|with_reducible assumption|decide +kernel|exact Z);(first|exact Zj rfl|with_reducible assumption|decide +kernel|rotate_left)))
     all_goals exact Qe
    ·repeat'(first|(apply Zb (hB);kernel_rfl;(iterate 4 exact Z))|(apply Zh Za;exact Z)|(apply Zf Za;exact Z)|(apply Zt Za;exact Z)|refine Zd Z Qt ?_|(apply Zu Za;(iterate 6 exact Z);(first|exact Qt|rotate_left);(first|with_reducible assumption|decide +kernel|exact Z);(first|exact Zj rfl|with_reducible assumption|decide +kernel|rotate_left)))
     all_goals exact Qe
   | true=>
    have t12:(e2 != 0)=false:=by simpa using t11
    rw[t11]at hq
    dsimp only at hq
    have hab2:∀ c ∈ acc++[cb],c.fl<18446744073709551616/\c.data.length<=3000:=fun c hc=>by
     rcases List.mem_append.1 hc with hc|hc
     ·exact hab c hc
     ·simp at hc;subst hc;exact hbf
    have hU5:=Xx acc
    have hUc:=Xx [cb]
    subst hc
    have hbl:=VC acc
    rcases hst with⟨rfl,rfl,rfl,rfl⟩ | ⟨rfl,rfl⟩
    ·repeat'(first|(apply Zb (hB);kernel_rfl;(iterate 4 exact Z))|rw[ei]|refine Ya Za Z Z Z Z Z Z (Zj rfl) (List.cons_ne_nil _ _) Z Qd Qd Z Z Z ?_|(apply Zh Za;exact Z)|(apply Zf Za;exact Z)|refine Zd Z Qt ?_|refine Zg Z Qt ?_|refine ZS Za Z Z Z Z Z Z Z Z Z Z Z Z ?_|(apply Zu Za;(iterate 6 exact Z);(first|exact Qt|rotate_left);(first|with_reducible assumption|decide +kernel|exact Z);(first|exact Zj rfl|with_reducible assumption|decide +kernel|rotate_left)))
     refine Lands.mk' (m:=f-1) (by omega) ⟨1,1,[cb],_,by omega,rfl,rfl,hab2,hq,rfl,.inr ⟨rfl,rfl⟩⟩ ?_ rfl rfl rfl rfl rfl rfl
     exact .cons rfl (.cons rfl (.cons rfl (.cons rfl (.cons rfl .nil))))
    ·have hs:Z0 acc++[bkE cb]=Z0 (acc++[cb]):=(List.map_append (f:=bkE) (l₁:=acc) (l₂:=[cb])).symm
     repeat'(first|(apply Zb (hB);kernel_rfl;(iterate 4 exact Z))|rw[ei]|(apply Zh Za;exact Z)|(apply Zf Za;exact Z)|refine Zd Z Qt ?_|refine Zg Z Qt ?_|refine ZS Za Z Z Z Z Z Z Z Z Z Z Z Z ?_|(apply ZV Za;(iterate 6 exact Z);(first|with_reducible assumption|decide +kernel|exact Z|rotate_left);exact Z;exact Z;(first|exact Zj rfl|with_reducible assumption|decide +kernel|rotate_left);(first|exact Zj rfl|with_reducible assumption|decide +kernel|rotate_left);(first|exact Qt|rotate_left);(first|exact Qt|rotate_left);(first|exact Qt|rotate_left);exact Z;exact Z)|(apply Zu Za;(iterate 6 exact Z);(first|exact Qt|rotate_left);(first|with_reducible assumption|decide +kernel|exact Z);(first|exact Zj rfl|with_reducible assumption|decide +kernel|rotate_left)))
     ·refine Lands.mk' (m:=f-1) (by omega) ⟨i+1,(Z0 acc).length+1,acc++[cb],f0,by omega,by rw[<- hs,List.length_append];rfl,by rw[List.length_append,hai];rfl,hab2,hq,rfl,.inr ⟨by rw[<- hs],rfl⟩⟩ ?_ rfl rfl rfl rfl rfl rfl
      exact .cons rfl (.cons rfl (.cons rfl (.cons rfl (.cons rfl .nil))))
     all_goals(first|rfl|(simp only[List.length_append,List.length_cons,List.length_nil,List.length_map,Zx];done)|(simp only[List.length_append,List.length_cons,List.length_nil,List.length_map,Zx]at *;(try unfold maxLen);(try simp only[Nat.add_mul]);omega))
  ·have hdl:decide ((i:Int)<((Zp r).length:Int))=false:=decide_eq_false (by omega)
   have hqn:F=.ok acc:=by
    rw[<- hq,List.drop_eq_nil_of_le hge]
    unfold OY
    rw[Wj]
    dsimp only
    rw[List.append_nil]
   subst hqn
   dsimp only at hd
   have hRt:=Ui ⟨p,acc⟩ ⟨hpf,by show acc.length<=_;omega,hab⟩
   rcases hst with⟨rfl,_,_,_⟩ | ⟨rfl,rfl⟩
   ·omega
   cases t13:Z8 ⟨p,acc⟩ with
   | false=>
    rw[t13]at hRt hd
    dsimp only at hd
    subst hd
    repeat'(first|(apply Zb (hRt);kernel_rfl;(iterate 4 exact Z))|(apply Zh Za;exact Z)|(apply Zf Za;exact Z)|(apply Zt Za;exact Z)|refine Zd Z Qt ?_|refine Zg Z Qt ?_)
    all_goals exact Qe
   | true=>
    rw[t13]at hRt hd
    dsimp only at hd
    subst hd
    repeat'(first|(apply Zb (hRt);kernel_rfl;(iterate 4 exact Z))|(apply Zh Za;exact Z)|(apply Zf Za;exact Z)|(apply Zt Za;exact Z)|refine Zg Z Qt ?_)
    all_goals exact Qe
 exact key _ rfl
theorem M0 {z:It}(hw:wfI z):(WO z).1.fl<18446744073709551616:=by
 have hsub:=UF z 3
 have hws:wfs z.l:=by obtain⟨k,n,b,l⟩:=z;exact hw.2.2.2
 unfold WO
 generalize VB z 3=o at *
 have h0:bk0.fl<18446744073709551616:=by decide
 unfold OS
 split
 ·exact h0
 ·split
  ·rename_i heq
   rw[heq]at hsub
   split
   ·exact h0
   ·split
    ·exact h0
    ·split
     ·exact h0
     ·exact TJ (Ys hws _ (hsub _ (List.mem_cons_of_mem _ (List.mem_cons_of_mem _ (List.mem_cons_self ..)))))
  ·exact h0
theorem Kl:∀ {l:List It} {bl:List BlkV},wfs l->Wj l=.ok bl->∀ c ∈ bl,c.fl<18446744073709551616
 | [],bl,_,h,c,hc=>by rw[Wj]at h;cases h;simp at hc
 | y::r,bl,hw,h,c,hc=>by
  rw[Wj]at h
  split at h
  ·cases h
  ·split at h
   ·cases h
   ·rename_i l hr
    cases h
    rcases List.mem_cons.1 hc with rfl|hc
    ·exact M0 hw.1
    ·exact Kl hw.2 hr c hc
theorem N0 {x:List UInt8}(hx:x.length<=3000){c:BunV}(h:W9 x=(c,0)):BunOk c:=by
 have hr:=Xi h
 unfold Z8 at hr
 rw[Bool.and_eq_true]at hr
 obtain⟨h8,hb⟩:=WY hr.1
 have key:c.p.fl<18446744073709551616/\∀ y ∈ c.bl,y.fl<18446744073709551616:=by
  unfold W9 at h
  split at h
  ·simp at h
  ·rcases X4 x (by omega) with⟨e,he,hi,_⟩ | ⟨y,n,hi,hw,_⟩
   ·rw[hi]at h
    have te:((e:Int) != 0)=true:=by simpa using he
    dsimp only at h
    rw[te]at h
    simp only[Prod.mk.injEq]at h
    exact absurd h.2 (by omega)
   ·rw[hi]at h
    dsimp only at h
    rw[show(((0:Nat):Int) != 0)=false from rfl]at h
    dsimp only at h
    split at h
    ·simp at h
    ·unfold OW at h
     obtain⟨k,n2,b,l⟩:=y
     have hws:wfs l:=hw.2.2.2
     dsimp only at h
     split at h
     ·simp at h
     ·split at h
      ·simp at h
      ·split at h
       ·rename_i t
        simp only[Prod.mk.injEq]at h
        rw[h.2]at t
        cases t
       ·split at h
        ·rename_i e he
         simp only[Prod.mk.injEq]at h
         exact absurd h.2 (Qm he)
        ·rename_i bl he
         split at h
         ·simp at h
         ·simp only[Prod.mk.injEq,and_true]at h
          subst h
          exact⟨Mm hws.1,Kl hws.2 he⟩
 exact⟨key.1,by omega,fun y hy=>⟨key.2 y hy,Nat.le_trans (TP (hb y hy)) (by omega)⟩⟩
theorem N1 (a b:List UInt8):(a==b)=(b==a):=by
 rw[Bool.eq_iff_iff,beq_iff_eq,beq_iff_eq];exact eq_comm
theorem IL [Known][KnownU8](x:List UInt8)(hx:x.length<=3000):AP Tryd.prog 18 [byE x] (.bool (JC x)) []:=by
 have hR:=UV x hx
 unfold JC
 rcases hr:W9 x with⟨c,e⟩
 rw[hr]at hR
 dsimp only[bnR]at hR ⊢
 by_cases he:e=0
 case neg=>
  have te:(e != 0)=true:=by simpa using he
  have te2:(e==0)=false:=by simpa using he
  rw[te2,Bool.false_and]
  obtain⟨⟨fl,sum,⟨di,dn,ds,dh,dd⟩,⟨ri,rn,rs,rh,rd⟩,⟨xi,xn,xs,xh,xd⟩,t,q,life⟩,bl⟩:=c
  try dsimp only at *
  refine AP.ofA (Zl Tryd.func18 Z Tryd.ntmps18 Z Z ?_)
  repeat'(first|(apply Zb (hR);kernel_rfl;(iterate 4 exact Z))|(apply Zh Za;exact Z)|(apply Zf Za;exact Z)|(apply Zt Za;exact Z)|refine Zd Z Qt ?_)
  all_goals exact Qe
 subst he
 have hW:=Vt c (N0 hx hr)
 unfold Vs at hW
 rw[Xi hr]at hW
 have hE:=KJ x (Ws c)
 rw[show((0:Int)==0)=true from rfl,Bool.true_and,N1]
 clear hr
 generalize Ws c=pb at *
 obtain⟨⟨fl,sum,⟨di,dn,ds,dh,dd⟩,⟨ri,rn,rs,rh,rd⟩,⟨xi,xn,xs,xh,xd⟩,t,q,life⟩,bl⟩:=c
 try dsimp only at *
 refine AP.ofA (Zl Tryd.func18 Z Tryd.ntmps18 Z Z ?_)
 repeat'(first|(apply Zb (hR);kernel_rfl;(iterate 4 exact Z))|(apply Zb (hW);kernel_rfl;(iterate 4 exact Z))|(apply Zb (hE);kernel_rfl;(iterate 4 exact Z))|(apply Zh Za;exact Z)|(apply Zf Za;exact Z)|refine Ze Z Z Z Qt ?_|refine Zk Z Qt Z Z ?_|refine Zg Z Qt ?_)
 all_goals exact Qe
def KT (p:PriV):Bool:=decide (IntKind.i64.wrap (IntKind.i64.wrap (IntKind.i64.wrap ((p.dest.h.length:Int)+(p.dest.d.length:Int))+(p.rep.h.length:Int))+(p.rep.d.length:Int))>300)||decide (IntKind.i64.wrap ((p.src.h.length:Int)+(p.src.d.length:Int))>300)
theorem Hq [Known](p:PriV):AP Tryd.prog 15 [.agg (prC p)] (.bool (KT p)) []:=by
 have hI:=Hi p.src p.t p.q
 unfold KT
 obtain⟨fl,sum,⟨di,dn,ds,dh,dd⟩,⟨ri,rn,rs,rh,rd⟩,⟨xi,xn,xs,xh,xd⟩,t,q,life⟩:=p
 try dsimp only at *
 generalize (IntKind.i64.wrap ((xh.length:Int)+(xd.length:Int)))=w2 at *
 cases t1:decide (IntKind.i64.wrap (IntKind.i64.wrap (IntKind.i64.wrap ((dh.length:Int)+(dd.length:Int))+(rh.length:Int))+(rd.length:Int))>300)<;>cases t2:decide (w2>300)
 all_goals
  rw[t2]at hI
  refine AP.ofA (Zl Tryd.func15 Z Tryd.ntmps15 Z Z ?_)
  repeat'(first|(apply Zb (hI);kernel_rfl;(iterate 4 exact Z))|(apply Zh Za;exact Z)|(apply Zf Za;exact Z)|refine Ze Z Z Z Qt ?_|refine Zo Z Z Z Qt ?_|refine Zk Z Qt Z Z ?_|refine Zi Z Qt Z Z ?_|refine Va Za Z Z Z Z ?_)
  all_goals exact Qe
def TX (l:List BlkV):Bool:=l.any fun c=>decide ((c.data.length:Int)>400)
def QT (b:BunV):Bool:=decide ((b.bl.length:Int)>20)||(KT b.p||TX b.bl)
theorem Xl {b:BunV}(h:QT b=false):b.bl.length<=20/\∀ c ∈ b.bl,c.data.length<=400:=by
 unfold QT TX at h
 simp only[Bool.or_eq_false_iff,decide_eq_false_iff_not,List.any_eq_false,decide_eq_true_eq]at h
 refine⟨by omega,fun c hc=>?_⟩
 have:=h.2.2 c hc
 omega
theorem Hr [Known](b:BunV):AP Tryd.prog 6 [.agg (bnC b)] (.bool (QT b)) []:=by
 have hG:=Hq b.p
 have hlen:=VC b.bl
 unfold QT
 cases t0:decide ((b.bl.length:Int)>20) with
 | true=>
  have t1:decide (((Z0 b.bl).length:Int)>20)=true:=by rw[hlen];exact t0
  obtain⟨⟨fl,sum,⟨di,dn,ds,dh,dd⟩,⟨ri,rn,rs,rh,rd⟩,⟨xi,xn,xs,xh,xd⟩,t,q,life⟩,bl⟩:=b
  try dsimp only at *
  refine AP.ofA (Zl Tryd.func6 Z Tryd.ntmps6 Z Z ?_)
  repeat'(first|(apply Zh Za;exact Z)|(apply Zf Za;exact Z)|(apply Zt Za;exact Z)|refine Zo Z Z Z Qt ?_|refine Zk Z Qt Z Z ?_|refine Zd Z Qt ?_|refine Zm Za Z Z Z Z ?_)
  all_goals exact Qe
 | false=>
 have h20:=of_decide_eq_false t0
 have t1:decide (((Z0 b.bl).length:Int)>20)=false:=by rw[hlen];exact t0
 generalize KT b.p=gp at *
 cases gp with
 | true=>
  obtain⟨⟨fl,sum,⟨di,dn,ds,dh,dd⟩,⟨ri,rn,rs,rh,rd⟩,⟨xi,xn,xs,xh,xd⟩,t,q,life⟩,bl⟩:=b
  try dsimp only at *
  refine AP.ofA (Zl Tryd.func6 Z Tryd.ntmps6 Z Z ?_)
  repeat'(first|(apply Zb (hG);kernel_rfl;(iterate 4 exact Z))|(apply Zh Za;exact Z)|(apply Zf Za;exact Z)|(apply Zt Za;exact Z)|refine Ze Z Z Z Qt ?_|refine Zi Z Qt Z Z ?_|refine Zd Z Qt ?_|refine Zm Za Z Z Z Z ?_)
  all_goals exact Qe
 | false=>
 rw[Bool.false_or,Bool.false_or]
 obtain⟨⟨fl,sum,⟨di,dn,ds,dh,dd⟩,⟨ri,rn,rs,rh,rd⟩,⟨xi,xn,xs,xh,xd⟩,t,q,life⟩,bl⟩:=b
 try dsimp only at *
 have hU:=Xx bl
 generalize hF:TX bl=F
 refine AP.ofA (Zl Tryd.func6 Z Tryd.ntmps6 Z Z ?_)
 repeat'(first|(apply Zb (hG);kernel_rfl;(iterate 4 exact Z))|(apply Zh Za;exact Z)|(apply Zf Za;exact Z)|(apply Zt Za;exact Z)|refine Ze Z Z Z Qt ?_|refine Zi Z Qt Z Z ?_|refine Zg Z Qt ?_|refine Zm Za Z Z Z Z ?_)
 show AW _ _ _ _
 refine Z5 (fun f tm bx fr=>∃(i:Nat),f+i=bl.length/\TX (bl.drop i)=F/\tm=[(1,.ptr 0 0),(3,.int .i64 (i:Int))]/\bx=[[.int .u64 (fl:Int),.int .i64 sum,.bool di,.int .u64 (dn:Int),.int .u64 (ds:Int),.str dh,.str dd,.bool ri,.int .u64 (rn:Int),.int .u64 (rs:Int),.str rh,.str rd,.bool xi,.int .u64 (xn:Int),.int .u64 (xs:Int),.str xh,.str xd,.int .u64 (t:Int),.int .u64 (q:Int),.int .u64 (life:Int),.sl .ext (Z0 bl)]]/\fr=[]) (bl.length+1) (Lands.mk' (m:=bl.length) (Nat.lt_succ_self _) ⟨0,by omega,hF,rfl,rfl,rfl⟩ ?_ rfl rfl rfl rfl rfl rfl) ?_
 ·exact .cons rfl (.cons rfl .nil)
 rintro f tm bx fr ⟨i,hf,hq,rfl,rfl,rfl⟩
 rcases Nat.lt_or_ge i bl.length with hlt|hge
 ·have hdl:decide ((i:Int)<((Z0 bl).length:Int))=true:=decide_eq_true (by omega)
  obtain⟨c,hy⟩:∃ y,bl[i]?=some y:=⟨_,List.getElem?_eq_getElem hlt⟩
  have hv:=Uh hy
  have hdr:bl.drop i=c::bl.drop (i+1):=by
   rw[List.drop_eq_getElem_cons hlt];congr 1
   exact(List.getElem?_eq_some_iff.1 hy).2
  rw[hdr]at hq
  replace hq:(decide ((c.data.length:Int)>400)||TX (bl.drop (i+1)))=F:=hq
  have hcl:((c.data.map E.byte).length:Int)=(c.data.length:Int):=by rw[List.length_map]
  have ei:IntKind.i64.wrap ((i:Int)+1)=((i+1:Nat):Int):=by rw[IntWalk.i64_in _ (by omega)];omega
  rw[<- hcl]at hq
  cases hb:decide (((c.data.map E.byte).length:Int)>400) with
  | true=>
   rw[hb,Bool.true_or]at hq
   subst hq
   repeat'(first|(apply Zh Za;exact Z)|(apply Zf Za;exact Z)|(apply Zt Za;exact Z)|refine Zd Z Qt ?_|refine VM ?_|refine Zm Za Z Z Z Z ?_|(apply Zu Za;(iterate 6 exact Z);(first|exact Qt|rotate_left);(first|with_reducible assumption|decide +kernel|exact Z);(first|exact Zj rfl|with_reducible assumption|decide +kernel|rotate_left)))
   all_goals exact Qe
  | false=>
   rw[hb,Bool.false_or]at hq
   repeat'(first|rw[ei]|(apply Zh Za;exact Z)|(apply Zf Za;exact Z)|(apply Zt Za;exact Z)|refine Zd Z Qt ?_|refine Zg Z Qt ?_|refine Zm Za Z Z Z Z ?_|(apply Zu Za;(iterate 6 exact Z);(first|exact Qt|rotate_left);(first|with_reducible assumption|decide +kernel|exact Z);(first|exact Zj rfl|with_reducible assumption|decide +kernel|rotate_left)))
   refine Lands.mk' (m:=f-1) (by omega) ⟨i+1,by omega,hq,rfl,rfl,rfl⟩ ?_ rfl rfl rfl rfl rfl rfl
   exact .cons rfl (.cons rfl .nil)
 ·have hdl:decide ((i:Int)<((Z0 bl).length:Int))=false:=decide_eq_false (by omega)
  rw[List.drop_eq_nil_of_le hge]at hq
  replace hq:false=F:=hq
  subst hq
  repeat'(first|(apply Zh Za;exact Z)|(apply Zf Za;exact Z)|(apply Zt Za;exact Z)|refine Zg Z Qt ?_|refine Zm Za Z Z Z Z ?_)
  all_goals exact Qe
def N2 (b:BunV):List UInt8:=match b.bl[b.bl.length-1]? with
 | some c=>c.data
 | none=>[]
theorem TY [Known](b:BunV)(hb:BunOk b):AP Tryd.prog 13 [.agg (bnC b)] (byE (N2 b)) []:=by
 have hlen:=VC b.bl
 have hU:=Xx b.bl
 unfold N2
 obtain⟨_,hl,hbl⟩:=hb
 cases hlast:b.bl[b.bl.length-1]? with
 | none=>
  have h0:b.bl.length=0:=by have:=List.getElem?_eq_none_iff.1 hlast;omega
  have t1:(((Z0 b.bl).length:Int)==0)=true:=by rw[hlen,h0];rfl
  obtain⟨⟨fl,sum,⟨di,dn,ds,dh,dd⟩,⟨ri,rn,rs,rh,rd⟩,⟨xi,xn,xs,xh,xd⟩,t,q,life⟩,bl⟩:=b
  try dsimp only at *
  refine AP.ofA (Zl Tryd.func13 Z Tryd.ntmps13 Z Z ?_)
  repeat'(first|(apply Zh Za;exact Z)|(apply Zf Za;exact Z)|(apply Zt Za;exact Z)|refine Zd Z Qt ?_|refine Zm Za Z Z Z Z ?_)
  all_goals exact Qe
 | some c=>
 have hlt:=(List.getElem?_eq_some_iff.1 hlast).1
 have hv:=Uh hlast
 rw[show((b.bl.length-1:Nat):Int)=(b.bl.length:Int)-1 from by omega]at hv
 have t1:(((Z0 b.bl).length:Int)==0)=false:=by rw[hlen];exact beq_eq_false_iff_ne.2 (by omega)
 have en:IntKind.i64.wrap (((Z0 b.bl).length:Int)-1)=(b.bl.length:Int)-1:=by rw[IntWalk.i64_in _ (by omega)];omega
 have i0:(0:Int)<=(b.bl.length:Int)-1:=by omega
 have hC:=VX c.data (by have:=(hbl c (List.mem_of_getElem? hlast)).2;omega)
 obtain⟨⟨fl,sum,⟨di,dn,ds,dh,dd⟩,⟨ri,rn,rs,rh,rd⟩,⟨xi,xn,xs,xh,xd⟩,t,q,life⟩,bl⟩:=b
 try dsimp only at *
 refine AP.ofA (Zl Tryd.func13 Z Tryd.ntmps13 Z Z ?_)
 repeat'(first|rw[en]|(apply Zb (hC);kernel_rfl;(iterate 4 exact Z))|(apply Zh Za;exact Z)|(apply Zf Za;exact Z)|(apply Zt Za;exact Z)|refine Zg Z Qt ?_|refine Zm Za Z Z Z Z ?_|(apply Zu Za;(iterate 6 exact Z);(first|exact Qt|rotate_left);(first|with_reducible assumption|decide +kernel|exact Z);(first|exact Zj rfl|with_reducible assumption|decide +kernel|rotate_left)))
 all_goals exact Qe
def hiB:BunV:=⟨pr0,[⟨1,1,0,0,[104,105]⟩]⟩
abbrev hiL:List UInt8:=[159,136,7,0,0,130,1,0,130,1,0,130,1,0,130,0,0,0,133,1,1,0,0,66,104,105,255]
theorem hi1:Z8 hiB=true:=by kernel_rfl
theorem hi2:Ws hiB=hiL:=by kernel_rfl
theorem hi3:Z8 bn0=false:=by kernel_rfl
theorem hi4:W9 [128]=(bn0,3):=by kernel_rfl
theorem Km:BunOk hiB:=⟨by decide,by decide,by decide⟩
theorem M1:BunOk bn0:=⟨by decide,by decide,by decide⟩
abbrev hiC:List D:=[.int .u64 0,.int .i64 0,.bool false,.int .u64 0,.int .u64 0,.str [],.str [],.bool false,.int .u64 0,.int .u64 0,.str [],.str [],.bool false,.int .u64 0,.int .u64 0,.str [],.str [],.int .u64 0,.int .u64 0,.int .u64 0,.sl .ext [.agg [.int .u64 1,.int .u64 1,.int .u64 0,.int .i64 0,.sl [.int .u8 104,.int .u8 105]]]]
abbrev zeC:List D:=[.int .u64 0,.int .i64 0,.bool false,.int .u64 0,.int .u64 0,.str [],.str [],.bool false,.int .u64 0,.int .u64 0,.str [],.str [],.bool false,.int .u64 0,.int .u64 0,.str [],.str [],.int .u64 0,.int .u64 0,.int .u64 0,.sl .ext []]
theorem fh1 [Known][KnownU8]:AP Tryd.prog 11 [.agg hiC] (.tup [byE hiL,.int .i64 0]) []:=by
 have h:=Vt hiB Km
 unfold Vs at h
 rw[hi1,hi2]at h
 exact h
theorem fh2 [Known][KnownU8]:AP Tryd.prog 11 [.agg zeC] (.tup [.sl .ext [],.int .i64 3]) []:=by
 have h:=Vt bn0 M1
 unfold Vs at h
 rw[hi3]at h
 exact h
theorem fh3 [Known][KnownU8]:AP Tryd.prog 12 [byE hiL] (.tup [.agg hiC,.int .i64 0]) []:=by
 have h:=UV hiL (by decide)
 rw[<- hi2,VI hi1 (Jc Km.fl Km.bl),hi2]at h
 exact h
theorem fh4 [Known][KnownU8]:AP Tryd.prog 12 [byE [128]] (.tup [.agg zeC,.int .i64 3]) []:=by
 have h:=UV [128] (by decide)
 rw[hi4]at h
 exact h
theorem fh5 [Known]:AP Tryd.prog 13 [.agg hiC] (.sl .ext [.int .u8 104,.int .u8 105]) []:=TY hiB Km
theorem fh6 [Known][KnownU8]:AP Tryd.prog 18 [byE hiL] (.bool true) []:=by
 have h:=IL hiL (by decide)
 rw[<- hi2,Hl hi1 (Jc Km.fl Km.bl),hi2]at h
 exact h
theorem fh7 [Known]:AP Tryd.prog 17 [.sl .ext [.int .u8 104,.int .u8 105]] (.agg hiC) []:=by
 refine AP.ofA (Zl Tryd.func17 Z Tryd.ntmps17 Z Z ?_)
 repeat'(first|(apply Zh Za;exact Z)|(apply Zf Za;exact Z)|refine ZS Za Z Z Z Z Z Z Z Z Z Z Z Z ?_)
 all_goals exact Qe
theorem Hs [Known][KnownU8]:AP Tryd.prog 10 [] (.bool true) []:=by
 have h1:=fh1
 have h2:=fh2
 have h3:=fh3
 have h4:=fh4
 have h5:=fh5
 have h6:=fh6
 have h7:=fh7
 refine AP.ofA (Zl Tryd.func10 Z Tryd.ntmps10 Z Z ?_)
 repeat'(first|(apply Zb (h1);kernel_rfl;(iterate 4 exact Z))|(apply Zb (h2);kernel_rfl;(iterate 4 exact Z))|(apply Zb (h3);kernel_rfl;(iterate 4 exact Z))|(apply Zb (h4);kernel_rfl;(iterate 4 exact Z))|(apply Zb (h5);kernel_rfl;(iterate 4 exact Z))|(apply Zb (h6);kernel_rfl;(iterate 4 exact Z))|(apply Zb (h7);kernel_rfl;(iterate 4 exact Z))|refine Nl Za Z Z Z Z Z Z Z Z Z ?_|(apply Zh Za;exact Z)|(apply Zf Za;exact Z)|(apply Zt Za;exact Z)|refine Ze Z Z Z Qt ?_|refine Zk Z Qt Z Z ?_|refine Zg Z Qt ?_|refine Zm Za Z Z Z Z ?_|refine Lg Za Z Z Z Z Z Z Z Z Z Z Z Z ?_|refine ZS Za Z Z Z Z Z Z Z Z Z Z Z Z ?_|(apply Zu Za;(iterate 6 exact Z);(first|exact Qt|rotate_left);(first|with_reducible assumption|decide +kernel|exact Z);(first|exact Zj rfl|with_reducible assumption|decide +kernel|rotate_left)))
 all_goals exact Qe
end Go.Proofs.YtmljabhmajehnaaDoor
end

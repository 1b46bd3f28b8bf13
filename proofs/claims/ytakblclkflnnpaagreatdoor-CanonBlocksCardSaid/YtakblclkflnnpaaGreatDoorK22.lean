/- Items: what is shortest. -/
import Derived.Test.YtakblclkflnnpaaGreatDoorK20
import Derived.Test.YtakblclkflnnpaaGreatDoorK21
import Derived.Test.YtakblclkflnnpaaGreatDoorK18
import Derived.Test.YtakblclkflnnpaaGreatDoorK19
set_option linter.unusedVariables false
set_option linter.unusedSimpArgs false
section
open Go.RowKit Go.Pl Go.Av
namespace Go.Proofs.YtakblclkflnnpaaGreatDoor
set_option maxHeartbeats 4000000
theorem Zqn {s:List UInt8}{e:Nat}(h:rdS s=.error e):e ≠ 0:=by
 cases s with
 | nil=>simp only[rdS,Except.error.injEq]at h;omega
 | cons c r=>
  simp only[rdS]at h
  repeat' split at h
  all_goals(cases h;try omega)
theorem ZhD {p:Hd}{s:List UInt8}{e:Nat}(h:ZbW p s=.error e):e ≠ 0:=by
 simp only[ZbW]at h
 repeat' split at h
 all_goals(cases h;try omega)
theorem Zlz (m:Int):∀(f:Nat) (acc s:List UInt8) (e:Nat),Zjg m f acc s=.error e->e ≠ 0
 | 0,_,_,e,h=>by simp only[Zjg,Except.error.injEq]at h;omega
 | f+1,acc,s,e,h=>by
  rw[Zjg]at h
  cases hb:Zgj s<;>rw[hb]at h
  ·cases hr:rdS s with
   | error c=>rw[hr]at h;dsimp only at h;simp only[Except.error.injEq]at h;exact h ▸ Zqn hr
   | ok y=>
    obtain⟨p,r⟩:=y
    rw[hr]at h;dsimp only at h
    split at h
    ·cases hp:ZbW p r with
     | error c=>rw[hp]at h;dsimp only at h;simp only[Except.error.injEq]at h;exact h ▸ ZhD hp
     | ok z=>rw[hp]at h;exact Zlz m f _ _ e h
    ·simp only[Except.error.injEq]at h;omega
  ·exact nomatch h
theorem Zjz {it:Nat->List UInt8->Res (It × List UInt8 × Nat)}(hi:∀ m s e,it m s=.error e->e ≠ 0):∀(f:Nat) (acc:List It) (m:Nat) (s:List UInt8) (e:Nat),Zgk it f acc m s=.error e->e ≠ 0
 | 0,_,_,_,_,h=>nomatch h
 | f+1,acc,m,s,e,h=>by
  rw[Zgk]at h
  cases hr:it m s with
  | error c=>rw[hr]at h;dsimp only at h;simp only[Except.error.injEq]at h;exact h ▸ hi _ _ _ hr
  | ok y=>obtain⟨x,r,m'⟩:=y;rw[hr]at h;exact Zjz hi f _ _ _ e h
theorem ZjA {it:Nat->List UInt8->Res (It × List UInt8 × Nat)}(hi:∀ m s e,it m s=.error e->e ≠ 0):∀(f:Nat) (acc:List It) (m:Nat) (s:List UInt8) (e:Nat),Zjh it f acc m s=.error e->e ≠ 0
 | 0,_,_,_,e,h=>by simp only[Zjh,Except.error.injEq]at h;omega
 | f+1,acc,m,s,e,h=>by
  rw[Zjh]at h
  cases hb:Zgj s<;>rw[hb]at h
  ·cases hr:it m s with
   | error c=>rw[hr]at h;dsimp only at h;simp only[Except.error.injEq]at h;exact h ▸ hi _ _ _ hr
   | ok y=>obtain⟨x,r,m'⟩:=y;rw[hr]at h;exact ZjA hi f _ _ _ e h
  ·exact nomatch h
theorem ZmT {it:Nat->List UInt8->Res (It × List UInt8 × Nat)}(hi:∀ m s e,it m s=.error e->e ≠ 0){p:Hd}{m:Nat}{r:List UInt8}{e:Nat}(h:Zcq it p m r=.error e):e ≠ 0:=by
 have h1:∀ e,ZgM p r=.error e->e ≠ 0:=by
  intro e h;simp only[ZgM]at h
  split at h
  ·exact Zlz _ _ _ _ _ h
  ·exact ZhD h
 have h2:∀ e,Zir it p m r=.error e->e ≠ 0:=by
  intro e h;simp only[Zir]at h
  split at h
  ·exact ZjA hi _ _ _ _ _ h
  ·split at h
   ·exact Zjz hi _ _ _ _ _ h
   ·cases h;omega
 simp only[Zcq]at h
 repeat' split at h
 all_goals first
  | (cases h;done)
  | (rename_i hq;cases h;exact h1 _ hq)
  | (rename_i hq;cases h;exact h2 _ hq)
theorem Zdg:∀(d m:Nat) (s:List UInt8) (e:Nat),ZaT d m s=.error e->e ≠ 0
 | 0,m,s,e,h=>by
  rw[ZaT]at h
  cases hr:rdS s with
  | error c=>rw[hr]at h;dsimp only at h;simp only[Except.error.injEq]at h;exact h ▸ Zqn hr
  | ok y=>
   obtain⟨p,r⟩:=y
   rw[hr]at h;dsimp only at h
   split at h<;>(simp only[Except.error.injEq]at h;omega)
 | d+1,m,s,e,h=>by
  rw[ZaT]at h
  cases hr:rdS s with
  | error c=>rw[hr]at h;dsimp only at h;simp only[Except.error.injEq]at h;exact h ▸ Zqn hr
  | ok y=>
   obtain⟨p,r⟩:=y
   rw[hr]at h;dsimp only at h
   split at h
   ·simp only[Except.error.injEq]at h;omega
   ·split at h
    ·simp only[Except.error.injEq]at h;omega
    ·exact ZmT (Zdg d) h
theorem ZhE [Known][KnownU8](b:List UInt8)(hb:b.length<4294967296):AP Tryz.prog 180 [byE b] (.bool (Zcf b)) []:=by
 have hR:=Zjx b 0 (by omega)
 have e:Zbu b 0=match ZaT 6 256 b with
   | .error e=>(.mk 0 0 [] [],0,e)
   | .ok (x,r,_)=>(x,b.length-r.length,0):=by rw[Zbu,if_neg (by omega)];rfl
 rw[e]at hR
 unfold Zcf
 cases hx:ZaT 6 256 b with
 | error c=>
  rw[hx]at hR
  dsimp only
  have hc:((c:Int)==0)=false:=by
   have h0:=Zdg _ _ _ _ hx
   rw[<- Bool.not_eq_true,beq_iff_eq];omega
  replace hR:AP Tryz.prog _ _ (.tup [itD (.mk 0 0 [] []),.int .i64 0,.int .i64 (c:Int)]) []:=hR
  refine AP.ofA ?_
  refine Zan Tryz.func180 rfl Tryz.ntmps180 rfl rfl ?_
  repeat'(first|rw[hc]|(apply Zaa (hR);kernel_rfl;(iterate 4 exact Z))|(apply Zaj Zab;exact Z)|(apply Zah Zab;exact Z)|(apply Zas;(iterate 3 exact Z);exact Go.ZrJ)|(apply Zag;exact Z;exact Go.ZrJ;exact Z;exact Z))
  all_goals(apply Zaw [];(apply Zad Zab;exact Z);(iterate 4 exact Z))
  all_goals rfl
 | ok y=>
  obtain⟨⟨k1,n1,b1,l1⟩,r,m1⟩:=y
  rw[hx]at hR
  replace hR:AP Tryz.prog _ _ (.tup [itD (.mk k1 n1 b1 l1),.int .i64 ((b.length-r.length:Nat):Int),.int .i64 0]) []:=hR
  obtain⟨hwk,hwf,pre,hpre,_,hlen⟩:=ZeD 6 (Nat.le_refl _) _ _ _ _ _ hx (by omega)
  have hle:=hlen ⟨Nat.le_refl _,hb⟩
  have hpl:=congrArg List.length hpre
  rw[List.length_append]at hpl
  have hP:=Zly (.mk k1 n1 b1 l1) hwf (ZgR hwk) (by omega)
  have hB:=Zjo (Za9 (.mk k1 n1 b1 l1)) b
  have hn:(((b.length-r.length:Nat):Int)==((b.map E.byte).length:Int))=r.isEmpty:=by
   rw[List.length_map]
   cases r with
   | nil=>simp
   | cons c r=>simp at hpl ⊢;omega
  dsimp only
  cases hr:r.isEmpty
  all_goals
   rw[hr]at hn
   refine AP.ofA ?_
   refine Zan Tryz.func180 rfl Tryz.ntmps180 rfl rfl ?_
   repeat'(first|rw[hn]|(apply Zaa (hR);kernel_rfl;(iterate 4 exact Z))|(apply ZaS [] [] (hP);kernel_rfl;(iterate 10 exact Z))|(apply Zaa (hB);kernel_rfl;(iterate 4 exact Z))|(apply Zaj Zab;exact Z)|(apply Zah Zab;exact Z)|(apply Zae;(iterate 3 exact Z);exact Go.ZrJ)|(apply Zas;(iterate 3 exact Z);exact Go.ZrJ)|(apply Zak;exact Z;exact Go.ZrJ;exact Z;exact Z)|(apply Zag;exact Z;exact Go.ZrJ;exact Z;exact Z)|(apply Zam Zab;(iterate 4 exact Z)))
   all_goals(apply Zaw [];(apply Zad Zab;exact Z);(iterate 4 exact Z))
   all_goals rfl
def ZlA (it:Nat->List UInt8->Res (It × List UInt8 × Nat)):Nat->List It->Nat->List UInt8->List It
 | 0,acc,_,_=>acc
 | f+1,acc,m,s=>match it m s with
  | .error _=>acc
  | .ok (x,r,m')=>ZlA it f (acc++[x]) m' r
def ZlB (it:Nat->List UInt8->Res (It × List UInt8 × Nat)):Nat->List It->Nat->List UInt8->List It
 | 0,acc,_,_=>acc
 | f+1,acc,m,s=>match Zgj s with
  | true=>acc
  | false=>match it m s with
   | .error _=>acc
   | .ok (x,r,m')=>ZlB it f (acc++[x]) m' r
def Zo2 (it:Nat->List UInt8->Res (It × List UInt8 × Nat))(h:Hd)(m:Nat)(r:List UInt8):List It:=match h.2.2 with
 | true=>ZlB it (r.length+1) [] m r
 | false=>if h.2.1<=r.length then ZlA it h.2.1 [] m r else []
def itZ:It:=.mk 0 0 [] []
def ZhF:Nat->Nat->List UInt8->It × Nat
 | 0,_,_=>(itZ,0)
 | d+1,m,s=>match rdS s with
  | .error _=>(itZ,0)
  | .ok (h,r)=>if okK h.1=false then(itZ,0) else if m=0 then(itZ,0) else if h.1=0 then(itZ,0) else if h.1=4 then(.mk 4 0 [] (Zo2 (ZaT d) h (m-1) r),0) else(.mk h.1 0 (Zow h r) [],m-1)
abbrev ZqR (b:List UInt8)(o:Res (It × List UInt8 × Nat))(E:It × Nat):D:=match o with
 | .error e=>.tup [itD E.1,.int .i64 0,.int .i64 (E.2:Int),.int .i64 (e:Int)]
 | .ok (x,r,m)=>.tup [itD x,.int .i64 ((b.length-r.length:Nat):Int),.int .i64 (m:Int),.int .i64 0]
abbrev Zqo (b:List UInt8)(o:Res (List It × List UInt8 × Nat))(E:List It):D:=match o with
 | .error e=>.tup [itD (.mk 4 0 [] E),.int .i64 0,.int .i64 0,.int .i64 (e:Int)]
 | .ok (l,r,m)=>.tup [itD (.mk 4 0 [] l),.int .i64 ((b.length-r.length:Nat):Int),.int .i64 (m:Int),.int .i64 0]
abbrev Zp3 (n:Nat)(o:Bool)(tk:Tok)(acc:List E):List (List D):=[[.int .i64 4,.int .u64 (n:Int),.bool o],[.int .i64 0,.int .u64 0,.sl .nil [],.sl .nil []],[.int .i64 4,.int .u64 0,.sl .nil [],.sl tk acc]]
theorem ZmU [Known](d deep:Nat)(hdd:deep+d=6)(b:List UInt8)(hb:b.length<=1099511627776)
  (IH:∀ p m:Nat,p<=b.length->m<=256->AP Tryz.prog 181 [byE b,.int .i64 (p:Int),.int .i64 ((deep+1:Nat):Int),.int .i64 (m:Int)] (ZqR b (ZaT d m (b.drop p)) (ZhF d m (b.drop p))) [])
  (n:Nat) (o:Bool) (p m:Nat) (hp:p<=b.length) (hm:m<=256) (hn:n<18446744073709551616):AP Tryz.prog 196 [byE b,.int .i64 (p:Int),hd (4,n,o),.int .i64 (deep:Int),.int .i64 (m:Int)] (Zqo b (Zir (ZaT d) (4,n,o) m (b.drop p)) (Zo2 (ZaT d) (4,n,o) m (b.drop p))) []:=by
 show AP Tryz.prog _ [byE b,.int .i64 (p:Int),.agg [.int .i64 4,.int .u64 (n:Int),.bool o],.int .i64 (deep:Int),.int .i64 (m:Int)] _ _
 have hR:=ZeD d (by omega)
 have hU:=Zbm b
 have ed:IntKind.i64.wrap ((deep:Int)+1)=((deep+1:Nat):Int):=by rw[IntWalk.i64_in _ (by omega)];omega
 cases o with
 | true=>
  unfold Zir Zo2
  dsimp only
  generalize ho:Zjh (ZaT d) ((b.drop p).length+1) [] m (b.drop p)=o
  generalize hE0:ZlB (ZaT d) ((b.drop p).length+1) [] m (b.drop p)=Er
  refine AP.ofA ?_
  refine Zan Tryz.func196 rfl Tryz.ntmps196 rfl rfl ?_
  repeat'(first|(apply Zaj Zab;exact Z)|(apply Zah Zab;exact Z)|(apply Zav Zab;exact Z)|(apply Zas;(iterate 3 exact Z);exact Go.ZrJ)|(apply Zag;exact Z;exact Go.ZrJ;exact Z;exact Z)|(apply Zaf;exact Z;exact Go.ZrJ))
  refine ZaE (fun f tm bx fr=>∃(i:Nat) (acc:List It) (p' m' c:Nat) (L:List E),f+i=(b.drop p).length+1/\p'<=b.length/\m'<=256/\c=L.length/\L=Zax acc/\acc.length+(b.length-p')<=b.length/\(b.drop p').length<f/\Zjh (ZaT d) f acc m' (b.drop p')=o/\ZlB (ZaT d) f acc m' (b.drop p')=Er/\tm=[(0,byE b),(1,.int .i64 (p':Int)),(3,.int .i64 (deep:Int)),(4,.int .i64 (m':Int)),(7,.ptr 0 0),(10,.ptr 1 0),(14,.ptr 2 0),(15,.int .u64 (i:Int))] /\
   ((acc=[]/\bx=Zp3 n true .nil []/\fr=[])\/(bx=Zp3 n true (.own 1) L/\fr=[⟨1,4,51⟩,⟨c,4,51⟩]))) ((b.drop p).length+2) (Lands.mk' (m:=(b.drop p).length+1) (Nat.lt_succ_self _) ⟨0,[],p,m,0,[],rfl,hp,hm,rfl,rfl,by simp,by omega,ho,hE0,rfl,.inl ⟨rfl,rfl,rfl⟩⟩ ?_ rfl rfl rfl rfl rfl rfl) ?_
  ·exact .cons rfl (.cons rfl (.cons rfl (.cons rfl (.cons rfl (.cons rfl (.cons rfl (.cons rfl .nil)))))))
  rintro f tm bx fr ⟨i,acc,p',m',c,L,hfi,hp',hm',hc,hL,hsum,hf,hS,hE,rfl,hst⟩
  obtain⟨f,rfl⟩:∃ g,f=g+1:=⟨f-1,by omega⟩
  rw[Zjh]at hS
  rw[ZlB]at hE
  have hlp:(b.drop p').length=b.length-p':=List.length_drop ..
  have hlp0:(b.drop p).length=b.length-p:=List.length_drop ..
  have ep1:IntKind.i64.wrap ((p':Int)+1)=((p'+1:Nat):Int):=by rw[IntWalk.i64_in _ (by omega)];omega
  have ei:IntKind.u64.wrap ((i:Int)+1)=((i+1:Nat):Int):=by rw[IntKind.wrap_u64];omega
  rcases ZhC hp' with⟨he,ce,d1,hv,d2⟩ | ⟨he,hne⟩
  ·have d3:decide ((p':Int)<((b.map E.byte).length:Int))=true:=decide_eq_true (by have:=of_decide_eq_false d1;omega)
   rw[he]at hS
   dsimp only at hS
   subst hS
   clear hE
   obtain⟨x,hx⟩:=ZcG _ he
   obtain⟨q1,q2,q3⟩:=ZbN (pre:=[x]) hp' hx
   have q3:b.length-(b.drop p').tail.length=p'+1:=q3.symm
   unfold Zqo
   dsimp only
   rw[q3]
   subst hL
   rcases hst with⟨rfl,rfl,rfl⟩ | ⟨rfl,rfl⟩
   ·repeat'(first|rw[ep1]|(apply Zaj Zab;exact Z)|(apply Zah Zab;exact Z)|(apply Zav Zab;exact Z)|(apply Zae;(iterate 3 exact Z);exact Go.ZrJ)|(apply Zal;(iterate 3 exact Z);exact Go.ZrJ)|(apply Zak;exact Z;exact Go.ZrJ;exact Z;exact Z)|(apply Zac;exact Z;exact Go.ZrJ)|refine Zbj ?_|(apply Zam Zab;(iterate 4 exact Z))|(apply Zau Zab;(iterate 6 exact Z);(first|exact Go.ZrJ|rotate_left);(first|with_reducible assumption|decide +kernel|exact Z);(first|exact Zai rfl|with_reducible assumption|decide +kernel|rotate_left)))
    all_goals(apply Zaw [];(apply Zad Zab;exact Z);(iterate 4 exact Z))
    all_goals rfl
   ·repeat'(first|rw[ep1]|(apply Zaj Zab;exact Z)|(apply Zah Zab;exact Z)|(apply Zav Zab;exact Z)|(apply Zae;(iterate 3 exact Z);exact Go.ZrJ)|(apply Zal;(iterate 3 exact Z);exact Go.ZrJ)|(apply Zak;exact Z;exact Go.ZrJ;exact Z;exact Z)|(apply Zac;exact Z;exact Go.ZrJ)|refine Zbj ?_|(apply Zam Zab;(iterate 4 exact Z))|(apply Zau Zab;(iterate 6 exact Z);(first|exact Go.ZrJ|rotate_left);(first|with_reducible assumption|decide +kernel|exact Z);(first|exact Zai rfl|with_reducible assumption|decide +kernel|rotate_left)))
    all_goals(apply Zaw [];(apply Zad Zab;exact Z);(iterate 4 exact Z))
    all_goals rfl
  ·rw[he]at hS hE
   dsimp only at hS hE
   have hit:=IH p' m' hp' hm'
   have hne2:decide ((p':Int)<((b.map E.byte).length:Int))=false\/∃ c:UInt8,decide ((p':Int)<((b.map E.byte).length:Int))=true/\(b.map E.byte)[((p':Nat):Int).toNat]?=some (E.byte c)/\((c.toNat:Int)==255)=false:=by
    rcases hne with h|⟨c,h1,h2,h3⟩
    ·exact .inl (decide_eq_false (by have:=of_decide_eq_true h;omega))
    ·exact .inr ⟨c,decide_eq_true (by have:=of_decide_eq_false h1;omega),h2,h3⟩
   cases hr:ZaT d m' (b.drop p') with
   | error e=>
    rw[hr]at hS hit hE
    dsimp only at hS hE
    subst hS hE
    subst hL
    have te:(((e:Nat):Int) != 0)=true:=by have:=Zdg _ _ _ _ hr;simpa using this
    generalize ZhF d m' (b.drop p')=R at hit
    obtain⟨⟨k0,n0,b0,l0⟩,r0⟩:=R
    replace hit:AP Tryz.prog _ [byE b,.int .i64 (p':Int),.int .i64 ((deep+1:Nat):Int),.int .i64 (m':Int)] (.tup [.agg [.int .i64 k0,.int .u64 (n0:Int),.sl .ext (b0.map E.byte),.sl .ext (Zax l0)],.int .i64 0,.int .i64 (r0:Int),.int .i64 (e:Int)]) []:=hit
    rcases hne2 with d3|⟨ce,d3,hv,d2⟩
    ·rcases hst with⟨rfl,rfl,rfl⟩ | ⟨rfl,rfl⟩
     ·repeat'(first|rw[ed]|(apply Zaa (hit);kernel_rfl;(iterate 4 exact Z))|(apply Zaj Zab;exact Z)|(apply Zah Zab;exact Z)|(apply Zav Zab;exact Z)|(apply Zae;(iterate 3 exact Z);exact Go.ZrJ)|(apply Zas;(iterate 3 exact Z);exact Go.ZrJ)|(apply Zal;(iterate 3 exact Z);exact Go.ZrJ)|(apply Zak;exact Z;exact Go.ZrJ;exact Z;exact Z)|(apply Zag;exact Z;exact Go.ZrJ;exact Z;exact Z)|(apply Zac;exact Z;exact Go.ZrJ)|(apply Zaf;exact Z;exact Go.ZrJ)|(apply Zam Zab;(iterate 4 exact Z)))
      all_goals(apply Zaw [];(apply Zad Zab;exact Z);(iterate 4 exact Z))
      all_goals rfl
     ·repeat'(first|rw[ed]|(apply Zaa (hit);kernel_rfl;(iterate 4 exact Z))|(apply Zaj Zab;exact Z)|(apply Zah Zab;exact Z)|(apply Zav Zab;exact Z)|(apply Zae;(iterate 3 exact Z);exact Go.ZrJ)|(apply Zas;(iterate 3 exact Z);exact Go.ZrJ)|(apply Zal;(iterate 3 exact Z);exact Go.ZrJ)|(apply Zak;exact Z;exact Go.ZrJ;exact Z;exact Z)|(apply Zag;exact Z;exact Go.ZrJ;exact Z;exact Z)|(apply Zac;exact Z;exact Go.ZrJ)|(apply Zaf;exact Z;exact Go.ZrJ)|(apply Zam Zab;(iterate 4 exact Z)))
      all_goals(apply Zaw [];(apply Zad Zab;exact Z);(iterate 4 exact Z))
      all_goals rfl
    ·rcases hst with⟨rfl,rfl,rfl⟩ | ⟨rfl,rfl⟩
     ·repeat'(first|rw[ed]|(apply Zaa (hit);kernel_rfl;(iterate 4 exact Z))|(apply Zaj Zab;exact Z)|(apply Zah Zab;exact Z)|(apply Zav Zab;exact Z)|(apply Zae;(iterate 3 exact Z);exact Go.ZrJ)|(apply Zal;(iterate 3 exact Z);exact Go.ZrJ)|(apply Zak;exact Z;exact Go.ZrJ;exact Z;exact Z)|(apply Zac;exact Z;exact Go.ZrJ)|(apply Zaf;exact Z;exact Go.ZrJ)|(apply Zam Zab;(iterate 4 exact Z))|(apply Zau Zab;(iterate 6 exact Z);(first|exact Go.ZrJ|rotate_left);(first|with_reducible assumption|decide +kernel|exact Z);(first|exact Zai rfl|with_reducible assumption|decide +kernel|rotate_left)))
      all_goals(apply Zaw [];(apply Zad Zab;exact Z);(iterate 4 exact Z))
      all_goals rfl
     ·repeat'(first|rw[ed]|(apply Zaa (hit);kernel_rfl;(iterate 4 exact Z))|(apply Zaj Zab;exact Z)|(apply Zah Zab;exact Z)|(apply Zav Zab;exact Z)|(apply Zae;(iterate 3 exact Z);exact Go.ZrJ)|(apply Zal;(iterate 3 exact Z);exact Go.ZrJ)|(apply Zak;exact Z;exact Go.ZrJ;exact Z;exact Z)|(apply Zac;exact Z;exact Go.ZrJ)|(apply Zaf;exact Z;exact Go.ZrJ)|(apply Zam Zab;(iterate 4 exact Z))|(apply Zau Zab;(iterate 6 exact Z);(first|exact Go.ZrJ|rotate_left);(first|with_reducible assumption|decide +kernel|exact Z);(first|exact Zai rfl|with_reducible assumption|decide +kernel|rotate_left)))
      all_goals(apply Zaw [];(apply Zad Zab;exact Z);(iterate 4 exact Z))
      all_goals rfl
   | ok y=>
    obtain⟨⟨k1,n1,b1,l1⟩,r,m1⟩:=y
    rw[hr]at hS hit hE
    dsimp only at hS hE
    obtain⟨hwk,_,pre,hpre,hpos,_⟩:=hR _ _ _ _ _ hr (by omega)
    have hm1:=ZcS hwk
    obtain⟨z1,z2,z3⟩:=ZbN hp' hpre
    have hlt':p'<b.length:=by have:=congrArg List.length hpre;rw[List.length_append,List.length_drop]at this;omega
    obtain⟨ce,d3,hv,d2⟩:∃ c:UInt8,decide ((p':Int)<((b.map E.byte).length:Int))=true/\(b.map E.byte)[((p':Nat):Int).toNat]?=some (E.byte c)/\((c.toNat:Int)==255)=false:=by
     rcases hne2 with d1|h
     ·have:=of_decide_eq_false d1;rw[List.length_map]at this;omega
     ·exact h
    replace hit:AP Tryz.prog _ [byE b,.int .i64 (p':Int),.int .i64 ((deep+1:Nat):Int),.int .i64 (m':Int)] (.tup [.agg [.int .i64 k1,.int .u64 (n1:Int),.sl .ext (b1.map E.byte),.sl .ext (Zax l1)],.int .i64 ((b.length-r.length:Nat):Int),.int .i64 (m1:Int),.int .i64 0]) []:=hit
    generalize hp3:b.length-r.length=p3 at z1 z2 z3 hit
    have hpl:=congrArg List.length hpre
    have hdl:(b.drop p3).length=r.length:=by rw[z1]
    rw[List.length_append]at hpl
    rw[<- z1]at hS hE
    rw[List.length_drop]at hdl
    have hf3:(b.drop p3).length<f:=by rw[List.length_drop];omega
    have hsum3:(acc++[It.mk k1 n1 b1 l1]).length+(b.length-p3)<=b.length:=by rw[List.length_append];simp;omega
    rcases hst with⟨rfl,rfl,rfl⟩ | ⟨rfl,rfl⟩
    ·repeat'(first|rw[ed]|rw[ei]|(apply Zaa (hit);kernel_rfl;(iterate 4 exact Z))|(apply ZaU Zab;(iterate 6 exact Z);exact Zai rfl;exact List.cons_ne_nil _ _;exact Z;decide +kernel;decide +kernel;(iterate 3 exact Z))|(apply Zaj Zab;exact Z)|(apply Zah Zab;exact Z)|(apply Zav Zab;exact Z)|(apply Zae;(iterate 3 exact Z);exact Go.ZrJ)|(apply Zal;(iterate 3 exact Z);exact Go.ZrJ)|(apply Zak;exact Z;exact Go.ZrJ;exact Z;exact Z)|(apply Zac;exact Z;exact Go.ZrJ)|(apply Zaf;exact Z;exact Go.ZrJ)|(apply Zam Zab;(iterate 4 exact Z))|(apply ZaX Zab;(iterate 12 exact Z))|(apply Zau Zab;(iterate 6 exact Z);(first|exact Go.ZrJ|rotate_left);(first|with_reducible assumption|decide +kernel|exact Z);(first|exact Zai rfl|with_reducible assumption|decide +kernel|rotate_left)))
     refine Lands.mk' (m:=f) (Nat.lt_succ_self _) ⟨i+1,[It.mk k1 n1 b1 l1],p3,m1,1,Zax [It.mk k1 n1 b1 l1],by omega,z2,by omega,rfl,rfl,hsum3,hf3,hS,hE,rfl,.inr ⟨rfl,rfl⟩⟩ ?_ rfl rfl rfl rfl rfl rfl
     exact .cons rfl (.cons rfl (.cons rfl (.cons rfl (.cons rfl (.cons rfl (.cons rfl (.cons rfl .nil)))))))
    ·subst hc
     have hUa:Uni 4 L:=hL ▸ Zb8 acc
     have hLl:L.length=acc.length:=by rw[hL,Zar]
     repeat'(first|rw[ed]|rw[ei]|(apply Zaa (hit);kernel_rfl;(iterate 4 exact Z))|(apply Zaj Zab;exact Z)|(apply Zah Zab;exact Z)|(apply Zav Zab;exact Z)|(apply Zae;(iterate 3 exact Z);exact Go.ZrJ)|(apply Zal;(iterate 3 exact Z);exact Go.ZrJ)|(apply Zak;exact Z;exact Go.ZrJ;exact Z;exact Z)|(apply Zac;exact Z;exact Go.ZrJ)|(apply Zaf;exact Z;exact Go.ZrJ)|(apply Zam Zab;(iterate 4 exact Z))|(apply ZaX Zab;(iterate 12 exact Z))|(apply ZaJ Zab;(iterate 6 exact Z);(first|with_reducible assumption|decide +kernel|exact Z|rotate_left);exact Z;exact Z;(first|exact Zai rfl|with_reducible assumption|decide +kernel|rotate_left);(first|exact Zai rfl|with_reducible assumption|decide +kernel|rotate_left);(first|exact Go.ZrJ|rotate_left);(first|exact Go.ZrJ|rotate_left);(first|exact Go.ZrJ|rotate_left);exact Z;exact Z)|(apply Zau Zab;(iterate 6 exact Z);(first|exact Go.ZrJ|rotate_left);(first|with_reducible assumption|decide +kernel|exact Z);(first|exact Zai rfl|with_reducible assumption|decide +kernel|rotate_left)))
     ·refine Lands.mk' (m:=f) (Nat.lt_succ_self _) ⟨i+1,acc++[It.mk k1 n1 b1 l1],p3,m1,L.length+1,L++[E.agg [.int .i64 k1,.int .u64 (n1:Int),.sl (b1.map E.byte),.sl (Zax l1)]],by omega,z2,by omega,by rw[List.length_append];rfl,by rw[hL];exact(Zb4 _ [It.mk k1 n1 b1 l1]).symm,hsum3,hf3,hS,hE,rfl,.inr ⟨rfl,rfl⟩⟩ ?_ rfl rfl rfl rfl rfl rfl
      exact .cons rfl (.cons rfl (.cons rfl (.cons rfl (.cons rfl (.cons rfl (.cons rfl (.cons rfl .nil)))))))
     all_goals(first|rfl|(simp only[List.length_append,List.length_cons,List.length_nil,List.length_map,Zar];done)|(simp only[List.length_append,List.length_cons,List.length_nil,List.length_map,Zar]at *;(try unfold maxLen);(try simp only[Nat.add_mul]);omega))
 | false=>
  unfold Zir Zo2
  dsimp only
  have e1:IntKind.i64.wrap (((b.map E.byte).length:Int)-(p:Int))=((b.length-p:Nat):Int):=by rw[List.length_map,IntWalk.i64_in _ (by omega)];omega
  have e2:IntKind.u64.wrap ((b.length-p:Nat):Int)=((b.length-p:Nat):Int):=by rw[IntKind.wrap_u64];omega
  have hl:(b.drop p).length=b.length-p:=List.length_drop ..
  rw[hl]
  by_cases hle:n<=b.length-p
  ·rw[if_pos hle,if_pos hle]
   have d1:decide ((n:Int)>((b.length-p:Nat):Int))=false:=decide_eq_false (by omega)
   generalize ho:Zgk (ZaT d) n [] m (b.drop p)=o
   generalize hE0:ZlA (ZaT d) n [] m (b.drop p)=Er
   refine AP.ofA ?_
   refine Zan Tryz.func196 rfl Tryz.ntmps196 rfl rfl ?_
   repeat'(first|rw[d1]|rw[e1]|rw[e2]|(apply Zaj Zab;exact Z)|(apply Zah Zab;exact Z)|(apply Zav Zab;exact Z)|(apply Zae;(iterate 3 exact Z);exact Go.ZrJ)|(apply Zak;exact Z;exact Go.ZrJ;exact Z;exact Z)|(apply Zaf;exact Z;exact Go.ZrJ)|(apply Zam Zab;(iterate 4 exact Z)))
   refine ZaE (fun f tm bx fr=>∃(i:Nat) (acc:List It) (p' m' c:Nat) (L:List E),f+i=n/\p'<=b.length/\m'<=256/\c=L.length/\L=Zax acc/\acc.length+(b.length-p')<=b.length/\Zgk (ZaT d) f acc m' (b.drop p')=o/\ZlA (ZaT d) f acc m' (b.drop p')=Er/\tm=[(0,byE b),(1,.int .i64 (p':Int)),(3,.int .i64 (deep:Int)),(4,.int .i64 (m':Int)),(7,.ptr 0 0),(10,.ptr 1 0),(14,.ptr 2 0),(15,.int .u64 (i:Int))] /\
    ((acc=[]/\bx=Zp3 n false .nil []/\fr=[])\/(bx=Zp3 n false (.own 1) L/\fr=[⟨1,4,51⟩,⟨c,4,51⟩]))) (n+1) (Lands.mk' (m:=n) (Nat.lt_succ_self _) ⟨0,[],p,m,0,[],rfl,hp,hm,rfl,rfl,by simp,ho,hE0,rfl,.inl ⟨rfl,rfl,rfl⟩⟩ ?_ rfl rfl rfl rfl rfl rfl) ?_
   ·exact .cons rfl (.cons rfl (.cons rfl (.cons rfl (.cons rfl (.cons rfl (.cons rfl (.cons rfl .nil)))))))
   rintro f tm bx fr ⟨i,acc,p',m',c,L,hfi,hp',hm',hc,hL,hsum,hS,hE,rfl,hst⟩
   cases f with
   | zero=>
    have dn:decide ((i:Int)<(n:Int))=false:=by simp;omega
    rw[Zgk]at hS
    subst hS
    clear hE
    unfold Zqo
    dsimp only
    have q3:b.length-(b.drop p').length=p':=by rw[List.length_drop];omega
    rw[q3]
    subst hL
    rcases hst with⟨rfl,rfl,rfl⟩ | ⟨rfl,rfl⟩
    ·repeat'(first|(apply Zaj Zab;exact Z)|(apply Zah Zab;exact Z)|(apply Zav Zab;exact Z)|(apply Zae;(iterate 3 exact Z);exact Go.ZrJ)|(apply Zag;exact Z;exact Go.ZrJ;exact Z;exact Z)|(apply Zaf;exact Z;exact Go.ZrJ))
     all_goals(apply Zaw [];(apply Zad Zab;exact Z);(iterate 4 exact Z))
     all_goals rfl
    ·repeat'(first|(apply Zaj Zab;exact Z)|(apply Zah Zab;exact Z)|(apply Zav Zab;exact Z)|(apply Zae;(iterate 3 exact Z);exact Go.ZrJ)|(apply Zag;exact Z;exact Go.ZrJ;exact Z;exact Z)|(apply Zaf;exact Z;exact Go.ZrJ))
     all_goals(apply Zaw [];(apply Zad Zab;exact Z);(iterate 4 exact Z))
     all_goals rfl
   | succ f=>
    have dn:decide ((i:Int)<(n:Int))=true:=by simp;omega
    have ei:IntKind.u64.wrap ((i:Int)+1)=((i+1:Nat):Int):=by rw[IntKind.wrap_u64];omega
    rw[Zgk]at hS
    rw[ZlA]at hE
    have hlp:(b.drop p').length=b.length-p':=List.length_drop ..
    have hit:=IH p' m' hp' hm'
    cases hr:ZaT d m' (b.drop p') with
    | error e=>
     rw[hr]at hS hit hE
     dsimp only at hS hE
     subst hS hE
     subst hL
     have te:(((e:Nat):Int) != 0)=true:=by have:=Zdg _ _ _ _ hr;simpa using this
     generalize ZhF d m' (b.drop p')=R at hit
     obtain⟨⟨k0,n0,b0,l0⟩,r0⟩:=R
     replace hit:AP Tryz.prog _ [byE b,.int .i64 (p':Int),.int .i64 ((deep+1:Nat):Int),.int .i64 (m':Int)] (.tup [.agg [.int .i64 k0,.int .u64 (n0:Int),.sl .ext (b0.map E.byte),.sl .ext (Zax l0)],.int .i64 0,.int .i64 (r0:Int),.int .i64 (e:Int)]) []:=hit
     rcases hst with⟨rfl,rfl,rfl⟩ | ⟨rfl,rfl⟩
     ·repeat'(first|rw[ed]|(apply Zaa (hit);kernel_rfl;(iterate 4 exact Z))|(apply Zaj Zab;exact Z)|(apply Zah Zab;exact Z)|(apply Zav Zab;exact Z)|(apply Zae;(iterate 3 exact Z);exact Go.ZrJ)|(apply Zas;(iterate 3 exact Z);exact Go.ZrJ)|(apply Zag;exact Z;exact Go.ZrJ;exact Z;exact Z)|(apply Zac;exact Z;exact Go.ZrJ)|(apply Zaf;exact Z;exact Go.ZrJ))
      all_goals(apply Zaw [];(apply Zad Zab;exact Z);(iterate 4 exact Z))
      all_goals rfl
     ·repeat'(first|rw[ed]|(apply Zaa (hit);kernel_rfl;(iterate 4 exact Z))|(apply Zaj Zab;exact Z)|(apply Zah Zab;exact Z)|(apply Zav Zab;exact Z)|(apply Zae;(iterate 3 exact Z);exact Go.ZrJ)|(apply Zas;(iterate 3 exact Z);exact Go.ZrJ)|(apply Zag;exact Z;exact Go.ZrJ;exact Z;exact Z)|(apply Zac;exact Z;exact Go.ZrJ)|(apply Zaf;exact Z;exact Go.ZrJ))
      all_goals(apply Zaw [];(apply Zad Zab;exact Z);(iterate 4 exact Z))
      all_goals rfl
    | ok y=>
     obtain⟨⟨k1,n1,b1,l1⟩,r,m1⟩:=y
     rw[hr]at hS hit hE
     dsimp only at hS hE
     obtain⟨hwk,_,pre,hpre,hpos,_⟩:=hR _ _ _ _ _ hr (by omega)
     have hm1:=ZcS hwk
     obtain⟨z1,z2,z3⟩:=ZbN hp' hpre
     replace hit:AP Tryz.prog _ [byE b,.int .i64 (p':Int),.int .i64 ((deep+1:Nat):Int),.int .i64 (m':Int)] (.tup [.agg [.int .i64 k1,.int .u64 (n1:Int),.sl .ext (b1.map E.byte),.sl .ext (Zax l1)],.int .i64 ((b.length-r.length:Nat):Int),.int .i64 (m1:Int),.int .i64 0]) []:=hit
     generalize hp3:b.length-r.length=p3 at z1 z2 z3 hit
     have hpl:=congrArg List.length hpre
     have hdl:(b.drop p3).length=r.length:=by rw[z1]
     rw[List.length_append]at hpl
     rw[<- z1]at hS hE
     rw[List.length_drop]at hdl
     have hsum3:(acc++[It.mk k1 n1 b1 l1]).length+(b.length-p3)<=b.length:=by rw[List.length_append];simp;omega
     rcases hst with⟨rfl,rfl,rfl⟩ | ⟨rfl,rfl⟩
     ·repeat'(first|rw[ed]|rw[ei]|(apply Zaa (hit);kernel_rfl;(iterate 4 exact Z))|(apply ZaU Zab;(iterate 6 exact Z);exact Zai rfl;exact List.cons_ne_nil _ _;exact Z;decide +kernel;decide +kernel;(iterate 3 exact Z))|(apply Zaj Zab;exact Z)|(apply Zah Zab;exact Z)|(apply Zav Zab;exact Z)|(apply Zae;(iterate 3 exact Z);exact Go.ZrJ)|(apply Zas;(iterate 3 exact Z);exact Go.ZrJ)|(apply Zag;exact Z;exact Go.ZrJ;exact Z;exact Z)|(apply Zac;exact Z;exact Go.ZrJ)|(apply Zaf;exact Z;exact Go.ZrJ)|(apply ZaX Zab;(iterate 12 exact Z)))
      refine Lands.mk' (m:=f) (Nat.lt_succ_self _) ⟨i+1,[It.mk k1 n1 b1 l1],p3,m1,1,Zax [It.mk k1 n1 b1 l1],by omega,z2,by omega,rfl,rfl,hsum3,hS,hE,rfl,.inr ⟨rfl,rfl⟩⟩ ?_ rfl rfl rfl rfl rfl rfl
      exact .cons rfl (.cons rfl (.cons rfl (.cons rfl (.cons rfl (.cons rfl (.cons rfl (.cons rfl .nil)))))))
     ·subst hc
      have hUa:Uni 4 L:=hL ▸ Zb8 acc
      have hLl:L.length=acc.length:=by rw[hL,Zar]
      repeat'(first|rw[ed]|rw[ei]|(apply Zaa (hit);kernel_rfl;(iterate 4 exact Z))|(apply Zaj Zab;exact Z)|(apply Zah Zab;exact Z)|(apply Zav Zab;exact Z)|(apply Zae;(iterate 3 exact Z);exact Go.ZrJ)|(apply Zas;(iterate 3 exact Z);exact Go.ZrJ)|(apply Zag;exact Z;exact Go.ZrJ;exact Z;exact Z)|(apply Zac;exact Z;exact Go.ZrJ)|(apply Zaf;exact Z;exact Go.ZrJ)|(apply ZaX Zab;(iterate 12 exact Z))|(apply ZaJ Zab;(iterate 6 exact Z);(first|with_reducible assumption|decide +kernel|exact Z|rotate_left);exact Z;exact Z;(first|exact Zai rfl|with_reducible assumption|decide +kernel|rotate_left);(first|exact Zai rfl|with_reducible assumption|decide +kernel|rotate_left);(first|exact Go.ZrJ|rotate_left);(first|exact Go.ZrJ|rotate_left);(first|exact Go.ZrJ|rotate_left);exact Z;exact Z))
      ·refine Lands.mk' (m:=f) (Nat.lt_succ_self _) ⟨i+1,acc++[It.mk k1 n1 b1 l1],p3,m1,L.length+1,L++[E.agg [.int .i64 k1,.int .u64 (n1:Int),.sl (b1.map E.byte),.sl (Zax l1)]],by omega,z2,by omega,by rw[List.length_append];rfl,by rw[hL];exact(Zb4 _ [It.mk k1 n1 b1 l1]).symm,hsum3,hS,hE,rfl,.inr ⟨rfl,rfl⟩⟩ ?_ rfl rfl rfl rfl rfl rfl
       exact .cons rfl (.cons rfl (.cons rfl (.cons rfl (.cons rfl (.cons rfl (.cons rfl (.cons rfl .nil)))))))
      all_goals(first|rfl|(simp only[List.length_append,List.length_cons,List.length_nil,List.length_map,Zar];done)|(simp only[List.length_append,List.length_cons,List.length_nil,List.length_map,Zar]at *;(try unfold maxLen);(try simp only[Nat.add_mul]);omega))
  ·rw[if_neg hle,if_neg hle]
   have d1:decide ((n:Int)>((b.length-p:Nat):Int))=true:=decide_eq_true (by omega)
   refine AP.ofA ?_
   refine Zan Tryz.func196 rfl Tryz.ntmps196 rfl rfl ?_
   repeat'(first|rw[d1]|rw[e1]|rw[e2]|(apply Zaj Zab;exact Z)|(apply Zah Zab;exact Z)|(apply Zav Zab;exact Z)|(apply Zae;(iterate 3 exact Z);exact Go.ZrJ)|(apply Zak;exact Z;exact Go.ZrJ;exact Z;exact Z)|(apply Zac;exact Z;exact Go.ZrJ)|(apply Zam Zab;(iterate 4 exact Z)))
   all_goals(apply Zaw [];(apply Zad Zab;exact Z);(iterate 4 exact Z))
   all_goals rfl
end Go.Proofs.YtakblclkflnnpaaGreatDoor
end

/- The reader of items: lists, items. -/
import Derived.Test.YtakblclkflnnpaaGreatDoorM09
import Derived.Test.YtakblclkflnnpaaGreatDoorM16
set_option linter.unusedVariables false
set_option linter.unusedSimpArgs false
section
open Go.RowKit Go.Pl Go.Av
namespace Go.Proofs.YtakblclkflnnpaaGreatDoor
set_option maxHeartbeats 4000000
abbrev itR (b:List UInt8)(d p m:Nat):Except D (D × List (List D)):=match ZaU d m (b.drop p) with
 | .error e=>.error (Zde e)
 | .ok (x,r,m')=>.ok (itD x,[rdC b (b.length-r.length) m'])
abbrev liB (b:List UInt8)(p m n:Nat)(o:Bool)(tk:Tok)(acc:List E):List (List D):=[rdC b p m,[.int .i64 4,.int .u64 (n:Int),.bool o],[.int .i64 0,.int .u64 0,.sl .nil [],.sl .nil []],[.int .i64 4,.int .u64 0,.sl .nil [],.sl tk acc]]
theorem ZlN [Known][KnownU8](d deep:Nat)(hdd:deep+d=6)(b:List UInt8)(hb:b.length<=1099511627776)
  (IH:∀ p m,p<=b.length->m<=256->AR Tryz.prog 161 [.ptr 0 0,.int .i64 ((deep+1:Nat):Int)] [rdC b p m] (itR b d p m))
  (n:Nat) (o:Bool) (p m:Nat) (hp:p<=b.length) (hm:m<=256) (hn:n<18446744073709551616):AR Tryz.prog 187 [.ptr 0 0,hd (4,n,o),.int .i64 (deep:Int)] [rdC b p m] (match ZhM (ZaU d) (4,n,o) m (b.drop p) with
  | .error e=>.error (Zde e)
  | .ok (l,r,m')=>.ok (itD (.mk 4 0 [] l),[rdC b (b.length-r.length) m'])):=by
 show AR Tryz.prog _ [.ptr 0 0,.agg [.int .i64 4,.int .u64 (n:Int),.bool o],.int .i64 (deep:Int)] _ _
 have hR:=Zem d (by omega)
 have ed:IntKind.i64.wrap ((deep:Int)+1)=((deep+1:Nat):Int):=by rw[IntWalk.i64_in _ (by omega)];omega
 cases o with
 | true=>
  unfold ZhM
  dsimp only
  generalize ho:Zix (ZaU d) ((b.drop p).length+1) [] m (b.drop p)=o
  refine Zan Tryz.func187 rfl Tryz.ntmps187 rfl rfl ?_
  repeat'(first|(apply Zah Zab;exact Z)|(apply Zac;exact Z;exact Go.Zqy))
  refine ZaG (fun f tm bx fr=>∃(acc:List It) (p' m' c:Nat) (L:List E),p'<=b.length/\m'<=256/\c=L.length/\L=ZaC acc/\acc.length+(b.length-p')<=b.length/\(b.drop p').length<f/\Zix (ZaU d) f acc m' (b.drop p')=o/\tm=[(0,.ptr 0 0),(2,.int .i64 (deep:Int)),(4,.ptr 1 0),(6,.ptr 2 0),(7,.ptr 3 0)] /\
   ((acc=[]/\bx=liB b p' m' n true .nil []/\fr=[])\/(bx=liB b p' m' n true (.own 0) L/\fr=[⟨c,4,32⟩]))) ((b.drop p).length+2) (Lands.mk' (m:=(b.drop p).length+1) (Nat.lt_succ_self _) ⟨[],p,m,0,[],hp,hm,rfl,rfl,by simp,by omega,ho,rfl,.inl ⟨rfl,rfl,rfl⟩⟩ ?_ rfl rfl rfl rfl rfl rfl) ?_
  ·exact .cons rfl (.cons rfl (.cons rfl (.cons rfl (.cons rfl .nil))))
  rintro f tm bx fr ⟨acc,p',m',c,L,hp',hm',hc,hL,hsum,hf,hS,rfl,hst⟩
  obtain⟨f,rfl⟩:∃ g,f=g+1:=⟨f-1,by omega⟩
  have hends:=Zkw b p' m' hb hp'
  rw[Zix]at hS
  have hlp:(b.drop p').length=b.length-p':=List.length_drop ..
  cases he:ZfR (b.drop p') with
  | true=>
   rw[he]at hS hends
   dsimp only at hS
   rw[if_pos rfl]at hends
   subst hS
   dsimp only
   obtain⟨x,hx⟩:=Zcv _ he
   obtain⟨q1,q2,q3⟩:=ZbI (pre:=[x]) hp' hx
   have q3:b.length-(b.drop p').tail.length=p'+1:=q3.symm
   rw[q3]
   subst hL
   rcases hst with⟨rfl,rfl,rfl⟩ | ⟨rfl,rfl⟩
   ·repeat'(first|(apply ZaB [0] (hends);kernel_rfl;(iterate 7 exact Z))|(apply Zai Zab;exact Z)|(apply Zah Zab;exact Z)|(apply Zaw Zab;exact Z)|refine Zbl ?_|(apply Zaf;exact Z;exact Go.Zqy))
    all_goals(apply Ziq (rfl) [0];(apply Zad Zab;exact Z);(iterate 4 exact Z))
    all_goals rfl
   ·repeat'(first|(apply ZaB [0] (hends);kernel_rfl;(iterate 7 exact Z))|(apply Zai Zab;exact Z)|(apply Zah Zab;exact Z)|(apply Zaw Zab;exact Z)|refine Zbl ?_|(apply Zaf;exact Z;exact Go.Zqy))
    all_goals(apply Ziq (rfl) [0];(apply Zad Zab;exact Z);(iterate 4 exact Z))
    all_goals rfl
  | false=>
   rw[he]at hS hends
   dsimp only at hS
   rw[if_neg (by simp)]at hends
   have hit:=IH p' m' hp' hm'
   unfold itR at hit
   cases hr:ZaU d m' (b.drop p') with
   | error e=>
    rw[hr]at hS hit
    dsimp only at hS hit
    subst hS
    dsimp only
    rcases hst with⟨rfl,rfl,rfl⟩ | ⟨rfl,rfl⟩
    ·repeat'(first|rw[ed]|(apply ZaB [0] (hends);kernel_rfl;(iterate 7 exact Z))|(apply Za5 [0] (hit.x rfl);kernel_rfl;(iterate 6 exact Z);intro bx2 fr2 hle2)|(apply Zdn 9 5 ZaK;decide +kernel;kernel_rfl;decide +kernel;exact Z;exact Z)|exact ADX.nil _ _|(apply Zdo;decide +kernel;exact Z)|(apply Zei;(iterate 3 exact Z))|(apply ZfP;(iterate 4 exact Z))|exact ZfO rfl (by assumption)|intro tm2 bx2 fr2 hle2|(apply Zai Zab;exact Z)|(apply Zah Zab;exact Z)|(apply Zaw Zab;exact Z)|refine Zbl ?_|(apply Zac;exact Z;exact Go.Zqy)|exact Zbx rfl)
     all_goals(apply ZeO;exact Z;(first|exact Nat.zero_le _|exact Nat.le_trans (Nat.le_of_ble_eq_true rfl) (by assumption));exact Z)
    ·repeat'(first|rw[ed]|(apply ZaB [0] (hends);kernel_rfl;(iterate 7 exact Z))|(apply Za5 [0] (hit.x rfl);kernel_rfl;(iterate 6 exact Z);intro bx2 fr2 hle2)|(apply Zdn 9 5 ZaK;decide +kernel;kernel_rfl;decide +kernel;exact Z;exact Z)|exact ADX.nil _ _|(apply Zdo;decide +kernel;exact Z)|(apply Zei;(iterate 3 exact Z))|(apply ZfP;(iterate 4 exact Z))|exact ZfO rfl (by assumption)|intro tm2 bx2 fr2 hle2|(apply Zai Zab;exact Z)|(apply Zah Zab;exact Z)|(apply Zaw Zab;exact Z)|refine Zbl ?_|(apply Zac;exact Z;exact Go.Zqy)|exact Zbx rfl)
     all_goals(apply ZeO;exact Z;(first|exact Nat.zero_le _|exact Nat.le_trans (Nat.le_of_ble_eq_true rfl) (by assumption));exact Z)
   | ok y=>
    obtain⟨⟨k1,n1,b1,l1⟩,r,m1⟩:=y
    rw[hr]at hS hit
    dsimp only at hS hit
    obtain⟨hwk,_,pre,hpre,hpos,_⟩:=hR _ _ _ _ _ hr (by omega)
    have hm1:=ZcI hwk
    obtain⟨z1,z2,z3⟩:=ZbI hp' hpre
    generalize hp3:b.length-r.length=p3 at z1 z2 z3 hit
    have hpl:=congrArg List.length hpre
    have hdl:(b.drop p3).length=r.length:=by rw[z1]
    rw[List.length_append]at hpl
    rw[<- z1]at hS
    rw[List.length_drop]at hdl
    have hf3:(b.drop p3).length<f:=by rw[List.length_drop];omega
    have hsum3:(acc++[It.mk k1 n1 b1 l1]).length+(b.length-p3)<=b.length:=by rw[List.length_append];simp;omega
    rcases hst with⟨rfl,rfl,rfl⟩ | ⟨rfl,rfl⟩
    ·repeat'(first|rw[ed]|(apply ZaB [0] (hends);kernel_rfl;(iterate 7 exact Z))|(apply ZaB [0] (hit.q rfl);kernel_rfl;(iterate 7 exact Z))|(apply Za4 Zab;(iterate 6 exact Z);exact Zak rfl;exact List.cons_ne_nil _ _;exact Z;decide +kernel;decide +kernel;(iterate 3 exact Z))|(apply Zai Zab;exact Z)|(apply Zah Zab;exact Z)|(apply Zaw Zab;exact Z)|refine Zbl ?_|(apply Zac;exact Z;exact Go.Zqy)|refine Zbe ?_|(apply ZaR Zab;(iterate 12 exact Z))|(apply Zam 7 ZaK;decide +kernel;kernel_rfl;kernel_rfl;kernel_rfl;exact Z;exact Z)|(apply Zaq;(iterate 4 exact Z))|exact AE.nil _ _ _ _|(apply Zat;exact Z)|(apply Zbb;exact Z)|(apply Zax;exact Z;exact Z;decide +kernel;exact Z)|(apply Zay;exact Z)|(apply Zbr;exact Z)|exact AO.nil _ _ _|(apply Zap;(decide +kernel))|(apply ZaZ;(iterate 3 exact Z))|exact AOs.nil|exact ZaE rfl rfl|exact Zc6 rfl rfl rfl rfl rfl|exact Zb1 rfl rfl)
     refine Lands.mk' (m:=f) (Nat.lt_succ_self _) ⟨[It.mk k1 n1 b1 l1],p3,m1,1,ZaC [It.mk k1 n1 b1 l1],z2,by omega,rfl,rfl,hsum3,hf3,hS,rfl,.inr ⟨rfl,rfl⟩⟩ ?_ rfl rfl rfl rfl rfl rfl
     exact .cons rfl (.cons rfl (.cons rfl (.cons rfl (.cons rfl .nil))))
    ·subst hc
     have hUa:Uni 4 L:=hL ▸ Zcd acc
     have hLl:L.length=acc.length:=by rw[hL,Zas]
     repeat'(first|rw[ed]|(apply ZaB [0] (hends);kernel_rfl;(iterate 7 exact Z))|(apply ZaB [0] (hit.q rfl);kernel_rfl;(iterate 7 exact Z))|(apply Zai Zab;exact Z)|(apply Zah Zab;exact Z)|(apply Zaw Zab;exact Z)|refine Zbl ?_|(apply Zac;exact Z;exact Go.Zqy)|refine Zbe ?_|(apply ZaR Zab;(iterate 12 exact Z))|(apply Zam 7 ZaK;decide +kernel;kernel_rfl;kernel_rfl;kernel_rfl;exact Z;exact Z)|(apply Zaq;(iterate 4 exact Z))|exact AE.nil _ _ _ _|(apply Zat;exact Z)|(apply Zbb;exact Z)|(apply Zax;exact Z;exact Z;decide +kernel;exact Z)|(apply Zay;exact Z)|(apply Zbr;exact Z)|exact AO.nil _ _ _|(apply Zap;(decide +kernel))|(apply ZaZ;(iterate 3 exact Z))|exact AOs.nil|exact ZaE rfl rfl|exact Zc6 rfl rfl rfl rfl rfl|exact Zb1 rfl rfl|(apply ZaI Zab;(iterate 6 exact Z);(first|with_reducible assumption|decide +kernel|exact Z|rotate_left);exact Z;exact Z;(first|exact Zak rfl|with_reducible assumption|decide +kernel|rotate_left);(first|exact Zak rfl|with_reducible assumption|decide +kernel|rotate_left);(first|exact Go.Zqy|rotate_left);(first|exact Go.Zqy|rotate_left);(first|exact Go.Zqy|rotate_left);exact Z;exact Z))
     ·refine Lands.mk' (m:=f) (Nat.lt_succ_self _) ⟨acc++[It.mk k1 n1 b1 l1],p3,m1,L.length+1,L++[E.agg [.int .i64 k1,.int .u64 (n1:Int),.sl (b1.map E.byte),.sl (ZaC l1)]],z2,by omega,by rw[List.length_append];rfl,by rw[hL];exact(Zcj _ [It.mk k1 n1 b1 l1]).symm,hsum3,hf3,hS,rfl,.inr ⟨rfl,rfl⟩⟩ ?_ rfl rfl rfl rfl rfl rfl
      exact .cons rfl (.cons rfl (.cons rfl (.cons rfl (.cons rfl .nil))))
     all_goals(first|rfl|(simp only[List.length_append,List.length_cons,List.length_nil,List.length_map,Zas];done)|(simp only[List.length_append,List.length_cons,List.length_nil,List.length_map,Zas]at *;(try unfold maxLen);(try simp only[Nat.add_mul]);omega))
 | false=>
  unfold ZhM
  dsimp only
  have e1:IntKind.i64.wrap (((b.map E.byte).length:Int)-(p:Int))=((b.length-p:Nat):Int):=by rw[List.length_map,IntWalk.i64_in _ (by omega)];omega
  have e2:IntKind.u64.wrap ((b.length-p:Nat):Int)=((b.length-p:Nat):Int):=by rw[IntKind.wrap_u64];omega
  have hl:(b.drop p).length=b.length-p:=List.length_drop ..
  rw[hl]
  by_cases hle:n<=b.length-p
  ·rw[if_pos hle]
   have d1:decide ((n:Int)<=((b.length-p:Nat):Int))=true:=by simp;omega
   generalize ho:ZfS (ZaU d) n [] m (b.drop p)=o
   refine Zan Tryz.func187 rfl Tryz.ntmps187 rfl rfl ?_
   repeat'(first|rw[d1]|rw[e1]|rw[e2]|(apply Zaa (ZaW 8);kernel_rfl;(iterate 4 exact Z))|(apply Zai Zab;exact Z)|(apply Zah Zab;exact Z)|(apply Zaf;exact Z;exact Go.Zqy)|(apply Zao Zab;(iterate 4 exact Z))|(apply Zam 13 ZaK;decide +kernel;kernel_rfl;kernel_rfl;kernel_rfl;exact Z;exact Z)|(apply Zaq;(iterate 4 exact Z))|exact AE.nil _ _ _ _|(apply Zat;exact Z)|(apply Zax;exact Z;exact Z;decide +kernel;exact Z)|(apply Zay;exact Z)|exact AO.nil _ _ _|(apply Zap;(decide +kernel))|exact AOs.nil|exact ZaE rfl rfl)
   refine ZaG (fun f tm bx fr=>∃(i:Nat) (acc:List It) (p' m' c:Nat) (L:List E),f+i=n/\p'<=b.length/\m'<=256/\c=L.length/\L=ZaC acc/\acc.length+(b.length-p')<=b.length/\ZfS (ZaU d) f acc m' (b.drop p')=o/\tm=[(0,.ptr 0 0),(2,.int .i64 (deep:Int)),(4,.ptr 1 0),(6,.ptr 2 0),(7,.ptr 3 0),(40,.int .u64 (n:Int)),(41,.int .u64 (i:Int))] /\
    ((acc=[]/\bx=liB b p' m' n false .nil []/\fr=[])\/(bx=liB b p' m' n false (.own 0) L/\fr=[⟨c,4,32⟩]))) (n+1) (Lands.mk' (m:=n) (Nat.lt_succ_self _) ⟨0,[],p,m,0,[],rfl,hp,hm,rfl,rfl,by simp,ho,rfl,.inl ⟨rfl,rfl,rfl⟩⟩ ?_ rfl rfl rfl rfl rfl rfl) ?_
   ·exact .cons rfl (.cons rfl (.cons rfl (.cons rfl (.cons rfl (.cons rfl (.cons rfl .nil))))))
   rintro f tm bx fr ⟨i,acc,p',m',c,L,hfi,hp',hm',hc,hL,hsum,hS,rfl,hst⟩
   cases f with
   | zero=>
    have dn:decide ((i:Int)<(n:Int))=false:=by simp;omega
    rw[ZfS]at hS
    subst hS
    dsimp only
    have q3:b.length-(b.drop p').length=p':=by rw[List.length_drop];omega
    rw[q3]
    subst hL
    rcases hst with⟨rfl,rfl,rfl⟩ | ⟨rfl,rfl⟩
    ·repeat'(first|(apply Zah Zab;exact Z)|refine Zbl ?_|(apply Zaf;exact Z;exact Go.Zqy))
     all_goals(apply Ziq (rfl) [0];(apply Zad Zab;exact Z);(iterate 4 exact Z))
     all_goals rfl
    ·repeat'(first|(apply Zah Zab;exact Z)|refine Zbl ?_|(apply Zaf;exact Z;exact Go.Zqy))
     all_goals(apply Ziq (rfl) [0];(apply Zad Zab;exact Z);(iterate 4 exact Z))
     all_goals rfl
   | succ f=>
    have dn:decide ((i:Int)<(n:Int))=true:=by simp;omega
    have ei:IntKind.u64.wrap ((i:Int)+1)=((i+1:Nat):Int):=by rw[IntKind.wrap_u64];omega
    rw[ZfS]at hS
    have hlp:(b.drop p').length=b.length-p':=List.length_drop ..
    have hit:=IH p' m' hp' hm'
    unfold itR at hit
    cases hr:ZaU d m' (b.drop p') with
    | error e=>
     rw[hr]at hS hit
     dsimp only at hS hit
     subst hS
     dsimp only
     rcases hst with⟨rfl,rfl,rfl⟩ | ⟨rfl,rfl⟩
     ·repeat'(first|rw[ed]|(apply Za5 [0] (hit.x rfl);kernel_rfl;(iterate 6 exact Z);intro bx2 fr2 hle2)|(apply Zdn 9 5 ZaK;decide +kernel;kernel_rfl;decide +kernel;exact Z;exact Z)|exact ADX.nil _ _|(apply Zdo;decide +kernel;exact Z)|(apply Zei;(iterate 3 exact Z))|(apply ZfP;(iterate 4 exact Z))|exact ZfO rfl (by assumption)|intro tm2 bx2 fr2 hle2|(apply Zai Zab;exact Z)|(apply Zah Zab;exact Z)|(apply Zaw Zab;exact Z)|refine Zbl ?_|(apply Zac;exact Z;exact Go.Zqy)|exact Zbx rfl)
      all_goals(apply ZeO;exact Z;(first|exact Nat.zero_le _|exact Nat.le_trans (Nat.le_of_ble_eq_true rfl) (by assumption));exact Z)
     ·repeat'(first|rw[ed]|(apply Za5 [0] (hit.x rfl);kernel_rfl;(iterate 6 exact Z);intro bx2 fr2 hle2)|(apply Zdn 9 5 ZaK;decide +kernel;kernel_rfl;decide +kernel;exact Z;exact Z)|exact ADX.nil _ _|(apply Zdo;decide +kernel;exact Z)|(apply Zei;(iterate 3 exact Z))|(apply ZfP;(iterate 4 exact Z))|exact ZfO rfl (by assumption)|intro tm2 bx2 fr2 hle2|(apply Zai Zab;exact Z)|(apply Zah Zab;exact Z)|(apply Zaw Zab;exact Z)|refine Zbl ?_|(apply Zac;exact Z;exact Go.Zqy)|exact Zbx rfl)
      all_goals(apply ZeO;exact Z;(first|exact Nat.zero_le _|exact Nat.le_trans (Nat.le_of_ble_eq_true rfl) (by assumption));exact Z)
    | ok y=>
     obtain⟨⟨k1,n1,b1,l1⟩,r,m1⟩:=y
     rw[hr]at hS hit
     dsimp only at hS hit
     obtain⟨hwk,_,pre,hpre,hpos,_⟩:=hR _ _ _ _ _ hr (by omega)
     have hm1:=ZcI hwk
     obtain⟨z1,z2,z3⟩:=ZbI hp' hpre
     generalize hp3:b.length-r.length=p3 at z1 z2 z3 hit
     have hpl:=congrArg List.length hpre
     have hdl:(b.drop p3).length=r.length:=by rw[z1]
     rw[List.length_append]at hpl
     rw[<- z1]at hS
     rw[List.length_drop]at hdl
     have hsum3:(acc++[It.mk k1 n1 b1 l1]).length+(b.length-p3)<=b.length:=by rw[List.length_append];simp;omega
     rcases hst with⟨rfl,rfl,rfl⟩ | ⟨rfl,rfl⟩
     ·repeat'(first|rw[ed]|rw[ei]|(apply ZaB [0] (hit.q rfl);kernel_rfl;(iterate 7 exact Z))|(apply Za4 Zab;(iterate 6 exact Z);exact Zak rfl;exact List.cons_ne_nil _ _;exact Z;decide +kernel;decide +kernel;(iterate 3 exact Z))|(apply Zai Zab;exact Z)|(apply Zah Zab;exact Z)|refine Zbl ?_|(apply Zac;exact Z;exact Go.Zqy)|refine Zbe ?_|(apply ZaR Zab;(iterate 12 exact Z))|(apply Zam 7 ZaK;decide +kernel;kernel_rfl;kernel_rfl;kernel_rfl;exact Z;exact Z)|(apply Zaq;(iterate 4 exact Z))|exact AE.nil _ _ _ _|(apply Zat;exact Z)|(apply Zbb;exact Z)|(apply Zax;exact Z;exact Z;decide +kernel;exact Z)|(apply Zay;exact Z)|(apply Zbr;exact Z)|exact AO.nil _ _ _|(apply Zap;(decide +kernel))|(apply ZaZ;(iterate 3 exact Z))|exact AOs.nil|exact ZaE rfl rfl|exact Zc6 rfl rfl rfl rfl rfl|exact Zb1 rfl rfl)
      refine Lands.mk' (m:=f) (Nat.lt_succ_self _) ⟨i+1,[It.mk k1 n1 b1 l1],p3,m1,1,ZaC [It.mk k1 n1 b1 l1],by omega,z2,by omega,rfl,rfl,hsum3,hS,rfl,.inr ⟨rfl,rfl⟩⟩ ?_ rfl rfl rfl rfl rfl rfl
      exact .cons rfl (.cons rfl (.cons rfl (.cons rfl (.cons rfl (.cons rfl (.cons rfl .nil))))))
     ·subst hc
      have hUa:Uni 4 L:=hL ▸ Zcd acc
      have hLl:L.length=acc.length:=by rw[hL,Zas]
      repeat'(first|rw[ed]|rw[ei]|(apply ZaB [0] (hit.q rfl);kernel_rfl;(iterate 7 exact Z))|(apply Zai Zab;exact Z)|(apply Zah Zab;exact Z)|refine Zbl ?_|(apply Zac;exact Z;exact Go.Zqy)|refine Zbe ?_|(apply ZaR Zab;(iterate 12 exact Z))|(apply Zam 7 ZaK;decide +kernel;kernel_rfl;kernel_rfl;kernel_rfl;exact Z;exact Z)|(apply Zaq;(iterate 4 exact Z))|exact AE.nil _ _ _ _|(apply Zat;exact Z)|(apply Zbb;exact Z)|(apply Zax;exact Z;exact Z;decide +kernel;exact Z)|(apply Zay;exact Z)|(apply Zbr;exact Z)|exact AO.nil _ _ _|(apply Zap;(decide +kernel))|(apply ZaZ;(iterate 3 exact Z))|exact AOs.nil|exact ZaE rfl rfl|exact Zc6 rfl rfl rfl rfl rfl|exact Zb1 rfl rfl|(apply ZaI Zab;(iterate 6 exact Z);(first|with_reducible assumption|decide +kernel|exact Z|rotate_left);exact Z;exact Z;(first|exact Zak rfl|with_reducible assumption|decide +kernel|rotate_left);(first|exact Zak rfl|with_reducible assumption|decide +kernel|rotate_left);(first|exact Go.Zqy|rotate_left);(first|exact Go.Zqy|rotate_left);(first|exact Go.Zqy|rotate_left);exact Z;exact Z))
      ·refine Lands.mk' (m:=f) (Nat.lt_succ_self _) ⟨i+1,acc++[It.mk k1 n1 b1 l1],p3,m1,L.length+1,L++[E.agg [.int .i64 k1,.int .u64 (n1:Int),.sl (b1.map E.byte),.sl (ZaC l1)]],by omega,z2,by omega,by rw[List.length_append];rfl,by rw[hL];exact(Zcj _ [It.mk k1 n1 b1 l1]).symm,hsum3,hS,rfl,.inr ⟨rfl,rfl⟩⟩ ?_ rfl rfl rfl rfl rfl rfl
       exact .cons rfl (.cons rfl (.cons rfl (.cons rfl (.cons rfl (.cons rfl (.cons rfl .nil))))))
      all_goals(first|rfl|(simp only[List.length_append,List.length_cons,List.length_nil,List.length_map,Zas];done)|(simp only[List.length_append,List.length_cons,List.length_nil,List.length_map,Zas]at *;(try unfold maxLen);(try simp only[Nat.add_mul]);omega))
  ·rw[if_neg hle]
   dsimp only
   have d1:decide ((n:Int)<=((b.length-p:Nat):Int))=false:=by simp;omega
   refine Zan Tryz.func187 rfl Tryz.ntmps187 rfl rfl ?_
   repeat'(first|rw[d1]|rw[e1]|rw[e2]|(apply Za5 [] (Zcw 8);kernel_rfl;(iterate 6 exact Z);intro bx2 fr2 hle2)|(apply Zai Zab;exact Z)|(apply Zah Zab;exact Z)|(apply Zaw Zab;exact Z)|refine Zbl ?_|(apply Zaf;exact Z;exact Go.Zqy)|(apply Zao Zab;(iterate 4 exact Z))|(apply Zam 13 ZaK;decide +kernel;kernel_rfl;kernel_rfl;kernel_rfl;exact Z;exact Z)|(apply Zaq;(iterate 4 exact Z))|exact AE.nil _ _ _ _|(apply Zat;exact Z)|(apply Zax;exact Z;exact Z;decide +kernel;exact Z)|(apply Zay;exact Z)|exact AO.nil _ _ _|(apply Zap;(decide +kernel))|exact AOs.nil|exact ZaE rfl rfl)
   all_goals(apply ZeO;exact Z;(first|exact Nat.zero_le _|exact Nat.le_trans (Nat.le_of_ble_eq_true rfl) (by assumption));exact Z)
theorem Zkx {k:Int}(h:okK k=false):(k==0)=false/\(k==2)=false/\(k==3)=false/\(k==4)=false:=by
 simpa[okK]using h
theorem ZiL [Known][KnownU8](b:List UInt8)(hb:b.length<=1099511627776):∀(d deep:Nat),deep+d=7->∀ p m,p<=b.length->m<=256->AR Tryz.prog 161 [.ptr 0 0,.int .i64 (deep:Int)] [rdC b p m] (itR b d p m)
 | d,deep=>fun hdd p m hp hm=>by
  have hhd:=ZiJ b p m hb hp
  unfold itR
  cases hr:rdS (b.drop p) with
  | error e=>
   rw[hr]at hhd
   have hi:ZaU d m (b.drop p)=.error e:=by cases d<;>rw[ZaU,hr]
   rw[hi]
   dsimp only at hhd ⊢
   refine Zan Tryz.func161 rfl Tryz.ntmps161 rfl rfl ?_
   repeat'(first|(apply Za5 [0] (hhd.x rfl);kernel_rfl;(iterate 6 exact Z);intro bx2 fr2 hle2)|(apply Zah Zab;exact Z)|(apply Zaw Zab;exact Z))
   all_goals(apply ZeO;exact Z;(first|exact Nat.zero_le _|exact Nat.le_trans (Nat.le_of_ble_eq_true rfl) (by assumption));exact Z)
  | ok y=>
   obtain⟨⟨k,n,o⟩,r⟩:=y
   rw[hr]at hhd
   dsimp only at hhd
   obtain⟨_,hn,pre,hpre,_,hpos⟩:=ZfU hr
   dsimp only at hn
   obtain⟨q1,q2,q3⟩:=ZbI hp hpre
   generalize hp2:b.length-r.length=p2 at q1 q2 q3 hhd
   replace hhd:AR Tryz.prog _ _ _ (.ok (.agg [.int .i64 k,.int .u64 (n:Int),.bool o],[rdC b p2 m])):=hhd
   cases hk:okK k with
   | false=>
    have hi:ZaU d m (b.drop p)=.error 3:=by cases d<;>rw[ZaU,hr]<;>dsimp only<;>rw[hk]<;>rfl
    rw[hi]
    dsimp only
    obtain⟨k0,k2,k3,k4⟩:=Zkx hk
    refine Zan Tryz.func161 rfl Tryz.ntmps161 rfl rfl ?_
    repeat'(first|rw[k4]|(apply ZaB [0] (hhd.q rfl);kernel_rfl;(iterate 7 exact Z))|(apply Za5 [] (Zcw 3);kernel_rfl;(iterate 6 exact Z);intro bx2 fr2 hle2)|(apply Zai Zab;exact Z)|(apply Zah Zab;exact Z)|(apply Zaw Zab;exact Z)|refine Zbl ?_|(apply Zae;(iterate 3 exact Z);exact Go.Zqy)|(apply Zag;exact Z;exact Go.Zqy;exact Z;exact Z))
    all_goals(apply ZeO;exact Z;(first|exact Nat.zero_le _|exact Nat.le_trans (Nat.le_of_ble_eq_true rfl) (by assumption));exact Z)
   | true=>
    have hk':=Zfi hk
    cases d with
    | zero=>
     have hi:ZaU 0 m (b.drop p)=.error 9:=by rw[ZaU,hr];dsimp only;rw[hk];rfl
     rw[hi]
     dsimp only
     obtain rfl:deep=7:=by omega
     rcases hk' with rfl|rfl|rfl|rfl
     all_goals
      refine Zan Tryz.func161 rfl Tryz.ntmps161 rfl rfl ?_
      repeat'(first|(apply ZaB [0] (hhd.q rfl);kernel_rfl;(iterate 7 exact Z))|(apply Zaa (ZaW 3);kernel_rfl;(iterate 4 exact Z))|(apply Za5 [] (Zcw 9);kernel_rfl;(iterate 6 exact Z);intro bx2 fr2 hle2)|(apply Zai Zab;exact Z)|(apply Zah Zab;exact Z)|(apply Zaw Zab;exact Z)|refine Zbl ?_|(apply Zae;(iterate 3 exact Z);exact Go.Zqy)|(apply Zal;(iterate 3 exact Z);exact Go.Zqy)|(apply Zaj;exact Z;exact Go.Zqy;exact Z;exact Z)|(apply Zag;exact Z;exact Go.Zqy;exact Z;exact Z))
      all_goals(apply ZeO;exact Z;(first|exact Nat.zero_le _|exact Nat.le_trans (Nat.le_of_ble_eq_true rfl) (by assumption));exact Z)
    | succ d=>
     have dd:decide ((deep:Int)<=6)=true:=by simp;omega
     by_cases hm0:m=0
     ·have hi:ZaU (d+1) m (b.drop p)=.error 2:=by rw[ZaU,hr];dsimp only;rw[hk,if_neg (by simp),if_pos hm0]
      rw[hi]
      dsimp only
      subst hm0
      rcases hk' with rfl|rfl|rfl|rfl
      all_goals
       refine Zan Tryz.func161 rfl Tryz.ntmps161 rfl rfl ?_
       repeat'(first|rw[dd]|(apply ZaB [0] (hhd.q rfl);kernel_rfl;(iterate 7 exact Z))|(apply Zaa (ZaW 3);kernel_rfl;(iterate 4 exact Z))|(apply Zaa (ZaW 9);kernel_rfl;(iterate 4 exact Z))|(apply Za5 [] (Zcw 2);kernel_rfl;(iterate 6 exact Z);intro bx2 fr2 hle2)|(apply Zai Zab;exact Z)|(apply Zah Zab;exact Z)|(apply Zaw Zab;exact Z)|refine Zbl ?_|(apply Zae;(iterate 3 exact Z);exact Go.Zqy)|(apply Zal;(iterate 3 exact Z);exact Go.Zqy)|(apply Zaj;exact Z;exact Go.Zqy;exact Z;exact Z)|(apply Zag;exact Z;exact Go.Zqy;exact Z;exact Z))
       all_goals(apply ZeO;exact Z;(first|exact Nat.zero_le _|exact Nat.le_trans (Nat.le_of_ble_eq_true rfl) (by assumption));exact Z)
     ·have hi:ZaU (d+1) m (b.drop p)=Zcf (ZaU d) (k,n,o) (m-1) r:=by rw[ZaU,hr];dsimp only;rw[hk,if_neg (by simp),if_neg hm0]
      rw[hi]
      have dm:decide ((m:Int)>0)=true:=by simp;omega
      have em:IntKind.i64.wrap ((m:Int)-1)=((m-1:Nat):Int):=by rw[IntWalk.i64_in _ (by omega)];omega
      rcases hk' with rfl|rfl|rfl|rfl
      ·unfold Zcf
       rw[if_pos rfl]
       dsimp only
       rw[hp2]
       refine Zan Tryz.func161 rfl Tryz.ntmps161 rfl rfl ?_
       repeat'(first|rw[dd]|rw[dm]|rw[em]|(apply ZaB [0] (hhd.q rfl);kernel_rfl;(iterate 7 exact Z))|(apply Zaa (ZaW 3);kernel_rfl;(iterate 4 exact Z))|(apply Zaa (ZaW 9);kernel_rfl;(iterate 4 exact Z))|(apply Zaa (ZaW 2);kernel_rfl;(iterate 4 exact Z))|(apply Zai Zab;exact Z)|(apply Zah Zab;exact Z)|(apply Zaw Zab;exact Z)|refine Zbl ?_|(apply Zal;(iterate 3 exact Z);exact Go.Zqy)|(apply Zaj;exact Z;exact Go.Zqy;exact Z;exact Z)|(apply Zac;exact Z;exact Go.Zqy))
       all_goals(apply Ziq (rfl) [0];(apply Zad Zab;exact Z);(iterate 4 exact Z))
       all_goals rfl
      ·have hs:=ZgZ (2,n,o) b p2 (m-1) hb q2 hn
       rw[q1]at hs
       unfold Zcf
       rw[if_neg (by simp),if_neg (by simp)]
       cases ht:Zge (2,n,o) r with
       | error e=>
        rw[ht]at hs
        dsimp only at hs ⊢
        refine Zan Tryz.func161 rfl Tryz.ntmps161 rfl rfl ?_
        repeat'(first|rw[dd]|rw[dm]|rw[em]|(apply ZaB [0] (hhd.q rfl);kernel_rfl;(iterate 7 exact Z))|(apply Zaa (ZaW 3);kernel_rfl;(iterate 4 exact Z))|(apply Zaa (ZaW 9);kernel_rfl;(iterate 4 exact Z))|(apply Zaa (ZaW 2);kernel_rfl;(iterate 4 exact Z))|(apply Za5 [0] (hs.x rfl);kernel_rfl;(iterate 6 exact Z);intro bx2 fr2 hle2)|(apply Zai Zab;exact Z)|(apply Zah Zab;exact Z)|(apply Zaw Zab;exact Z)|refine Zbl ?_|(apply Zae;(iterate 3 exact Z);exact Go.Zqy)|(apply Zal;(iterate 3 exact Z);exact Go.Zqy)|(apply Zaj;exact Z;exact Go.Zqy;exact Z;exact Z)|(apply Zag;exact Z;exact Go.Zqy;exact Z;exact Z)|(apply Zaf;exact Z;exact Go.Zqy))
        all_goals(apply ZeO;exact Z;(first|exact Nat.zero_le _|exact Nat.le_trans (Nat.le_of_ble_eq_true rfl) (by assumption));exact Z)
       | ok y=>
        obtain⟨c,r2⟩:=y
        rw[ht]at hs
        dsimp only at hs ⊢
        refine Zan Tryz.func161 rfl Tryz.ntmps161 rfl rfl ?_
        repeat'(first|rw[dd]|rw[dm]|rw[em]|(apply ZaB [0] (hhd.q rfl);kernel_rfl;(iterate 7 exact Z))|(apply Zaa (ZaW 3);kernel_rfl;(iterate 4 exact Z))|(apply Zaa (ZaW 9);kernel_rfl;(iterate 4 exact Z))|(apply Zaa (ZaW 2);kernel_rfl;(iterate 4 exact Z))|(apply ZaB [0] (hs.q rfl);kernel_rfl;(iterate 7 exact Z))|(apply Zai Zab;exact Z)|(apply Zah Zab;exact Z)|refine Zbl ?_|(apply Zae;(iterate 3 exact Z);exact Go.Zqy)|(apply Zal;(iterate 3 exact Z);exact Go.Zqy)|(apply Zaj;exact Z;exact Go.Zqy;exact Z;exact Z)|(apply Zag;exact Z;exact Go.Zqy;exact Z;exact Z)|(apply Zaf;exact Z;exact Go.Zqy))
        all_goals(apply Ziq (rfl) [0];(apply Zad Zab;exact Z);(iterate 4 exact Z))
        all_goals rfl
      ·have hs:=ZgZ (3,n,o) b p2 (m-1) hb q2 hn
       rw[q1]at hs
       unfold Zcf
       rw[if_neg (by simp),if_neg (by simp)]
       cases ht:Zge (3,n,o) r with
       | error e=>
        rw[ht]at hs
        dsimp only at hs ⊢
        refine Zan Tryz.func161 rfl Tryz.ntmps161 rfl rfl ?_
        repeat'(first|rw[dd]|rw[dm]|rw[em]|(apply ZaB [0] (hhd.q rfl);kernel_rfl;(iterate 7 exact Z))|(apply Zaa (ZaW 3);kernel_rfl;(iterate 4 exact Z))|(apply Zaa (ZaW 9);kernel_rfl;(iterate 4 exact Z))|(apply Zaa (ZaW 2);kernel_rfl;(iterate 4 exact Z))|(apply Za5 [0] (hs.x rfl);kernel_rfl;(iterate 6 exact Z);intro bx2 fr2 hle2)|(apply Zai Zab;exact Z)|(apply Zah Zab;exact Z)|(apply Zaw Zab;exact Z)|refine Zbl ?_|(apply Zae;(iterate 3 exact Z);exact Go.Zqy)|(apply Zal;(iterate 3 exact Z);exact Go.Zqy)|(apply Zaj;exact Z;exact Go.Zqy;exact Z;exact Z)|(apply Zag;exact Z;exact Go.Zqy;exact Z;exact Z)|(apply Zaf;exact Z;exact Go.Zqy))
        all_goals(apply ZeO;exact Z;(first|exact Nat.zero_le _|exact Nat.le_trans (Nat.le_of_ble_eq_true rfl) (by assumption));exact Z)
       | ok y=>
        obtain⟨c,r2⟩:=y
        rw[ht]at hs
        dsimp only at hs ⊢
        refine Zan Tryz.func161 rfl Tryz.ntmps161 rfl rfl ?_
        repeat'(first|rw[dd]|rw[dm]|rw[em]|(apply ZaB [0] (hhd.q rfl);kernel_rfl;(iterate 7 exact Z))|(apply Zaa (ZaW 3);kernel_rfl;(iterate 4 exact Z))|(apply Zaa (ZaW 9);kernel_rfl;(iterate 4 exact Z))|(apply Zaa (ZaW 2);kernel_rfl;(iterate 4 exact Z))|(apply ZaB [0] (hs.q rfl);kernel_rfl;(iterate 7 exact Z))|(apply Zai Zab;exact Z)|(apply Zah Zab;exact Z)|refine Zbl ?_|(apply Zae;(iterate 3 exact Z);exact Go.Zqy)|(apply Zal;(iterate 3 exact Z);exact Go.Zqy)|(apply Zaj;exact Z;exact Go.Zqy;exact Z;exact Z)|(apply Zag;exact Z;exact Go.Zqy;exact Z;exact Z)|(apply Zaf;exact Z;exact Go.Zqy))
        all_goals(apply Ziq (rfl) [0];(apply Zad Zab;exact Z);(iterate 4 exact Z))
        all_goals rfl
      ·have hs:=ZlN d deep (by omega) b hb (fun p m hp hm=>ZiL b hb d (deep+1) (by omega) p m hp hm) n o p2 (m-1) q2 (by omega) hn
       rw[q1]at hs
       unfold Zcf
       rw[if_neg (by simp),if_pos rfl]
       cases ht:ZhM (ZaU d) (4,n,o) (m-1) r with
       | error e=>
        rw[ht]at hs
        dsimp only at hs ⊢
        refine Zan Tryz.func161 rfl Tryz.ntmps161 rfl rfl ?_
        repeat'(first|rw[dd]|rw[dm]|rw[em]|(apply ZaB [0] (hhd.q rfl);kernel_rfl;(iterate 7 exact Z))|(apply Zaa (ZaW 3);kernel_rfl;(iterate 4 exact Z))|(apply Zaa (ZaW 9);kernel_rfl;(iterate 4 exact Z))|(apply Zaa (ZaW 2);kernel_rfl;(iterate 4 exact Z))|(apply Za5 [0] (hs.x rfl);kernel_rfl;(iterate 6 exact Z);intro bx2 fr2 hle2)|(apply Zai Zab;exact Z)|(apply Zah Zab;exact Z)|(apply Zaw Zab;exact Z)|refine Zbl ?_|(apply Zae;(iterate 3 exact Z);exact Go.Zqy)|(apply Zag;exact Z;exact Go.Zqy;exact Z;exact Z)|(apply Zac;exact Z;exact Go.Zqy)|(apply Zaf;exact Z;exact Go.Zqy))
        all_goals(apply ZeO;exact Z;(first|exact Nat.zero_le _|exact Nat.le_trans (Nat.le_of_ble_eq_true rfl) (by assumption));exact Z)
       | ok y=>
        obtain⟨l,r2,m2⟩:=y
        rw[ht]at hs
        dsimp only at hs ⊢
        refine Zan Tryz.func161 rfl Tryz.ntmps161 rfl rfl ?_
        repeat'(first|rw[dd]|rw[dm]|rw[em]|(apply ZaB [0] (hhd.q rfl);kernel_rfl;(iterate 7 exact Z))|(apply Zaa (ZaW 3);kernel_rfl;(iterate 4 exact Z))|(apply Zaa (ZaW 9);kernel_rfl;(iterate 4 exact Z))|(apply Zaa (ZaW 2);kernel_rfl;(iterate 4 exact Z))|(apply ZaB [0] (hs.q rfl);kernel_rfl;(iterate 7 exact Z))|(apply Zai Zab;exact Z)|(apply Zah Zab;exact Z)|(apply Zaw Zab;exact Z)|refine Zbl ?_|(apply Zae;(iterate 3 exact Z);exact Go.Zqy)|(apply Zag;exact Z;exact Go.Zqy;exact Z;exact Z)|(apply Zac;exact Z;exact Go.Zqy)|(apply Zaf;exact Z;exact Go.Zqy))
        all_goals(apply Ziq (rfl) [0];(apply Zad Zab;exact Z);(iterate 4 exact Z))
        all_goals rfl
 termination_by d=>d
end Go.Proofs.YtakblclkflnnpaaGreatDoor
end

/- The reader of items: lists, items. -/
import Derived.Test.YtakblclkflnnpaaGreatDoorK09
import Derived.Test.YtakblclkflnnpaaGreatDoorK16
set_option linter.unusedVariables false
set_option linter.unusedSimpArgs false
section
open Go.RowKit Go.Pl Go.Av
namespace Go.Proofs.YtakblclkflnnpaaGreatDoor
set_option maxHeartbeats 4000000
abbrev itR (b:List UInt8)(d p m:Nat):Except D (D × List (List D)):=match ZaT d m (b.drop p) with
 | .error e=>.error (Zdz e)
 | .ok (x,r,m')=>.ok (itD x,[rdC b (b.length-r.length) m'])
abbrev liB (b:List UInt8)(p m n:Nat)(o:Bool)(tk:Tok)(acc:List E):List (List D):=[rdC b p m,[.int .i64 4,.int .u64 (n:Int),.bool o],[.int .i64 0,.int .u64 0,.sl .nil [],.sl .nil []],[.int .i64 4,.int .u64 0,.sl .nil [],.sl tk acc]]
theorem ZmR [Known][KnownU8](d deep:Nat)(hdd:deep+d=6)(b:List UInt8)(hb:b.length<=1099511627776)
  (IH:∀ p m,p<=b.length->m<=256->AR Tryz.prog 161 [.ptr 0 0,.int .i64 ((deep+1:Nat):Int)] [rdC b p m] (itR b d p m))
  (n:Nat) (o:Bool) (p m:Nat) (hp:p<=b.length) (hm:m<=256) (hn:n<18446744073709551616):AR Tryz.prog 187 [.ptr 0 0,hd (4,n,o),.int .i64 (deep:Int)] [rdC b p m] (match Zir (ZaT d) (4,n,o) m (b.drop p) with
  | .error e=>.error (Zdz e)
  | .ok (l,r,m')=>.ok (itD (.mk 4 0 [] l),[rdC b (b.length-r.length) m'])):=by
 show AR Tryz.prog _ [.ptr 0 0,.agg [.int .i64 4,.int .u64 (n:Int),.bool o],.int .i64 (deep:Int)] _ _
 have hR:=ZeD d (by omega)
 have ed:IntKind.i64.wrap ((deep:Int)+1)=((deep+1:Nat):Int):=by rw[IntWalk.i64_in _ (by omega)];omega
 cases o with
 | true=>
  unfold Zir
  dsimp only
  generalize ho:Zjh (ZaT d) ((b.drop p).length+1) [] m (b.drop p)=o
  refine Zan Tryz.func187 rfl Tryz.ntmps187 rfl rfl ?_
  repeat'(first|(apply Zah Zab;exact Z)|(apply Zac;exact Z;exact Go.ZrJ))
  refine ZaE (fun f tm bx fr=>∃(acc:List It) (p' m' c:Nat) (L:List E),p'<=b.length/\m'<=256/\c=L.length/\L=Zax acc/\acc.length+(b.length-p')<=b.length/\(b.drop p').length<f/\Zjh (ZaT d) f acc m' (b.drop p')=o/\tm=[(0,.ptr 0 0),(2,.int .i64 (deep:Int)),(4,.ptr 1 0),(6,.ptr 2 0),(7,.ptr 3 0)] /\
   ((acc=[]/\bx=liB b p' m' n true .nil []/\fr=[])\/(bx=liB b p' m' n true (.own 0) L/\fr=[⟨c,4,32⟩]))) ((b.drop p).length+2) (Lands.mk' (m:=(b.drop p).length+1) (Nat.lt_succ_self _) ⟨[],p,m,0,[],hp,hm,rfl,rfl,by simp,by omega,ho,rfl,.inl ⟨rfl,rfl,rfl⟩⟩ ?_ rfl rfl rfl rfl rfl rfl) ?_
  ·exact .cons rfl (.cons rfl (.cons rfl (.cons rfl (.cons rfl .nil))))
  rintro f tm bx fr ⟨acc,p',m',c,L,hp',hm',hc,hL,hsum,hf,hS,rfl,hst⟩
  obtain⟨f,rfl⟩:∃ g,f=g+1:=⟨f-1,by omega⟩
  have hends:=Zlp b p' m' hb hp'
  rw[Zjh]at hS
  have hlp:(b.drop p').length=b.length-p':=List.length_drop ..
  cases he:Zgj (b.drop p') with
  | true=>
   rw[he]at hS hends
   dsimp only at hS
   rw[if_pos rfl]at hends
   subst hS
   dsimp only
   obtain⟨x,hx⟩:=ZcG _ he
   obtain⟨q1,q2,q3⟩:=ZbN (pre:=[x]) hp' hx
   have q3:b.length-(b.drop p').tail.length=p'+1:=q3.symm
   rw[q3]
   subst hL
   rcases hst with⟨rfl,rfl,rfl⟩ | ⟨rfl,rfl⟩
   ·repeat'(first|(apply ZaB [0] (hends);kernel_rfl;(iterate 7 exact Z))|(apply Zaj Zab;exact Z)|(apply Zah Zab;exact Z)|(apply Zav Zab;exact Z)|refine Zbq ?_|(apply Zaf;exact Z;exact Go.ZrJ))
    all_goals(apply Zja (rfl) [0];(apply Zad Zab;exact Z);(iterate 4 exact Z))
    all_goals rfl
   ·repeat'(first|(apply ZaB [0] (hends);kernel_rfl;(iterate 7 exact Z))|(apply Zaj Zab;exact Z)|(apply Zah Zab;exact Z)|(apply Zav Zab;exact Z)|refine Zbq ?_|(apply Zaf;exact Z;exact Go.ZrJ))
    all_goals(apply Zja (rfl) [0];(apply Zad Zab;exact Z);(iterate 4 exact Z))
    all_goals rfl
  | false=>
   rw[he]at hS hends
   dsimp only at hS
   rw[if_neg (by simp)]at hends
   have hit:=IH p' m' hp' hm'
   unfold itR at hit
   cases hr:ZaT d m' (b.drop p') with
   | error e=>
    rw[hr]at hS hit
    dsimp only at hS hit
    subst hS
    dsimp only
    rcases hst with⟨rfl,rfl,rfl⟩ | ⟨rfl,rfl⟩
    ·repeat'(first|rw[ed]|(apply ZaB [0] (hends);kernel_rfl;(iterate 7 exact Z))|(apply Zbb [0] (hit.x rfl);kernel_rfl;(iterate 6 exact Z);intro bx2 fr2 hle2)|(apply ZdM 9 5 ZaL;decide +kernel;kernel_rfl;decide +kernel;exact Z;exact Z)|exact ADX.nil _ _|(apply ZdN;decide +kernel;exact Z)|(apply Zez;(iterate 3 exact Z))|(apply Zgh;(iterate 4 exact Z))|exact Zgg rfl (by assumption)|intro tm2 bx2 fr2 hle2|(apply Zaj Zab;exact Z)|(apply Zah Zab;exact Z)|(apply Zav Zab;exact Z)|refine Zbq ?_|(apply Zac;exact Z;exact Go.ZrJ)|exact ZbC rfl)
     all_goals(apply Ze9;exact Z;(first|exact Nat.zero_le _|exact Nat.le_trans (Nat.le_of_ble_eq_true rfl) (by assumption));exact Z)
    ·repeat'(first|rw[ed]|(apply ZaB [0] (hends);kernel_rfl;(iterate 7 exact Z))|(apply Zbb [0] (hit.x rfl);kernel_rfl;(iterate 6 exact Z);intro bx2 fr2 hle2)|(apply ZdM 9 5 ZaL;decide +kernel;kernel_rfl;decide +kernel;exact Z;exact Z)|exact ADX.nil _ _|(apply ZdN;decide +kernel;exact Z)|(apply Zez;(iterate 3 exact Z))|(apply Zgh;(iterate 4 exact Z))|exact Zgg rfl (by assumption)|intro tm2 bx2 fr2 hle2|(apply Zaj Zab;exact Z)|(apply Zah Zab;exact Z)|(apply Zav Zab;exact Z)|refine Zbq ?_|(apply Zac;exact Z;exact Go.ZrJ)|exact ZbC rfl)
     all_goals(apply Ze9;exact Z;(first|exact Nat.zero_le _|exact Nat.le_trans (Nat.le_of_ble_eq_true rfl) (by assumption));exact Z)
   | ok y=>
    obtain⟨⟨k1,n1,b1,l1⟩,r,m1⟩:=y
    rw[hr]at hS hit
    dsimp only at hS hit
    obtain⟨hwk,_,pre,hpre,hpos,_⟩:=hR _ _ _ _ _ hr (by omega)
    have hm1:=ZcS hwk
    obtain⟨z1,z2,z3⟩:=ZbN hp' hpre
    generalize hp3:b.length-r.length=p3 at z1 z2 z3 hit
    have hpl:=congrArg List.length hpre
    have hdl:(b.drop p3).length=r.length:=by rw[z1]
    rw[List.length_append]at hpl
    rw[<- z1]at hS
    rw[List.length_drop]at hdl
    have hf3:(b.drop p3).length<f:=by rw[List.length_drop];omega
    have hsum3:(acc++[It.mk k1 n1 b1 l1]).length+(b.length-p3)<=b.length:=by rw[List.length_append];simp;omega
    rcases hst with⟨rfl,rfl,rfl⟩ | ⟨rfl,rfl⟩
    ·repeat'(first|rw[ed]|(apply ZaB [0] (hends);kernel_rfl;(iterate 7 exact Z))|(apply ZaB [0] (hit.q rfl);kernel_rfl;(iterate 7 exact Z))|(apply ZaU Zab;(iterate 6 exact Z);exact Zai rfl;exact List.cons_ne_nil _ _;exact Z;decide +kernel;decide +kernel;(iterate 3 exact Z))|(apply Zaj Zab;exact Z)|(apply Zah Zab;exact Z)|(apply Zav Zab;exact Z)|refine Zbq ?_|(apply Zac;exact Z;exact Go.ZrJ)|refine Zbi ?_|(apply ZaX Zab;(iterate 12 exact Z))|(apply Zao 7 ZaL;decide +kernel;kernel_rfl;kernel_rfl;kernel_rfl;exact Z;exact Z)|(apply Zaq;(iterate 4 exact Z))|exact AE.nil _ _ _ _|(apply Zat;exact Z)|(apply Za6;exact Z)|(apply Zay;exact Z;exact Z;decide +kernel;exact Z)|(apply Zaz;exact Z)|(apply Zbp;exact Z)|exact AO.nil _ _ _|(apply Zap;(decide +kernel))|(apply ZaV;(iterate 3 exact Z))|exact AOs.nil|exact ZaH rfl rfl|exact Zc0 rfl rfl rfl rfl rfl|exact Zb0 rfl rfl)
     refine Lands.mk' (m:=f) (Nat.lt_succ_self _) ⟨[It.mk k1 n1 b1 l1],p3,m1,1,Zax [It.mk k1 n1 b1 l1],z2,by omega,rfl,rfl,hsum3,hf3,hS,rfl,.inr ⟨rfl,rfl⟩⟩ ?_ rfl rfl rfl rfl rfl rfl
     exact .cons rfl (.cons rfl (.cons rfl (.cons rfl (.cons rfl .nil))))
    ·subst hc
     have hUa:Uni 4 L:=hL ▸ Zb8 acc
     have hLl:L.length=acc.length:=by rw[hL,Zar]
     repeat'(first|rw[ed]|(apply ZaB [0] (hends);kernel_rfl;(iterate 7 exact Z))|(apply ZaB [0] (hit.q rfl);kernel_rfl;(iterate 7 exact Z))|(apply Zaj Zab;exact Z)|(apply Zah Zab;exact Z)|(apply Zav Zab;exact Z)|refine Zbq ?_|(apply Zac;exact Z;exact Go.ZrJ)|refine Zbi ?_|(apply ZaX Zab;(iterate 12 exact Z))|(apply Zao 7 ZaL;decide +kernel;kernel_rfl;kernel_rfl;kernel_rfl;exact Z;exact Z)|(apply Zaq;(iterate 4 exact Z))|exact AE.nil _ _ _ _|(apply Zat;exact Z)|(apply Za6;exact Z)|(apply Zay;exact Z;exact Z;decide +kernel;exact Z)|(apply Zaz;exact Z)|(apply Zbp;exact Z)|exact AO.nil _ _ _|(apply Zap;(decide +kernel))|(apply ZaV;(iterate 3 exact Z))|exact AOs.nil|exact ZaH rfl rfl|exact Zc0 rfl rfl rfl rfl rfl|exact Zb0 rfl rfl|(apply ZaJ Zab;(iterate 6 exact Z);(first|with_reducible assumption|decide +kernel|exact Z|rotate_left);exact Z;exact Z;(first|exact Zai rfl|with_reducible assumption|decide +kernel|rotate_left);(first|exact Zai rfl|with_reducible assumption|decide +kernel|rotate_left);(first|exact Go.ZrJ|rotate_left);(first|exact Go.ZrJ|rotate_left);(first|exact Go.ZrJ|rotate_left);exact Z;exact Z))
     ·refine Lands.mk' (m:=f) (Nat.lt_succ_self _) ⟨acc++[It.mk k1 n1 b1 l1],p3,m1,L.length+1,L++[E.agg [.int .i64 k1,.int .u64 (n1:Int),.sl (b1.map E.byte),.sl (Zax l1)]],z2,by omega,by rw[List.length_append];rfl,by rw[hL];exact(Zb4 _ [It.mk k1 n1 b1 l1]).symm,hsum3,hf3,hS,rfl,.inr ⟨rfl,rfl⟩⟩ ?_ rfl rfl rfl rfl rfl rfl
      exact .cons rfl (.cons rfl (.cons rfl (.cons rfl (.cons rfl .nil))))
     all_goals(first|rfl|(simp only[List.length_append,List.length_cons,List.length_nil,List.length_map,Zar];done)|(simp only[List.length_append,List.length_cons,List.length_nil,List.length_map,Zar]at *;(try unfold maxLen);(try simp only[Nat.add_mul]);omega))
 | false=>
  unfold Zir
  dsimp only
  have e1:IntKind.i64.wrap (((b.map E.byte).length:Int)-(p:Int))=((b.length-p:Nat):Int):=by rw[List.length_map,IntWalk.i64_in _ (by omega)];omega
  have e2:IntKind.u64.wrap ((b.length-p:Nat):Int)=((b.length-p:Nat):Int):=by rw[IntKind.wrap_u64];omega
  have hl:(b.drop p).length=b.length-p:=List.length_drop ..
  rw[hl]
  by_cases hle:n<=b.length-p
  ·rw[if_pos hle]
   have d1:decide ((n:Int)<=((b.length-p:Nat):Int))=true:=by simp;omega
   generalize ho:Zgk (ZaT d) n [] m (b.drop p)=o
   refine Zan Tryz.func187 rfl Tryz.ntmps187 rfl rfl ?_
   repeat'(first|rw[d1]|rw[e1]|rw[e2]|(apply Zaa (ZaW 8);kernel_rfl;(iterate 4 exact Z))|(apply Zaj Zab;exact Z)|(apply Zah Zab;exact Z)|(apply Zaf;exact Z;exact Go.ZrJ)|(apply Zam Zab;(iterate 4 exact Z))|(apply Zao 13 ZaL;decide +kernel;kernel_rfl;kernel_rfl;kernel_rfl;exact Z;exact Z)|(apply Zaq;(iterate 4 exact Z))|exact AE.nil _ _ _ _|(apply Zat;exact Z)|(apply Zay;exact Z;exact Z;decide +kernel;exact Z)|(apply Zaz;exact Z)|exact AO.nil _ _ _|(apply Zap;(decide +kernel))|exact AOs.nil|exact ZaH rfl rfl)
   refine ZaE (fun f tm bx fr=>∃(i:Nat) (acc:List It) (p' m' c:Nat) (L:List E),f+i=n/\p'<=b.length/\m'<=256/\c=L.length/\L=Zax acc/\acc.length+(b.length-p')<=b.length/\Zgk (ZaT d) f acc m' (b.drop p')=o/\tm=[(0,.ptr 0 0),(2,.int .i64 (deep:Int)),(4,.ptr 1 0),(6,.ptr 2 0),(7,.ptr 3 0),(40,.int .u64 (n:Int)),(41,.int .u64 (i:Int))] /\
    ((acc=[]/\bx=liB b p' m' n false .nil []/\fr=[])\/(bx=liB b p' m' n false (.own 0) L/\fr=[⟨c,4,32⟩]))) (n+1) (Lands.mk' (m:=n) (Nat.lt_succ_self _) ⟨0,[],p,m,0,[],rfl,hp,hm,rfl,rfl,by simp,ho,rfl,.inl ⟨rfl,rfl,rfl⟩⟩ ?_ rfl rfl rfl rfl rfl rfl) ?_
   ·exact .cons rfl (.cons rfl (.cons rfl (.cons rfl (.cons rfl (.cons rfl (.cons rfl .nil))))))
   rintro f tm bx fr ⟨i,acc,p',m',c,L,hfi,hp',hm',hc,hL,hsum,hS,rfl,hst⟩
   cases f with
   | zero=>
    have dn:decide ((i:Int)<(n:Int))=false:=by simp;omega
    rw[Zgk]at hS
    subst hS
    dsimp only
    have q3:b.length-(b.drop p').length=p':=by rw[List.length_drop];omega
    rw[q3]
    subst hL
    rcases hst with⟨rfl,rfl,rfl⟩ | ⟨rfl,rfl⟩
    ·repeat'(first|(apply Zah Zab;exact Z)|refine Zbq ?_|(apply Zaf;exact Z;exact Go.ZrJ))
     all_goals(apply Zja (rfl) [0];(apply Zad Zab;exact Z);(iterate 4 exact Z))
     all_goals rfl
    ·repeat'(first|(apply Zah Zab;exact Z)|refine Zbq ?_|(apply Zaf;exact Z;exact Go.ZrJ))
     all_goals(apply Zja (rfl) [0];(apply Zad Zab;exact Z);(iterate 4 exact Z))
     all_goals rfl
   | succ f=>
    have dn:decide ((i:Int)<(n:Int))=true:=by simp;omega
    have ei:IntKind.u64.wrap ((i:Int)+1)=((i+1:Nat):Int):=by rw[IntKind.wrap_u64];omega
    rw[Zgk]at hS
    have hlp:(b.drop p').length=b.length-p':=List.length_drop ..
    have hit:=IH p' m' hp' hm'
    unfold itR at hit
    cases hr:ZaT d m' (b.drop p') with
    | error e=>
     rw[hr]at hS hit
     dsimp only at hS hit
     subst hS
     dsimp only
     rcases hst with⟨rfl,rfl,rfl⟩ | ⟨rfl,rfl⟩
     ·repeat'(first|rw[ed]|(apply Zbb [0] (hit.x rfl);kernel_rfl;(iterate 6 exact Z);intro bx2 fr2 hle2)|(apply ZdM 9 5 ZaL;decide +kernel;kernel_rfl;decide +kernel;exact Z;exact Z)|exact ADX.nil _ _|(apply ZdN;decide +kernel;exact Z)|(apply Zez;(iterate 3 exact Z))|(apply Zgh;(iterate 4 exact Z))|exact Zgg rfl (by assumption)|intro tm2 bx2 fr2 hle2|(apply Zaj Zab;exact Z)|(apply Zah Zab;exact Z)|(apply Zav Zab;exact Z)|refine Zbq ?_|(apply Zac;exact Z;exact Go.ZrJ)|exact ZbC rfl)
      all_goals(apply Ze9;exact Z;(first|exact Nat.zero_le _|exact Nat.le_trans (Nat.le_of_ble_eq_true rfl) (by assumption));exact Z)
     ·repeat'(first|rw[ed]|(apply Zbb [0] (hit.x rfl);kernel_rfl;(iterate 6 exact Z);intro bx2 fr2 hle2)|(apply ZdM 9 5 ZaL;decide +kernel;kernel_rfl;decide +kernel;exact Z;exact Z)|exact ADX.nil _ _|(apply ZdN;decide +kernel;exact Z)|(apply Zez;(iterate 3 exact Z))|(apply Zgh;(iterate 4 exact Z))|exact Zgg rfl (by assumption)|intro tm2 bx2 fr2 hle2|(apply Zaj Zab;exact Z)|(apply Zah Zab;exact Z)|(apply Zav Zab;exact Z)|refine Zbq ?_|(apply Zac;exact Z;exact Go.ZrJ)|exact ZbC rfl)
      all_goals(apply Ze9;exact Z;(first|exact Nat.zero_le _|exact Nat.le_trans (Nat.le_of_ble_eq_true rfl) (by assumption));exact Z)
    | ok y=>
     obtain⟨⟨k1,n1,b1,l1⟩,r,m1⟩:=y
     rw[hr]at hS hit
     dsimp only at hS hit
     obtain⟨hwk,_,pre,hpre,hpos,_⟩:=hR _ _ _ _ _ hr (by omega)
     have hm1:=ZcS hwk
     obtain⟨z1,z2,z3⟩:=ZbN hp' hpre
     generalize hp3:b.length-r.length=p3 at z1 z2 z3 hit
     have hpl:=congrArg List.length hpre
     have hdl:(b.drop p3).length=r.length:=by rw[z1]
     rw[List.length_append]at hpl
     rw[<- z1]at hS
     rw[List.length_drop]at hdl
     have hsum3:(acc++[It.mk k1 n1 b1 l1]).length+(b.length-p3)<=b.length:=by rw[List.length_append];simp;omega
     rcases hst with⟨rfl,rfl,rfl⟩ | ⟨rfl,rfl⟩
     ·repeat'(first|rw[ed]|rw[ei]|(apply ZaB [0] (hit.q rfl);kernel_rfl;(iterate 7 exact Z))|(apply ZaU Zab;(iterate 6 exact Z);exact Zai rfl;exact List.cons_ne_nil _ _;exact Z;decide +kernel;decide +kernel;(iterate 3 exact Z))|(apply Zaj Zab;exact Z)|(apply Zah Zab;exact Z)|refine Zbq ?_|(apply Zac;exact Z;exact Go.ZrJ)|refine Zbi ?_|(apply ZaX Zab;(iterate 12 exact Z))|(apply Zao 7 ZaL;decide +kernel;kernel_rfl;kernel_rfl;kernel_rfl;exact Z;exact Z)|(apply Zaq;(iterate 4 exact Z))|exact AE.nil _ _ _ _|(apply Zat;exact Z)|(apply Za6;exact Z)|(apply Zay;exact Z;exact Z;decide +kernel;exact Z)|(apply Zaz;exact Z)|(apply Zbp;exact Z)|exact AO.nil _ _ _|(apply Zap;(decide +kernel))|(apply ZaV;(iterate 3 exact Z))|exact AOs.nil|exact ZaH rfl rfl|exact Zc0 rfl rfl rfl rfl rfl|exact Zb0 rfl rfl)
      refine Lands.mk' (m:=f) (Nat.lt_succ_self _) ⟨i+1,[It.mk k1 n1 b1 l1],p3,m1,1,Zax [It.mk k1 n1 b1 l1],by omega,z2,by omega,rfl,rfl,hsum3,hS,rfl,.inr ⟨rfl,rfl⟩⟩ ?_ rfl rfl rfl rfl rfl rfl
      exact .cons rfl (.cons rfl (.cons rfl (.cons rfl (.cons rfl (.cons rfl (.cons rfl .nil))))))
     ·subst hc
      have hUa:Uni 4 L:=hL ▸ Zb8 acc
      have hLl:L.length=acc.length:=by rw[hL,Zar]
      repeat'(first|rw[ed]|rw[ei]|(apply ZaB [0] (hit.q rfl);kernel_rfl;(iterate 7 exact Z))|(apply Zaj Zab;exact Z)|(apply Zah Zab;exact Z)|refine Zbq ?_|(apply Zac;exact Z;exact Go.ZrJ)|refine Zbi ?_|(apply ZaX Zab;(iterate 12 exact Z))|(apply Zao 7 ZaL;decide +kernel;kernel_rfl;kernel_rfl;kernel_rfl;exact Z;exact Z)|(apply Zaq;(iterate 4 exact Z))|exact AE.nil _ _ _ _|(apply Zat;exact Z)|(apply Za6;exact Z)|(apply Zay;exact Z;exact Z;decide +kernel;exact Z)|(apply Zaz;exact Z)|(apply Zbp;exact Z)|exact AO.nil _ _ _|(apply Zap;(decide +kernel))|(apply ZaV;(iterate 3 exact Z))|exact AOs.nil|exact ZaH rfl rfl|exact Zc0 rfl rfl rfl rfl rfl|exact Zb0 rfl rfl|(apply ZaJ Zab;(iterate 6 exact Z);(first|with_reducible assumption|decide +kernel|exact Z|rotate_left);exact Z;exact Z;(first|exact Zai rfl|with_reducible assumption|decide +kernel|rotate_left);(first|exact Zai rfl|with_reducible assumption|decide +kernel|rotate_left);(first|exact Go.ZrJ|rotate_left);(first|exact Go.ZrJ|rotate_left);(first|exact Go.ZrJ|rotate_left);exact Z;exact Z))
      ·refine Lands.mk' (m:=f) (Nat.lt_succ_self _) ⟨i+1,acc++[It.mk k1 n1 b1 l1],p3,m1,L.length+1,L++[E.agg [.int .i64 k1,.int .u64 (n1:Int),.sl (b1.map E.byte),.sl (Zax l1)]],by omega,z2,by omega,by rw[List.length_append];rfl,by rw[hL];exact(Zb4 _ [It.mk k1 n1 b1 l1]).symm,hsum3,hS,rfl,.inr ⟨rfl,rfl⟩⟩ ?_ rfl rfl rfl rfl rfl rfl
       exact .cons rfl (.cons rfl (.cons rfl (.cons rfl (.cons rfl (.cons rfl (.cons rfl .nil))))))
      all_goals(first|rfl|(simp only[List.length_append,List.length_cons,List.length_nil,List.length_map,Zar];done)|(simp only[List.length_append,List.length_cons,List.length_nil,List.length_map,Zar]at *;(try unfold maxLen);(try simp only[Nat.add_mul]);omega))
  ·rw[if_neg hle]
   dsimp only
   have d1:decide ((n:Int)<=((b.length-p:Nat):Int))=false:=by simp;omega
   refine Zan Tryz.func187 rfl Tryz.ntmps187 rfl rfl ?_
   repeat'(first|rw[d1]|rw[e1]|rw[e2]|(apply Zbb [] (ZcH 8);kernel_rfl;(iterate 6 exact Z);intro bx2 fr2 hle2)|(apply Zaj Zab;exact Z)|(apply Zah Zab;exact Z)|(apply Zav Zab;exact Z)|refine Zbq ?_|(apply Zaf;exact Z;exact Go.ZrJ)|(apply Zam Zab;(iterate 4 exact Z))|(apply Zao 13 ZaL;decide +kernel;kernel_rfl;kernel_rfl;kernel_rfl;exact Z;exact Z)|(apply Zaq;(iterate 4 exact Z))|exact AE.nil _ _ _ _|(apply Zat;exact Z)|(apply Zay;exact Z;exact Z;decide +kernel;exact Z)|(apply Zaz;exact Z)|exact AO.nil _ _ _|(apply Zap;(decide +kernel))|exact AOs.nil|exact ZaH rfl rfl)
   all_goals(apply Ze9;exact Z;(first|exact Nat.zero_le _|exact Nat.le_trans (Nat.le_of_ble_eq_true rfl) (by assumption));exact Z)
theorem Zlq {k:Int}(h:okK k=false):(k==0)=false/\(k==2)=false/\(k==3)=false/\(k==4)=false:=by
 simpa[okK]using h
theorem Zjv [Known][KnownU8](b:List UInt8)(hb:b.length<=1099511627776):∀(d deep:Nat),deep+d=7->∀ p m,p<=b.length->m<=256->AR Tryz.prog 161 [.ptr 0 0,.int .i64 (deep:Int)] [rdC b p m] (itR b d p m)
 | d,deep=>fun hdd p m hp hm=>by
  have hhd:=Zjt b p m hb hp
  unfold itR
  cases hr:rdS (b.drop p) with
  | error e=>
   rw[hr]at hhd
   have hi:ZaT d m (b.drop p)=.error e:=by cases d<;>rw[ZaT,hr]
   rw[hi]
   dsimp only at hhd ⊢
   refine Zan Tryz.func161 rfl Tryz.ntmps161 rfl rfl ?_
   repeat'(first|(apply Zbb [0] (hhd.x rfl);kernel_rfl;(iterate 6 exact Z);intro bx2 fr2 hle2)|(apply Zah Zab;exact Z)|(apply Zav Zab;exact Z))
   all_goals(apply Ze9;exact Z;(first|exact Nat.zero_le _|exact Nat.le_trans (Nat.le_of_ble_eq_true rfl) (by assumption));exact Z)
  | ok y=>
   obtain⟨⟨k,n,o⟩,r⟩:=y
   rw[hr]at hhd
   dsimp only at hhd
   obtain⟨_,hn,pre,hpre,_,hpos⟩:=Zgm hr
   dsimp only at hn
   obtain⟨q1,q2,q3⟩:=ZbN hp hpre
   generalize hp2:b.length-r.length=p2 at q1 q2 q3 hhd
   replace hhd:AR Tryz.prog _ _ _ (.ok (.agg [.int .i64 k,.int .u64 (n:Int),.bool o],[rdC b p2 m])):=hhd
   cases hk:okK k with
   | false=>
    have hi:ZaT d m (b.drop p)=.error 3:=by cases d<;>rw[ZaT,hr]<;>dsimp only<;>rw[hk]<;>rfl
    rw[hi]
    dsimp only
    obtain⟨k0,k2,k3,k4⟩:=Zlq hk
    refine Zan Tryz.func161 rfl Tryz.ntmps161 rfl rfl ?_
    repeat'(first|rw[k4]|(apply ZaB [0] (hhd.q rfl);kernel_rfl;(iterate 7 exact Z))|(apply Zbb [] (ZcH 3);kernel_rfl;(iterate 6 exact Z);intro bx2 fr2 hle2)|(apply Zaj Zab;exact Z)|(apply Zah Zab;exact Z)|(apply Zav Zab;exact Z)|refine Zbq ?_|(apply Zae;(iterate 3 exact Z);exact Go.ZrJ)|(apply Zag;exact Z;exact Go.ZrJ;exact Z;exact Z))
    all_goals(apply Ze9;exact Z;(first|exact Nat.zero_le _|exact Nat.le_trans (Nat.le_of_ble_eq_true rfl) (by assumption));exact Z)
   | true=>
    have hk':=ZfD hk
    cases d with
    | zero=>
     have hi:ZaT 0 m (b.drop p)=.error 9:=by rw[ZaT,hr];dsimp only;rw[hk];rfl
     rw[hi]
     dsimp only
     obtain rfl:deep=7:=by omega
     rcases hk' with rfl|rfl|rfl|rfl
     all_goals
      refine Zan Tryz.func161 rfl Tryz.ntmps161 rfl rfl ?_
      repeat'(first|(apply ZaB [0] (hhd.q rfl);kernel_rfl;(iterate 7 exact Z))|(apply Zaa (ZaW 3);kernel_rfl;(iterate 4 exact Z))|(apply Zbb [] (ZcH 9);kernel_rfl;(iterate 6 exact Z);intro bx2 fr2 hle2)|(apply Zaj Zab;exact Z)|(apply Zah Zab;exact Z)|(apply Zav Zab;exact Z)|refine Zbq ?_|(apply Zae;(iterate 3 exact Z);exact Go.ZrJ)|(apply Zal;(iterate 3 exact Z);exact Go.ZrJ)|(apply Zak;exact Z;exact Go.ZrJ;exact Z;exact Z)|(apply Zag;exact Z;exact Go.ZrJ;exact Z;exact Z))
      all_goals(apply Ze9;exact Z;(first|exact Nat.zero_le _|exact Nat.le_trans (Nat.le_of_ble_eq_true rfl) (by assumption));exact Z)
    | succ d=>
     have dd:decide ((deep:Int)<=6)=true:=by simp;omega
     by_cases hm0:m=0
     ·have hi:ZaT (d+1) m (b.drop p)=.error 2:=by rw[ZaT,hr];dsimp only;rw[hk,if_neg (by simp),if_pos hm0]
      rw[hi]
      dsimp only
      subst hm0
      rcases hk' with rfl|rfl|rfl|rfl
      all_goals
       refine Zan Tryz.func161 rfl Tryz.ntmps161 rfl rfl ?_
       repeat'(first|rw[dd]|(apply ZaB [0] (hhd.q rfl);kernel_rfl;(iterate 7 exact Z))|(apply Zaa (ZaW 3);kernel_rfl;(iterate 4 exact Z))|(apply Zaa (ZaW 9);kernel_rfl;(iterate 4 exact Z))|(apply Zbb [] (ZcH 2);kernel_rfl;(iterate 6 exact Z);intro bx2 fr2 hle2)|(apply Zaj Zab;exact Z)|(apply Zah Zab;exact Z)|(apply Zav Zab;exact Z)|refine Zbq ?_|(apply Zae;(iterate 3 exact Z);exact Go.ZrJ)|(apply Zal;(iterate 3 exact Z);exact Go.ZrJ)|(apply Zak;exact Z;exact Go.ZrJ;exact Z;exact Z)|(apply Zag;exact Z;exact Go.ZrJ;exact Z;exact Z))
       all_goals(apply Ze9;exact Z;(first|exact Nat.zero_le _|exact Nat.le_trans (Nat.le_of_ble_eq_true rfl) (by assumption));exact Z)
     ·have hi:ZaT (d+1) m (b.drop p)=Zcq (ZaT d) (k,n,o) (m-1) r:=by rw[ZaT,hr];dsimp only;rw[hk,if_neg (by simp),if_neg hm0]
      rw[hi]
      have dm:decide ((m:Int)>0)=true:=by simp;omega
      have em:IntKind.i64.wrap ((m:Int)-1)=((m-1:Nat):Int):=by rw[IntWalk.i64_in _ (by omega)];omega
      rcases hk' with rfl|rfl|rfl|rfl
      ·unfold Zcq
       rw[if_pos rfl]
       dsimp only
       rw[hp2]
       refine Zan Tryz.func161 rfl Tryz.ntmps161 rfl rfl ?_
       repeat'(first|rw[dd]|rw[dm]|rw[em]|(apply ZaB [0] (hhd.q rfl);kernel_rfl;(iterate 7 exact Z))|(apply Zaa (ZaW 3);kernel_rfl;(iterate 4 exact Z))|(apply Zaa (ZaW 9);kernel_rfl;(iterate 4 exact Z))|(apply Zaa (ZaW 2);kernel_rfl;(iterate 4 exact Z))|(apply Zaj Zab;exact Z)|(apply Zah Zab;exact Z)|(apply Zav Zab;exact Z)|refine Zbq ?_|(apply Zal;(iterate 3 exact Z);exact Go.ZrJ)|(apply Zak;exact Z;exact Go.ZrJ;exact Z;exact Z)|(apply Zac;exact Z;exact Go.ZrJ))
       all_goals(apply Zja (rfl) [0];(apply Zad Zab;exact Z);(iterate 4 exact Z))
       all_goals rfl
      ·have hs:=Zhv (2,n,o) b p2 (m-1) hb q2 hn
       rw[q1]at hs
       unfold Zcq
       rw[if_neg (by simp),if_neg (by simp)]
       cases ht:ZgM (2,n,o) r with
       | error e=>
        rw[ht]at hs
        dsimp only at hs ⊢
        refine Zan Tryz.func161 rfl Tryz.ntmps161 rfl rfl ?_
        repeat'(first|rw[dd]|rw[dm]|rw[em]|(apply ZaB [0] (hhd.q rfl);kernel_rfl;(iterate 7 exact Z))|(apply Zaa (ZaW 3);kernel_rfl;(iterate 4 exact Z))|(apply Zaa (ZaW 9);kernel_rfl;(iterate 4 exact Z))|(apply Zaa (ZaW 2);kernel_rfl;(iterate 4 exact Z))|(apply Zbb [0] (hs.x rfl);kernel_rfl;(iterate 6 exact Z);intro bx2 fr2 hle2)|(apply Zaj Zab;exact Z)|(apply Zah Zab;exact Z)|(apply Zav Zab;exact Z)|refine Zbq ?_|(apply Zae;(iterate 3 exact Z);exact Go.ZrJ)|(apply Zal;(iterate 3 exact Z);exact Go.ZrJ)|(apply Zak;exact Z;exact Go.ZrJ;exact Z;exact Z)|(apply Zag;exact Z;exact Go.ZrJ;exact Z;exact Z)|(apply Zaf;exact Z;exact Go.ZrJ))
        all_goals(apply Ze9;exact Z;(first|exact Nat.zero_le _|exact Nat.le_trans (Nat.le_of_ble_eq_true rfl) (by assumption));exact Z)
       | ok y=>
        obtain⟨c,r2⟩:=y
        rw[ht]at hs
        dsimp only at hs ⊢
        refine Zan Tryz.func161 rfl Tryz.ntmps161 rfl rfl ?_
        repeat'(first|rw[dd]|rw[dm]|rw[em]|(apply ZaB [0] (hhd.q rfl);kernel_rfl;(iterate 7 exact Z))|(apply Zaa (ZaW 3);kernel_rfl;(iterate 4 exact Z))|(apply Zaa (ZaW 9);kernel_rfl;(iterate 4 exact Z))|(apply Zaa (ZaW 2);kernel_rfl;(iterate 4 exact Z))|(apply ZaB [0] (hs.q rfl);kernel_rfl;(iterate 7 exact Z))|(apply Zaj Zab;exact Z)|(apply Zah Zab;exact Z)|refine Zbq ?_|(apply Zae;(iterate 3 exact Z);exact Go.ZrJ)|(apply Zal;(iterate 3 exact Z);exact Go.ZrJ)|(apply Zak;exact Z;exact Go.ZrJ;exact Z;exact Z)|(apply Zag;exact Z;exact Go.ZrJ;exact Z;exact Z)|(apply Zaf;exact Z;exact Go.ZrJ))
        all_goals(apply Zja (rfl) [0];(apply Zad Zab;exact Z);(iterate 4 exact Z))
        all_goals rfl
      ·have hs:=Zhv (3,n,o) b p2 (m-1) hb q2 hn
       rw[q1]at hs
       unfold Zcq
       rw[if_neg (by simp),if_neg (by simp)]
       cases ht:ZgM (3,n,o) r with
       | error e=>
        rw[ht]at hs
        dsimp only at hs ⊢
        refine Zan Tryz.func161 rfl Tryz.ntmps161 rfl rfl ?_
        repeat'(first|rw[dd]|rw[dm]|rw[em]|(apply ZaB [0] (hhd.q rfl);kernel_rfl;(iterate 7 exact Z))|(apply Zaa (ZaW 3);kernel_rfl;(iterate 4 exact Z))|(apply Zaa (ZaW 9);kernel_rfl;(iterate 4 exact Z))|(apply Zaa (ZaW 2);kernel_rfl;(iterate 4 exact Z))|(apply Zbb [0] (hs.x rfl);kernel_rfl;(iterate 6 exact Z);intro bx2 fr2 hle2)|(apply Zaj Zab;exact Z)|(apply Zah Zab;exact Z)|(apply Zav Zab;exact Z)|refine Zbq ?_|(apply Zae;(iterate 3 exact Z);exact Go.ZrJ)|(apply Zal;(iterate 3 exact Z);exact Go.ZrJ)|(apply Zak;exact Z;exact Go.ZrJ;exact Z;exact Z)|(apply Zag;exact Z;exact Go.ZrJ;exact Z;exact Z)|(apply Zaf;exact Z;exact Go.ZrJ))
        all_goals(apply Ze9;exact Z;(first|exact Nat.zero_le _|exact Nat.le_trans (Nat.le_of_ble_eq_true rfl) (by assumption));exact Z)
       | ok y=>
        obtain⟨c,r2⟩:=y
        rw[ht]at hs
        dsimp only at hs ⊢
        refine Zan Tryz.func161 rfl Tryz.ntmps161 rfl rfl ?_
        repeat'(first|rw[dd]|rw[dm]|rw[em]|(apply ZaB [0] (hhd.q rfl);kernel_rfl;(iterate 7 exact Z))|(apply Zaa (ZaW 3);kernel_rfl;(iterate 4 exact Z))|(apply Zaa (ZaW 9);kernel_rfl;(iterate 4 exact Z))|(apply Zaa (ZaW 2);kernel_rfl;(iterate 4 exact Z))|(apply ZaB [0] (hs.q rfl);kernel_rfl;(iterate 7 exact Z))|(apply Zaj Zab;exact Z)|(apply Zah Zab;exact Z)|refine Zbq ?_|(apply Zae;(iterate 3 exact Z);exact Go.ZrJ)|(apply Zal;(iterate 3 exact Z);exact Go.ZrJ)|(apply Zak;exact Z;exact Go.ZrJ;exact Z;exact Z)|(apply Zag;exact Z;exact Go.ZrJ;exact Z;exact Z)|(apply Zaf;exact Z;exact Go.ZrJ))
        all_goals(apply Zja (rfl) [0];(apply Zad Zab;exact Z);(iterate 4 exact Z))
        all_goals rfl
      ·have hs:=ZmR d deep (by omega) b hb (fun p m hp hm=>Zjv b hb d (deep+1) (by omega) p m hp hm) n o p2 (m-1) q2 (by omega) hn
       rw[q1]at hs
       unfold Zcq
       rw[if_neg (by simp),if_pos rfl]
       cases ht:Zir (ZaT d) (4,n,o) (m-1) r with
       | error e=>
        rw[ht]at hs
        dsimp only at hs ⊢
        refine Zan Tryz.func161 rfl Tryz.ntmps161 rfl rfl ?_
        repeat'(first|rw[dd]|rw[dm]|rw[em]|(apply ZaB [0] (hhd.q rfl);kernel_rfl;(iterate 7 exact Z))|(apply Zaa (ZaW 3);kernel_rfl;(iterate 4 exact Z))|(apply Zaa (ZaW 9);kernel_rfl;(iterate 4 exact Z))|(apply Zaa (ZaW 2);kernel_rfl;(iterate 4 exact Z))|(apply Zbb [0] (hs.x rfl);kernel_rfl;(iterate 6 exact Z);intro bx2 fr2 hle2)|(apply Zaj Zab;exact Z)|(apply Zah Zab;exact Z)|(apply Zav Zab;exact Z)|refine Zbq ?_|(apply Zae;(iterate 3 exact Z);exact Go.ZrJ)|(apply Zag;exact Z;exact Go.ZrJ;exact Z;exact Z)|(apply Zac;exact Z;exact Go.ZrJ)|(apply Zaf;exact Z;exact Go.ZrJ))
        all_goals(apply Ze9;exact Z;(first|exact Nat.zero_le _|exact Nat.le_trans (Nat.le_of_ble_eq_true rfl) (by assumption));exact Z)
       | ok y=>
        obtain⟨l,r2,m2⟩:=y
        rw[ht]at hs
        dsimp only at hs ⊢
        refine Zan Tryz.func161 rfl Tryz.ntmps161 rfl rfl ?_
        repeat'(first|rw[dd]|rw[dm]|rw[em]|(apply ZaB [0] (hhd.q rfl);kernel_rfl;(iterate 7 exact Z))|(apply Zaa (ZaW 3);kernel_rfl;(iterate 4 exact Z))|(apply Zaa (ZaW 9);kernel_rfl;(iterate 4 exact Z))|(apply Zaa (ZaW 2);kernel_rfl;(iterate 4 exact Z))|(apply ZaB [0] (hs.q rfl);kernel_rfl;(iterate 7 exact Z))|(apply Zaj Zab;exact Z)|(apply Zah Zab;exact Z)|(apply Zav Zab;exact Z)|refine Zbq ?_|(apply Zae;(iterate 3 exact Z);exact Go.ZrJ)|(apply Zag;exact Z;exact Go.ZrJ;exact Z;exact Z)|(apply Zac;exact Z;exact Go.ZrJ)|(apply Zaf;exact Z;exact Go.ZrJ))
        all_goals(apply Zja (rfl) [0];(apply Zad Zab;exact Z);(iterate 4 exact Z))
        all_goals rfl
 termination_by d=>d
end Go.Proofs.YtakblclkflnnpaaGreatDoor
end

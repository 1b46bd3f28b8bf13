/- The document's sealing: the type at a place, lists. -/
import Derived.Test.YtakblclkflnnpaaGreatDoorP20
import Derived.Test.YtakblclkflnnpaaGreatDoorP23
import Derived.Test.YtakblclkflnnpaaGreatDoorP18
import Derived.Test.YtakblclkflnnpaaGreatDoorP19
set_option linter.unusedVariables false
set_option linter.unusedSimpArgs false
section
open Go.RowKit Go.Pl Go.Av
namespace Go.Proofs.YtakblclkflnnpaaGreatDoor
set_option maxHeartbeats 4000000
theorem Zmo {l:List It}{a:Int}{x:It}(h0:0<=a)(hx:l[a.toNat]?=some x):ZaM l a=match It.beq x (.mk 0 0 [] []) with
  | true=>0
  | false=>match It.beq x (.mk 0 1 [] []) with
   | true=>1
   | false=>match It.beq x (.mk 0 2 [] []) with
    | true=>2
    | false => -1:=by
 obtain⟨k,n,b,r⟩:=x
 have hne:∀ m,m ≠ n->It.beq (.mk k n b r) (.mk 0 m [] [])=false:=fun m hm=>by
  cases h:It.beq (.mk k n b r) (.mk 0 m [] []) with
  | false=>rfl
  | true=>
   have:=It.beq_iff.1 h
   injection this with _ e
   exact absurd e.symm hm
 unfold ZaM
 rw[if_neg (by omega),hx]
 dsimp only
 rcases Nat.lt_or_ge n 3 with h3|h3
 ·have hd:decide ((n:Int)>2)=false:=decide_eq_false (by omega)
  rw[hd]
  dsimp only
  obtain rfl|rfl|rfl:n=0\/n=1\/n=2:=by omega
  ·rw[hne 1 (by omega),hne 2 (by omega)]
   cases It.beq (.mk k 0 b r) (.mk 0 0 [] [])<;>rfl
  ·rw[hne 0 (by omega),hne 2 (by omega)]
   cases It.beq (.mk k 1 b r) (.mk 0 1 [] [])<;>rfl
  ·rw[hne 0 (by omega),hne 1 (by omega)]
   cases It.beq (.mk k 2 b r) (.mk 0 2 [] [])<;>rfl
 ·have hd:decide ((n:Int)>2)=true:=decide_eq_true (by omega)
  rw[hd,hne 0 (by omega),hne 1 (by omega),hne 2 (by omega)]
theorem Zmp [Known](l:List It)(hws:wfs l)(hl:l.length<=2199023255488)(a:Int):AP Tryz.prog 148 [.sl .ext (Zas l),.int .i64 a] (.int .i64 (ZaM l a)) []:=by
 have hlen:=Zan l
 have hU:=ZbG l
 cases t1:decide (a<0) with
 | true=>
  have:ZaM l a = -1:=by unfold ZaM;rw[if_pos (of_decide_eq_true t1)]
  rw[this]
  refine AP.ofA ?_
  refine Zap Tryz.func148 rfl Tryz.ntmps148 rfl rfl ?_
  repeat'(first|(apply Zaj Zab;exact Z)|(apply Zai Zab;exact Z)|(apply Zay Zab;exact Z)|(apply Zao;(iterate 3 exact Z);exact Go.Zqn)|(apply Zak;exact Z;exact Go.Zqn;exact Z;exact Z)|(apply Zac;exact Z;exact Go.Zqn))
  all_goals(apply Zax [];(apply Zad Zab;exact Z);(iterate 4 exact Z))
  all_goals rfl
 | false=>
 have h0:0<=a:=by have:=of_decide_eq_false t1;omega
 cases t2:decide (a ≥ ((Zas l).length:Int)) with
 | true=>
  have:ZaM l a = -1:=by
   have h2:=of_decide_eq_true t2
   unfold ZaM
   rw[if_neg (by omega),List.getElem?_eq_none (by omega)]
  rw[this]
  refine AP.ofA ?_
  refine Zap Tryz.func148 rfl Tryz.ntmps148 rfl rfl ?_
  repeat'(first|(apply Zaj Zab;exact Z)|(apply Zai Zab;exact Z)|(apply Zay Zab;exact Z)|(apply Zaf;(iterate 3 exact Z);exact Go.Zqn)|(apply Zah;exact Z;exact Go.Zqn;exact Z;exact Z)|(apply Zac;exact Z;exact Go.Zqn)|(apply Zal Zab;(iterate 4 exact Z)))
  all_goals(apply Zax [];(apply Zad Zab;exact Z);(iterate 4 exact Z))
  all_goals rfl
 | false=>
 have hlt:a.toNat<l.length:=by have:=of_decide_eq_false t2;omega
 obtain⟨x,hx⟩:∃ x,l[a.toNat]?=some x:=⟨_,List.getElem?_eq_getElem hlt⟩
 have hwx:=ZaP hws x (List.mem_of_getElem? hx)
 have hz:∀ m:Nat,m<3->wfI (.mk 0 m [] []):=fun m hm=>⟨by omega,by simp,by simp,trivial⟩
 have h1:=ZbK x hwx (.mk 0 0 [] []) (hz 0 (by omega))
 have h2:=ZbK x hwx (.mk 0 1 [] []) (hz 1 (by omega))
 have h3:=ZbK x hwx (.mk 0 2 [] []) (hz 2 (by omega))
 rw[Zmo h0 hx]
 generalize It.beq x (.mk 0 0 [] [])=b0 at *
 generalize It.beq x (.mk 0 1 [] [])=b1 at *
 generalize It.beq x (.mk 0 2 [] [])=b2 at *
 obtain⟨k,n,b,r⟩:=x
 have hv:(Zas l)[a.toNat]?=some (E.agg [.int .i64 k,.int .u64 (n:Int),.sl (b.map E.byte),.sl (Zas r)]):=by
  rw[ZaB,List.getElem?_map,hx]
  rfl
 cases b0<;>cases b1<;>cases b2
 all_goals
  refine AP.ofA ?_
  refine Zap Tryz.func148 rfl Tryz.ntmps148 rfl rfl ?_
  repeat'(first|(apply Zaa (h1);kernel_rfl;(iterate 4 exact Z))|(apply Zaa (h2);kernel_rfl;(iterate 4 exact Z))|(apply Zaa (h3);kernel_rfl;(iterate 4 exact Z))|refine Zbj 20 ?_|refine Zby ?_|(apply Zaj Zab;exact Z)|(apply Zai Zab;exact Z)|(apply Zay Zab;exact Z)|(apply Zaf;(iterate 3 exact Z);exact Go.Zqn)|(apply Zah;exact Z;exact Go.Zqn;exact Z;exact Z)|(apply Zac;exact Z;exact Go.Zqn)|(apply Zae;exact Z;exact Go.Zqn)|refine ZbI ?_|(apply Zal Zab;(iterate 4 exact Z))|(apply Zat Zab;(iterate 6 exact Z);(first|exact Go.Zqn|rotate_left);(first|with_reducible assumption|decide +kernel|exact Z);(first|exact Zag rfl|with_reducible assumption|decide +kernel|rotate_left)))
  all_goals(apply Zax [];(apply Zad Zab;exact Z);(iterate 4 exact Z))
  all_goals rfl
theorem Zfu [Known](L:List E):AP Tryz.prog 94 [.sl .ext L] (.agg [.int .i64 4,.int .u64 0,.sl .ext [],.sl .ext L]) []:=by
 refine AP.ofA ?_
 refine Zap Tryz.func94 rfl Tryz.ntmps94 rfl rfl ?_
 repeat'(first|(apply Zai Zab;exact Z))
 all_goals(apply Zax [];(apply Zad Zab;exact Z);(iterate 4 exact Z))
 all_goals rfl
theorem Zi9 [Known](l:List It)(hl:l.length<=2199023255488)(c:List E):AP Tryz.prog 151 [.sl .ext (Zas l),.sl .ext c] (.agg [.int .i64 4,.int .u64 0,.sl .ext [],.sl .ext (Zas l++[.agg [.int .i64 2,.int .u64 0,.sl c,.sl []]])]) []:=by
 have hlen:=Zan l
 have hU:=ZbG l
 have hL:=Zfu (Zas l++[.agg [.int .i64 2,.int .u64 0,.sl c,.sl []]])
 cases l with
 | nil=>
  refine AP.ofA ?_
  refine Zap Tryz.func151 rfl Tryz.ntmps151 rfl rfl ?_
  repeat'(first|(apply Zaa (hL);kernel_rfl;(iterate 4 exact Z))|(apply Zbn Zab;(iterate 6 exact Z);exact Zag rfl;exact List.cons_ne_nil _ _;exact Z;decide +kernel;decide +kernel;(iterate 3 exact Z))|(apply Zaj Zab;exact Z)|(apply Zai Zab;exact Z)|(apply Za5 Zab;(iterate 12 exact Z))|(apply ZaE Zab;(iterate 6 exact Z)))
  all_goals(apply Zax [];(apply Zad Zab;exact Z);(iterate 4 exact Z))
  all_goals rfl
 | cons x l=>
  have hne:Zas (x::l) ≠ []:=by rw[Zas];exact List.cons_ne_nil _ _
  generalize Zas (x::l)=L at *
  have hLl:L.length<=2199023255488:=by omega
  refine AP.ofA ?_
  refine Zap Tryz.func151 rfl Tryz.ntmps151 rfl rfl ?_
  repeat'(first|(apply Zaa (hL);kernel_rfl;(iterate 4 exact Z))|(apply Zaj Zab;exact Z)|(apply Zai Zab;exact Z)|(apply Za5 Zab;(iterate 12 exact Z))|(apply ZaK Zab;(iterate 6 exact Z);(first|with_reducible assumption|decide +kernel|exact Z|rotate_left);exact Z;exact Z;(first|exact Zag rfl|with_reducible assumption|decide +kernel|rotate_left);(first|exact Zag rfl|with_reducible assumption|decide +kernel|rotate_left);(first|exact Go.Zqn|rotate_left);(first|exact Go.Zqn|rotate_left);(first|exact Go.Zqn|rotate_left);exact Z;exact Z)|(apply Zbd Zab;(iterate 6 exact Z);(first|exact Zag rfl|with_reducible assumption|decide +kernel|rotate_left);(first|exact Go.Zqn|rotate_left);(first|exact Go.Zqn|rotate_left);(first|exact Go.Zqn|rotate_left);(iterate 3 exact Z)))
  all_goals first|((apply Zax [];(apply Zad Zab;exact Z);(iterate 4 exact Z)))|skip
  all_goals first|rfl|(first|rfl|(simp only[List.length_append,List.length_cons,List.length_nil,List.length_map,Zan];done)|(simp only[List.length_append,List.length_cons,List.length_nil,List.length_map,Zan]at *;(try unfold maxLen);(try simp only[Nat.add_mul]);omega))|(simp;done)|(simp;omega)|(simp;unfold maxLen;omega)
def Zbs (l:List It)(s:Nat):It × Bool:=match s with
 | 0=>(.mk 4 0 [] l,Zaw (.mk 4 0 [] l))
 | s+1=>match Zaw (ZaJ (s+1) l) with
  | true=>(ZdR (s+1) l,true)
  | false=>(z0,false)
theorem Zf3 (z:Nat):IntKind.u8.wrap (((z:Nat):Int).tmod 256)=((z % 256:Nat):Int):=by
 rw[Int.tmod_eq_emod_of_nonneg (Int.natCast_nonneg _),IntKind.wrap_u8];omega
theorem Zf4 (z:Nat)(h:z<4294967296):IntKind.u32.wrap (((z:Nat):Int).tdiv 256)=((z/256:Nat):Int):=by
 rw[Int.tdiv_eq_ediv_of_nonneg (Int.natCast_nonneg _),IntKind.wrap_u32];omega
theorem ZnO (b:List UInt8):∃ z:Nat,z<65536/\Zed b=(z:Int)/\[E.int .u8 ((z/256 % 256:Nat):Int),E.int .u8 ((z % 256:Nat):Int)]=(ZdP 1 b).map E.byte:=by
 obtain⟨h1,h2⟩:=Zhl b
 generalize (65535 ^^^ ruN 33800 65535 (b.map UInt8.toNat))=z at *
 refine⟨z,h2,h1,?_⟩
 rw[ZkR]
 unfold Zo4 shU
 rw[if_pos rfl,h1,show min (8:Int).toNat IntKind.u16.bits=8 from rfl,Int.fdiv_eq_ediv_of_nonneg _ (by decide),IntKind.wrap_u8,IntKind.wrap_u8]
 have e1:((z/256 % 256:Nat):Int)=(z:Int)/2 ^ 8 % 256:=by omega
 have e2:((z % 256:Nat):Int)=(z:Int) % 256:=by omega
 rw[e1,e2]
theorem ZnP (b:List UInt8):∃ z:Nat,z<4294967296/\Zeu b=(z:Int)/\[E.int .u8 ((z/256/256/256 % 256:Nat):Int),E.int .u8 ((z/256/256 % 256:Nat):Int),E.int .u8 ((z/256 % 256:Nat):Int),E.int .u8 ((z % 256:Nat):Int)]=(ZdP 2 b).map E.byte:=by
 obtain⟨h1,h2⟩:=Zi1 b
 generalize (4294967295 ^^^ ruN 2197175160 4294967295 (b.map UInt8.toNat))=z at *
 refine⟨z,h2,h1,?_⟩
 rw[ZkR]
 unfold Zo4 shU
 rw[if_neg (by decide),h1,show min (24:Int).toNat IntKind.u32.bits=24 from rfl,show min (16:Int).toNat IntKind.u32.bits=16 from rfl,show min (8:Int).toNat IntKind.u32.bits=8 from rfl,Int.fdiv_eq_ediv_of_nonneg _ (by decide),Int.fdiv_eq_ediv_of_nonneg _ (by decide),Int.fdiv_eq_ediv_of_nonneg _ (by decide),IntKind.wrap_u8,IntKind.wrap_u8,IntKind.wrap_u8,IntKind.wrap_u8]
 have e1:((z/256/256/256 % 256:Nat):Int)=(z:Int)/2 ^ 24 % 256:=by omega
 have e2:((z/256/256 % 256:Nat):Int)=(z:Int)/2 ^ 16 % 256:=by omega
 have e3:((z/256 % 256:Nat):Int)=(z:Int)/2 ^ 8 % 256:=by omega
 have e4:((z % 256:Nat):Int)=(z:Int) % 256:=by omega
 rw[e1,e2,e3,e4]
theorem Zf5 [Known][KnownU8](l:List It)(s:Nat)(hs:s<=2)(hws:wfs l)(hl:l.length<=1000000)(hsz:Za9 l<=900)(hlim:(Za1 (ZaJ s l)).length<=1000000000) :
  AP Tryz.prog 95 [.sl .ext (Zas l),.int .i64 (s:Int)] (.tup [itD (Zbs l s).1,.bool (Zbs l s).2]) []:=by
 have hlen:=Zan l
 have hL:=Zfu (Zas l)
 unfold Zbs
 match s,hs with
 | 0,_=>
  have hw:wfI (.mk 4 0 [] l):=⟨by decide,by simp,by omega,hws⟩
  have hR:=Zdr (.mk 4 0 [] l) hw (by rw[Zbt];omega)
  dsimp only
  generalize Zaw (.mk 4 0 [] l)=R at *
  replace hR:AP Tryz.prog 147 [.agg [.int .i64 4,.int .u64 0,.sl .ext [],.sl .ext (Zas l)]] (.bool R) []:=hR
  show AP Tryz.prog _ _ (.tup [.agg [.int .i64 4,.int .u64 0,.sl .ext [],.sl .ext (Zas l)],.bool R]) []
  refine AP.ofA ?_
  refine Zap Tryz.func95 rfl Tryz.ntmps95 rfl rfl ?_
  repeat'(first|(apply Zaa (hL);kernel_rfl;(iterate 4 exact Z))|(apply Zaa (hR);kernel_rfl;(iterate 4 exact Z))|(apply Zaj Zab;exact Z)|(apply Zai Zab;exact Z)|(apply Zac;exact Z;exact Go.Zqn))
  all_goals(apply Zax [];(apply Zad Zab;exact Z);(iterate 4 exact Z))
  all_goals rfl
 | s+1,hs=>
  have hs':s+1=1\/s+1=2:=by omega
  have hwz:=ZkS hs' hws hl
  have hszz:Zbt (ZaJ (s+1) l)<=1000:=by
   have h:∀(l r:List It),Za9 (l++r)=Za9 l+Za9 r:=fun l r=>by
    induction l with
    | nil=>simp[Za9]
    | cons x l ih=>rw[List.cons_append,Za9,ih,Za9];omega
   unfold ZaJ
   simp only[Zbt,h,Za9]
   omega
  have hR:=Zdr (ZaJ (s+1) l) hwz hszz
  have hW1:=Zi9 l (by omega) (List.replicate (2*(s+1)) (.int .u8 0))
  have eZ:itD (ZaJ (s+1) l)=.agg [.int .i64 4,.int .u64 0,.sl .ext [],.sl .ext (Zas l++[.agg [.int .i64 2,.int .u64 0,.sl (List.replicate (2*(s+1)) (.int .u8 0)),.sl []]])]:=by
   unfold ZaJ
   show D.agg [.int .i64 4,.int .u64 0,.sl .ext [],.sl .ext (Zas (l++[.mk 2 0 (List.replicate (2*(s+1)) 0) []]))]=_
   rw[Zb5]
   have:(List.replicate (2*(s+1)) (0:UInt8)).map E.byte=List.replicate (2*(s+1)) (.int .u8 0):=by rw[List.map_replicate];rfl
   show D.agg [.int .i64 4,.int .u64 0,.sl .ext [],.sl .ext (Zas l++[.agg [.int .i64 2,.int .u64 0,.sl ((List.replicate (2*(s+1)) (0:UInt8)).map E.byte),.sl []]])]=_
   rw[this]
  rw[eZ]at hR
  dsimp only
  cases hr:Zaw (ZaJ (s+1) l) with
  | false=>
   rw[hr]at hR
   clear hszz hwz hlim eZ hr
   generalize Zas l=L at *
   obtain rfl|rfl:s=0\/s=1:=by omega
   all_goals
    refine AP.ofA ?_
    refine Zap Tryz.func95 rfl Tryz.ntmps95 rfl rfl ?_
    repeat'(first|(apply ZcO Zab (l:=2);(iterate 12 exact Z))|(apply ZcO Zab (l:=4);(iterate 12 exact Z))|(apply Zaa (hW1);kernel_rfl;(iterate 4 exact Z))|(apply Zaa (hR);kernel_rfl;(iterate 4 exact Z))|(apply Zaj Zab;exact Z)|(apply Zai Zab;exact Z)|(apply Zay Zab;exact Z)|(apply Zac;exact Z;exact Go.Zqn)|(apply Zae;exact Z;exact Go.Zqn))
    all_goals(apply Zax [];(apply Zad Zab;exact Z);(iterate 4 exact Z))
    all_goals rfl
  | true=>
   rw[hr]at hR
   have hf:ZbB (ZaJ (s+1) l)=true:=by
    have:=hr
    rw[ZbR]at this
    simp only[Bool.and_eq_true]at this
    exact this.2.2
   have hP:=Zla (ZaJ (s+1) l) hwz hf (by omega)
   rw[eZ]at hP
   have hSh:=Zk3 (Za1 (ZaJ (s+1) l)) (by omega)
   have hLo:=Zmn (Za1 (ZaJ (s+1) l)) (by omega)
   have eO:itD (ZdR (s+1) l)=.agg [.int .i64 4,.int .u64 0,.sl .ext [],.sl .ext (Zas l++[.agg [.int .i64 2,.int .u64 0,.sl ((ZdP (s+1) (Za1 (ZaJ (s+1) l))).map E.byte),.sl []]])]:=by
    unfold ZdR
    show D.agg [.int .i64 4,.int .u64 0,.sl .ext [],.sl .ext (Zas (l++[.mk 2 0 (ZdP (s+1) (Za1 (ZaJ (s+1) l))) []]))]=_
    rw[Zb5]
    rfl
   dsimp only
   rw[eO]
   have hW2:=Zi9 l (by omega) ((ZdP (s+1) (Za1 (ZaJ (s+1) l))).map E.byte)
   generalize Za1 (ZaJ (s+1) l)=P at *
   clear hszz hwz hlim eZ hr hf eO
   obtain⟨z1,hz1,es1,ec1⟩:=ZnO P
   obtain⟨z2,hz2,es2,ec2⟩:=ZnP P
   rw[es1]at hSh
   rw[es2]at hLo
   have w1:IntKind.u32.wrap (z1:Int)=(z1:Int):=IntWalk.u32_in _ (by omega)
   generalize Zas l=L at *
   obtain rfl|rfl:s=0\/s=1:=by omega
   ·rw[show(0+1:Nat)=1 from rfl,<- ec1]at hW2 ⊢
    have r0:=Zf3 z1
    have q0:=Zf4 z1 (by omega)
    have r1:=Zf3 (z1/256)
    have q1:=Zf4 (z1/256) (by omega)
    refine AP.ofA ?_
    refine Zap Tryz.func95 rfl Tryz.ntmps95 rfl rfl ?_
    repeat'(first|(apply ZcO Zab (l:=2);(iterate 12 exact Z))|(apply Zaa (hW1);kernel_rfl;(iterate 4 exact Z))|(apply Zaa (hW2);kernel_rfl;(iterate 4 exact Z))|(apply Zaa (hR);kernel_rfl;(iterate 4 exact Z))|(apply Zaa (hP);kernel_rfl;(iterate 4 exact Z))|(apply Zaa (hSh);kernel_rfl;(iterate 4 exact Z))|rw[w1]|rw[r0]|rw[q0]|rw[r1]|rw[q1]|refine Zbj 20 ?_|refine Zby ?_|(apply Zcd Zab;(iterate 11 exact Z);exact Zag rfl;exact Zag rfl;exact List.cons_ne_nil _ _;decide +kernel;decide +kernel;exact Z;exact Z)|(apply Zaj Zab;exact Z)|(apply Zai Zab;exact Z)|(apply Zay Zab;exact Z)|(apply Zac;exact Z;exact Go.Zqn)|(apply Zae;exact Z;exact Go.Zqn)|(apply Za5 Zab;(iterate 12 exact Z))|(apply ZaE Zab;(iterate 6 exact Z))|(apply ZeE;exact Z;exact Z;(first|exact Go.Zqn|rotate_left);exact Z)|(apply ZeF;exact Z;exact Z;(first|exact Go.Zqn|rotate_left);exact Z))
    all_goals(apply Zax [];(apply Zad Zab;exact Z);(iterate 4 exact Z))
    all_goals rfl
   ·rw[show(1+1:Nat)=2 from rfl,<- ec2]at hW2 ⊢
    have r0:=Zf3 z2
    have q0:=Zf4 z2 (by omega)
    have r1:=Zf3 (z2/256)
    have q1:=Zf4 (z2/256) (by omega)
    have r2:=Zf3 (z2/256/256)
    have q2:=Zf4 (z2/256/256) (by omega)
    have r3:=Zf3 (z2/256/256/256)
    have q3:=Zf4 (z2/256/256/256) (by omega)
    refine AP.ofA ?_
    refine Zap Tryz.func95 rfl Tryz.ntmps95 rfl rfl ?_
    repeat'(first|(apply ZcO Zab (l:=4);(iterate 12 exact Z))|(apply Zaa (hW1);kernel_rfl;(iterate 4 exact Z))|(apply Zaa (hW2);kernel_rfl;(iterate 4 exact Z))|(apply Zaa (hR);kernel_rfl;(iterate 4 exact Z))|(apply Zaa (hP);kernel_rfl;(iterate 4 exact Z))|(apply Zaa (hSh);kernel_rfl;(iterate 4 exact Z))|(apply Zaa (hLo);kernel_rfl;(iterate 4 exact Z))|rw[w1]|rw[r0]|rw[q0]|rw[r1]|rw[q1]|rw[r2]|rw[q2]|rw[r3]|rw[q3]|refine Zbj 20 ?_|refine Zby ?_|(apply Zcd Zab;(iterate 11 exact Z);exact Zag rfl;exact Zag rfl;exact List.cons_ne_nil _ _;decide +kernel;decide +kernel;exact Z;exact Z)|(apply Zaj Zab;exact Z)|(apply Zai Zab;exact Z)|(apply Zay Zab;exact Z)|(apply Zac;exact Z;exact Go.Zqn)|(apply Zae;exact Z;exact Go.Zqn)|(apply Za5 Zab;(iterate 12 exact Z))|(apply ZaE Zab;(iterate 6 exact Z))|(apply ZeE;exact Z;exact Z;(first|exact Go.Zqn|rotate_left);exact Z)|(apply ZeF;exact Z;exact Z;(first|exact Go.Zqn|rotate_left);exact Z))
    all_goals(apply Zax [];(apply Zad Zab;exact Z);(iterate 4 exact Z))
    all_goals rfl
theorem Zeh:∀(l r:List It),Za9 (l++r)=Za9 l+Za9 r
 | [],r=>by simp[Za9]
 | x::l,r=>by rw[List.cons_append,Za9,Zeh l r,Za9];omega
theorem Zdt:∀(l r:List It) (d:Nat),ZbQ (l++r) d=(ZbQ l d&&ZbQ r d)
 | [],r,d=>by simp[ZbQ]
 | x::l,r,d=>by rw[List.cons_append,ZbQ,Zdt l r d,ZbQ,Bool.and_assoc]
theorem Zei:∀(l r:List It),Zce (l++r)=(Zce l&&Zce r)
 | [],r=>by simp[Zce]
 | x::l,r=>by rw[List.cons_append,Zce,Zei l r,Zce,Bool.and_assoc]
theorem Zew (l:List It)(b c:List UInt8):Zaw (.mk 4 0 [] (l++[.mk 2 0 b []]))=Zaw (.mk 4 0 [] (l++[.mk 2 0 c []])):=by
 rw[ZbR,ZbR]
 have o:∀ x:List UInt8,ZdF 4 0 [] (l++[.mk 2 0 x []])=true:=fun x=>by simp[ZdF]
 have h1:Zbr (.mk 4 0 [] (l++[.mk 2 0 b []])) 6=Zbr (.mk 4 0 [] (l++[.mk 2 0 c []])) 6:=by
  rw[Zbr,Zbr,Zdt,Zdt];rfl
 have h2:Zbt (.mk 4 0 [] (l++[.mk 2 0 b []]))=Zbt (.mk 4 0 [] (l++[.mk 2 0 c []])):=by
  rw[Zbt,Zbt,Zeh,Zeh];rfl
 have h3:ZbB (.mk 4 0 [] (l++[.mk 2 0 b []]))=ZbB (.mk 4 0 [] (l++[.mk 2 0 c []])):=by
  rw[ZbB,ZbB,o,o,Zei,Zei];rfl
 rw[h1,h2,h3]
theorem Zfv {n:Nat}{b:List UInt8}{l:List It}(h:Zaw (.mk 4 n b l)=true):l.all Zaw=true:=by
 rw[ZbR]at h
 simp only[Bool.and_eq_true,decide_eq_true_eq]at h
 obtain⟨h1,h2,h3⟩:=h
 rw[Zbr]at h1
 rw[Zbt]at h2
 rw[ZbB,Bool.and_eq_true]at h3
 refine List.all_eq_true.2 fun y hy=>?_
 rw[ZbR]
 simp only[Bool.and_eq_true,decide_eq_true_eq]
 have:=Zfr y hy
 exact⟨ZdH y 5 6 (Zds h1 y hy) (by omega),by omega,Zfs h3.2 y hy⟩
theorem Zf6 {l:List It}{b:List UInt8}(h:Zaw (.mk 4 0 [] (l++[.mk 2 0 b []]))=true):l.all Zaw=true:=by
 have:=Zfv h
 rw[List.all_append,Bool.and_eq_true]at this
 exact this.1
def ZnQ (l:List It)(a:Int):It × Int:=match decide (a<0)||decide (a ≥ (l.length:Int)) with
 | true=>(z0,1)
 | false=>match decide (ZaM l a ≥ 0) with
  | false=>(z0,3)
  | true=>match(Zbs l (ZaM l a).toNat).2 with
   | true=>((Zbs l (ZaM l a).toNat).1,0)
   | false=>(z0,3)
theorem ZjL {l:List It}{s:Nat}(hs:s=1\/s=2):Zbs l s=match Zaw (ZaJ s l) with|true=>(ZdR s l,true)|false=>(z0,false):=by
 rcases hs with rfl|rfl<;>rfl
theorem dS1 (l:List It):Zbs l 1=match Zaw (ZaJ 1 l) with|true=>(ZdR 1 l,true)|false=>(z0,false):=rfl
theorem dS2 (l:List It):Zbs l 2=match Zaw (ZaJ 2 l) with|true=>(ZdR 2 l,true)|false=>(z0,false):=rfl
theorem ZnR (l:List It)(a:Int):Zfp l a=ZnQ l a:=by
 unfold Zfp ZnQ
 cases decide (a<0)||decide (a ≥ (l.length:Int)) with
 | true=>rfl
 | false=>
 dsimp only
 rcases ZbU l a with h|⟨h,_⟩
 ·rw[h,show decide ((-1:Int) ≥ 0)=false from rfl,Bool.and_false]
 rcases h with h|h|h
 ·rw[h,show decide ((0:Int) ≥ 0)=true from rfl,Bool.and_true,show decide ((0:Int)>0)=false from rfl]
  dsimp only[Zbs,Int.toNat_zero]
  cases hr:Zaw (.mk 4 0 [] l) with
  | true=>rw[Zfv hr];first|done|rfl
  | false=>cases l.all Zaw<;>simp[Zbs,hr]
 ·rw[h,show decide ((1:Int) ≥ 0)=true from rfl,Bool.and_true,show decide ((1:Int)>0)=true from rfl]
  show(match l.all Zaw with|false=>(z0,(3:Int))|true=>(match Zaw (ZaJ 1 l) with|false=>(z0,3)|true=>match Zaw (ZdR 1 l) with|false=>(z0,3)|true=>(ZdR 1 l,0)))=match(Zbs l 1).2 with|true=>((Zbs l 1).1,0)|false=>(z0,3)
  have ho:Zaw (ZdR 1 l)=Zaw (ZaJ 1 l):=Zew l _ _
  rw[ho,dS1]
  cases hr:Zaw (ZaJ 1 l) with
  | true=>rw[show l.all Zaw=true from Zf6 hr]
  | false=>cases l.all Zaw<;>rfl
 ·rw[h,show decide ((2:Int) ≥ 0)=true from rfl,Bool.and_true,show decide ((2:Int)>0)=true from rfl]
  show(match l.all Zaw with|false=>(z0,(3:Int))|true=>(match Zaw (ZaJ 2 l) with|false=>(z0,3)|true=>match Zaw (ZdR 2 l) with|false=>(z0,3)|true=>(ZdR 2 l,0)))=match(Zbs l 2).2 with|true=>((Zbs l 2).1,0)|false=>(z0,3)
  have ho:Zaw (ZdR 2 l)=Zaw (ZaJ 2 l):=Zew l _ _
  rw[ho,dS2]
  cases hr:Zaw (ZaJ 2 l) with
  | true=>rw[show l.all Zaw=true from Zf6 hr]
  | false=>cases l.all Zaw<;>rfl
def Zhs (x:It)(a:Int):List It × Int:=match x with
 | .mk k n b l=>match Zaw (.mk k n b l)&&(k==4&&decide (ZaM l a ≥ 0)) with
  | false=>([],3)
  | true=>match ZaM l a==0 with
   | true=>(l,0)
   | false=>match l[l.length-1]? with
    | none=>([],3)
    | some (.mk k1 n1 b1 l1)=>match decide (((l.length-1:Nat):Int)<=a)||(k1 != 2||((b1.length:Int) != ((2*(ZaM l a).toNat:Nat):Int))) with
     | true=>([],3)
     | false=>match(Zbs (l.take (l.length-1)) (ZaM l a).toNat).2&&It.beq (.mk k n b l) (Zbs (l.take (l.length-1)) (ZaM l a).toNat).1 with
      | false=>([],10)
      | true=>(l.take (l.length-1),0)
theorem Zmq {n:Nat}{b:List UInt8}{l:List It}(h:Zaw (.mk 4 n b l)=true):n=0/\b=[]:=by
 rw[ZbR]at h
 simp only[Bool.and_eq_true,decide_eq_true_eq]at h
 have h3:=h.2.2
 rw[ZbB,Bool.and_eq_true]at h3
 simpa[ZdF]using h3.1
theorem Zht {n:Nat}{b:List UInt8}{l:List It}(h:Zaw (.mk 2 n b l)=true):n=0/\l=[]:=by
 rw[ZbR]at h
 simp only[Bool.and_eq_true,decide_eq_true_eq]at h
 have h3:=h.2.2
 rw[ZbB,Bool.and_eq_true]at h3
 simpa[ZdF]using h3.1
theorem ZgA (x:It)(a:Int):Zee x a=Zhs x a:=by
 obtain⟨k,n,b,l⟩:=x
 unfold Zee Zhs
 dsimp only
 cases hr:Zaw (.mk k n b l) with
 | false=>simp
 | true=>
 cases hk:(k==4) with
 | false=>simp
 | true=>
 have hk4:k=4:=by simpa using hk
 subst hk4
 obtain⟨rfl,rfl⟩:=Zmq hr
 simp only[Bool.and_self,Bool.true_and]
 rcases ZbU l a with h|⟨h,h0,hal⟩
 ·have hge:decide (ZaM l a ≥ 0)=false:=decide_eq_false (by omega)
  have hlt:decide (ZaM l a<0)=true:=decide_eq_true (by omega)
  rw[hge,hlt]
 have hge:decide (ZaM l a ≥ 0)=true:=decide_eq_true (by omega)
 have hlt:decide (ZaM l a<0)=false:=decide_eq_false (by omega)
 rw[hge,hlt]
 dsimp only
 cases ht:(ZaM l a==0) with
 | true=>rfl
 | false=>
 have hs:(ZaM l a).toNat=1\/(ZaM l a).toNat=2:=by
  have:ZaM l a ≠ 0:=by simpa using ht
  omega
 dsimp only
 cases hlast:l[l.length-1]? with
 | none=>rfl
 | some y=>
 obtain⟨k1,n1,b1,l1⟩:=y
 dsimp only
 have hmem:=List.mem_of_getElem? hlast
 have hall:=Zfv hr
 have hry:=List.all_eq_true.1 hall _ hmem
 have hkk:(!(It.beq (.mk k1 n1 b1 l1) (.mk 2 0 b1 [])))=(k1 != 2):=by
  cases h2:(k1 != 2) with
  | true=>
   have h2:k1 ≠ 2:=by simpa using h2
   cases hb:It.beq (.mk k1 n1 b1 l1) (.mk 2 0 b1 []) with
   | false=>rfl
   | true=>
    have:=It.beq_iff.1 hb
    injection this with e
    exact absurd e h2
  | false=>
   have h2:k1=2:=by simpa using h2
   subst h2
   obtain⟨rfl,rfl⟩:=Zht hry
   rw[It.beq_iff.2 rfl]
   rfl
 rw[hkk]
 cases hc:(decide (((l.length-1:Nat):Int)<=a)||(k1 != 2||((b1.length:Int) != ((2*(ZaM l a).toNat:Nat):Int)))) with
 | true=>rfl
 | false=>
 dsimp only
 simp only[Bool.or_eq_false_iff]at hc
 have h2:k1=2:=by simpa using hc.2.1
 subst h2
 obtain⟨rfl,rfl⟩:=Zht hry
 have hl:l=l.take (l.length-1)++[.mk 2 0 b1 []]:=by
  have hlt:=(List.getElem?_eq_some_iff.1 hlast).1
  have he:=(List.getElem?_eq_some_iff.1 hlast).2
  rw[<- he]
  have:=List.take_append_getElem (i:=l.length-1) hlt
  rw[show l.length-1+1=l.length from by omega,List.take_length]at this
  exact this.symm
 have hz:Zaw (ZaJ (ZaM l a).toNat (l.take (l.length-1)))=true:=by
  have:=hr
  rw[hl]at this
  exact(Zew (l.take (l.length-1)) _ _).trans this
 rw[ZjL hs,hz]
 dsimp only
 have hb:(ZdP (ZaM l a).toNat (Za1 (ZaJ (ZaM l a).toNat (l.take (l.length-1))))==b1)=It.beq (.mk 4 0 [] l) (ZdR (ZaM l a).toNat (l.take (l.length-1))):=by
  rw[Bool.eq_iff_iff,beq_iff_eq,It.beq_iff]
  unfold ZdR
  constructor
  ·intro h
   rw[h,<- hl]
  ·intro h
   injection h with _ _ _ h
   rw[hl]at h
   rw[<- hl]at h
   have h3:=(List.append_inj' (hl.symm.trans h) rfl).2
   injection h3 with h3
   injection h3 with _ _ h3
   exact h3.symm
 rw[hb,Bool.true_and]
 cases It.beq (.mk 4 0 [] l) (ZdR (ZaM l a).toNat (l.take (l.length-1)))<;>rfl
end Go.Proofs.YtakblclkflnnpaaGreatDoor
end

/- Package hop: how much a bundle has left. -/
import Derived.Test.YtakblclkflnnpaaGreatDoorH40
import Derived.Test.YtakblclkflnnpaaGreatDoorH26
import Derived.Test.YtakblclkflnnpaaGreatDoorH27
import Derived.Test.YtakblclkflnnpaaGreatDoorH41
set_option linter.unusedVariables false
set_option linter.unusedSimpArgs false
section
open Go.RowKit Go.Pl Go.Av
namespace Go.Proofs.YtakblclkflnnpaaGreatDoor
set_option maxHeartbeats 4000000
def Zjg (c:BlkV):Nat:=match ZfR c 7 != 0 with
 | true=>0
 | false=>(Zh4 c.data).1
def Zl6 (b:BunV):Nat:=match b.bl.find? (ZfL 7) with
 | some c=>Zjg c
 | none=>0
theorem Zrb [Known][KnownU8](b:BunV)(hb:BunOk b):AP Tryz.prog 128 [.agg (bnC b)] (.int .u64 (Zl6 b:Int)) []:=by
 have hF:=ZjT b 7 hb.len (fun c hc=>Nat.le_trans (hb.bl c hc).2 (by omega))
 have hbl:=hb.bl
 unfold Zl6
 cases hf:b.bl.find? (ZfL 7) with
 | none=>
  rw[hf]at hF
  dsimp only[ZgM]at hF ⊢
  clear hb hbl hf
  obtain⟨⟨fl,sum,⟨di,dn,ds,dh,dd⟩,⟨ri,rn,rs,rh,rd⟩,⟨xi,xn,xs,xh,xd⟩,t,q,life⟩,bl⟩:=b
  try dsimp only at *
  refine AP.ofA (Zam Tryz.func128 U Tryz.ntmps128 U U ?_)
  repeat'(first|(apply Zaa (hF);kernel_rfl;(iterate 4 exact U))|(apply Zai Zab;exact U)|(apply Zag Zab;exact U)|(apply Zau Zab;exact U)|refine Zad U Qt ?_)
  all_goals exact Qe
 | some c=>
  rw[hf]at hF
  have hA:AP Tryz.prog 35 [.agg (bkC c)] (.tup [.int .u64 (Zjg c:Int),.int .i64 (ZfR c 7)]) []:=by
   unfold Zjg
   exact ZkK c (Nat.le_trans (hbl c (List.mem_of_find?_eq_some hf)).2 (by omega))
  dsimp only[ZgM]at hF ⊢
  clear hb hbl hf
  generalize Zjg c=ag at *
  generalize ZfR c 7=e at *
  obtain⟨cty,cnum,cfl,csum,cdata⟩:=c
  obtain⟨⟨fl,sum,⟨di,dn,ds,dh,dd⟩,⟨ri,rn,rs,rh,rd⟩,⟨xi,xn,xs,xh,xd⟩,t,q,life⟩,bl⟩:=b
  try dsimp only at *
  refine AP.ofA (Zam Tryz.func128 U Tryz.ntmps128 U U ?_)
  repeat'(first|(apply Zaa (hF);kernel_rfl;(iterate 4 exact U))|(apply Zaa (hA);kernel_rfl;(iterate 4 exact U))|(apply Zai Zab;exact U)|(apply Zag Zab;exact U)|refine Zaf U Qt ?_)
  all_goals exact Qe
def ZlW (t life:Nat)(old here now:Int):Int:=match decide ((t:Int)>0) with
 | true=>match decide (now<(t:Int)) with
  | true=>IntKind.u64.wrap ((life:Int)+IntKind.u64.wrap ((t:Int)-now))
  | false=>match decide (IntKind.u64.wrap (now-(t:Int)) ≥ (life:Int)) with
   | true=>0
   | false=>IntKind.u64.wrap ((life:Int)-IntKind.u64.wrap (now-(t:Int)))
 | false=>match decide (IntKind.u64.wrap (old+here) ≥ (life:Int)) with
  | true=>0
  | false=>IntKind.u64.wrap ((life:Int)-IntKind.u64.wrap (old+here))
theorem Zpz [Known](p:PriV)(old here now:Int):AP Tryz.prog 127 [.agg (prC p),.int .u64 old,.int .u64 here,.int .u64 now] (.int .u64 (ZlW p.t p.life old here now)) []:=by
 obtain⟨fl,sum,⟨di,dn,ds,dh,dd⟩,⟨ri,rn,rs,rh,rd⟩,⟨xi,xn,xs,xh,xd⟩,t,q,life⟩:=p
 unfold ZlW
 dsimp only
 cases t0:decide ((t:Int)>0) with
 | true=>
  cases t1:decide (now<(t:Int)) with
  | true=>
   refine AP.ofA (Zam Tryz.func127 U Tryz.ntmps127 U U ?_)
   repeat'(first|(apply Zag Zab;exact U)|(apply Zau Zab;exact U)|refine Zad U Qt ?_)
   all_goals exact Qe
  | false=>
   cases t2:decide (IntKind.u64.wrap (now-(t:Int)) ≥ (life:Int))
   all_goals
    refine AP.ofA (Zam Tryz.func127 U Tryz.ntmps127 U U ?_)
    repeat'(first|(apply Zag Zab;exact U)|(apply Zau Zab;exact U)|refine Zad U Qt ?_|refine Zaf U Qt ?_)
    all_goals exact Qe
 | false=>
  cases t2:decide (IntKind.u64.wrap (old+here) ≥ (life:Int))
  all_goals
   refine AP.ofA (Zam Tryz.func127 U Tryz.ntmps127 U U ?_)
   repeat'(first|(apply Zag Zab;exact U)|(apply Zau Zab;exact U)|refine Zad U Qt ?_|refine Zaf U Qt ?_)
   all_goals exact Qe
def ZgP (b:BunV)(since now:Int):Int:=match Zbw b with
 | false=>3
 | true=>match decide (since>now)||decide (now>1099511627776) with
  | true=>1
  | false=>0
theorem Zn8 [Known][KnownU8](b:BunV)(hb:BunOk b)(since now:Int):AP Tryz.prog 126 [.agg (bnC b),.int .u64 since,.int .u64 now] (.int .i64 (ZgP b since now)) []:=by
 have hR:=Zft b hb
 unfold ZgP
 clear hb
 generalize Zbw b=r at *
 obtain⟨⟨fl,sum,⟨di,dn,ds,dh,dd⟩,⟨ri,rn,rs,rh,rd⟩,⟨xi,xn,xs,xh,xd⟩,t,q,life⟩,bl⟩:=b
 cases r<;>cases t1:decide (since>now)<;>cases t2:decide (now>1099511627776)
 all_goals
  refine AP.ofA (Zam Tryz.func126 U Tryz.ntmps126 U U ?_)
  repeat'(first|(apply Zaa (hR);kernel_rfl;(iterate 4 exact U))|(apply Zai Zab;exact U)|(apply Zag Zab;exact U)|(apply Zau Zab;exact U)|refine Zae U U U Qt ?_|refine Zal U U U Qt ?_|refine Zak U Qt U U ?_|refine Zah U Qt U U ?_|refine Zad U Qt ?_|refine Zaf U Qt ?_)
  all_goals exact Qe
def ZdM (b:BunV)(since now:Int):Int × Int:=match ZgP b since now != 0 with
 | true=>(0,ZgP b since now)
 | false=>(ZlW b.p.t b.p.life (Zl6 b:Int) (IntKind.u64.wrap (now-since)) now,0)
theorem ZfU [Known][KnownU8](b:BunV)(hb:BunOk b)(since now:Int):AP Tryz.prog 73 [.agg (bnC b),.int .u64 since,.int .u64 now] (.tup [.int .u64 (ZdM b since now).1,.int .i64 (ZdM b since now).2]) []:=by
 have hK:=Zn8 b hb since now
 have hA:=Zrb b hb
 have hL:=Zpz b.p (Zl6 b:Int) (IntKind.u64.wrap (now-since)) now
 unfold ZdM
 clear hb
 generalize ZgP b since now=e at *
 generalize ZlW b.p.t b.p.life (Zl6 b:Int) (IntKind.u64.wrap (now-since)) now=r at *
 generalize Zl6 b=ag at *
 obtain⟨⟨fl,sum,⟨di,dn,ds,dh,dd⟩,⟨ri,rn,rs,rh,rd⟩,⟨xi,xn,xs,xh,xd⟩,t,q,life⟩,bl⟩:=b
 try dsimp only at *
 cases t1:(e != 0) with
 | true=>
  refine AP.ofA (Zam Tryz.func73 U Tryz.ntmps73 U U ?_)
  repeat'(first|(apply Zaa (hK);kernel_rfl;(iterate 4 exact U))|(apply Zai Zab;exact U)|(apply Zag Zab;exact U)|(apply Zau Zab;exact U)|refine Zad U Qt ?_)
  all_goals exact Qe
 | false=>
  refine AP.ofA (Zam Tryz.func73 U Tryz.ntmps73 U U ?_)
  repeat'(first|(apply Zaa (hK);kernel_rfl;(iterate 4 exact U))|(apply Zaa (hA);kernel_rfl;(iterate 4 exact U))|(apply Zaa (hL);kernel_rfl;(iterate 4 exact U))|(apply Zai Zab;exact U)|(apply Zag Zab;exact U)|refine Zaf U Qt ?_|(apply Zao 8 ZaQ;decide +kernel;kernel_rfl;kernel_rfl;kernel_rfl;exact U;exact U)|(apply Zas;(iterate 4 exact U))|exact AE.nil _ _ _ _|(apply Zaw;exact U)|(apply Zay;exact U;exact U;decide +kernel;exact U)|(apply Zaz;exact U)|exact AO.nil _ _ _|(apply Zar;(decide +kernel))|exact AOs.nil|exact ZaJ rfl rfl)
  all_goals exact Qe
def ZjV (b:BunV)(since now:Int):Bool:=(ZdM b since now).2==0&&(ZdM b since now).1==0
theorem ZfV [Known][KnownU8](b:BunV)(hb:BunOk b)(since now:Int):AP Tryz.prog 75 [.agg (bnC b),.int .u64 since,.int .u64 now] (.tup [.bool (ZjV b since now),.int .i64 (ZdM b since now).2]) []:=by
 have hL:=ZfU b hb since now
 unfold ZjV
 clear hb
 generalize (ZdM b since now).1=n at *
 generalize (ZdM b since now).2=e at *
 obtain⟨⟨fl,sum,⟨di,dn,ds,dh,dd⟩,⟨ri,rn,rs,rh,rd⟩,⟨xi,xn,xs,xh,xd⟩,t,q,life⟩,bl⟩:=b
 cases t1:(e==0)
 all_goals
  refine AP.ofA (Zam Tryz.func75 U Tryz.ntmps75 U U ?_)
  repeat'(first|(apply Zaa (hL);kernel_rfl;(iterate 4 exact U))|(apply Zai Zab;exact U)|(apply Zag Zab;exact U)|refine Zae U U U Qt ?_|refine Zap U U U Qt ?_|refine Zak U Qt U U ?_|refine Zah U Qt U U ?_)
  all_goals exact Qe
theorem Zrc [Known](c:BlkV)(k:Nat):AQ Tryz.prog 130 [.agg (bkC c),.ptr 0 0] [[.int .u64 (k:Int)]] (.bool (ZfT k c)) [[.int .u64 (k:Int)]]:=by
 obtain⟨ty,num,fl,sum,data⟩:=c
 refine AQ.weak (Zam Tryz.func130 U Tryz.ntmps130 U U ?_)
 repeat'(first|(apply Zag Zab;exact U))
 all_goals(apply Zav [0];(apply Zac Zab;exact U);(iterate 4 exact U))
 all_goals rfl
theorem Zn9 [Known](l:List BlkV)(k:Nat)(hl:l.length<=1000000):AQ Tryz.prog 124 [.sl .ext (Zbj l),.fn 130 [.ptr 0 0]] [[.int .u64 (k:Int)]] (.int .i64 (fiQ (ZfT k) l 0)) [[.int .u64 (k:Int)]]:=by
 have hlen:=Zb5 l
 have hU:=ZgW l
 generalize hfin:fiQ (ZfT k) l 0=fin
 refine AQ.weak (Zam Tryz.func124 U Tryz.ntmps124 U U ?_)
 repeat'(first|(apply Zai Zab;exact U)|(apply Zag Zab;exact U)|refine Zan Zab U U U U ?_)
 refine ZaB (fun f tm bx fr=>∃(i:Nat),f+i=l.length/\fiQ (ZfT k) (l.drop i) i=fin/\tm=[(0,.sl .ext (Zbj l)),(1,.fn 130 [.ptr 0 0]),(4,.int .i64 0),(7,.int .i64 ((Zbj l).length:Int)),(8,.int .i64 (i:Int))]/\bx=[[.int .u64 (k:Int)]]/\fr=[]) (l.length+1) (Lands.mk' (m:=l.length) (Nat.lt_succ_self _) ⟨0,by omega,hfin,rfl,rfl,rfl⟩ ?_ rfl rfl rfl rfl rfl rfl) ?_
 ·exact .cons rfl (.cons rfl (.cons rfl (.cons rfl (.cons rfl .nil))))
 rintro f tm bx fr ⟨i,hf,hq,rfl,rfl,rfl⟩
 rcases Nat.lt_or_ge i l.length with hlt|hge
 ·have hdl:decide ((i:Int)<((Zbj l).length:Int))=true:=decide_eq_true (by omega)
  obtain⟨c,hy⟩:∃ y,l[i]?=some y:=⟨_,List.getElem?_eq_getElem hlt⟩
  have hv:=Zcc hy
  have hc:=Zrc c k
  have hdr:l.drop i=c::l.drop (i+1):=by
   rw[List.drop_eq_getElem_cons hlt];congr 1
   exact(List.getElem?_eq_some_iff.1 hy).2
  rw[hdr,fiQ]at hq
  have ei:IntKind.i64.wrap ((i:Int)+1)=((i+1:Nat):Int):=by rw[IntWalk.i64_in _ (by omega)];omega
  cases hb:ZfT k c with
  | false=>
   rw[hb]at hq hc
   repeat'(first|rw[ei]|(apply ZeK [0] (hc);exact U;kernel_rfl;(iterate 7 exact U))|(apply Zai Zab;exact U)|(apply Zag Zab;exact U)|(apply Zau Zab;exact U)|refine Zad U Qt ?_|refine Zaf U Qt ?_|(apply Zat Zab;(iterate 6 exact U);(first|exact Qt|rotate_left);(first|with_reducible assumption|decide +kernel|exact U);(first|exact Zaj rfl|with_reducible assumption|decide +kernel|rotate_left)))
   refine Lands.mk' (m:=f-1) (by omega) ⟨i+1,by omega,hq,rfl,rfl,rfl⟩ ?_ rfl rfl rfl rfl rfl rfl
   exact .cons rfl (.cons rfl (.cons rfl (.cons rfl (.cons rfl .nil))))
  | true=>
   rw[hb]at hq hc
   have hq:(i:Int)=fin:=hq
   subst hq
   repeat'(first|(apply ZeK [0] (hc);exact U;kernel_rfl;(iterate 7 exact U))|(apply Zai Zab;exact U)|(apply Zag Zab;exact U)|(apply Zau Zab;exact U)|refine Zad U Qt ?_|refine Za2 ?_|(apply Zat Zab;(iterate 6 exact U);(first|exact Qt|rotate_left);(first|with_reducible assumption|decide +kernel|exact U);(first|exact Zaj rfl|with_reducible assumption|decide +kernel|rotate_left)))
   all_goals(apply Zav [0];(apply Zac Zab;exact U);(iterate 4 exact U))
   all_goals rfl
 ·have hdl:decide ((i:Int)<((Zbj l).length:Int))=false:=decide_eq_false (by omega)
  rw[List.drop_eq_nil_of_le hge]at hq
  have hq:(-1:Int)=fin:=hq
  subst hq
  repeat'(first|(apply Zag Zab;exact U)|refine Zaf U Qt ?_)
  all_goals(apply Zav [0];(apply Zac Zab;exact U);(iterate 4 exact U))
  all_goals rfl
theorem ZpA [Known](l:List BlkV)(k:Nat)(hl:l.length<=1000000):AQ Tryz.prog 131 [.sl .ext (Zbj l),.fn 130 [.ptr 0 0]] [[.int .u64 (k:Int)]] (.bool (decide (fiQ (ZfT k) l 0 ≥ 0))) [[.int .u64 (k:Int)]]:=by
 have hI:=Zn9 l k hl
 generalize fiQ (ZfT k) l 0=r at *
 refine AQ.weak (Zam Tryz.func131 U Tryz.ntmps131 U U ?_)
 repeat'(first|(apply Zax [0] (hI);kernel_rfl;(iterate 7 exact U))|(apply Zai Zab;exact U)|(apply Zag Zab;exact U))
 all_goals(apply Zav [0];(apply Zac Zab;exact U);(iterate 4 exact U))
 all_goals rfl
theorem Zsk (k:Nat)(l:List BlkV):decide (fiQ (ZfT k) l 0 ≥ 0)=l.any (ZfT k):=by
 have h:=ZfS (ZfT k) l 0
 cases hf:l.find? (ZfT k) with
 | none=>
  rw[hf]at h
  dsimp only at h
  rw[h]
  have:=List.find?_eq_none.1 hf
  rw[List.any_eq_false.2 this]
  rfl
 | some c=>
  rw[hf]at h
  obtain⟨j,h1,_⟩:=h
  rw[h1,List.any_eq_true.2 ⟨c,List.mem_of_find?_eq_some hf,List.find?_some hf⟩]
  exact decide_eq_true (by omega)
theorem Zi7 [Known][KnownU8](ZaK:Nat)(sum:Int)(x:EidV):AP Tryz.prog 42 [.int .u64 (ZaK:Int),.int .i64 sum,.agg (eC x)] (ZqN (ofV 6 ZaK sum (if ZaH x then Zbg x else .mk 0 0 [] []) (if ZaH x then 0 else 3))) []:=by
 have hW:=Ze4 x
 have hwf:wfI (if ZaH x then Zbg x else .mk 0 0 [] []):=by
  cases h:ZaH x with
  | true=>exact Zdf h
  | false=>exact Zo7
 have hlen:(ZaZ (if ZaH x then Zbg x else .mk 0 0 [] [])).length<=100000:=by
  cases h:ZaH x with
  | false=>
   show(ZaZ (.mk 0 0 [] [])).length<=100000
   decide +kernel
  | true=>
   show(ZaZ (Zbg x)).length<=100000
   unfold Zbg
   repeat' split
   ·exact Nat.le_trans (Zd3 1 0) (by decide)
   ·have h0:=Zbq 4 0 [] [.mk 0 2 [] [],Zje x.n x.s]
    have h1:=Zbs 2
    have h2:=Zd3 x.n x.s
    simp only[ZaX,List.length_append,List.length_nil,Nat.add_zero,Nat.zero_add]at h0
    exact Nat.le_trans h0 (by omega)
   ·have h0:=Zbq 4 0 [] [.mk 0 1 [] [],.mk 3 0 (Zck x) []]
    have h1:=Zbs 1
    have h2:=Zbq 3 0 (Zck x) []
    rename_i hz hi
    have h3:(Zck x).length<=100:=by
     have ht:=ZbJ h (by simpa using hz) (by simpa using hi)
     simp only[Zck,List.length_append,List.length_cons,List.length_nil]
     omega
    simp only[ZaX,List.length_append,List.length_nil,Nat.add_zero,Nat.zero_add]at h0 h2
    exact Nat.le_trans h0 (by omega)
 have hO:=ZqO 6 ZaK sum (if ZaH x then Zbg x else .mk 0 0 [] []) (if ZaH x then 0 else 3) hwf hlen
 generalize (if ZaH x then Zbg x else .mk 0 0 [] [])=I at *
 generalize (if ZaH x then(0:Int) else 3)=E0 at *
 clear hwf hlen
 generalize ofV 6 ZaK sum I E0=r at *
 obtain⟨xi,xn,xs,xh,xd⟩:=x
 obtain⟨k,n,b,l⟩:=I
 obtain⟨⟨a,b2,c,d,f⟩,e⟩:=r
 refine AP.ofA (Zam Tryz.func42 U Tryz.ntmps42 U U ?_)
 repeat'(first|(apply Zaa (hW);kernel_rfl;(iterate 4 exact U))|(apply Zaa (hO);kernel_rfl;(iterate 4 exact U))|(apply Zai Zab;exact U)|(apply Zag Zab;exact U))
 all_goals exact Qe
def Zp0 (l:List BlkV):Nat->Nat->Nat
 | 0,n=>n
 | f+1,n=>match l.any (ZfT n) with
  | true=>Zp0 l f (n+1)
  | false=>n
def ZlX (l:List BlkV):Nat:=Zp0 l l.length 2
theorem Zk7 {l:List BlkV}{n:Nat}(h:l.any (ZfT n)=true):l.countP (fun c=>decide (n+1<=c.num))<l.countP (fun c=>decide (n<=c.num)):=by
 induction l with
 | nil=>simp at h
 | cons c l ih=>
  have hle:l.countP (fun c=>decide (n+1<=c.num))<=l.countP (fun c=>decide (n<=c.num)):=List.countP_mono_left fun c _ h=>by simp at h ⊢;omega
  rw[List.countP_cons,List.countP_cons]
  rw[List.any_cons,Bool.or_eq_true]at h
  by_cases e:c.num=n
  ·have h1:¬ (n+1<=c.num):=by omega
   have h2:n<=c.num:=by omega
   simp only[h1,h2,decide_true,decide_false,if_true]
   simp
   omega
  ·have hl:l.any (ZfT n)=true:=by
    rcases h with h|h
    ·exfalso;simp[ZfT]at h;omega
    ·exact h
   have:=ih hl
   by_cases h2:n+1<=c.num
   ·have h3:n<=c.num:=by omega
    simp only[h2,h3,decide_true,if_true]
    omega
   ·have h3:¬ n<=c.num:=by omega
    simp only[h2,h3,decide_false]
    simpa using this
theorem Zfu [Known](b:BunV)(hb:BunOk b):AP Tryz.prog 76 [.agg (bnC b)] (.int .u64 (ZlX b.bl:Int)) []:=by
 have hl:=hb.len
 clear hb
 obtain⟨⟨fl,sum,⟨di,dn,ds,dh,dd⟩,⟨ri,rn,rs,rh,rd⟩,⟨xi,xn,xs,xh,xd⟩,t,q,life⟩,bl⟩:=b
 dsimp only at *
 generalize hR:ZlX bl=R
 refine AP.ofA (Zam Tryz.func76 U Tryz.ntmps76 U U ?_)
 repeat'(first|(apply Zag Zab;exact U))
 show AW _ _ _ _
 refine ZaB (fun f tm bx fr=>∃(n:Nat),bl.countP (fun c=>decide (n<=c.num))<=f/\f+n<=bl.length+2/\Zp0 bl f n=R/\tm=[(1,.ptr 0 0),(3,.ptr 1 0),(4,.fn 130 [.ptr 1 0])]/\bx=[[.int .u64 (fl:Int),.int .i64 sum,.bool di,.int .u64 (dn:Int),.int .u64 (ds:Int),.str dh,.str dd,.bool ri,.int .u64 (rn:Int),.int .u64 (rs:Int),.str rh,.str rd,.bool xi,.int .u64 (xn:Int),.int .u64 (xs:Int),.str xh,.str xd,.int .u64 (t:Int),.int .u64 (q:Int),.int .u64 (life:Int),.sl .ext (Zbj bl)],[.int .u64 (n:Int)]]/\fr=[]) (bl.length+1) (Lands.mk' (m:=bl.length) (Nat.lt_succ_self _) ⟨2,List.countP_le_length,by omega,hR,rfl,rfl,rfl⟩ ?_ rfl rfl rfl rfl rfl rfl) ?_
 ·exact .cons rfl (.cons rfl (.cons rfl .nil))
 rintro f tm bx fr ⟨n,hcnt,hfn,hq,rfl,rfl,rfl⟩
 have hC:=ZpA bl n hl
 rw[Zsk]at hC
 have en:IntKind.u64.wrap ((n:Int)+1)=((n+1:Nat):Int):=by rw[IntWalk.u64_in _ (by omega)];omega
 cases ha:bl.any (ZfT n) with
 | true=>
  rw[ha]at hC
  have hup:=Zk7 ha
  obtain⟨f',rfl⟩:∃ f',f=f'+1:=⟨f-1,by omega⟩
  rw[Zp0,ha]at hq
  dsimp only at hq
  repeat'(first|(apply Zax [1] (hC);kernel_rfl;(iterate 7 exact U))|rw[en]|(apply Zai Zab;exact U)|(apply Zag Zab;exact U)|(apply Zau Zab;exact U)|refine Zad U Qt ?_|refine Za9 ?_)
  refine Lands.mk' (m:=f') (by omega) ⟨n+1,by omega,by omega,hq,rfl,rfl,rfl⟩ ?_ rfl rfl rfl rfl rfl rfl
  exact .cons rfl (.cons rfl (.cons rfl .nil))
 | false=>
  rw[ha]at hC
  have hq:n=R:=by
   cases f with
   | zero=>exact hq
   | succ f=>rw[Zp0,ha]at hq;exact hq
  subst hq
  repeat'(first|(apply Zax [1] (hC);kernel_rfl;(iterate 7 exact U))|(apply Zai Zab;exact U)|(apply Zag Zab;exact U)|(apply Zau Zab;exact U)|refine Zaf U Qt ?_)
  all_goals exact Qe
def ZlY (c:BlkV):Nat:=match ZfR c 10 != 0 with
 | true=>0
 | false=>(Zdk c.data).1
def Zoa (c:BlkV):Nat:=match ZfR c 10 != 0 with
 | true=>0
 | false=>(Zdk c.data).2.1
theorem ZhZ [Known][KnownU8](c:BlkV)(hd:c.data.length<=100000):AP Tryz.prog 36 [.agg (bkC c)] (.tup [.int .u64 (ZlY c:Int),.int .u64 (Zoa c:Int),.int .i64 (ZfR c 10)]) []:=by
 unfold ZlY Zoa
 exact Znm c hd
def Zk8 (b:BunV):Bool:=match b.bl.find? (ZfL 10) with
 | some c=>(ZfR c 10==0)&&decide ((Zoa c:Int) ≥ (ZlY c:Int))
 | none=>false
theorem Zob [Known][KnownU8](b:BunV)(hb:BunOk b):AP Tryz.prog 132 [.agg (bnC b)] (.bool (Zk8 b)) []:=by
 have hF:=ZjT b 10 hb.len (fun c hc=>Nat.le_trans (hb.bl c hc).2 (by omega))
 have hbl:=hb.bl
 unfold Zk8
 cases hf:b.bl.find? (ZfL 10) with
 | none=>
  rw[hf]at hF
  have hH:=ZhZ bk0 (by decide)
  dsimp only[ZgM]at hF ⊢
  clear hb hbl hf
  generalize ZlY bk0=L0 at *
  generalize Zoa bk0=N0 at *
  generalize ZfR bk0 10=e at *
  obtain⟨⟨fl,sum,⟨di,dn,ds,dh,dd⟩,⟨ri,rn,rs,rh,rd⟩,⟨xi,xn,xs,xh,xd⟩,t,q,life⟩,bl⟩:=b
  refine AP.ofA (Zam Tryz.func132 U Tryz.ntmps132 U U ?_)
  repeat'(first|(apply Zaa (hF);kernel_rfl;(iterate 4 exact U))|(apply Zaa (hH);kernel_rfl;(iterate 4 exact U))|(apply Zai Zab;exact U)|(apply Zag Zab;exact U)|refine Zap U U U Qt ?_|refine Zah U Qt U U ?_)
  all_goals exact Qe
 | some c=>
  rw[hf]at hF
  have hH:=ZhZ c (Nat.le_trans (hbl c (List.mem_of_find?_eq_some hf)).2 (by omega))
  dsimp only[ZgM]at hF ⊢
  clear hb hbl hf
  generalize ZlY c=L0 at *
  generalize Zoa c=N0 at *
  generalize ZfR c 10=e at *
  obtain⟨cty,cnum,cfl,csum,cdata⟩:=c
  obtain⟨⟨fl,sum,⟨di,dn,ds,dh,dd⟩,⟨ri,rn,rs,rh,rd⟩,⟨xi,xn,xs,xh,xd⟩,t,q,life⟩,bl⟩:=b
  cases t1:(e==0)
  all_goals
   refine AP.ofA (Zam Tryz.func132 U Tryz.ntmps132 U U ?_)
   repeat'(first|(apply Zaa (hF);kernel_rfl;(iterate 4 exact U))|(apply Zaa (hH);kernel_rfl;(iterate 4 exact U))|(apply Zai Zab;exact U)|(apply Zag Zab;exact U)|refine Zae U U U Qt ?_|refine Zap U U U Qt ?_|refine Zak U Qt U U ?_|refine Zah U Qt U U ?_)
   all_goals exact Qe
def ZfM (a b:Int):Nat:=(IntKind.u64.wrap (a+b)).toNat
theorem Zk9 (a b:Int):IntKind.u64.wrap (a+b)=((ZfM a b:Nat):Int):=by
 unfold ZfM
 have h:0<=IntKind.u64.wrap (a+b):=by simp only[IntKind.wrap,IntKind.signed,IntKind.bits];simp;omega
 omega
theorem Zla (a b:Int):ZfM a b<18446744073709551616:=by
 unfold ZfM
 have h:IntKind.u64.wrap (a+b)<18446744073709551616:=by simp only[IntKind.wrap,IntKind.signed,IntKind.bits];simp;omega
 omega
def Zoc (c:BlkV)(self:EidV):BlkV × Int:=ofV 6 c.num c.sum (if ZaH self then Zbg self else .mk 0 0 [] []) (if ZaH self then 0 else 3)
def Zrd (r:BlkV × Int)(fl:Nat):BlkV × Bool:=(⟨r.1.ty,r.1.num,fl,r.1.sum,r.1.data⟩,r.2==0)
def Zeb (c:BlkV)(self:EidV)(here:Int):BlkV × Bool:=match((c.ty:Int)==6) with
 | true=>Zrd (Zoc c self) c.fl
 | false=>match((c.ty:Int)==7) with
  | true=>Zrd (ofV 7 c.num c.sum (.mk 0 (ZfM (Zjg c:Int) here) [] []) 0) c.fl
  | false=>match((c.ty:Int)==10) with
   | true=>Zrd (ofV 10 c.num c.sum (Zje (ZlY c) (ZfM (Zoa c:Int) 1)) 0) c.fl
   | false=>(c,true)
abbrev chD (r:BlkV × Bool):D:=.tup [.agg (bkC r.1),.bool r.2]
theorem Zhq [Known][KnownU8](c:BlkV)(self:EidV)(here:Int)(hd:c.data.length<=100000)(hL:ZlY c<18446744073709551616):AP Tryz.prog 133 [.agg (bkC c),.agg (eC self),.int .u64 here] (chD (Zeb c self here)) []:=by
 have hP:AP Tryz.prog 42 [.int .u64 (c.num:Int),.int .i64 c.sum,.agg (eC self)] (ZqN (Zoc c self)) []:=Zi7 c.num c.sum self
 have hA:AP Tryz.prog 35 [.agg (bkC c)] (.tup [.int .u64 (Zjg c:Int),.int .i64 (ZfR c 7)]) []:=by
  unfold Zjg
  exact ZkK c hd
 have hH:=ZhZ c hd
 have hOA:=Zo6 c.num c.sum (ZfM (Zjg c:Int) here) (Zla _ _)
 have hOH:=Znl c.num c.sum (ZlY c) (ZfM (Zoa c:Int) 1) hL (Zla _ _)
 have hC:=ZdT c.data (by omega)
 have e1:=Zk9 (Zjg c:Int) here
 have e2:=Zk9 (Zoa c:Int) 1
 unfold Zeb
 generalize Zoc c self=r1 at *
 generalize ZfM (Zjg c:Int) here=a1 at *
 generalize ZfM (Zoa c:Int) 1=a2 at *
 generalize ofV 7 c.num c.sum (.mk 0 a1 [] []) 0=r2 at *
 generalize ofV 10 c.num c.sum (Zje (ZlY c) a2) 0=r3 at *
 clear hL hd
 generalize ZlY c=L0 at *
 generalize Zoa c=N0 at *
 generalize Zjg c=A0 at *
 generalize ZfR c 7=k7 at *
 generalize ZfR c 10=k10 at *
 obtain⟨⟨p1,p2,p3,p4,p5⟩,p6⟩:=r1
 obtain⟨⟨q1,q2,q3,q4,q5⟩,q6⟩:=r2
 obtain⟨⟨s1,s2,s3,s4,s5⟩,s6⟩:=r3
 obtain⟨si,sn,ss,sh,sd⟩:=self
 obtain⟨cty,cnum,cfl,csum,cdata⟩:=c
 dsimp only at *
 cases t1:((cty:Int)==6) with
 | true=>
  refine AP.ofA (Zam Tryz.func133 U Tryz.ntmps133 U U ?_)
  repeat'(first|(apply Zaa (hP);kernel_rfl;(iterate 4 exact U))|(apply Zai Zab;exact U)|(apply Zag Zab;exact U)|refine Zad U Qt ?_)
  all_goals exact Qe
 | false=>
 cases t2:((cty:Int)==7) with
 | true=>
  refine AP.ofA (Zam Tryz.func133 U Tryz.ntmps133 U U ?_)
  repeat'(first|rw[e1]|(apply Zaa (hA);kernel_rfl;(iterate 4 exact U))|(apply Zaa (hOA);kernel_rfl;(iterate 4 exact U))|(apply Zai Zab;exact U)|(apply Zag Zab;exact U)|refine Zad U Qt ?_|refine Zaf U Qt ?_)
  all_goals exact Qe
 | false=>
 cases t3:((cty:Int)==10) with
 | true=>
  refine AP.ofA (Zam Tryz.func133 U Tryz.ntmps133 U U ?_)
  repeat'(first|rw[e2]|(apply Zaa (hH);kernel_rfl;(iterate 4 exact U))|(apply Zaa (hOH);kernel_rfl;(iterate 4 exact U))|(apply Zai Zab;exact U)|(apply Zag Zab;exact U)|refine Zad U Qt ?_|refine Zaf U Qt ?_)
  all_goals exact Qe
 | false=>
  refine AP.ofA (Zam Tryz.func133 U Tryz.ntmps133 U U ?_)
  repeat'(first|(apply Zaa (hC);kernel_rfl;(iterate 4 exact U))|(apply Zai Zab;exact U)|(apply Zag Zab;exact U)|refine Zaf U Qt ?_)
  all_goals exact Qe
theorem ZpB {l:List BlkV}{i n:Nat}{c:BlkV}(hc:l[i]?=some c):(!(l.take (i+1)).any (ZfT n))=((!(l.take i).any (ZfT n))&&((c.num:Int) != (n:Int))):=by
 rw[List.take_add_one,hc,List.any_append]
 simp[ZfT,bne]
theorem ZlZ [Known](b:BunV)(hb:BunOk b):AP Tryz.prog 77 [.agg (bnC b)] (.int .u64 (ZlX b.bl:Int)) []:=by
 have hl:=hb.len
 have hlen:=Zb5 b.bl
 have hUb:=ZgW b.bl
 clear hb
 obtain⟨⟨fl,sum,⟨di,dn,ds,dh,dd⟩,⟨ri,rn,rs,rh,rd⟩,⟨xi,xn,xs,xh,xd⟩,t,q,life⟩,bl⟩:=b
 try dsimp only at *
 generalize hR:ZlX bl=R
 refine AP.ofA (Zam Tryz.func77 U Tryz.ntmps77 U U ?_)
 repeat'(first|(apply Zag Zab;exact U))
 refine ZaB (fun f tm bx fr=>∃(n:Nat),bl.countP (fun c=>decide (n<=c.num))<=f/\f+n<=bl.length+2/\Zp0 bl f n=R/\tm=[(1,.ptr 0 0),(3,.int .u64 (n:Int))]/\bx=[bnS ⟨fl,sum,⟨di,dn,ds,dh,dd⟩,⟨ri,rn,rs,rh,rd⟩,⟨xi,xn,xs,xh,xd⟩,t,q,life⟩ (.sl .ext (Zbj bl))]/\fr=[]) (bl.length+1) (Lands.mk' (m:=bl.length) (Nat.lt_succ_self _) ⟨2,List.countP_le_length,by omega,hR,rfl,rfl,rfl⟩ ?_ rfl rfl rfl rfl rfl rfl) ?_
 ·exact .cons rfl (.cons rfl .nil)
 rintro f tm bx fr ⟨n,hcnt,hfn,hq,rfl,rfl,rfl⟩
 have en:IntKind.u64.wrap ((n:Int)+1)=((n+1:Nat):Int):=by rw[IntWalk.u64_in _ (by omega)];omega
 repeat'(first|(apply Zag Zab;exact U))
 refine ZaB (fun f2 tm bx fr=>∃(i:Nat),f2+i=bl.length/\tm=[(1,.ptr 0 0),(3,.int .u64 (n:Int)),(4,.bool (!(bl.take i).any (ZfT n))),(5,.int .i64 (i:Int))]/\bx=[bnS ⟨fl,sum,⟨di,dn,ds,dh,dd⟩,⟨ri,rn,rs,rh,rd⟩,⟨xi,xn,xs,xh,xd⟩,t,q,life⟩ (.sl .ext (Zbj bl))]/\fr=[]) (bl.length+1) (Lands.mk' (m:=bl.length) (Nat.lt_succ_self _) ⟨0,by omega,rfl,rfl,rfl⟩ ?_ rfl rfl rfl rfl rfl rfl) ?_
 ·exact .cons rfl (.cons rfl (.cons rfl (.cons rfl .nil)))
 rintro f2 tm bx fr ⟨i,hi,rfl,rfl,rfl⟩
 rcases Nat.lt_or_ge i bl.length with hlt|hge
 ·have hdl:decide ((i:Int)<((Zbj bl).length:Int))=true:=decide_eq_true (by omega)
  obtain⟨y,hy⟩:∃ y,bl[i]?=some y:=⟨_,List.getElem?_eq_getElem hlt⟩
  have hv:=Zcc hy
  have ei:IntKind.i64.wrap ((i:Int)+1)=((i+1:Nat):Int):=by rw[IntWalk.i64_in _ (by omega)];omega
  have ha:=ZpB (n:=n) hy
  have key:∀ v:Bool,v=(!(bl.take (i+1)).any (ZfT n))->∃(j:Nat),f2-1+j=bl.length/\[(1,D.ptr 0 0),(3,.int .u64 (n:Int)),(4,.bool v),(5,.int .i64 ((i+1:Nat):Int))]=[(1,.ptr 0 0),(3,.int .u64 (n:Int)),(4,.bool (!(bl.take j).any (ZfT n))),(5,.int .i64 (j:Int))]/\[bnS ⟨fl,sum,⟨di,dn,ds,dh,dd⟩,⟨ri,rn,rs,rh,rd⟩,⟨xi,xn,xs,xh,xd⟩,t,q,life⟩ (.sl .ext (Zbj bl))]=[bnS ⟨fl,sum,⟨di,dn,ds,dh,dd⟩,⟨ri,rn,rs,rh,rd⟩,⟨xi,xn,xs,xh,xd⟩,t,q,life⟩ (.sl .ext (Zbj bl))]/\([]:List Fr)=[]:=fun v hv=>⟨i+1,by omega,by rw[hv],rfl,rfl⟩
  generalize (!(bl.take i).any (ZfT n))=r at *
  cases r with
  | true=>
   rw[Bool.true_and]at ha
   repeat'(first|rw[ei]|(apply Zai Zab;exact U)|(apply Zag Zab;exact U)|(apply Zau Zab;exact U)|(apply Zae;(iterate 3 exact U);(first|with_reducible assumption|decide +kernel|(solve|simp only[bn])))|(apply Zak;exact U;(first|with_reducible assumption|decide +kernel|(solve|simp only[bn]));exact U;exact U)|(apply Zad;exact U;(first|with_reducible assumption|decide +kernel|(solve|simp only[bn])))|refine Zan Zab U U U U ?_|(apply Zat Zab;(iterate 6 exact U);(first|exact Qt|rotate_left);(first|with_reducible assumption|decide +kernel|exact U);(first|exact Zaj rfl|with_reducible assumption|decide +kernel|rotate_left)))
   refine Lands.mk' (m:=f2-1) (by omega) (key _ ha.symm) ?_ rfl rfl rfl rfl rfl rfl
   exact .cons rfl (.cons rfl (.cons rfl (.cons rfl .nil)))
  | false=>
   rw[Bool.false_and]at ha
   repeat'(first|rw[ei]|(apply Zai Zab;exact U)|(apply Zag Zab;exact U)|(apply Zau Zab;exact U)|(apply Zap;(iterate 3 exact U);(first|with_reducible assumption|decide +kernel|(solve|simp only[bn])))|(apply Zah;exact U;(first|with_reducible assumption|decide +kernel|(solve|simp only[bn]));exact U;exact U)|(apply Zad;exact U;(first|with_reducible assumption|decide +kernel|(solve|simp only[bn])))|refine Zan Zab U U U U ?_)
   refine Lands.mk' (m:=f2-1) (by omega) (key _ ha.symm) ?_ rfl rfl rfl rfl rfl rfl
   exact .cons rfl (.cons rfl (.cons rfl (.cons rfl .nil)))
 ·have hdl:decide ((i:Int)<((Zbj bl).length:Int))=false:=decide_eq_false (by omega)
  rw[List.take_of_length_le hge]
  cases ha:bl.any (ZfT n) with
  | true=>
   have hup:=Zk7 ha
   obtain⟨f',rfl⟩:∃ f',f=f'+1:=⟨f-1,by omega⟩
   rw[Zp0,ha]at hq
   dsimp only at hq
   repeat'(first|rw[en]|(apply Zai Zab;exact U)|(apply Zag Zab;exact U)|(apply Zau Zab;exact U)|(apply Zaf;exact U;(first|with_reducible assumption|decide +kernel|(solve|simp only[bn])))|refine Za9 ?_|refine Zan Zab U U U U ?_)
   refine Lands.mk' (m:=f') (by omega) ⟨n+1,by omega,by omega,hq,rfl,rfl,rfl⟩ ?_ rfl rfl rfl rfl rfl rfl
   exact .cons rfl (.cons rfl .nil)
  | false=>
   have hq:n=R:=by
    cases f with
    | zero=>exact hq
    | succ f=>rw[Zp0,ha]at hq;exact hq
   subst hq
   repeat'(first|(apply Zai Zab;exact U)|(apply Zag Zab;exact U)|(apply Zau Zab;exact U)|(apply Zad;exact U;(first|with_reducible assumption|decide +kernel|(solve|simp only[bn])))|(apply Zaf;exact U;(first|with_reducible assumption|decide +kernel|(solve|simp only[bn])))|refine Zan Zab U U U U ?_)
   all_goals exact Qe
theorem Zre [Known][KnownU8](b:BunV)(hb:BunOk b)(hd:Fit b.p.dest)(hr:Fit b.p.rep)(hs:Fit b.p.src)(since now:Int):AP Tryz.prog 129 [.agg (bnC b),.int .u64 since,.int .u64 now] (.int .i64 (ZgP b since now)) []:=by
 have hW:=ZlV b hb hd hr hs
 have h2:(Zep b).2=Zbw b:=by
  unfold Zep
  cases Zbw b<;>rfl
 rw[h2]at hW
 unfold ZgP
 clear hb hd hr hs h2
 generalize (Zep b).1=w at *
 generalize Zbw b=r at *
 obtain⟨⟨fl,sum,⟨di,dn,ds,dh,dd⟩,⟨ri,rn,rs,rh,rd⟩,⟨xi,xn,xs,xh,xd⟩,t,q,life⟩,bl⟩:=b
 try dsimp only at *
 cases r<;>cases t1:decide (since>now)<;>cases t2:decide (now>1099511627776)
 all_goals
  refine AP.ofA (Zam Tryz.func129 U Tryz.ntmps129 U U ?_)
  repeat'(first|(apply Zaa (hW);kernel_rfl;(iterate 4 exact U))|(apply Zai Zab;exact U)|(apply Zag Zab;exact U)|(apply Zau Zab;exact U)|(apply Zae;(iterate 3 exact U);(first|with_reducible assumption|decide +kernel|(solve|simp only[bn])))|(apply Zal;(iterate 3 exact U);(first|with_reducible assumption|decide +kernel|(solve|simp only[bn])))|(apply Zak;exact U;(first|with_reducible assumption|decide +kernel|(solve|simp only[bn]));exact U;exact U)|(apply Zah;exact U;(first|with_reducible assumption|decide +kernel|(solve|simp only[bn]));exact U;exact U)|(apply Zad;exact U;(first|with_reducible assumption|decide +kernel|(solve|simp only[bn])))|(apply Zaf;exact U;(first|with_reducible assumption|decide +kernel|(solve|simp only[bn]))))
  all_goals exact Qe
def atD (b:BunV)(since now:Int):Int:=match((b.p.t:Int)==0) with
 | false=>now
 | true=>match b.bl.find? (ZfL 7) with
  | none=>IntKind.u64.wrap (now-since)
  | some c=>IntKind.u64.wrap (IntKind.u64.wrap (now-since)+(Zrp c.data:Int))
def Zi8 (b:BunV)(since now:Int):Int × Int:=match ZgP b since now != 0 with
 | true=>(0,ZgP b since now)
 | false=>match decide (atD b since now ≥ IntKind.u64.wrap ((b.p.t:Int)+(b.p.life:Int))) with
  | true=>(0,ZgP b since now)
  | false=>(IntKind.u64.wrap (IntKind.u64.wrap ((b.p.t:Int)+(b.p.life:Int))-atD b since now),ZgP b since now)
theorem ZpC [Known][KnownU8](b:BunV)(hb:BunOk b)(hd:Fit b.p.dest)(hr:Fit b.p.rep)(hs:Fit b.p.src)(since now:Int):AP Tryz.prog 74 [.agg (bnC b),.int .u64 since,.int .u64 now] (.tup [.int .u64 (Zi8 b since now).1,.int .i64 (Zi8 b since now).2]) []:=by
 have hA:=Zre b hb hd hr hs since now
 have hF:AP Tryz.prog 68 [.agg (bnC b),.int .u64 7] (.int .i64 (fiQ (ZfL 7) b.bl 0)) []:=Zn3 b 7 hb.len
 have hq:=ZfS (ZfL 7) b.bl 0
 have hlen:=Zb5 b.bl
 have hUb:=ZgW b.bl
 have hbl:=hb.bl
 unfold Zi8
 generalize ZgP b since now=e at *
 cases t1:(e != 0) with
 | true=>
  clear hq
  obtain⟨⟨fl,sum,⟨di,dn,ds,dh,dd⟩,⟨ri,rn,rs,rh,rd⟩,⟨xi,xn,xs,xh,xd⟩,t,q,life⟩,bl⟩:=b
  try dsimp only at *
  refine AP.ofA (Zam Tryz.func74 U Tryz.ntmps74 U U ?_)
  repeat'(first|(apply Zaa (hA);kernel_rfl;(iterate 4 exact U))|(apply Zai Zab;exact U)|(apply Zag Zab;exact U)|(apply Zau Zab;exact U)|(apply Zad;exact U;(first|with_reducible assumption|decide +kernel|(solve|simp only[bn]))))
  all_goals exact Qe
 | false=>
 dsimp only
 unfold atD
 cases t2:((b.p.t:Int)==0) with
 | false=>
  dsimp only
  clear hq
  cases t3:decide (now ≥ IntKind.u64.wrap ((b.p.t:Int)+(b.p.life:Int)))
  all_goals
   obtain⟨⟨fl,sum,⟨di,dn,ds,dh,dd⟩,⟨ri,rn,rs,rh,rd⟩,⟨xi,xn,xs,xh,xd⟩,t,q,life⟩,bl⟩:=b
   try dsimp only at *
   refine AP.ofA (Zam Tryz.func74 U Tryz.ntmps74 U U ?_)
   repeat'(first|(apply Zaa (hA);kernel_rfl;(iterate 4 exact U))|(apply Zai Zab;exact U)|(apply Zag Zab;exact U)|(apply Zau Zab;exact U)|(apply Zad;exact U;(first|with_reducible assumption|decide +kernel|(solve|simp only[bn])))|(apply Zaf;exact U;(first|with_reducible assumption|decide +kernel|(solve|simp only[bn]))))
   all_goals exact Qe
 | true=>
  cases hf:b.bl.find? (ZfL 7) with
  | none=>
   rw[hf]at hq
   have hq:fiQ (ZfL 7) b.bl 0 = -1:=hq
   rw[hq]at hF
   dsimp only
   cases t3:decide (IntKind.u64.wrap (now-since) ≥ IntKind.u64.wrap ((b.p.t:Int)+(b.p.life:Int)))
   all_goals
    obtain⟨⟨fl,sum,⟨di,dn,ds,dh,dd⟩,⟨ri,rn,rs,rh,rd⟩,⟨xi,xn,xs,xh,xd⟩,t,q,life⟩,bl⟩:=b
    try dsimp only at *
    refine AP.ofA (Zam Tryz.func74 U Tryz.ntmps74 U U ?_)
    repeat'(first|(apply Zaa (hA);kernel_rfl;(iterate 4 exact U))|(apply Zaa (hF);kernel_rfl;(iterate 4 exact U))|(apply Zai Zab;exact U)|(apply Zag Zab;exact U)|(apply Zau Zab;exact U)|(apply Zad;exact U;(first|with_reducible assumption|decide +kernel|(solve|simp only[bn])))|(apply Zaf;exact U;(first|with_reducible assumption|decide +kernel|(solve|simp only[bn]))))
    all_goals exact Qe
  | some c=>
   rw[hf]at hq
   obtain⟨j,hj,hc⟩:=hq
   rw[hj]at hF
   have hv:=Zcc hc
   have hG:=ZnS c.data (Nat.le_trans (hbl c (List.mem_of_getElem? hc)).2 (by omega))
   have tj:decide (((0+j:Nat):Int) ≥ 0)=true:=decide_eq_true (by omega)
   rw[Nat.zero_add]at hF tj
   generalize (Zh4 c.data).2=ok at *
   dsimp only
   cases t3:decide (IntKind.u64.wrap (IntKind.u64.wrap (now-since)+(Zrp c.data:Int)) ≥ IntKind.u64.wrap ((b.p.t:Int)+(b.p.life:Int)))
   all_goals
    obtain⟨⟨fl,sum,⟨di,dn,ds,dh,dd⟩,⟨ri,rn,rs,rh,rd⟩,⟨xi,xn,xs,xh,xd⟩,t,q,life⟩,bl⟩:=b
    try dsimp only at *
    refine AP.ofA (Zam Tryz.func74 U Tryz.ntmps74 U U ?_)
    repeat'(first|(apply Zaa (hA);kernel_rfl;(iterate 4 exact U))|(apply Zaa (hF);kernel_rfl;(iterate 4 exact U))|(apply Zaa (hG);kernel_rfl;(iterate 4 exact U))|(apply Zai Zab;exact U)|(apply Zag Zab;exact U)|(apply Zau Zab;exact U)|(apply Zad;exact U;(first|with_reducible assumption|decide +kernel|(solve|simp only[bn])))|(apply Zaf;exact U;(first|with_reducible assumption|decide +kernel|(solve|simp only[bn])))|(apply Zat Zab;(iterate 6 exact U);(first|exact Qt|rotate_left);(first|with_reducible assumption|decide +kernel|exact U);(first|exact Zaj rfl|with_reducible assumption|decide +kernel|rotate_left)))
    all_goals exact Qe
abbrev zE (x:EidV):Bool:=(x.i==false)&&(((x.n:Int)==0)&&(((x.s:Int)==0)&&((x.h==[])&&((x.d==[])&&true))))
def onC (self:EidV)(here:Int):List BlkV->List BlkV->Option (List BlkV)
 | acc,[]=>some acc
 | acc,c::r=>match(Zeb c self here).2 with
  | false=>none
  | true=>onC self here (acc++[(Zeb c self here).1]) r
def Zsl (b:BunV)(self:EidV):BlkV:=(ofV 6 (ZlX b.bl) 0 (if ZaH self then Zbg self else .mk 0 0 [] []) (if ZaH self then 0 else 3)).1
def Zsm (b:BunV)(self:EidV):List BlkV:=match b.bl.find? (ZfL 6) with
 | some _=>[]
 | none=>[Zsl b self]
def ZjW (p:PriV):Option (List BlkV)->BunV × Int
 | none=>(bn0,3)
 | some l=>match Zbw ⟨p,l⟩ with
  | true=>(⟨p,l⟩,0)
  | false=>(bn0,3)
def onH (b:BunV)(self:EidV)(since now:Int):BunV × Int:=match(ZgP b since now==3)||(!ZaH self||zE self) with
 | true=>(bn0,3)
 | false=>match ZgP b since now != 0 with
  | true=>(bn0,ZgP b since now)
  | false=>match ZjV b since now with
   | true=>(bn0,18)
   | false=>match Zk8 b with
    | true=>(bn0,19)
    | false=>ZjW b.p (onC self (IntKind.u64.wrap (now-since)) (Zsm b self) b.bl)
theorem Zod {c:BlkV}(hd:c.data.length<=100000):ZlY c<18446744073709551616:=by
 unfold ZlY
 split
 ·decide
 ·have hw:=Zo5 c.data hd
  unfold Zdk
  generalize (Zbu c.data 0).1=x at *
  unfold ZiK
  repeat'(first|split|(dsimp only))
  all_goals first|decide|skip
  all_goals first|exact Zs6 (by simp_all [wfI,wfs])|simp_all [wfI,wfs]
def Zoe (c:BlkV):Prop:=c.fl<18446744073709551616/\c.data.length<=3000
theorem ZfW {kind ZaK:Nat}{sum:Int}{x:It}{e:Int}(hx:(ZaZ x).length<=3000):(ofV kind ZaK sum x e).1.data.length<=3000:=by
 rcases ZpU (kind:=kind) (ZaK:=ZaK) (sum:=sum) (x:=x) (e:=e) with h|h
 ·obtain⟨_,_,_,hp⟩:=Znp (p:=(ofV kind ZaK sum x e).1) (Prod.ext rfl h)
  rw[hp];exact hx
 ·rw[h];decide
theorem Ztk {kind ZaK:Nat}{sum:Int}{x:It}{e:Int}:(ofV kind ZaK sum x e).1.fl=0:=by
 rcases ZpU (kind:=kind) (ZaK:=ZaK) (sum:=sum) (x:=x) (e:=e) with h|h
 ·obtain⟨_,_,_,hp⟩:=Znp (p:=(ofV kind ZaK sum x e).1) (Prod.ext rfl h)
  rw[hp]
 ·rw[h];rfl
theorem Zhr (x:EidV):(ZaZ (if ZaH x then Zbg x else .mk 0 0 [] [])).length<=3000:=by
 cases h:ZaH x with
 | false=>
  show(ZaZ (.mk 0 0 [] [])).length<=3000
  decide +kernel
 | true=>
  show(ZaZ (Zbg x)).length<=3000
  have:=ZcH h
  omega
theorem Zi9 {c:BlkV}(self:EidV)(here:Int)(h:Zoe c):Zoe (Zeb c self here).1:=by
 unfold Zeb
 split
 ·exact⟨h.1,ZfW (Zhr self)⟩
 ·split
  ·exact⟨h.1,ZfW (by have:=Zbs (ZfM (Zjg c:Int) here);omega)⟩
  ·split
   ·exact⟨h.1,ZfW (by have:=Zd3 (ZlY c) (ZfM (Zoa c:Int) 1);omega)⟩
   ·exact h
theorem Zsn (b:BunV)(self:EidV):Zoe (Zsl b self):=⟨by unfold Zsl;rw[Ztk];decide,ZfW (Zhr self)⟩
abbrev onD (r:BunV × Int):D:=.tup [.agg (bnC r.1),.int .i64 r.2]
end Go.Proofs.YtakblclkflnnpaaGreatDoor
end

/- Package canon: blocks made, and what they say. -/
import Derived.Test.YtakblclkflnnpaaGreatDoorM36
import Derived.Test.YtakblclkflnnpaaGreatDoorM23
import Derived.Test.YtakblclkflnnpaaGreatDoorM32
set_option linter.unusedVariables false
set_option linter.unusedSimpArgs false
section
open Go.RowKit Go.Pl Go.Av
namespace Go.Proofs.YtakblclkflnnpaaGreatDoor
set_option maxHeartbeats 4000000
def bk0:BlkV:=⟨0,0,0,0,[]⟩
abbrev ZnK (r:BlkV × Int):D:=.tup [.agg (bkC r.1),.int .i64 r.2]
def ofV (kind Zar:Nat)(sum:Int)(x:It)(e:Int):BlkV × Int:=match e != 0 with
 | true=>(bk0,3)
 | false=>match ZaM x with
  | false=>(bk0,3)
  | true=>match Zbg ⟨kind,Zar,0,sum,Za6 x⟩ with
   | true=>(⟨kind,Zar,0,sum,Za6 x⟩,0)
   | false=>(bk0,3)
theorem ZnL [Known][KnownU8](kind Zar:Nat)(sum:Int)(x:It)(e:Int)(hw:wfI x)(hx:(Za6 x).length<=100000):AP Tryz.prog 108 [.int .u64 (kind:Int),.int .u64 (Zar:Int),.int .i64 sum,itD x,.int .i64 e] (ZnK (ofV kind Zar sum x e)) []:=by
 have hW:=Zg4 x hw (by omega) (Zb5 x hw)
 have hR:=Zeb ⟨kind,Zar,0,sum,Za6 x⟩ hx
 have hR0:=Zeb ⟨kind,Zar,0,sum,[]⟩ (by simp)
 unfold ofV
 cases te:(e != 0) with
 | true=>
  dsimp only[bk0]
  cases hr:ZaM x<;>rw[hr]at hW
  all_goals
   obtain⟨k,n,b,l⟩:=x
   refine AP.ofA ?_
   refine Zan Tryz.func108 rfl Tryz.ntmps108 rfl rfl ?_
   repeat'(first|(apply Zaa (hW);kernel_rfl;(iterate 4 exact Z))|(apply Zai Zab;exact Z)|(apply Zah Zab;exact Z)|(apply Zaw Zab;exact Z)|(apply Zal;(iterate 3 exact Z);exact Go.Zqy)|(apply Zaj;exact Z;exact Go.Zqy;exact Z;exact Z)|(apply Zac;exact Z;exact Go.Zqy))
   all_goals(apply Zaz [];(apply Zad Zab;exact Z);(iterate 4 exact Z))
   all_goals rfl
 | false=>
 cases hr:ZaM x with
 | false=>
  rw[hr]at hW
  replace hW:AP Tryz.prog 112 [itD x] (.tup [.sl .ext [],.int .i64 3]) []:=hW
  obtain⟨k,n,b,l⟩:=x
  dsimp only[bk0]
  refine AP.ofA ?_
  refine Zan Tryz.func108 rfl Tryz.ntmps108 rfl rfl ?_
  repeat'(first|(apply Zaa (hW);kernel_rfl;(iterate 4 exact Z))|(apply Zai Zab;exact Z)|(apply Zah Zab;exact Z)|(apply Zaw Zab;exact Z)|(apply Zae;(iterate 3 exact Z);exact Go.Zqy)|(apply Zal;(iterate 3 exact Z);exact Go.Zqy)|(apply Zaj;exact Z;exact Go.Zqy;exact Z;exact Z)|(apply Zag;exact Z;exact Go.Zqy;exact Z;exact Z)|(apply Zac;exact Z;exact Go.Zqy))
  all_goals(apply Zaz [];(apply Zad Zab;exact Z);(iterate 4 exact Z))
  all_goals rfl
 | true=>
  rw[hr]at hW
  replace hW:AP Tryz.prog 112 [itD x] (.tup [byE (Za6 x),.int .i64 0]) []:=hW
  generalize Za6 x=P at *
  obtain⟨k,n,b,l⟩:=x
  dsimp only
  cases hb1:Zbg ⟨kind,Zar,0,sum,P⟩
  all_goals
   rw[hb1]at hR
   dsimp only[bk0]
   refine AP.ofA ?_
   refine Zan Tryz.func108 rfl Tryz.ntmps108 rfl rfl ?_
   repeat'(first|(apply Zaa (hW);kernel_rfl;(iterate 4 exact Z))|(apply Zaa (hR);kernel_rfl;(iterate 4 exact Z))|(apply Zai Zab;exact Z)|(apply Zah Zab;exact Z)|(apply Zaw Zab;exact Z)|(apply Zae;(iterate 3 exact Z);exact Go.Zqy)|(apply Zag;exact Z;exact Go.Zqy;exact Z;exact Z)|(apply Zac;exact Z;exact Go.Zqy)|(apply Zaf;exact Z;exact Go.Zqy))
   all_goals(apply Zaz [];(apply Zad Zab;exact Z);(iterate 4 exact Z))
   all_goals rfl
theorem Zi9 [Known][KnownU8](Zar:Nat)(sum:Int)(age:Nat)(ha:age<18446744073709551616):AP Tryz.prog 43 [.int .u64 (Zar:Int),.int .i64 sum,.int .u64 (age:Int)] (ZnK (ofV 7 Zar sum (.mk 0 age [] []) 0)) []:=by
 have hw:wfI (.mk 0 age [] []):=⟨ha,by simp,by simp,trivial⟩
 have hl:=(ZeS (.mk 0 age [] []) 1 300 (by omega) (by simp[ZbE,Zb6]) ⟨ha,trivial⟩).2.1
 have hg:ZbE (.mk 0 age [] []) 1 300=299:=by simp[ZbE,Zb6]
 have hO:=ZnL 7 Zar sum (.mk 0 age [] []) 0 hw (by omega)
 have hN:=Zch age
 clear hl hg
 generalize ofV 7 Zar sum (.mk 0 age [] []) 0=r at *
 obtain⟨⟨a,b,c,d,f⟩,e⟩:=r
 refine AP.ofA ?_
 refine Zan Tryz.func43 rfl Tryz.ntmps43 rfl rfl ?_
 repeat'(first|(apply Zaa (hN);kernel_rfl;(iterate 4 exact Z))|(apply Zaa (hO);kernel_rfl;(iterate 4 exact Z))|(apply Zai Zab;exact Z)|(apply Zah Zab;exact Z))
 all_goals(apply Zaz [];(apply Zad Zab;exact Z);(iterate 4 exact Z))
 all_goals rfl
abbrev Zfx (n m:Nat):It:=.mk 4 0 [] [.mk 0 n [] [],.mk 0 m [] []]
theorem Zfy [Known][KnownU8](Zar:Nat)(sum:Int)(n m:Nat)(hn:n<18446744073709551616)(hm:m<18446744073709551616):AP Tryz.prog 44 [.int .u64 (Zar:Int),.int .i64 sum,.int .u64 (n:Int),.int .u64 (m:Int)] (ZnK (ofV 10 Zar sum (Zfx n m) 0)) []:=by
 have hw:wfI (Zfx n m):=⟨by decide,by simp,by simp,⟨hn,by simp,by simp,trivial⟩,⟨hm,by simp,by simp,trivial⟩,trivial⟩
 have hg:ZbE (Zfx n m) 1 300=297:=by simp[ZbE,Zb6]
 have hl:=(ZeS (Zfx n m) 1 300 (by omega) (by omega) ⟨by decide,⟨hn,trivial⟩,⟨hm,trivial⟩,trivial⟩).2.1
 have hO:=ZnL 10 Zar sum (Zfx n m) 0 hw (by omega)
 have hN:=Zfq n m
 clear hl hg
 replace hO:AP Tryz.prog 108 [.int .u64 10,.int .u64 (Zar:Int),.int .i64 sum,.agg [.int .i64 4,.int .u64 0,.sl .ext [],.sl .ext [nmE n,nmE m]],.int .i64 0] (ZnK (ofV 10 Zar sum (Zfx n m) 0)) []:=hO
 generalize ofV 10 Zar sum (Zfx n m) 0=r at *
 obtain⟨⟨a,b,c,d,f⟩,e⟩:=r
 refine AP.ofA ?_
 refine Zan Tryz.func44 rfl Tryz.ntmps44 rfl rfl ?_
 repeat'(first|(apply Zaa (hN);kernel_rfl;(iterate 4 exact Z))|(apply Zaa (hO);kernel_rfl;(iterate 4 exact Z))|(apply Zai Zab;exact Z)|(apply Zah Zab;exact Z)|(apply ZaR Zab;(iterate 12 exact Z)))
 all_goals(apply Zaz [];(apply Zad Zab;exact Z);(iterate 4 exact Z))
 all_goals rfl
def ZjI (b:BlkV)(kind:Nat):Int:=match((b.ty:Int) != (kind:Int)) with
 | true=>4
 | false=>match Zbg b with
  | false=>3
  | true=>0
theorem ZmE [Known][KnownU8](b:BlkV)(kind:Nat)(hd:b.data.length<=100000):AP Tryz.prog 102 [.agg (bkC b),.int .u64 (kind:Int)] (.int .i64 (ZjI b kind)) []:=by
 have hR:=Zeb b hd
 unfold ZjI
 cases t1:((b.ty:Int) != (kind:Int)) with
 | true=>
  obtain⟨ty,num,fl,sum,data⟩:=b
  dsimp only at t1
  refine AP.ofA ?_
  refine Zan Tryz.func102 rfl Tryz.ntmps102 rfl rfl ?_
  repeat'(first|(apply Zah Zab;exact Z)|(apply Zaw Zab;exact Z)|(apply Zac;exact Z;exact Go.Zqy))
  all_goals(apply Zaz [];(apply Zad Zab;exact Z);(iterate 4 exact Z))
  all_goals rfl
 | false=>
  cases hr:Zbg b<;>rw[hr]at hR
  all_goals
   obtain⟨ty,num,fl,sum,data⟩:=b
   dsimp only at t1
   refine AP.ofA ?_
   refine Zan Tryz.func102 rfl Tryz.ntmps102 rfl rfl ?_
   repeat'(first|(apply Zaa (hR);kernel_rfl;(iterate 4 exact Z))|(apply Zai Zab;exact Z)|(apply Zah Zab;exact Z)|(apply Zaw Zab;exact Z)|(apply Zac;exact Z;exact Go.Zqy)|(apply Zaf;exact Z;exact Go.Zqy))
   all_goals(apply Zaz [];(apply Zad Zab;exact Z);(iterate 4 exact Z))
   all_goals rfl
theorem Zmm [Known][KnownU8](b:BlkV)(hd:b.data.length<=100000):AP Tryz.prog 35 [.agg (bkC b)] (.tup [.int .u64 ((match ZjI b 7 != 0 with|true=>0|false=>(ZhW b.data).1:Nat):Int),.int .i64 (ZjI b 7)]) []:=by
 have hA:=ZmE b 7 hd
 have hG:=ZmA b.data hd
 generalize ZjI b 7=q at *
 generalize (ZhW b.data).1=a at *
 generalize (ZhW b.data).2=o at *
 obtain⟨ty,num,fl,sum,data⟩:=b
 cases t1:(q != 0) with
 | true=>
  refine AP.ofA ?_
  refine Zan Tryz.func35 rfl Tryz.ntmps35 rfl rfl ?_
  repeat'(first|(apply Zaa (hA);kernel_rfl;(iterate 4 exact Z))|(apply Zai Zab;exact Z)|(apply Zah Zab;exact Z)|(apply Zaw Zab;exact Z)|(apply Zac;exact Z;exact Go.Zqy))
  all_goals(apply Zaz [];(apply Zad Zab;exact Z);(iterate 4 exact Z))
  all_goals rfl
 | false=>
  have eq0:q=0:=by simpa[bne]using t1
  subst eq0
  refine AP.ofA ?_
  refine Zan Tryz.func35 rfl Tryz.ntmps35 rfl rfl ?_
  repeat'(first|(apply Zaa (hA);kernel_rfl;(iterate 4 exact Z))|(apply Zaa (hG);kernel_rfl;(iterate 4 exact Z))|(apply Zai Zab;exact Z)|(apply Zah Zab;exact Z)|(apply Zaf;exact Z;exact Go.Zqy))
  all_goals(apply Zaz [];(apply Zad Zab;exact Z);(iterate 4 exact Z))
  all_goals rfl
theorem Zhv [Known][KnownU8](b:BlkV)(hd:b.data.length<=100000):AP Tryz.prog 36 [.agg (bkC b)] (.tup [.int .u64 ((match ZjI b 10 != 0 with|true=>0|false=>(ZcL b.data).1:Nat):Int),.int .u64 ((match ZjI b 10 != 0 with|true=>0|false=>(ZcL b.data).2.1:Nat):Int),.int .i64 (ZjI b 10)]) []:=by
 have hA:=ZmE b 10 hd
 have hG:=Zk7 b.data hd
 generalize ZjI b 10=q at *
 generalize (ZcL b.data).1=a at *
 generalize (ZcL b.data).2.1=c at *
 generalize (ZcL b.data).2.2=o at *
 obtain⟨ty,num,fl,sum,data⟩:=b
 cases t1:(q != 0) with
 | true=>
  refine AP.ofA ?_
  refine Zan Tryz.func36 rfl Tryz.ntmps36 rfl rfl ?_
  repeat'(first|(apply Zaa (hA);kernel_rfl;(iterate 4 exact Z))|(apply Zai Zab;exact Z)|(apply Zah Zab;exact Z)|(apply Zaw Zab;exact Z)|(apply Zac;exact Z;exact Go.Zqy))
  all_goals(apply Zaz [];(apply Zad Zab;exact Z);(iterate 4 exact Z))
  all_goals rfl
 | false=>
  have eq0:q=0:=by simpa[bne]using t1
  subst eq0
  refine AP.ofA ?_
  refine Zan Tryz.func36 rfl Tryz.ntmps36 rfl rfl ?_
  repeat'(first|(apply Zaa (hA);kernel_rfl;(iterate 4 exact Z))|(apply Zaa (hG);kernel_rfl;(iterate 4 exact Z))|(apply Zai Zab;exact Z)|(apply Zah Zab;exact Z)|(apply Zaf;exact Z;exact Go.Zqy))
  all_goals(apply Zaz [];(apply Zad Zab;exact Z);(iterate 4 exact Z))
  all_goals rfl
theorem Zja [Known](b:BlkV):AP Tryz.prog 25 [.agg (bkC b)] (.agg (bkC b)) []:=by
 obtain⟨ty,num,fl,sum,d⟩:=b
 refine AP.ofA ?_
 refine Zan Tryz.func25 rfl Tryz.ntmps25 rfl rfl ?_
 repeat'(first|(apply Zah Zab;exact Z))
 all_goals(apply Zaz [];(apply Zad Zab;exact Z);(iterate 4 exact Z))
 all_goals rfl
theorem Zec [Known](b:BlkV):AP Tryz.prog 31 [.agg (bkC b),.agg (bkC b)] (.bool true) []:=by
 obtain⟨ty,num,fl,sum,d⟩:=b
 have t1:((ty:Int)==(ty:Int))=true:=beq_self_eq_true _
 have t2:((num:Int)==(num:Int))=true:=beq_self_eq_true _
 have t3:((fl:Int)==(fl:Int))=true:=beq_self_eq_true _
 have t4:(sum==sum)=true:=beq_self_eq_true _
 have t5:(d==d)=true:=beq_self_eq_true _
 refine AP.ofA ?_
 refine Zan Tryz.func31 rfl Tryz.ntmps31 rfl rfl ?_
 repeat'(first|(apply Zai Zab;exact Z)|(apply Zah Zab;exact Z)|(apply Zae;(iterate 3 exact Z);exact Go.Zqy)|(apply Zaj;exact Z;exact Go.Zqy;exact Z;exact Z)|(apply Zcg Zab;(iterate 9 exact Z)))
 all_goals(apply Zaz [];(apply Zad Zab;exact Z);(iterate 4 exact Z))
 all_goals first|rfl|exact congrArg D.bool t5
def dOf (kind Zar:Nat)(sum:Int)(x:It):BlkV:=match Zbg ⟨kind,Zar,0,sum,Za6 x⟩ with
 | true=>⟨kind,Zar,0,sum,Za6 x⟩
 | false=>bk0
theorem Zh8 [Known][KnownU8](kind Zar:Nat)(sum:Int)(x:It)(hw:wfI x)(hf:ZdC x=true)(hx:(Za6 x).length<=100000):AP Tryz.prog 46 [.int .u64 (kind:Int),.int .u64 (Zar:Int),.int .i64 sum,itD x] (.tup [.agg (bkC (dOf kind Zar sum x)),.bool (Zbg ⟨kind,Zar,0,sum,Za6 x⟩)]) []:=by
 have hW:=Zht x hw hf (by omega)
 have hR:=Zk9 ⟨kind,Zar,0,sum,Za6 x⟩ (by show(0:Nat)<_;decide) hx
 unfold dOf
 cases hr:Zbg ⟨kind,Zar,0,sum,Za6 x⟩<;>rw[hr]at hR
 all_goals
  generalize Za6 x=P at *
  obtain⟨k,n,b,l⟩:=x
  dsimp only[bk0]
  refine AP.ofA ?_
  refine Zan Tryz.func46 rfl Tryz.ntmps46 rfl rfl ?_
  repeat'(first|(apply Zaa (hW);kernel_rfl;(iterate 4 exact Z))|(apply Zaa (hR);kernel_rfl;(iterate 4 exact Z))|(apply Zai Zab;exact Z)|(apply Zah Zab;exact Z)|(apply Zaw Zab;exact Z)|(apply Zac;exact Z;exact Go.Zqy)|(apply Zaf;exact Z;exact Go.Zqy))
  all_goals(apply Zaz [];(apply Zad Zab;exact Z);(iterate 4 exact Z))
  all_goals rfl
theorem Zla {kind Zar:Nat}{sum:Int}{x:It}(h:ZaM x=true):ofV kind Zar sum x 0=(dOf kind Zar sum x,match Zbg ⟨kind,Zar,0,sum,Za6 x⟩ with|true=>0|false=>3):=by
 unfold ofV dOf
 rw[h]
 cases Zbg ⟨kind,Zar,0,sum,Za6 x⟩<;>rfl
def ZeK (b:BlkV):List It:=[.mk 0 b.ty [] [],.mk 0 b.num [] [],.mk 0 b.fl [] [],.mk 0 b.sum.toNat [] [],.mk 2 0 b.data []]
def Zed (b:BlkV):It × Int:=match Zbg b with
 | true=>Zju (ZeK b) 3
 | false=>(z0,3)
theorem Zgv {b:BlkV}(h:Zbg b=true):b.ty<=255/\b.num<=255/\0<=b.sum/\b.sum<=2/\ZjE b.ty b.data=true:=by
 unfold Zbg Zhz at h
 simp only[Bool.and_eq_true,Bool.not_eq_true',Bool.or_eq_false_iff,decide_eq_true_eq,decide_eq_false_iff_not]at h
 obtain⟨⟨⟨h1,h2⟩,h3,h4⟩,_,h5,h6,h7⟩:=h
 exact⟨by omega,by omega,h5,h6,h7⟩
theorem ZoP {b:BlkV}(h:Zbg b=true)(hfl:b.fl<18446744073709551616)(hd:b.data.length<=3000):wfs (ZeK b):=by
 obtain⟨h1,h2,h3,h4,_⟩:=Zgv h
 simp[ZeK,wfs,wfI]
 omega
theorem ZpC {b:BlkV}(h:Zbg b=true)(hfl:b.fl<18446744073709551616)(hd:b.data.length<=3000)(s:Nat)(hs:s=1\/s=2):(Za6 (ZbF s (ZeK b))).length<=1000000000:=by
 obtain⟨h1,h2,h3,h4,_⟩:=Zgv h
 have h9:¬ 3000<b.data.length:=by omega
 have hg:ZbE (ZbF s (ZeK b)) 1 300=293:=by
  rcases hs with rfl|rfl<;>simp[ZbF,ZeK,ZbE,Zb6,h9]
 have hn:nI (ZbF s (ZeK b)):=by
  simp[ZbF,ZeK,nI,nIs]
  omega
 have:=(ZeS _ 1 300 (by omega) (by omega) hn).2.1
 omega
theorem Zhw [Known][KnownU8](b:BlkV)(hfl:b.fl<18446744073709551616)(hd:b.data.length<=3000):AP Tryz.prog 26 [.agg (bkC b)] (ZlY (Zed b)) []:=by
 have hR:=Zeb b (by omega)
 unfold Zed
 cases hr:Zbg b with
 | false=>
  rw[hr]at hR
  obtain⟨ty,num,fl,sum,data⟩:=b
  dsimp only[z0]at *
  refine AP.ofA ?_
  refine Zan Tryz.func26 rfl Tryz.ntmps26 rfl rfl ?_
  repeat'(first|(apply Zaa (hR);kernel_rfl;(iterate 4 exact Z))|(apply Zai Zab;exact Z)|(apply Zah Zab;exact Z)|(apply Zaw Zab;exact Z)|(apply Zac;exact Z;exact Go.Zqy))
  all_goals(apply Zaz [];(apply Zad Zab;exact Z);(iterate 4 exact Z))
  all_goals rfl
 | true=>
  rw[hr]at hR
  obtain⟨h1,h2,h3,h4,_⟩:=Zgv hr
  have hS:=Znp (ZeK b) 3 (ZoP hr hfl hd) (by simp[ZeK]) (ZpC hr hfl hd)
  dsimp only
  generalize Zju (ZeK b) 3=r at *
  obtain⟨ty,num,fl,sum,data⟩:=b
  obtain⟨⟨k,n,bb,l⟩,e⟩:=r
  dsimp only at h1 h2 h3 h4 hd hfl
  have hN:=ZhS ty num fl sum.toNat
  have hB:=ZeQ data (by omega)
  have es:IntKind.u64.wrap sum=((sum.toNat:Nat):Int):=by rw[IntWalk.u64_in _ (by omega)];omega
  replace hS:AP Tryz.prog 83 [.sl .ext [nmE ty,nmE num,nmE fl,nmE sum.toNat,.agg [.int .i64 2,.int .u64 0,.sl (data.map E.byte),.sl []]],.int .i64 3] (ZlY (.mk k n bb l,e)) []:=hS
  have hu4:Uni 4 [nmE ty,nmE num,nmE fl,nmE sum.toNat]:=Uni.map (f:=nmE) (fun _=>rfl) [ty,num,fl,sum.toNat]
  refine AP.ofA ?_
  refine Zan Tryz.func26 rfl Tryz.ntmps26 rfl rfl ?_
  repeat'(first|(apply Zaa (hR);kernel_rfl;(iterate 4 exact Z))|rw[es]|(apply ZaS [] [] (hN);kernel_rfl;(iterate 10 exact Z))|(apply Zaa (hB);kernel_rfl;(iterate 4 exact Z))|(apply Zaa (hS);kernel_rfl;(iterate 4 exact Z))|(apply ZbV Zab;(iterate 11 exact Z);exact Zak rfl;exact Zak rfl;exact List.cons_ne_nil _ _;decide +kernel;decide +kernel;exact Z;exact Z)|(apply Zai Zab;exact Z)|(apply Zah Zab;exact Z)|(apply Zaw Zab;exact Z)|(apply Zaf;exact Z;exact Go.Zqy)|(apply ZaR Zab;(iterate 12 exact Z)))
  all_goals(apply Zaz [];(apply Zad Zab;exact Z);(iterate 4 exact Z))
  all_goals rfl
def ZoQ (x:It)(o:List It × Int):BlkV × Int:=match o.2 != 0 with
 | true=>(bk0,o.2)
 | false=>match o.1 with
  | [.mk k0 n0 b0 l0,.mk k1 n1 b1 l1,.mk k2 n2 b2 l2,.mk k3 n3 b3 l3,.mk k4 n4 b4 l4]=>(match k4 != 2 with
   | true=>(bk0,3)
   | false=>match(Zed ⟨n0,n1,n2,IntKind.i64.wrap (n3:Int),b4⟩).2 != 0 with
    | true=>(bk0,3)
    | false=>match It.beq (Zed ⟨n0,n1,n2,IntKind.i64.wrap (n3:Int),b4⟩).1 x with
     | false=>(bk0,3)
     | true=>(⟨n0,n1,n2,IntKind.i64.wrap (n3:Int),b4⟩,0))
  | _=>(bk0,3)
def ZnM (x:It):BlkV × Int:=ZoQ x (Zjv x 3)
theorem Zmn (x:It)(a:Int):∀ y ∈ (Zjv x a).1,y ∈ x.l:=by
 obtain⟨k,n,b,l⟩:=x
 unfold Zjv
 dsimp only[It.l]
 have hs:∀(m:Nat) (y:It),y ∈ l.take m->y ∈ l:=fun m y h=>List.mem_of_mem_take h
 repeat' split
 all_goals first|exact hs _|(intro y h;exact h)|(intro y h;exact absurd h (by simp))
theorem ZnN:wfI z0:=⟨by decide,by simp,by simp,trivial⟩
theorem ZnO (s:Nat){l:List It}(hws:wfs l)(hl:l.length<=1000000):wfI (Zno s l):=by
 refine⟨by decide,by simp,by simp;omega,Zgo hws ⟨⟨by decide,?_,by simp,trivial⟩,trivial⟩⟩
 have:(ZhR s (Za6 (ZbF s l))).length<=4:=by
  unfold ZhR
  split<;>simp
 omega
theorem ZnP {l:List It}(a:Int)(hws:wfs l)(hl:l.length<=1000000):wfI (Zju l a).1:=by
 unfold Zju
 have h0:wfI (.mk 4 0 [] l):=⟨by decide,by simp,by omega,hws⟩
 repeat' split
 all_goals first|exact ZnN|exact h0|exact ZnO _ hws hl
theorem Zmo {b:BlkV}(hfl:b.fl<18446744073709551616)(hd:b.data.length<=3000):wfI (Zed b).1:=by
 unfold Zed
 cases h:Zbg b with
 | false=>exact ZnN
 | true=>exact ZnP 3 (ZoP h hfl hd) (by simp[ZeK])
theorem Zqs [Known][KnownU8](k:Int)(n:Nat)(b:List UInt8)(xl:List E)(L:List E)(e:Int)
  (hO:AP Tryz.prog 84 [.agg [.int .i64 k,.int .u64 (n:Int),byE b,.sl .ext xl],.int .i64 3] (.tup [.sl .ext L,.int .i64 e]) []) (t1:(e != 0)=true) :
  AP Tryz.prog 27 [.agg [.int .i64 k,.int .u64 (n:Int),byE b,.sl .ext xl]] (.tup [.agg [.int .u64 0,.int .u64 0,.int .u64 0,.int .i64 0,.sl .ext []],.int .i64 e]) []:=by
 refine AP.ofA ?_
 refine Zan Tryz.func27 rfl Tryz.ntmps27 rfl rfl ?_
 repeat'(first|(apply Zaa (hO);kernel_rfl;(iterate 4 exact Z))|(apply Zai Zab;exact Z)|(apply Zah Zab;exact Z)|(apply Zaw Zab;exact Z)|(apply Zac;exact Z;exact Go.Zqy))
 all_goals(apply Zaz [];(apply Zad Zab;exact Z);(iterate 4 exact Z))
 all_goals rfl
theorem Zqt [Known][KnownU8](k:Int)(n:Nat)(b:List UInt8)(xl:List E)(L:List E)(e:Int)
  (hO:AP Tryz.prog 84 [.agg [.int .i64 k,.int .u64 (n:Int),byE b,.sl .ext xl],.int .i64 3] (.tup [.sl .ext L,.int .i64 e]) []) (t1:(e != 0)=false) (t2:((L.length:Int) != 5)=true) :
  AP Tryz.prog 27 [.agg [.int .i64 k,.int .u64 (n:Int),byE b,.sl .ext xl]] (.tup [.agg [.int .u64 0,.int .u64 0,.int .u64 0,.int .i64 0,.sl .ext []],.int .i64 3]) []:=by
 refine AP.ofA ?_
 refine Zan Tryz.func27 rfl Tryz.ntmps27 rfl rfl ?_
 repeat'(first|(apply Zaa (hO);kernel_rfl;(iterate 4 exact Z))|(apply Zai Zab;exact Z)|(apply Zah Zab;exact Z)|(apply Zaw Zab;exact Z)|(apply Zal;(iterate 3 exact Z);exact Go.Zqy)|(apply Zaj;exact Z;exact Go.Zqy;exact Z;exact Z)|(apply Zac;exact Z;exact Go.Zqy)|(apply Zaf;exact Z;exact Go.Zqy)|(apply Zao Zab;(iterate 4 exact Z)))
 all_goals(apply Zaz [];(apply Zad Zab;exact Z);(iterate 4 exact Z))
 all_goals rfl
theorem Zqu [Known][KnownU8](k:Int)(n:Nat)(b:List UInt8)(xl:List E)(L:List E)(e:Int)(k4:Int)(n4:Nat)(b4:List UInt8)(l4:List It)
  (hO:AP Tryz.prog 84 [.agg [.int .i64 k,.int .u64 (n:Int),byE b,.sl .ext xl],.int .i64 3] (.tup [.sl .ext L,.int .i64 e]) []) (t1:(e != 0)=false) (t2:((L.length:Int) != 5)=false) (hU:Uni 4 L) (hv4:L[(4:Int).toNat]?=some (.agg [.int .i64 k4,.int .u64 (n4:Int),.sl (b4.map E.byte),.sl (ZaC l4)])) (t3:(k4 != 2)=true) :
  AP Tryz.prog 27 [.agg [.int .i64 k,.int .u64 (n:Int),byE b,.sl .ext xl]] (.tup [.agg [.int .u64 0,.int .u64 0,.int .u64 0,.int .i64 0,.sl .ext []],.int .i64 3]) []:=by
 refine AP.ofA ?_
 refine Zan Tryz.func27 rfl Tryz.ntmps27 rfl rfl ?_
 repeat'(first|(apply Zaa (hO);kernel_rfl;(iterate 4 exact Z))|(apply Zai Zab;exact Z)|(apply Zah Zab;exact Z)|(apply Zaw Zab;exact Z)|(apply Zae;(iterate 3 exact Z);exact Go.Zqy)|(apply Zag;exact Z;exact Go.Zqy;exact Z;exact Z)|(apply Zac;exact Z;exact Go.Zqy)|(apply Zaf;exact Z;exact Go.Zqy)|(apply Zao Zab;(iterate 4 exact Z))|(apply Zav Zab;(iterate 6 exact Z);(first|exact Go.Zqy|rotate_left);(first|with_reducible assumption|decide +kernel|exact Z);(first|exact Zak rfl|with_reducible assumption|decide +kernel|rotate_left)))
 all_goals(apply Zaz [];(apply Zad Zab;exact Z);(iterate 4 exact Z))
 all_goals rfl
theorem Zqv [Known][KnownU8](k:Int)(n:Nat)(b:List UInt8)(xl:List E)(L:List E)(e:Int)(k0:Int)(n0:Nat)(b0:List UInt8)(l0:List It)(k1:Int)(n1:Nat)(b1:List UInt8)(l1:List It)(k2:Int)(n2:Nat)(b2:List UInt8)(l2:List It)(k3:Int)(n3:Nat)(b3:List UInt8)(l3:List It)(k4:Int)(n4:Nat)(b4:List UInt8)(l4:List It)(wk:Int)(wn:Nat)(wb:List UInt8)(wl:List E)(we:Int)
  (hO:AP Tryz.prog 84 [.agg [.int .i64 k,.int .u64 (n:Int),byE b,.sl .ext xl],.int .i64 3] (.tup [.sl .ext L,.int .i64 e]) []) (t1:(e != 0)=false) (t2:((L.length:Int) != 5)=false) (hU:Uni 4 L) (hv0:L[(0:Int).toNat]?=some (.agg [.int .i64 k0,.int .u64 (n0:Int),.sl (b0.map E.byte),.sl (ZaC l0)])) (hv1:L[(1:Int).toNat]?=some (.agg [.int .i64 k1,.int .u64 (n1:Int),.sl (b1.map E.byte),.sl (ZaC l1)])) (hv2:L[(2:Int).toNat]?=some (.agg [.int .i64 k2,.int .u64 (n2:Int),.sl (b2.map E.byte),.sl (ZaC l2)])) (hv3:L[(3:Int).toNat]?=some (.agg [.int .i64 k3,.int .u64 (n3:Int),.sl (b3.map E.byte),.sl (ZaC l3)])) (hv4:L[(4:Int).toNat]?=some (.agg [.int .i64 k4,.int .u64 (n4:Int),.sl (b4.map E.byte),.sl (ZaC l4)])) (t3:(k4 != 2)=false)
  (hC:AP Tryz.prog 98 [.sl .ext (b4.map E.byte)] (.sl .ext (b4.map E.byte)) []) (hW:AP Tryz.prog 26 [.agg [.int .u64 (n0:Int),.int .u64 (n1:Int),.int .u64 (n2:Int),.int .i64 (IntKind.i64.wrap (n3:Int)),.sl .ext (b4.map E.byte)]] (.tup [.agg [.int .i64 wk,.int .u64 (wn:Int),byE wb,.sl .ext wl],.int .i64 we]) []) (t4:(we != 0)=true) :
  AP Tryz.prog 27 [.agg [.int .i64 k,.int .u64 (n:Int),byE b,.sl .ext xl]] (.tup [.agg [.int .u64 0,.int .u64 0,.int .u64 0,.int .i64 0,.sl .ext []],.int .i64 3]) []:=by
 refine AP.ofA ?_
 refine Zan Tryz.func27 rfl Tryz.ntmps27 rfl rfl ?_
 repeat'(first|(apply Zaa (hO);kernel_rfl;(iterate 4 exact Z))|(apply Zaa (hC);kernel_rfl;(iterate 4 exact Z))|(apply Zaa (hW);kernel_rfl;(iterate 4 exact Z))|(apply Zai Zab;exact Z)|(apply Zah Zab;exact Z)|(apply Zaw Zab;exact Z)|(apply Zae;(iterate 3 exact Z);exact Go.Zqy)|(apply Zal;(iterate 3 exact Z);exact Go.Zqy)|(apply Zaj;exact Z;exact Go.Zqy;exact Z;exact Z)|(apply Zag;exact Z;exact Go.Zqy;exact Z;exact Z)|(apply Zac;exact Z;exact Go.Zqy)|(apply Zaf;exact Z;exact Go.Zqy)|(apply Zao Zab;(iterate 4 exact Z))|(apply Zam 24 ZaK;decide +kernel;kernel_rfl;kernel_rfl;kernel_rfl;exact Z;exact Z)|(apply Zaq;(iterate 4 exact Z))|exact AE.nil _ _ _ _|(apply Zat;exact Z)|(apply Zbb;exact Z)|(apply Zax;exact Z;exact Z;decide +kernel;exact Z)|(apply Zay;exact Z)|(apply Zbr;exact Z)|exact AO.nil _ _ _|(apply Zap;(decide +kernel))|(apply ZaZ;(iterate 3 exact Z))|exact AOs.nil|exact ZaE rfl rfl|exact Zb1 rfl rfl|(apply Zav Zab;(iterate 6 exact Z);(first|exact Go.Zqy|rotate_left);(first|with_reducible assumption|decide +kernel|exact Z);(first|exact Zak rfl|with_reducible assumption|decide +kernel|rotate_left)))
 all_goals(apply Zaz [];(apply Zad Zab;exact Z);(iterate 4 exact Z))
 all_goals rfl
theorem Zqw [Known][KnownU8](k:Int)(n:Nat)(b:List UInt8)(xl:List E)(L:List E)(e:Int)(k0:Int)(n0:Nat)(b0:List UInt8)(l0:List It)(k1:Int)(n1:Nat)(b1:List UInt8)(l1:List It)(k2:Int)(n2:Nat)(b2:List UInt8)(l2:List It)(k3:Int)(n3:Nat)(b3:List UInt8)(l3:List It)(k4:Int)(n4:Nat)(b4:List UInt8)(l4:List It)(wk:Int)(wn:Nat)(wb:List UInt8)(wl:List E)(we:Int)
  (hO:AP Tryz.prog 84 [.agg [.int .i64 k,.int .u64 (n:Int),byE b,.sl .ext xl],.int .i64 3] (.tup [.sl .ext L,.int .i64 e]) []) (t1:(e != 0)=false) (t2:((L.length:Int) != 5)=false) (hU:Uni 4 L) (hv0:L[(0:Int).toNat]?=some (.agg [.int .i64 k0,.int .u64 (n0:Int),.sl (b0.map E.byte),.sl (ZaC l0)])) (hv1:L[(1:Int).toNat]?=some (.agg [.int .i64 k1,.int .u64 (n1:Int),.sl (b1.map E.byte),.sl (ZaC l1)])) (hv2:L[(2:Int).toNat]?=some (.agg [.int .i64 k2,.int .u64 (n2:Int),.sl (b2.map E.byte),.sl (ZaC l2)])) (hv3:L[(3:Int).toNat]?=some (.agg [.int .i64 k3,.int .u64 (n3:Int),.sl (b3.map E.byte),.sl (ZaC l3)])) (hv4:L[(4:Int).toNat]?=some (.agg [.int .i64 k4,.int .u64 (n4:Int),.sl (b4.map E.byte),.sl (ZaC l4)])) (t3:(k4 != 2)=false)
  (hC:AP Tryz.prog 98 [.sl .ext (b4.map E.byte)] (.sl .ext (b4.map E.byte)) []) (hW:AP Tryz.prog 26 [.agg [.int .u64 (n0:Int),.int .u64 (n1:Int),.int .u64 (n2:Int),.int .i64 (IntKind.i64.wrap (n3:Int)),.sl .ext (b4.map E.byte)]] (.tup [.agg [.int .i64 wk,.int .u64 (wn:Int),byE wb,.sl .ext wl],.int .i64 we]) []) (hS:AP Tryz.prog 88 [.agg [.int .i64 wk,.int .u64 (wn:Int),byE wb,.sl .ext wl],.agg [.int .i64 k,.int .u64 (n:Int),byE b,.sl .ext xl]] (.bool false) []) (t4:(we != 0)=false) :
  AP Tryz.prog 27 [.agg [.int .i64 k,.int .u64 (n:Int),byE b,.sl .ext xl]] (.tup [.agg [.int .u64 0,.int .u64 0,.int .u64 0,.int .i64 0,.sl .ext []],.int .i64 3]) []:=by
 refine AP.ofA ?_
 refine Zan Tryz.func27 rfl Tryz.ntmps27 rfl rfl ?_
 repeat'(first|(apply Zaa (hO);kernel_rfl;(iterate 4 exact Z))|(apply Zaa (hC);kernel_rfl;(iterate 4 exact Z))|(apply Zaa (hW);kernel_rfl;(iterate 4 exact Z))|(apply Zaa (hS);kernel_rfl;(iterate 4 exact Z))|(apply Zai Zab;exact Z)|(apply Zah Zab;exact Z)|(apply Zaw Zab;exact Z)|(apply Zae;(iterate 3 exact Z);exact Go.Zqy)|(apply Zag;exact Z;exact Go.Zqy;exact Z;exact Z)|(apply Zac;exact Z;exact Go.Zqy)|(apply Zaf;exact Z;exact Go.Zqy)|(apply Zao Zab;(iterate 4 exact Z))|(apply Zam 24 ZaK;decide +kernel;kernel_rfl;kernel_rfl;kernel_rfl;exact Z;exact Z)|(apply Zaq;(iterate 4 exact Z))|exact AE.nil _ _ _ _|(apply Zat;exact Z)|(apply Zbb;exact Z)|(apply Zax;exact Z;exact Z;decide +kernel;exact Z)|(apply Zay;exact Z)|(apply Zbr;exact Z)|exact AO.nil _ _ _|(apply Zap;(decide +kernel))|(apply ZaZ;(iterate 3 exact Z))|exact AOs.nil|exact ZaE rfl rfl|exact Zb1 rfl rfl|(apply Zav Zab;(iterate 6 exact Z);(first|exact Go.Zqy|rotate_left);(first|with_reducible assumption|decide +kernel|exact Z);(first|exact Zak rfl|with_reducible assumption|decide +kernel|rotate_left)))
 all_goals(apply Zaz [];(apply Zad Zab;exact Z);(iterate 4 exact Z))
 all_goals rfl
theorem Zqx [Known][KnownU8](k:Int)(n:Nat)(b:List UInt8)(xl:List E)(L:List E)(e:Int)(k0:Int)(n0:Nat)(b0:List UInt8)(l0:List It)(k1:Int)(n1:Nat)(b1:List UInt8)(l1:List It)(k2:Int)(n2:Nat)(b2:List UInt8)(l2:List It)(k3:Int)(n3:Nat)(b3:List UInt8)(l3:List It)(k4:Int)(n4:Nat)(b4:List UInt8)(l4:List It)(wk:Int)(wn:Nat)(wb:List UInt8)(wl:List E)(we:Int)
  (hO:AP Tryz.prog 84 [.agg [.int .i64 k,.int .u64 (n:Int),byE b,.sl .ext xl],.int .i64 3] (.tup [.sl .ext L,.int .i64 e]) []) (t1:(e != 0)=false) (t2:((L.length:Int) != 5)=false) (hU:Uni 4 L) (hv0:L[(0:Int).toNat]?=some (.agg [.int .i64 k0,.int .u64 (n0:Int),.sl (b0.map E.byte),.sl (ZaC l0)])) (hv1:L[(1:Int).toNat]?=some (.agg [.int .i64 k1,.int .u64 (n1:Int),.sl (b1.map E.byte),.sl (ZaC l1)])) (hv2:L[(2:Int).toNat]?=some (.agg [.int .i64 k2,.int .u64 (n2:Int),.sl (b2.map E.byte),.sl (ZaC l2)])) (hv3:L[(3:Int).toNat]?=some (.agg [.int .i64 k3,.int .u64 (n3:Int),.sl (b3.map E.byte),.sl (ZaC l3)])) (hv4:L[(4:Int).toNat]?=some (.agg [.int .i64 k4,.int .u64 (n4:Int),.sl (b4.map E.byte),.sl (ZaC l4)])) (t3:(k4 != 2)=false)
  (hC:AP Tryz.prog 98 [.sl .ext (b4.map E.byte)] (.sl .ext (b4.map E.byte)) []) (hW:AP Tryz.prog 26 [.agg [.int .u64 (n0:Int),.int .u64 (n1:Int),.int .u64 (n2:Int),.int .i64 (IntKind.i64.wrap (n3:Int)),.sl .ext (b4.map E.byte)]] (.tup [.agg [.int .i64 wk,.int .u64 (wn:Int),byE wb,.sl .ext wl],.int .i64 we]) []) (hS:AP Tryz.prog 88 [.agg [.int .i64 wk,.int .u64 (wn:Int),byE wb,.sl .ext wl],.agg [.int .i64 k,.int .u64 (n:Int),byE b,.sl .ext xl]] (.bool true) []) (t4:(we != 0)=false) :
  AP Tryz.prog 27 [.agg [.int .i64 k,.int .u64 (n:Int),byE b,.sl .ext xl]] (.tup [.agg [.int .u64 (n0:Int),.int .u64 (n1:Int),.int .u64 (n2:Int),.int .i64 (IntKind.i64.wrap (n3:Int)),.sl .ext (b4.map E.byte)],.int .i64 0]) []:=by
 refine AP.ofA ?_
 refine Zan Tryz.func27 rfl Tryz.ntmps27 rfl rfl ?_
 repeat'(first|(apply Zaa (hO);kernel_rfl;(iterate 4 exact Z))|(apply Zaa (hC);kernel_rfl;(iterate 4 exact Z))|(apply Zaa (hW);kernel_rfl;(iterate 4 exact Z))|(apply Zaa (hS);kernel_rfl;(iterate 4 exact Z))|(apply Zai Zab;exact Z)|(apply Zah Zab;exact Z)|(apply Zaw Zab;exact Z)|(apply Zae;(iterate 3 exact Z);exact Go.Zqy)|(apply Zag;exact Z;exact Go.Zqy;exact Z;exact Z)|(apply Zaf;exact Z;exact Go.Zqy)|(apply Zao Zab;(iterate 4 exact Z))|(apply Zam 24 ZaK;decide +kernel;kernel_rfl;kernel_rfl;kernel_rfl;exact Z;exact Z)|(apply Zaq;(iterate 4 exact Z))|exact AE.nil _ _ _ _|(apply Zat;exact Z)|(apply Zbb;exact Z)|(apply Zax;exact Z;exact Z;decide +kernel;exact Z)|(apply Zay;exact Z)|(apply Zbr;exact Z)|exact AO.nil _ _ _|(apply Zap;(decide +kernel))|(apply ZaZ;(iterate 3 exact Z))|exact AOs.nil|exact ZaE rfl rfl|exact Zb1 rfl rfl|(apply Zav Zab;(iterate 6 exact Z);(first|exact Go.Zqy|rotate_left);(first|with_reducible assumption|decide +kernel|exact Z);(first|exact Zak rfl|with_reducible assumption|decide +kernel|rotate_left)))
 all_goals(apply Zaz [];(apply Zad Zab;exact Z);(iterate 4 exact Z))
 all_goals rfl
theorem Zmp [Known][KnownU8](x:It)(hw:wfI x)(hxl:x.l.length<=1000000)(hlim:∀ s m,s=1\/s=2->(Za6 (ZbF s (x.l.take m))).length<=1000000000)(hb:∀ y ∈ x.l,y.b.length<=3000):AP Tryz.prog 27 [itD x] (ZnK (ZnM x)) []:=by
 have hO:=Znq x 3 hw hxl hlim
 have hsub:=Zmn x 3
 have hws:wfs x.l:=by obtain⟨k,n,b,l⟩:=x;exact hw.2.2.2
 unfold ZnM
 generalize Zjv x 3=o at *
 obtain⟨ol,oe⟩:=o
 have hlen:=Zas ol
 have hUo:=Zcd ol
 dsimp only at hsub
 have hSame:=fun(B:BlkV) (h1:B.fl<18446744073709551616) (h2:B.data.length<=3000)=>Zen (Zed B).1 (Zmo h1 h2) x hw
 obtain⟨k,n,b,l⟩:=x
 dsimp only[It.l]at *
 unfold ZoQ
 dsimp only
 replace hO:AP Tryz.prog 84 [.agg [.int .i64 k,.int .u64 (n:Int),byE b,.sl .ext (ZaC l)],.int .i64 3] (.tup [.sl .ext (ZaC ol),.int .i64 oe]) []:=hO
 cases t1:(oe != 0) with
 | true=>exact Zqs k n b _ _ oe hO t1
 | false=>
 have hno:ol.length ≠ 5->AP Tryz.prog 27 [itD (.mk k n b l)] (ZnK (bk0,3)) []:=fun h=>Zqt k n b _ _ oe hO t1 (by rw[hlen];simp;omega)
 match ol,hO,hsub,hlen,hUo,hno with
 | [],_,_,_,_,h=>exact h (by simp)
 | [.mk _ _ _ _],_,_,_,_,h=>exact h (by simp)
 | [.mk _ _ _ _,.mk _ _ _ _],_,_,_,_,h=>exact h (by simp)
 | [.mk _ _ _ _,.mk _ _ _ _,.mk _ _ _ _],_,_,_,_,h=>exact h (by simp)
 | [.mk _ _ _ _,.mk _ _ _ _,.mk _ _ _ _,.mk _ _ _ _],_,_,_,_,h=>exact h (by simp)
 | .mk _ _ _ _::.mk _ _ _ _::.mk _ _ _ _::.mk _ _ _ _::.mk _ _ _ _::_::_,_,_,_,_,h=>exact h (by simp)
 | [.mk k0 n0 b0 l0,.mk k1 n1 b1 l1,.mk k2 n2 b2 l2,.mk k3 n3 b3 l3,.mk k4 n4 b4 l4],hO,hsub,hlen,hUo,_=>
 have t2:(((ZaC [It.mk k0 n0 b0 l0,.mk k1 n1 b1 l1,.mk k2 n2 b2 l2,.mk k3 n3 b3 l3,.mk k4 n4 b4 l4]).length:Int) != 5)=false:=by rw[hlen];rfl
 dsimp only
 cases t3:(k4 != 2) with
 | true=>exact Zqu k n b _ _ oe k4 n4 b4 l4 hO t1 t2 hUo rfl t3
 | false=>
 have hw2:n2<18446744073709551616:=(Za7 hws (.mk k2 n2 b2 l2) (hsub _ (by simp))).1
 have hb4:b4.length<=3000:=hb (.mk k4 n4 b4 l4) (hsub _ (by simp))
 have hC:=ZdY b4 (by omega)
 have hW:=Zhw ⟨n0,n1,n2,IntKind.i64.wrap (n3:Int),b4⟩ hw2 hb4
 have hS:=hSame ⟨n0,n1,n2,IntKind.i64.wrap (n3:Int),b4⟩ hw2 hb4
 clear hSame
 dsimp only
 generalize Zed ⟨n0,n1,n2,IntKind.i64.wrap (n3:Int),b4⟩=r at *
 obtain⟨⟨wk,wn,wb,wl⟩,we⟩:=r
 dsimp only at *
 cases t4:(we != 0) with
 | true=>exact Zqv k n b _ _ oe k0 n0 b0 l0 k1 n1 b1 l1 k2 n2 b2 l2 k3 n3 b3 l3 k4 n4 b4 l4 wk wn wb _ we hO t1 t2 hUo rfl rfl rfl rfl rfl t3 hC hW t4
 | false=>
 dsimp only
 cases t5:It.beq (.mk wk wn wb wl) (.mk k n b l) with
 | false=>
  rw[t5]at hS
  exact Zqw k n b _ _ oe k0 n0 b0 l0 k1 n1 b1 l1 k2 n2 b2 l2 k3 n3 b3 l3 k4 n4 b4 l4 wk wn wb _ we hO t1 t2 hUo rfl rfl rfl rfl rfl t3 hC hW hS t4
 | true=>
  rw[t5]at hS
  exact Zqx k n b _ _ oe k0 n0 b0 l0 k1 n1 b1 l1 k2 n2 b2 l2 k3 n3 b3 l3 k4 n4 b4 l4 wk wn wb _ we hO t1 t2 hUo rfl rfl rfl rfl rfl t3 hC hW hS t4
def Zlb (a b:BlkV):Bool:=((a.ty:Int)==(b.ty:Int))&&(((a.num:Int)==(b.num:Int))&&(((a.fl:Int)==(b.fl:Int))&&((a.sum==b.sum)&&(a.data==b.data))))
theorem Zlc [Known](a b:BlkV):AP Tryz.prog 32 [.agg (bkC a),.agg (bkC b)] (.bool (Zlb a b)) []:=by
 have hE:=ZiE a.data b.data
 obtain⟨ty,num,fl,sum,data⟩:=a
 obtain⟨ty2,num2,fl2,sum2,data2⟩:=b
 unfold Zlb
 dsimp only at hE ⊢
 refine AP.ofA ?_
 refine Zan Tryz.func32 rfl Tryz.ntmps32 rfl rfl ?_
 repeat'(first|(apply Zaa (hE);kernel_rfl;(iterate 4 exact Z))|(apply Zai Zab;exact Z)|(apply Zah Zab;exact Z)|(apply Zae;(iterate 3 exact Z);exact Go.Zqy)|(apply Zau;(iterate 3 exact Z);exact Go.Zqy)|(apply Zbh;exact Z;exact Z;all_goals intro hb)|(apply Zaj;exact Z;exact Go.Zqy;exact Z;exact Z)|(apply Zag;exact Z;exact Go.Zqy;exact Z;exact Z))
 all_goals(apply Zaz [];(apply Zad Zab;exact Z);(iterate 4 exact Z))
 all_goals first|rfl|(simp only[*];done)|(simp only[*];rfl)|(simp[*];done)
def a0:BlkV:=⟨7,3,0,2,[25,1,244]⟩
def x1:It:=.mk 4 0 [] [.mk 0 7 [] [],.mk 0 3 [] [],.mk 0 0 [] [],.mk 0 2 [] [],.mk 2 0 [25,1,244] [],.mk 2 0 [94,237,141,204] []]
def c0:BlkV:=⟨10,4,0,0,[130,9,2]⟩
theorem f1:ofV 7 3 2 (.mk 0 500 [] []) 0=(a0,0):=by kernel_rfl
theorem f2:Zed a0=(x1,0):=by kernel_rfl
theorem f3:ZnM x1=(a0,0):=by kernel_rfl
theorem f4:ZjI a0 7=0:=by kernel_rfl
theorem f4':(ZhW [25,1,244]).1=500:=by kernel_rfl
theorem f5:ZjI a0 10=4:=by kernel_rfl
theorem f6:ofV 10 4 0 (Zfx 9 2) 0=(c0,0):=by kernel_rfl
theorem f7:ZjI c0 10=0:=by kernel_rfl
theorem f7':ZcL [130,9,2]=(9,2,true):=by kernel_rfl
theorem f8:ofV 10 4 0 (Zfx 9 10) 0=(bk0,3):=by kernel_rfl
theorem f9:Zlb a0 a0=true:=by kernel_rfl
theorem ZpD:wfI x1:=by simp[x1,wfI,wfs]
theorem ZoR (s m:Nat)(hs:s=1\/s=2):(Za6 (ZbF s (x1.l.take m))).length<=1000000000:=by
 have hw:∀ y ∈ x1.l.take m,y ∈ x1.l:=fun y h=>List.mem_of_mem_take h
 have h6:m=0\/m=1\/m=2\/m=3\/m=4\/m=5\/x1.l.take m=x1.l:=by
  rcases Nat.lt_or_ge m 6 with h|h
  ·omega
  ·exact .inr (.inr (.inr (.inr (.inr (.inr (List.take_of_length_le h))))))
 rcases h6 with h|h|h|h|h|h|h
 all_goals
  first|rw[h]|skip
  rcases hs with rfl|rfl
  all_goals decide +kernel
abbrev a0C:D:=.agg [.int .u64 7,.int .u64 3,.int .u64 0,.int .i64 2,byE [25,1,244]]
abbrev c0C:D:=.agg [.int .u64 10,.int .u64 4,.int .u64 0,.int .i64 0,byE [130,9,2]]
abbrev z5C:D:=.agg [.int .u64 0,.int .u64 0,.int .u64 0,.int .i64 0,.sl .ext []]
abbrev x1C:D:=.agg [.int .i64 4,.int .u64 0,.sl .ext [],.sl .ext (ZaC x1.l)]
theorem fx1 [Known][KnownU8]:AP Tryz.prog 43 [.int .u64 3,.int .i64 2,.int .u64 500] (.tup [a0C,.int .i64 0]) []:=by
 have h:=Zi9 3 2 500 (by decide)
 rw[f1]at h
 exact h
theorem fx2 [Known][KnownU8]:AP Tryz.prog 26 [a0C] (.tup [x1C,.int .i64 0]) []:=by
 have h:=Zhw a0 (by decide) (by decide)
 rw[f2]at h
 exact h
theorem fx3 [Known][KnownU8]:AP Tryz.prog 27 [x1C] (.tup [a0C,.int .i64 0]) []:=by
 have h:=Zmp x1 ZpD (by decide) (fun s m hs=>ZoR s m hs) (by decide)
 rw[f3]at h
 exact h
theorem fx4 [Known][KnownU8]:AP Tryz.prog 35 [a0C] (.tup [.int .u64 500,.int .i64 0]) []:=by
 have h:=Zmm a0 (by decide)
 rw[f4]at h
 replace h:AP Tryz.prog 35 [a0C] (.tup [.int .u64 (((ZhW [25,1,244]).1:Nat):Int),.int .i64 0]) []:=h
 rw[f4']at h
 exact h
theorem fx5 [Known][KnownU8]:AP Tryz.prog 36 [a0C] (.tup [.int .u64 0,.int .u64 0,.int .i64 4]) []:=by
 have h:=Zhv a0 (by decide)
 rw[f5]at h
 exact h
theorem fx6 [Known][KnownU8]:AP Tryz.prog 44 [.int .u64 4,.int .i64 0,.int .u64 9,.int .u64 2] (.tup [c0C,.int .i64 0]) []:=by
 have h:=Zfy 4 0 9 2 (by decide) (by decide)
 rw[f6]at h
 exact h
theorem fx7 [Known][KnownU8]:AP Tryz.prog 36 [c0C] (.tup [.int .u64 9,.int .u64 2,.int .i64 0]) []:=by
 have h:=Zhv c0 (by decide)
 rw[f7]at h
 replace h:AP Tryz.prog 36 [c0C] (.tup [.int .u64 (((ZcL [130,9,2]).1:Nat):Int),.int .u64 (((ZcL [130,9,2]).2.1:Nat):Int),.int .i64 0]) []:=h
 rw[f7']at h
 exact h
theorem fx8 [Known][KnownU8]:AP Tryz.prog 44 [.int .u64 4,.int .i64 0,.int .u64 9,.int .u64 10] (.tup [z5C,.int .i64 3]) []:=by
 have h:=Zfy 4 0 9 10 (by decide) (by decide)
 rw[f8]at h
 exact h
theorem fx9 [Known]:AP Tryz.prog 32 [a0C,a0C] (.bool true) []:=by
 have h:=Zlc a0 a0
 rw[f9]at h
 exact h
theorem Zld [Known][KnownU8]:AP Tryz.prog 24 [] (.bool true) []:=by
 have h1:=fx1
 have h2:=fx2
 have h3:=fx3
 have h4:=fx4
 have h5:=fx5
 have h6:=fx6
 have h7:=fx7
 have h8:=fx8
 have h9:=fx9
 generalize ZaC x1.l=XL at *
 refine AP.ofA ?_
 refine Zan Tryz.func24 rfl Tryz.ntmps24 rfl rfl ?_
 repeat'(first|(apply Zaa (h1);kernel_rfl;(iterate 4 exact Z))|(apply Zaa (h2);kernel_rfl;(iterate 4 exact Z))|(apply Zaa (h3);kernel_rfl;(iterate 4 exact Z))|(apply Zaa (h4);kernel_rfl;(iterate 4 exact Z))|(apply Zaa (h5);kernel_rfl;(iterate 4 exact Z))|(apply Zaa (h6);kernel_rfl;(iterate 4 exact Z))|(apply Zaa (h7);kernel_rfl;(iterate 4 exact Z))|(apply Zaa (h8);kernel_rfl;(iterate 4 exact Z))|(apply Zaa (h9);kernel_rfl;(iterate 4 exact Z))|(apply Zcg Zab;(iterate 9 exact Z))|(apply Zai Zab;exact Z)|(apply Zah Zab;exact Z)|(apply Zae;(iterate 3 exact Z);exact Go.Zqy)|(apply Zaj;exact Z;exact Go.Zqy;exact Z;exact Z)|(apply Zcg Zab;(iterate 9 exact Z)))
 all_goals(apply Zaz [];(apply Zad Zab;exact Z);(iterate 4 exact Z))
 all_goals rfl
theorem Zle (n:Nat):ZaM (.mk 0 n [] [])=true:=by simp[ZaM,Zb2,Zdt,ZbD]
theorem Zlf (n m:Nat):ZaM (Zfx n m)=true:=by simp[ZaM,Zb2,Zdt,ZbD]
theorem Zcc (k:Int)(n:Nat)(b:List UInt8)(l:List It):(Za6 (.mk k n b l)).length<=9+(b.length+(Zbd l).length):=by
 rw[Za6,List.length_append,List.length_append]
 split
 ·rename_i h
  have h1:=ZdX h rfl
  have h2:ZaD (It.mk k n b l).hn<=8:=by
   unfold ZaD
   repeat' split
   all_goals omega
  dsimp only at h1
  omega
 ·simp
theorem ZdG (n:Nat):(Za6 (.mk 0 n [] [])).length<=9:=by
 have:=Zcc 0 n [] []
 simpa[Zbd]using this
theorem Zfz (n m:Nat):(Za6 (Zfx n m)).length<=27:=by
 have h0:=Zcc 4 0 [] [.mk 0 n [] [],.mk 0 m [] []]
 have h1:=ZdG n
 have h2:=ZdG m
 simp only[Zbd,List.length_append,List.length_nil,Nat.add_zero,Nat.zero_add]at h0
 have e:Zfx n m=.mk 4 0 [] [.mk 0 n [] [],.mk 0 m [] []]:=rfl
 rw[e]
 omega
end Go.Proofs.YtakblclkflnnpaaGreatDoor
end

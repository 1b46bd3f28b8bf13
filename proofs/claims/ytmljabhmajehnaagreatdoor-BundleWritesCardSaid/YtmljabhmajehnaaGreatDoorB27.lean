/- Package canon: which blocks may be. -/
import Derived.Test.YtmljabhmajehnaaGreatDoorB26
import Derived.Test.YtmljabhmajehnaaGreatDoorB16
import Derived.Test.YtmljabhmajehnaaGreatDoorB21
import Derived.Test.YtmljabhmajehnaaGreatDoorB10
import Derived.Test.YtmljabhmajehnaaGreatDoorB13
set_option linter.unusedVariables false
set_option linter.unusedSimpArgs false
section
open Go.RowKit Go.Pl Go.Av
namespace Go.Proofs.YtmljabhmajehnaaGreatDoor
set_option maxHeartbeats 4000000
def LD (kind:Nat)(d:List UInt8):Bool:=match((kind:Int)==6) with
 | true=>(Jm d).2
 | false=>match((kind:Int)==7) with
  | true=>(Od d).2
  | false=>match((kind:Int)==10) with
   | true=>(UL d).2.2
   | false=>true
def XS (kind:Nat)(d:List UInt8):Bool:=LD kind d&&decide ((d.length:Int)<=200)
theorem N1 [Known][KnownU8](kind:Nat)(d:List UInt8)(hd:d.length<=100000):AP Tryz.prog 131 [.int .u64 (kind:Int),byE d] (.bool (XS kind d)) []:=by
 have hP:=GY d hd
 have hA:=BD d hd
 have hH:=Sr d hd
 have hdl:(d.map E.byte).length=d.length:=List.length_map ..
 unfold XS LD
 rw[<- hdl]
 generalize (Jm d).1=pz at *
 obtain⟨zi,zn,zs,zh,zd⟩:=pz
 generalize (Jm d).2=p1 at *
 generalize (Od d).1=a0 at *
 generalize (Od d).2=a1 at *
 generalize (UL d).1=h0 at *
 generalize (UL d).2.1=h1 at *
 generalize (UL d).2.2=h2 at *
 cases t1:((kind:Int)==6) with
 | true=>
  cases p1
  all_goals
   refine AP.ofA (Zl Tryz.func131 U Tryz.ntmps131 U U ?_)
   repeat'(first|(apply Zb (hP);kernel_rfl;(iterate 4 exact U))|(apply Zh Za;exact U)|(apply Zg Za;exact U)|refine Ze U U U Qt ?_|refine Zu U U U Qt ?_|refine Zj U Qt U U ?_|refine Zi U Qt U U ?_|refine Zd U Qt ?_|refine Zm Za U U U U ?_)
   all_goals exact Qe
 | false=>
 cases t2:((kind:Int)==7) with
 | true=>
  cases a1
  all_goals
   refine AP.ofA (Zl Tryz.func131 U Tryz.ntmps131 U U ?_)
   repeat'(first|(apply Zb (hA);kernel_rfl;(iterate 4 exact U))|(apply Zh Za;exact U)|(apply Zg Za;exact U)|refine Ze U U U Qt ?_|refine Zu U U U Qt ?_|refine Zj U Qt U U ?_|refine Zi U Qt U U ?_|refine Zd U Qt ?_|refine Zf U Qt ?_|refine Zm Za U U U U ?_)
   all_goals exact Qe
 | false=>
 cases t3:((kind:Int)==10) with
 | true=>
  cases h2
  all_goals
   refine AP.ofA (Zl Tryz.func131 U Tryz.ntmps131 U U ?_)
   repeat'(first|(apply Zb (hH);kernel_rfl;(iterate 4 exact U))|(apply Zh Za;exact U)|(apply Zg Za;exact U)|refine Ze U U U Qt ?_|refine Zu U U U Qt ?_|refine Zj U Qt U U ?_|refine Zi U Qt U U ?_|refine Zd U Qt ?_|refine Zf U Qt ?_|refine Zm Za U U U U ?_)
   all_goals exact Qe
 | false=>
  refine AP.ofA (Zl Tryz.func131 U Tryz.ntmps131 U U ?_)
  repeat'(first|(apply Zh Za;exact U)|(apply Zg Za;exact U)|refine Ze U U U Qt ?_|refine Zj U Qt U U ?_|refine Zf U Qt ?_|refine Zm Za U U U U ?_)
  all_goals exact Qe
def ZU (b:BlkV):Bool:=!(Jf b.ty||Jf b.num)&&((bits .andNot .u64 (b.fl:Int) 23==0)&&(decide (b.sum ≥ 0)&&(decide (b.sum<=2)&&XS b.ty b.data)))
theorem OW [Known][KnownU8](b:BlkV)(hd:b.data.length<=100000):AP Tryz.prog 94 [.agg (bkC b)] (.bool (ZU b)) []:=by
 have hW:=Ta b.ty b.num
 have hD:=N1 b.ty b.data hd
 obtain⟨ty,num,fl,sum,data⟩:=b
 unfold ZU
 dsimp only at hW hD ⊢
 generalize XS ty data=dv at *
 cases hb1:(Jf ty||Jf num) with
 | true=>
  rw[hb1]at hW
  replace hW:AP Tryz.prog _ _ (.bool false) []:=hW
  refine AP.ofA (Zl Tryz.func94 U Tryz.ntmps94 U U ?_)
  repeat'(first|(apply Zb (hW);kernel_rfl;(iterate 4 exact U))|(apply Zh Za;exact U)|(apply Zg Za;exact U)|refine Zu U U U Qt ?_|refine Zi U Qt U U ?_|refine ZO Za U U U U U U U U U U U U ?_)
  all_goals exact Qe
 | false=>
 rw[hb1]at hW
 replace hW:AP Tryz.prog _ _ (.bool true) []:=hW
 cases t1:(bits .andNot .u64 (fl:Int) 23==0) with
 | false=>
  refine AP.ofA (Zl Tryz.func94 U Tryz.ntmps94 U U ?_)
  repeat'(first|(apply Zb (hW);kernel_rfl;(iterate 4 exact U))|(apply Zh Za;exact U)|(apply Zg Za;exact U)|refine Ze U U U Qt ?_|refine Zu U U U Qt ?_|refine Zj U Qt U U ?_|refine Zi U Qt U U ?_|refine ZO Za U U U U U U U U U U U U ?_)
  all_goals exact Qe
 | true=>
 cases t2:decide (sum ≥ 0) with
 | false=>
  refine AP.ofA (Zl Tryz.func94 U Tryz.ntmps94 U U ?_)
  repeat'(first|(apply Zb (hW);kernel_rfl;(iterate 4 exact U))|(apply Zh Za;exact U)|(apply Zg Za;exact U)|refine Ze U U U Qt ?_|refine Zu U U U Qt ?_|refine Zj U Qt U U ?_|refine Zi U Qt U U ?_|refine ZO Za U U U U U U U U U U U U ?_)
  all_goals exact Qe
 | true=>
 cases t3:decide (sum<=2) with
 | false=>
  refine AP.ofA (Zl Tryz.func94 U Tryz.ntmps94 U U ?_)
  repeat'(first|(apply Zb (hW);kernel_rfl;(iterate 4 exact U))|(apply Zh Za;exact U)|(apply Zg Za;exact U)|refine Ze U U U Qt ?_|refine Zu U U U Qt ?_|refine Zj U Qt U U ?_|refine Zi U Qt U U ?_|refine ZO Za U U U U U U U U U U U U ?_)
  all_goals exact Qe
 | true=>
  refine AP.ofA (Zl Tryz.func94 U Tryz.ntmps94 U U ?_)
  repeat'(first|(apply Zb (hW);kernel_rfl;(iterate 4 exact U))|(apply Zb (hD);kernel_rfl;(iterate 4 exact U))|(apply Zh Za;exact U)|(apply Zg Za;exact U)|refine Ze U U U Qt ?_|refine Zj U Qt U U ?_|refine ZO Za U U U U U U U U U U U U ?_)
  all_goals exact Qe

def YC (b:BlkV):List It:=[.mk 0 b.ty [] [],.mk 0 b.num [] [],.mk 0 b.fl [] [],.mk 0 b.sum.toNat [] [],.mk 2 0 b.data []]
def Yc (b:BlkV):It × Int:=match ZU b with
 | true=>Vm (YC b) 3
 | false=>(z0,3)
theorem VN {b:BlkV}(h:ZU b=true):b.ty<=255/\b.num<=255/\0<=b.sum/\b.sum<=2/\XS b.ty b.data=true:=by
 unfold ZU Jf at h
 simp only[Bool.and_eq_true,Bool.not_eq_true',Bool.or_eq_false_iff,decide_eq_true_eq,decide_eq_false_iff_not]at h
 obtain⟨⟨⟨h1,h2⟩,h3,h4⟩,_,h5,h6,h7⟩:=h
 exact⟨by omega,by omega,h5,h6,h7⟩
theorem LF {b:BlkV}(h:ZU b=true)(hfl:b.fl<18446744073709551616)(hd:b.data.length<=3000):wfs (YC b):=by
 obtain⟨h1,h2,h3,h4,_⟩:=VN h
 simp[YC,wfs,wfI]
 omega
theorem Dr {b:BlkV}(h:ZU b=true)(hfl:b.fl<18446744073709551616)(hd:b.data.length<=3000)(s:Nat)(hs:s=1\/s=2):(ZM (ZP s (YC b))).length<=1000000000:=by
 obtain⟨h1,h2,h3,h4,_⟩:=VN h
 have h9:¬ 3000<b.data.length:=by omega
 have hg:Wa (ZP s (YC b)) 1 300=293:=by
  rcases hs with rfl|rfl<;>simp[ZP,YC,Wa,WO,h9]
 have hn:nI (ZP s (YC b)):=by
  simp[ZP,YC,nI,nIs]
  omega
 have:=(Ks _ 1 300 (by omega) (by omega) hn).2.1
 omega
theorem OX [Known][KnownU8](b:BlkV)(hfl:b.fl<18446744073709551616)(hd:b.data.length<=3000):AP Tryz.prog 108 [.agg (bkC b)] (JZ (Yc b)) []:=by
 have hR:=OW b (by omega)
 unfold Yc
 cases hr:ZU b with
 | false=>
  rw[hr]at hR
  obtain⟨ty,num,fl,sum,data⟩:=b
  dsimp only[z0]at *
  refine AP.ofA (Zl Tryz.func108 U Tryz.ntmps108 U U ?_)
  repeat'(first|(apply Zb (hR);kernel_rfl;(iterate 4 exact U))|(apply Zh Za;exact U)|(apply Zg Za;exact U)|(apply Zo Za;exact U)|refine Zd U Qt ?_)
  all_goals exact Qe
 | true=>
  rw[hr]at hR
  obtain⟨h1,h2,h3,h4,_⟩:=VN hr
  have hS:=Nb (YC b) 3 (LF hr hfl hd) (by simp[YC]) (Dr hr hfl hd)
  dsimp only
  generalize Vm (YC b) 3=r at *
  obtain⟨ty,num,fl,sum,data⟩:=b
  obtain⟨⟨k,n,bb,l⟩,e⟩:=r
  dsimp only at h1 h2 h3 h4 hd hfl
  have hN:=GU ty num fl sum.toNat
  have hB:=JU data (by omega)
  have es:IntKind.u64.wrap sum=((sum.toNat:Nat):Int):=by rw[IntWalk.u64_in _ (by omega)];omega
  replace hS:AP Tryz.prog 138 [.sl .ext [nmE ty,nmE num,nmE fl,nmE sum.toNat,.agg [.int .i64 2,.int .u64 0,.sl (data.map E.byte),.sl []]],.int .i64 3] (JZ (.mk k n bb l,e)) []:=hS
  have hu4:Uni 4 [nmE ty,nmE num,nmE fl,nmE sum.toNat]:=Uni.map (f:=nmE) (fun _=>rfl) [ty,num,fl,sum.toNat]
  refine AP.ofA (Zl Tryz.func108 U Tryz.ntmps108 U U ?_)
  repeat'(first|(apply Zb (hR);kernel_rfl;(iterate 4 exact U))|rw[es]|(apply Yp [] [] (hN);kernel_rfl;(iterate 10 exact U))|(apply Zb (hB);kernel_rfl;(iterate 4 exact U))|(apply Zb (hS);kernel_rfl;(iterate 4 exact U))|refine Wk Za U U U U U U U U U U U (Zk rfl) (Zk rfl) (List.cons_ne_nil _ _) Qd Qd U U ?_|(apply Zh Za;exact U)|(apply Zg Za;exact U)|(apply Zo Za;exact U)|refine Zf U Qt ?_|refine ZO Za U U U U U U U U U U U U ?_)
  all_goals exact Qe
def bk0:BlkV:=⟨0,0,0,0,[]⟩
abbrev Ds (r:BlkV × Int):D:=.tup [.agg (bkC r.1),.int .i64 r.2]
abbrev N2 (n m:Nat):It:=.mk 4 0 [] [.mk 0 n [] [],.mk 0 m [] []]
def GZ (x:It)(o:List It × Int):BlkV × Int:=match o.2 != 0 with
 | true=>(bk0,o.2)
 | false=>match o.1 with
  | [.mk k0 n0 b0 l0,.mk k1 n1 b1 l1,.mk k2 n2 b2 l2,.mk k3 n3 b3 l3,.mk k4 n4 b4 l4]=>(match k4 != 2 with
   | true=>(bk0,3)
   | false=>match(Yc ⟨n0,n1,n2,IntKind.i64.wrap (n3:Int),b4⟩).2 != 0 with
    | true=>(bk0,3)
    | false=>match It.beq (Yc ⟨n0,n1,n2,IntKind.i64.wrap (n3:Int),b4⟩).1 x with
     | false=>(bk0,3)
     | true=>(⟨n0,n1,n2,IntKind.i64.wrap (n3:Int),b4⟩,0))
  | _=>(bk0,3)
def Vs (x:It):BlkV × Int:=GZ x (Uo x 3)
theorem QL (x:It)(a:Int):∀ y ∈ (Uo x a).1,y ∈ x.l:=by
 obtain⟨k,n,b,l⟩:=x
 unfold Uo
 dsimp only[It.l]
 have hs:∀(m:Nat) (y:It),y ∈ l.take m->y ∈ l:=fun m y h=>List.mem_of_mem_take h
 repeat' split
 all_goals first|exact hs _|(intro y h;exact h)|(intro y h;exact absurd h (by simp))
theorem LG:wfI z0:=⟨by decide,by simp,by simp,trivial⟩
theorem Ss (s:Nat){l:List It}(hws:wfs l)(hl:l.length<=1000000):wfI (VM s l):=by
 refine⟨by decide,by simp,by simp;omega,X8 hws ⟨⟨by decide,?_,by simp,trivial⟩,trivial⟩⟩
 have:(VC s (ZM (ZP s l))).length<=4:=by
  unfold VC
  split<;>simp
 omega
theorem Nj {l:List It}(a:Int)(hws:wfs l)(hl:l.length<=1000000):wfI (Vm l a).1:=by
 unfold Vm
 have h0:wfI (.mk 4 0 [] l):=⟨by decide,by simp,by omega,hws⟩
 repeat' split
 all_goals first|exact LG|exact h0|exact Ss _ hws hl
theorem J1 {b:BlkV}(hfl:b.fl<18446744073709551616)(hd:b.data.length<=3000):wfI (Yc b).1:=by
 unfold Yc
 cases h:ZU b with
 | false=>exact LG
 | true=>exact Nj 3 (LF h hfl hd) (by simp[YC])
theorem D7 [Known][KnownU8](k:Int)(n:Nat)(b:List UInt8)(xl:List E)(L:List E)(e:Int)
  (hO:AP Tryz.prog 111 [.agg [.int .i64 k,.int .u64 (n:Int),byE b,.sl .ext xl],.int .i64 3] (.tup [.sl .ext L,.int .i64 e]) []) (t1:(e != 0)=true) :
  AP Tryz.prog 60 [.agg [.int .i64 k,.int .u64 (n:Int),byE b,.sl .ext xl]] (.tup [.agg [.int .u64 0,.int .u64 0,.int .u64 0,.int .i64 0,.sl .ext []],.int .i64 e]) []:=by
 refine AP.ofA (Zl Tryz.func60 U Tryz.ntmps60 U U ?_)
 repeat'(first|(apply Zb (hO);kernel_rfl;(iterate 4 exact U))|(apply Zh Za;exact U)|(apply Zg Za;exact U)|(apply Zo Za;exact U)|refine Zd U Qt ?_)
 all_goals exact Qe
theorem D8 [Known][KnownU8](k:Int)(n:Nat)(b:List UInt8)(xl:List E)(L:List E)(e:Int)
  (hO:AP Tryz.prog 111 [.agg [.int .i64 k,.int .u64 (n:Int),byE b,.sl .ext xl],.int .i64 3] (.tup [.sl .ext L,.int .i64 e]) []) (t1:(e != 0)=false) (t2:((L.length:Int) != 5)=true) :
  AP Tryz.prog 60 [.agg [.int .i64 k,.int .u64 (n:Int),byE b,.sl .ext xl]] (.tup [.agg [.int .u64 0,.int .u64 0,.int .u64 0,.int .i64 0,.sl .ext []],.int .i64 3]) []:=by
 refine AP.ofA (Zl Tryz.func60 U Tryz.ntmps60 U U ?_)
 repeat'(first|(apply Zb (hO);kernel_rfl;(iterate 4 exact U))|(apply Zh Za;exact U)|(apply Zg Za;exact U)|(apply Zo Za;exact U)|refine Zn U U U Qt ?_|refine Zj U Qt U U ?_|refine Zd U Qt ?_|refine Zf U Qt ?_|refine Zm Za U U U U ?_)
 all_goals exact Qe
theorem D9 [Known][KnownU8](k:Int)(n:Nat)(b:List UInt8)(xl:List E)(L:List E)(e:Int)(k4:Int)(n4:Nat)(b4:List UInt8)(l4:List It)
  (hO:AP Tryz.prog 111 [.agg [.int .i64 k,.int .u64 (n:Int),byE b,.sl .ext xl],.int .i64 3] (.tup [.sl .ext L,.int .i64 e]) []) (t1:(e != 0)=false) (t2:((L.length:Int) != 5)=false) (hU:Uni 4 L) (hv4:L[(4:Int).toNat]?=some (.agg [.int .i64 k4,.int .u64 (n4:Int),.sl (b4.map E.byte),.sl (Zv l4)])) (t3:(k4 != 2)=true) :
  AP Tryz.prog 60 [.agg [.int .i64 k,.int .u64 (n:Int),byE b,.sl .ext xl]] (.tup [.agg [.int .u64 0,.int .u64 0,.int .u64 0,.int .i64 0,.sl .ext []],.int .i64 3]) []:=by
 refine AP.ofA (Zl Tryz.func60 U Tryz.ntmps60 U U ?_)
 repeat'(first|(apply Zb (hO);kernel_rfl;(iterate 4 exact U))|(apply Zh Za;exact U)|(apply Zg Za;exact U)|(apply Zo Za;exact U)|refine Ze U U U Qt ?_|refine Zi U Qt U U ?_|refine Zd U Qt ?_|refine Zf U Qt ?_|refine Zm Za U U U U ?_|(apply Zr Za;(iterate 6 exact U);(first|exact Qt|rotate_left);(first|with_reducible assumption|decide +kernel|exact U);(first|exact Zk rfl|with_reducible assumption|decide +kernel|rotate_left)))
 all_goals exact Qe
theorem Fa [Known][KnownU8](k:Int)(n:Nat)(b:List UInt8)(xl:List E)(L:List E)(e:Int)(k0:Int)(n0:Nat)(b0:List UInt8)(l0:List It)(k1:Int)(n1:Nat)(b1:List UInt8)(l1:List It)(k2:Int)(n2:Nat)(b2:List UInt8)(l2:List It)(k3:Int)(n3:Nat)(b3:List UInt8)(l3:List It)(k4:Int)(n4:Nat)(b4:List UInt8)(l4:List It)(wk:Int)(wn:Nat)(wb:List UInt8)(wl:List E)(we:Int)
  (hO:AP Tryz.prog 111 [.agg [.int .i64 k,.int .u64 (n:Int),byE b,.sl .ext xl],.int .i64 3] (.tup [.sl .ext L,.int .i64 e]) []) (t1:(e != 0)=false) (t2:((L.length:Int) != 5)=false) (hU:Uni 4 L) (hv0:L[(0:Int).toNat]?=some (.agg [.int .i64 k0,.int .u64 (n0:Int),.sl (b0.map E.byte),.sl (Zv l0)])) (hv1:L[(1:Int).toNat]?=some (.agg [.int .i64 k1,.int .u64 (n1:Int),.sl (b1.map E.byte),.sl (Zv l1)])) (hv2:L[(2:Int).toNat]?=some (.agg [.int .i64 k2,.int .u64 (n2:Int),.sl (b2.map E.byte),.sl (Zv l2)])) (hv3:L[(3:Int).toNat]?=some (.agg [.int .i64 k3,.int .u64 (n3:Int),.sl (b3.map E.byte),.sl (Zv l3)])) (hv4:L[(4:Int).toNat]?=some (.agg [.int .i64 k4,.int .u64 (n4:Int),.sl (b4.map E.byte),.sl (Zv l4)])) (t3:(k4 != 2)=false)
  (hC:AP Tryz.prog 44 [.sl .ext (b4.map E.byte)] (.sl .ext (b4.map E.byte)) []) (hW:AP Tryz.prog 108 [.agg [.int .u64 (n0:Int),.int .u64 (n1:Int),.int .u64 (n2:Int),.int .i64 (IntKind.i64.wrap (n3:Int)),.sl .ext (b4.map E.byte)]] (.tup [.agg [.int .i64 wk,.int .u64 (wn:Int),byE wb,.sl .ext wl],.int .i64 we]) []) (t4:(we != 0)=true) :
  AP Tryz.prog 60 [.agg [.int .i64 k,.int .u64 (n:Int),byE b,.sl .ext xl]] (.tup [.agg [.int .u64 0,.int .u64 0,.int .u64 0,.int .i64 0,.sl .ext []],.int .i64 3]) []:=by
 refine AP.ofA (Zl Tryz.func60 U Tryz.ntmps60 U U ?_)
 repeat'(first|(apply Zb (hO);kernel_rfl;(iterate 4 exact U))|(apply Zb (hC);kernel_rfl;(iterate 4 exact U))|(apply Zb (hW);kernel_rfl;(iterate 4 exact U))|(apply Zh Za;exact U)|(apply Zg Za;exact U)|(apply Zo Za;exact U)|refine Ze U U U Qt ?_|refine Zn U U U Qt ?_|refine Zj U Qt U U ?_|refine Zi U Qt U U ?_|refine Zd U Qt ?_|refine Zf U Qt ?_|refine Zm Za U U U U ?_|(apply Zq 24 ZE;decide +kernel;kernel_rfl;kernel_rfl;kernel_rfl;exact U;exact U)|(apply Zt;(iterate 4 exact U))|exact AE.nil _ _ _ _|(apply Zx;exact U)|(apply YD;exact U)|(apply Zz;exact U;exact U;decide +kernel;exact U)|(apply ZA;exact U)|(apply Y4;exact U)|exact AO.nil _ _ _|(apply Zs;(decide +kernel))|(apply Yj;(iterate 3 exact U))|exact AOs.nil|exact ZF rfl rfl|exact WL rfl rfl|(apply Zr Za;(iterate 6 exact U);(first|exact Qt|rotate_left);(first|with_reducible assumption|decide +kernel|exact U);(first|exact Zk rfl|with_reducible assumption|decide +kernel|rotate_left)))
 all_goals exact Qe
theorem Fb [Known][KnownU8](k:Int)(n:Nat)(b:List UInt8)(xl:List E)(L:List E)(e:Int)(k0:Int)(n0:Nat)(b0:List UInt8)(l0:List It)(k1:Int)(n1:Nat)(b1:List UInt8)(l1:List It)(k2:Int)(n2:Nat)(b2:List UInt8)(l2:List It)(k3:Int)(n3:Nat)(b3:List UInt8)(l3:List It)(k4:Int)(n4:Nat)(b4:List UInt8)(l4:List It)(wk:Int)(wn:Nat)(wb:List UInt8)(wl:List E)(we:Int)
  (hO:AP Tryz.prog 111 [.agg [.int .i64 k,.int .u64 (n:Int),byE b,.sl .ext xl],.int .i64 3] (.tup [.sl .ext L,.int .i64 e]) []) (t1:(e != 0)=false) (t2:((L.length:Int) != 5)=false) (hU:Uni 4 L) (hv0:L[(0:Int).toNat]?=some (.agg [.int .i64 k0,.int .u64 (n0:Int),.sl (b0.map E.byte),.sl (Zv l0)])) (hv1:L[(1:Int).toNat]?=some (.agg [.int .i64 k1,.int .u64 (n1:Int),.sl (b1.map E.byte),.sl (Zv l1)])) (hv2:L[(2:Int).toNat]?=some (.agg [.int .i64 k2,.int .u64 (n2:Int),.sl (b2.map E.byte),.sl (Zv l2)])) (hv3:L[(3:Int).toNat]?=some (.agg [.int .i64 k3,.int .u64 (n3:Int),.sl (b3.map E.byte),.sl (Zv l3)])) (hv4:L[(4:Int).toNat]?=some (.agg [.int .i64 k4,.int .u64 (n4:Int),.sl (b4.map E.byte),.sl (Zv l4)])) (t3:(k4 != 2)=false)
  (hC:AP Tryz.prog 44 [.sl .ext (b4.map E.byte)] (.sl .ext (b4.map E.byte)) []) (hW:AP Tryz.prog 108 [.agg [.int .u64 (n0:Int),.int .u64 (n1:Int),.int .u64 (n2:Int),.int .i64 (IntKind.i64.wrap (n3:Int)),.sl .ext (b4.map E.byte)]] (.tup [.agg [.int .i64 wk,.int .u64 (wn:Int),byE wb,.sl .ext wl],.int .i64 we]) []) (hS:AP Tryz.prog 96 [.agg [.int .i64 wk,.int .u64 (wn:Int),byE wb,.sl .ext wl],.agg [.int .i64 k,.int .u64 (n:Int),byE b,.sl .ext xl]] (.bool false) []) (t4:(we != 0)=false) :
  AP Tryz.prog 60 [.agg [.int .i64 k,.int .u64 (n:Int),byE b,.sl .ext xl]] (.tup [.agg [.int .u64 0,.int .u64 0,.int .u64 0,.int .i64 0,.sl .ext []],.int .i64 3]) []:=by
 refine AP.ofA (Zl Tryz.func60 U Tryz.ntmps60 U U ?_)
 repeat'(first|(apply Zb (hO);kernel_rfl;(iterate 4 exact U))|(apply Zb (hC);kernel_rfl;(iterate 4 exact U))|(apply Zb (hW);kernel_rfl;(iterate 4 exact U))|(apply Zb (hS);kernel_rfl;(iterate 4 exact U))|(apply Zh Za;exact U)|(apply Zg Za;exact U)|(apply Zo Za;exact U)|refine Ze U U U Qt ?_|refine Zi U Qt U U ?_|refine Zd U Qt ?_|refine Zf U Qt ?_|refine Zm Za U U U U ?_|(apply Zq 24 ZE;decide +kernel;kernel_rfl;kernel_rfl;kernel_rfl;exact U;exact U)|(apply Zt;(iterate 4 exact U))|exact AE.nil _ _ _ _|(apply Zx;exact U)|(apply YD;exact U)|(apply Zz;exact U;exact U;decide +kernel;exact U)|(apply ZA;exact U)|(apply Y4;exact U)|exact AO.nil _ _ _|(apply Zs;(decide +kernel))|(apply Yj;(iterate 3 exact U))|exact AOs.nil|exact ZF rfl rfl|exact WL rfl rfl|(apply Zr Za;(iterate 6 exact U);(first|exact Qt|rotate_left);(first|with_reducible assumption|decide +kernel|exact U);(first|exact Zk rfl|with_reducible assumption|decide +kernel|rotate_left)))
 all_goals exact Qe
theorem Fc [Known][KnownU8](k:Int)(n:Nat)(b:List UInt8)(xl:List E)(L:List E)(e:Int)(k0:Int)(n0:Nat)(b0:List UInt8)(l0:List It)(k1:Int)(n1:Nat)(b1:List UInt8)(l1:List It)(k2:Int)(n2:Nat)(b2:List UInt8)(l2:List It)(k3:Int)(n3:Nat)(b3:List UInt8)(l3:List It)(k4:Int)(n4:Nat)(b4:List UInt8)(l4:List It)(wk:Int)(wn:Nat)(wb:List UInt8)(wl:List E)(we:Int)
  (hO:AP Tryz.prog 111 [.agg [.int .i64 k,.int .u64 (n:Int),byE b,.sl .ext xl],.int .i64 3] (.tup [.sl .ext L,.int .i64 e]) []) (t1:(e != 0)=false) (t2:((L.length:Int) != 5)=false) (hU:Uni 4 L) (hv0:L[(0:Int).toNat]?=some (.agg [.int .i64 k0,.int .u64 (n0:Int),.sl (b0.map E.byte),.sl (Zv l0)])) (hv1:L[(1:Int).toNat]?=some (.agg [.int .i64 k1,.int .u64 (n1:Int),.sl (b1.map E.byte),.sl (Zv l1)])) (hv2:L[(2:Int).toNat]?=some (.agg [.int .i64 k2,.int .u64 (n2:Int),.sl (b2.map E.byte),.sl (Zv l2)])) (hv3:L[(3:Int).toNat]?=some (.agg [.int .i64 k3,.int .u64 (n3:Int),.sl (b3.map E.byte),.sl (Zv l3)])) (hv4:L[(4:Int).toNat]?=some (.agg [.int .i64 k4,.int .u64 (n4:Int),.sl (b4.map E.byte),.sl (Zv l4)])) (t3:(k4 != 2)=false)
  (hC:AP Tryz.prog 44 [.sl .ext (b4.map E.byte)] (.sl .ext (b4.map E.byte)) []) (hW:AP Tryz.prog 108 [.agg [.int .u64 (n0:Int),.int .u64 (n1:Int),.int .u64 (n2:Int),.int .i64 (IntKind.i64.wrap (n3:Int)),.sl .ext (b4.map E.byte)]] (.tup [.agg [.int .i64 wk,.int .u64 (wn:Int),byE wb,.sl .ext wl],.int .i64 we]) []) (hS:AP Tryz.prog 96 [.agg [.int .i64 wk,.int .u64 (wn:Int),byE wb,.sl .ext wl],.agg [.int .i64 k,.int .u64 (n:Int),byE b,.sl .ext xl]] (.bool true) []) (t4:(we != 0)=false) :
  AP Tryz.prog 60 [.agg [.int .i64 k,.int .u64 (n:Int),byE b,.sl .ext xl]] (.tup [.agg [.int .u64 (n0:Int),.int .u64 (n1:Int),.int .u64 (n2:Int),.int .i64 (IntKind.i64.wrap (n3:Int)),.sl .ext (b4.map E.byte)],.int .i64 0]) []:=by
 refine AP.ofA (Zl Tryz.func60 U Tryz.ntmps60 U U ?_)
 repeat'(first|(apply Zb (hO);kernel_rfl;(iterate 4 exact U))|(apply Zb (hC);kernel_rfl;(iterate 4 exact U))|(apply Zb (hW);kernel_rfl;(iterate 4 exact U))|(apply Zb (hS);kernel_rfl;(iterate 4 exact U))|(apply Zh Za;exact U)|(apply Zg Za;exact U)|(apply Zo Za;exact U)|refine Ze U U U Qt ?_|refine Zi U Qt U U ?_|refine Zf U Qt ?_|refine Zm Za U U U U ?_|(apply Zq 24 ZE;decide +kernel;kernel_rfl;kernel_rfl;kernel_rfl;exact U;exact U)|(apply Zt;(iterate 4 exact U))|exact AE.nil _ _ _ _|(apply Zx;exact U)|(apply YD;exact U)|(apply Zz;exact U;exact U;decide +kernel;exact U)|(apply ZA;exact U)|(apply Y4;exact U)|exact AO.nil _ _ _|(apply Zs;(decide +kernel))|(apply Yj;(iterate 3 exact U))|exact AOs.nil|exact ZF rfl rfl|exact WL rfl rfl|(apply Zr Za;(iterate 6 exact U);(first|exact Qt|rotate_left);(first|with_reducible assumption|decide +kernel|exact U);(first|exact Zk rfl|with_reducible assumption|decide +kernel|rotate_left)))
 all_goals exact Qe
theorem LH [Known][KnownU8](x:It)(hw:wfI x)(hxl:x.l.length<=1000000)(hlim:∀ s m,s=1\/s=2->(ZM (ZP s (x.l.take m))).length<=1000000000)(hb:∀ y ∈ x.l,y.b.length<=3000):AP Tryz.prog 60 [itD x] (Ds (Vs x)) []:=by
 have hO:=Nc x 3 hw hxl hlim
 have hsub:=QL x 3
 have hws:wfs x.l:=by obtain⟨k,n,b,l⟩:=x;exact hw.2.2.2
 unfold Vs
 generalize Uo x 3=o at *
 obtain⟨ol,oe⟩:=o
 have hlen:=Zw ol
 have hUo:=YH ol
 dsimp only at hsub
 have hSame:=fun(B:BlkV) (h1:B.fl<18446744073709551616) (h2:B.data.length<=3000)=>Um (Yc B).1 (J1 h1 h2) x hw
 obtain⟨k,n,b,l⟩:=x
 dsimp only[It.l]at *
 unfold GZ
 dsimp only
 replace hO:AP Tryz.prog 111 [.agg [.int .i64 k,.int .u64 (n:Int),byE b,.sl .ext (Zv l)],.int .i64 3] (.tup [.sl .ext (Zv ol),.int .i64 oe]) []:=hO
 cases t1:(oe != 0) with
 | true=>exact D7 k n b _ _ oe hO t1
 | false=>
 have hno:ol.length ≠ 5->AP Tryz.prog 60 [itD (.mk k n b l)] (Ds (bk0,3)) []:=fun h=>D8 k n b _ _ oe hO t1 (by rw[hlen];simp;omega)
 match ol,hO,hsub,hlen,hUo,hno with
 | [],_,_,_,_,h=>exact h (by simp)
 | [.mk _ _ _ _],_,_,_,_,h=>exact h (by simp)
 | [.mk _ _ _ _,.mk _ _ _ _],_,_,_,_,h=>exact h (by simp)
 | [.mk _ _ _ _,.mk _ _ _ _,.mk _ _ _ _],_,_,_,_,h=>exact h (by simp)
 | [.mk _ _ _ _,.mk _ _ _ _,.mk _ _ _ _,.mk _ _ _ _],_,_,_,_,h=>exact h (by simp)
 | .mk _ _ _ _::.mk _ _ _ _::.mk _ _ _ _::.mk _ _ _ _::.mk _ _ _ _::_::_,_,_,_,_,h=>exact h (by simp)
 | [.mk k0 n0 b0 l0,.mk k1 n1 b1 l1,.mk k2 n2 b2 l2,.mk k3 n3 b3 l3,.mk k4 n4 b4 l4],hO,hsub,hlen,hUo,_=>
 have t2:(((Zv [It.mk k0 n0 b0 l0,.mk k1 n1 b1 l1,.mk k2 n2 b2 l2,.mk k3 n3 b3 l3,.mk k4 n4 b4 l4]).length:Int) != 5)=false:=by rw[hlen];rfl
 dsimp only
 cases t3:(k4 != 2) with
 | true=>exact D9 k n b _ _ oe k4 n4 b4 l4 hO t1 t2 hUo rfl t3
 | false=>
 have hw2:n2<18446744073709551616:=(Yt hws (.mk k2 n2 b2 l2) (hsub _ (by simp))).1
 have hb4:b4.length<=3000:=hb (.mk k4 n4 b4 l4) (hsub _ (by simp))
 have hC:=VZ b4 (by omega)
 have hW:=OX ⟨n0,n1,n2,IntKind.i64.wrap (n3:Int),b4⟩ hw2 hb4
 have hS:=hSame ⟨n0,n1,n2,IntKind.i64.wrap (n3:Int),b4⟩ hw2 hb4
 clear hSame
 dsimp only
 generalize Yc ⟨n0,n1,n2,IntKind.i64.wrap (n3:Int),b4⟩=r at *
 obtain⟨⟨wk,wn,wb,wl⟩,we⟩:=r
 dsimp only at *
 cases t4:(we != 0) with
 | true=>exact Fa k n b _ _ oe k0 n0 b0 l0 k1 n1 b1 l1 k2 n2 b2 l2 k3 n3 b3 l3 k4 n4 b4 l4 wk wn wb _ we hO t1 t2 hUo rfl rfl rfl rfl rfl t3 hC hW t4
 | false=>
 dsimp only
 cases t5:It.beq (.mk wk wn wb wl) (.mk k n b l) with
 | false=>
  rw[t5]at hS
  exact Fb k n b _ _ oe k0 n0 b0 l0 k1 n1 b1 l1 k2 n2 b2 l2 k3 n3 b3 l3 k4 n4 b4 l4 wk wn wb _ we hO t1 t2 hUo rfl rfl rfl rfl rfl t3 hC hW hS t4
 | true=>
  rw[t5]at hS
  exact Fc k n b _ _ oe k0 n0 b0 l0 k1 n1 b1 l1 k2 n2 b2 l2 k3 n3 b3 l3 k4 n4 b4 l4 wk wn wb _ we hO t1 t2 hUo rfl rfl rfl rfl rfl t3 hC hW hS t4
def QM (a b:BlkV):Bool:=((a.ty:Int)==(b.ty:Int))&&(((a.num:Int)==(b.num:Int))&&(((a.fl:Int)==(b.fl:Int))&&((a.sum==b.sum)&&(a.data==b.data))))
theorem N3 [Known](a b:BlkV):AP Tryz.prog 85 [.agg (bkC a),.agg (bkC b)] (.bool (QM a b)) []:=by
 have hE:=Kp a.data b.data
 obtain⟨ty,num,fl,sum,data⟩:=a
 obtain⟨ty2,num2,fl2,sum2,data2⟩:=b
 unfold QM
 dsimp only at hE ⊢
 refine AP.ofA (Zl Tryz.func85 U Tryz.ntmps85 U U ?_)
 repeat'(first|(apply Zb (hE);kernel_rfl;(iterate 4 exact U))|(apply Zh Za;exact U)|(apply Zg Za;exact U)|refine Ze U U U Qt ?_|refine Zu U U U Qt ?_|(apply Yr;exact U;exact U;all_goals intro hb)|refine Zj U Qt U U ?_|refine Zi U Qt U U ?_)
 all_goals(apply Zp [];(apply Zc Za;exact U);(iterate 4 exact U))
 all_goals first|rfl|(simp only[*];done)|(simp only[*];rfl)|(simp[*];done)
def Wr (x:EidV):List UInt8:=[47,47]++x.h++[47]++x.d
theorem Wx {x:EidV}(h:ZR x=true)(hz:isZ x=false)(hi:x.i=true):x.n<=4294967295/\x.s<=4294967295/\x.h=[]/\x.d=[]/\1<=x.n:=by
 rw[KD hz hi]at h
 simp only[Bool.and_eq_true,decide_eq_true_eq,beq_iff_eq]at h
 obtain⟨⟨⟨⟨_,_,_,h1,h2,_⟩,h3⟩,h4⟩,h5⟩:=h
 exact⟨by omega,by omega,h1,h2,by omega⟩
theorem Wn {x:EidV}(h:ZR x=true)(hz:isZ x=false)(hi:x.i=false):x.n=0/\x.s=0/\1<=x.h.length/\x.h.length<=16/\x.d.length<=24/\x.h.all (okB 45)=true/\x.d.all (okB 47)=true:=by
 rw[KE hz hi]at h
 simp only[Bool.and_eq_true,decide_eq_true_eq,beq_iff_eq]at h
 obtain⟨⟨⟨⟨⟨⟨_,h1,h2,_⟩,h3⟩,h4⟩,h5⟩,h6⟩,h7⟩:=h
 exact⟨by omega,by omega,by omega,by omega,by omega,h6,h7⟩
theorem Su [Known](x:EidV)(h1:x.h.length<=16)(h2:x.d.length<=24):AP Tryz.prog 135 [.agg (eC x)] (.str (Wr x)) []:=by
 have l1:[(47:UInt8),47].length+x.h.length<=maxLen:=by simp;unfold maxLen;omega
 have l2:([(47:UInt8),47]++x.h).length + [(47:UInt8)].length<=maxLen:=by simp;unfold maxLen;omega
 have l3:([(47:UInt8),47]++x.h++[47]).length+x.d.length<=maxLen:=by simp;unfold maxLen;omega
 refine AP.ofA (Zl Tryz.func135 U Tryz.ntmps135 U U ?_)
 repeat'(first|(apply Qy;exact U;exact U;(first|exact l1|exact l2|exact l3);exact U)|(apply Zh Za;exact U)|(apply Zg Za;exact U))
 all_goals exact Qe
def Z5 (x:EidV):It:=
 if isZ x then .mk 4 0 [] [.mk 0 1 [] [],.mk 0 0 [] []]
 else if x.i then .mk 4 0 [] [.mk 0 2 [] [],.mk 4 0 [] [.mk 0 x.n [] [],.mk 0 x.s [] []]]
 else .mk 4 0 [] [.mk 0 1 [] [],.mk 3 0 (Wr x) []]
theorem Xr [Known](x:EidV):AP Tryz.prog 99 [.agg (eC x)] (.tup [itD (if ZR x then Z5 x else .mk 0 0 [] []),.int .i64 (if ZR x then 0 else 3)]) []:=by
 have hR:=V0 x
 cases hr:ZR x with
 | false=>
  rw[hr]at hR
  refine AP.ofA (Zl Tryz.func99 U Tryz.ntmps99 U U ?_)
  repeat'(first|(apply Zb (hR);kernel_rfl;(iterate 4 exact U))|(apply Zh Za;exact U)|(apply Zg Za;exact U)|(apply Zo Za;exact U)|refine Zd U Qt ?_)
  all_goals exact Qe
 | true=>
  rw[hr]at hR
  rw[if_pos rfl,if_pos rfl]
  unfold Z5
  cases hz:isZ x with
  | true=>
   rw[if_pos rfl]
   have n1:=Wm 1
   have n0:=Wm 0
   have hL:=Vj [.mk 0 1 [] [],.mk 0 0 [] []] (by decide) (by simp[wfI,wfs])
   replace n1:AP Tryz.prog _ [.int .u64 1] (.agg [.int .i64 0,.int .u64 1,.sl .ext [],.sl .ext []]) []:=n1
   replace n0:AP Tryz.prog _ [.int .u64 0] (.agg [.int .i64 0,.int .u64 0,.sl .ext [],.sl .ext []]) []:=n0
   unfold isZ at hz
   refine AP.ofA (Zl Tryz.func99 U Tryz.ntmps99 U U ?_)
   repeat'(first|(apply Zb (hR);kernel_rfl;(iterate 4 exact U))|(apply Zb (n1);kernel_rfl;(iterate 4 exact U))|(apply Zb (n0);kernel_rfl;(iterate 4 exact U))|(apply Zb (hL);kernel_rfl;(iterate 4 exact U))|(apply Zh Za;exact U)|(apply Zg Za;exact U)|(apply Zo Za;exact U)|refine Zd U Qt ?_|refine Zf U Qt ?_|refine ZO Za U U U U U U U U U U U U ?_|refine V8 Za U U U U Qk Qk U U U ?_)
   all_goals exact Qe
  | false=>
   rw[if_neg (by simp)]
   cases hi:x.i with
   | true=>
    obtain⟨b1,b2,_⟩:=Wx hr hz hi
    rw[if_pos rfl]
    have n2:=Wm 2
    have nn:=Wm x.n
    have ns:=Wm x.s
    have hL1:=Vj [.mk 0 x.n [] [],.mk 0 x.s [] []] (by simp) (by simp[wfI,wfs];omega)
    have hL:=Vj [.mk 0 2 [] [],.mk 4 0 [] [.mk 0 x.n [] [],.mk 0 x.s [] []]] (by simp) (by simp[wfI,wfs];omega)
    replace n2:AP Tryz.prog _ [.int .u64 2] (.agg [.int .i64 0,.int .u64 2,.sl .ext [],.sl .ext []]) []:=n2
    replace nn:AP Tryz.prog _ [.int .u64 (x.n:Int)] (.agg [.int .i64 0,.int .u64 (x.n:Int),.sl .ext [],.sl .ext []]) []:=nn
    replace ns:AP Tryz.prog _ [.int .u64 (x.s:Int)] (.agg [.int .i64 0,.int .u64 (x.s:Int),.sl .ext [],.sl .ext []]) []:=ns
    replace hL1:AP Tryz.prog _ _ (.agg [.int .i64 4,.int .u64 0,.sl .ext [],.sl .ext [.agg [.int .i64 0,.int .u64 (x.n:Int),.sl [],.sl []],.agg [.int .i64 0,.int .u64 (x.s:Int),.sl [],.sl []]]]) []:=hL1
    unfold isZ at hz
    refine AP.ofA (Zl Tryz.func99 U Tryz.ntmps99 U U ?_)
    repeat'(first|(apply Zb (hR);kernel_rfl;(iterate 4 exact U))|(apply Zb (n2);kernel_rfl;(iterate 4 exact U))|(apply Zb (nn);kernel_rfl;(iterate 4 exact U))|(apply Zb (ns);kernel_rfl;(iterate 4 exact U))|(apply Zb (hL1);kernel_rfl;(iterate 4 exact U))|(apply Zb (hL);kernel_rfl;(iterate 4 exact U))|(apply Zh Za;exact U)|(apply Zg Za;exact U)|(apply Zo Za;exact U)|refine Zd U Qt ?_|refine Zf U Qt ?_|refine ZO Za U U U U U U U U U U U U ?_|refine V8 Za U U U U Qk Qk U U U ?_|(apply Zq 6 ZE;decide +kernel;kernel_rfl;kernel_rfl;kernel_rfl;exact U;exact U)|(apply Zt;(iterate 4 exact U))|exact AE.nil _ _ _ _|(apply Zx;exact U)|(apply Zz;exact U;exact U;decide +kernel;exact U)|(apply ZA;exact U)|exact AO.nil _ _ _|(apply Zs;(decide +kernel))|exact AOs.nil|exact ZF rfl rfl)
    all_goals exact Qe
   | false=>
    obtain⟨_,_,_,b1,b2,_⟩:=Wn hr hz hi
    rw[if_neg (by simp)]
    have n1:=Wm 1
    have hP:=Su x b1 b2
    have hT:=R7 (Wr x)
    have hpl:(Wr x).length<=1099511627776:=by unfold Wr;simp;omega
    generalize Wr x=p at *
    have hL:=Vj [.mk 0 1 [] [],.mk 3 0 p []] (by simp) (by simp[wfI,wfs];omega)
    replace n1:AP Tryz.prog _ [.int .u64 1] (.agg [.int .i64 0,.int .u64 1,.sl .ext [],.sl .ext []]) []:=n1
    replace hT:AP Tryz.prog _ [.str p] (.agg [.int .i64 3,.int .u64 0,byE p,.sl .ext []]) []:=hT
    unfold isZ at hz
    refine AP.ofA (Zl Tryz.func99 U Tryz.ntmps99 U U ?_)
    repeat'(first|(apply Zb (hR);kernel_rfl;(iterate 4 exact U))|(apply Zb (n1);kernel_rfl;(iterate 4 exact U))|(apply Zb (hP);kernel_rfl;(iterate 4 exact U))|(apply Zb (hT);kernel_rfl;(iterate 4 exact U))|(apply Zb (hL);kernel_rfl;(iterate 4 exact U))|(apply Zh Za;exact U)|(apply Zg Za;exact U)|(apply Zo Za;exact U)|refine Zf U Qt ?_|refine ZO Za U U U U U U U U U U U U ?_|refine V8 Za U U U U Qk Qk U U U ?_|(apply Zq 2 ZE;decide +kernel;kernel_rfl;kernel_rfl;kernel_rfl;exact U;exact U)|(apply Zt;(iterate 4 exact U))|exact AE.nil _ _ _ _|(apply Zx;exact U)|(apply Zz;exact U;exact U;decide +kernel;exact U)|(apply ZA;exact U)|exact AO.nil _ _ _|(apply Zs;(decide +kernel))|exact AOs.nil|exact ZF rfl rfl)
    all_goals exact Qe
end Go.Proofs.YtmljabhmajehnaaGreatDoor
end

/- The document's blocks: written and read (dqgen.py). -/
import Derived.Test.YtakblclkflnnpaaGreatDoorK35
import Derived.Test.YtakblclkflnnpaaGreatDoorK37
import Derived.Test.YtakblclkflnnpaaGreatDoorK38
set_option linter.unusedVariables false
set_option linter.unusedSimpArgs false
section
open Go.RowKit Go.Pl Go.Av
namespace Go.Proofs.YtakblclkflnnpaaGreatDoor
set_option maxHeartbeats 4000000
theorem Zg3 {c:BlkV}(h:Zbh c=true):c.data.length<=200:=by
 unfold Zbh ZiO at h
 simp only[Bool.and_eq_true,decide_eq_true_eq]at h
 have:=h.2.2.2.2.2
 omega
theorem ZpQ {b:BlkV}(h:Zbh b=true)(hfl:b.fl<18446744073709551616)(s:Nat)(hs:s<=2):(Za9 (ZaR s (ZbR b))).length<=1000000000:=by
 obtain⟨h1,h2,h3,h4,_⟩:=Zdl h
 have hd:=Zg3 h
 have h9:¬ 3000<b.data.length:=by omega
 have hg:Za7 (ZaR s (ZbR b)) 1 300=293:=by
  rcases(show s=0\/s=1\/s=2 by omega) with rfl|rfl|rfl<;>simp[ZaR,ZbR,Za7,Zbk,h9]
 have hn:nI (ZaR s (ZbR b)):=by
  simp[ZaR,ZbR,nI,nIs]
  omega
 have:=(ZcT _ 1 300 (by omega) (by omega) hn).2.1
 omega
def Zb6 (b:BlkV):It:=(ZbE (ZbR b) b.sum.toNat).1
theorem ZfY (b:BlkV):(ZbR b).length=5:=rfl
theorem ZfZ (b:BlkV):Zbg (ZbR b)=5:=by simp[ZbR,Zbg,ZbL]
theorem ZgC {b:BlkV}(h:Zbh b=true)(hfl:b.fl<18446744073709551616):wfI (Zb6 b):=by
 obtain⟨h1,h2,h3,h4,h5⟩:=Zdl h
 exact ZjY (by omega) (Znw h hfl (by have:=Zg3 h;omega)) (by rw[ZfY];omega)
theorem ZgD [Known][KnownU8](b:BlkV)(h:Zbh b=true)(hfl:b.fl<18446744073709551616):AP Tryz.prog 33 [.agg (bkC b)] (itD (Zb6 b)) []:=by
 obtain⟨h1,h2,h3,h4,h5⟩:=Zdl h
 have hdl:=Zg3 h
 have hS:=Zgz (ZbR b) b.sum.toNat (by omega) (Znw h hfl (by omega)) (by rw[ZfY];omega) (by rw[ZfZ];omega) (ZpQ h hfl b.sum.toNat (by omega))
 have e1:((b.sum.toNat:Nat):Int)=b.sum:=by omega
 have e2:IntKind.u64.wrap b.sum=((b.sum.toNat:Nat):Int):=by rw[IntKind.wrap_u64];omega
 rw[e1]at hS
 unfold Zb6
 generalize ZbE (ZbR b) b.sum.toNat=S at *
 obtain⟨ty,num,fl,sum,d⟩:=b
 obtain⟨⟨k,n,bb,l⟩,ok⟩:=S
 dsimp only at *
 replace hS:AP Tryz.prog 95 [.sl .ext [.agg [.int .i64 0,.int .u64 (ty:Int),.sl [],.sl []],.agg [.int .i64 0,.int .u64 (num:Int),.sl [],.sl []],.agg [.int .i64 0,.int .u64 (fl:Int),.sl [],.sl []],.agg [.int .i64 0,.int .u64 ((sum.toNat:Nat):Int),.sl [],.sl []],.agg [.int .i64 2,.int .u64 0,.sl (d.map E.byte),.sl []]],.int .i64 sum] (.tup [.agg (itC k n bb l),.bool ok]) []:=hS
 refine AP.ofA ?_
 refine Zan Tryz.func33 rfl Tryz.ntmps33 rfl rfl ?_
 repeat'(first|rw[e2]|(apply Zaa (hS);kernel_rfl;(iterate 4 exact Z))|(apply Zaj Zab;exact Z)|(apply Zah Zab;exact Z)|(apply ZaX Zab;(iterate 12 exact Z)))
 all_goals(apply Zaw [];(apply Zad Zab;exact Z);(iterate 4 exact Z))
 all_goals rfl
def Zj1 (x:It)(o:List It × Int):BlkV × Int:=match o.2 != 0 with
 | true=>(bk0,o.2)
 | false=>match o.1 with
  | [.mk k0 n0 b0 l0,.mk k1 n1 b1 l1,.mk k2 n2 b2 l2,.mk k3 n3 b3 l3,.mk k4 n4 b4 l4]=>(match Zbh ⟨n0,n1,n2,IntKind.i64.wrap (n3:Int),b4⟩&&It.beq (Zb6 ⟨n0,n1,n2,IntKind.i64.wrap (n3:Int),b4⟩) x with
   | false=>(bk0,3)
   | true=>(⟨n0,n1,n2,IntKind.i64.wrap (n3:Int),b4⟩,0))
  | _=>(bk0,3)
def Zmf (x:It):BlkV × Int:=Zj1 x (Zkw x 3)
theorem ZqF [Known](k:Int)(n:Nat)(b:List UInt8)(l:List It)(L:List E)(e:Int)
  (hO:AP Tryz.prog 89 [.agg (itC k n b l),.int .i64 3] (.tup [.sl .ext L,.int .i64 e]) [])
  (te:(e != 0)=true) :
  AP Tryz.prog 28 [.agg (itC k n b l)] (.tup [.agg [.int .u64 0,.int .u64 0,.int .u64 0,.int .i64 0,.sl .ext []],.int .i64 e]) []:=by
 refine AP.ofA ?_
 refine Zan Tryz.func28 rfl Tryz.ntmps28 rfl rfl ?_
 repeat'(first|(apply Zaa (hO);kernel_rfl;(iterate 4 exact Z))|(apply Zaj Zab;exact Z)|(apply Zah Zab;exact Z)|(apply Zav Zab;exact Z)|(apply Zac;exact Z;exact Go.ZrJ))
 all_goals(apply Zaw [];(apply Zad Zab;exact Z);(iterate 4 exact Z))
 all_goals rfl
theorem ZqG [Known](k:Int)(n:Nat)(b:List UInt8)(l:List It)(L:List E)
  (hO:AP Tryz.prog 89 [.agg (itC k n b l),.int .i64 3] (.tup [.sl .ext L,.int .i64 0]) [])
  (hl:((L.length:Int) != 5)=true) :
  AP Tryz.prog 28 [.agg (itC k n b l)] (.tup [.agg [.int .u64 0,.int .u64 0,.int .u64 0,.int .i64 0,.sl .ext []],.int .i64 3]) []:=by
 refine AP.ofA ?_
 refine Zan Tryz.func28 rfl Tryz.ntmps28 rfl rfl ?_
 repeat'(first|(apply Zaa (hO);kernel_rfl;(iterate 4 exact Z))|(apply Zaj Zab;exact Z)|(apply Zah Zab;exact Z)|(apply Zav Zab;exact Z)|(apply Zac;exact Z;exact Go.ZrJ)|(apply Zaf;exact Z;exact Go.ZrJ)|(apply Zam Zab;(iterate 4 exact Z)))
 all_goals(apply Zaw [];(apply Zad Zab;exact Z);(iterate 4 exact Z))
 all_goals rfl
theorem ZqH [Known](k:Int)(n:Nat)(b:List UInt8)(l:List It)(k0 k1 k2 k3 k4:Int)(n0 n1 n2 n3 n4:Nat)(b0 b1 b2 b3 b4:List UInt8)(l0 l1 l2 l3 l4:List It)
  (hO:AP Tryz.prog 89 [.agg (itC k n b l),.int .i64 3] (.tup [.sl .ext (Zax [.mk k0 n0 b0 l0,.mk k1 n1 b1 l1,.mk k2 n2 b2 l2,.mk k3 n3 b3 l3,.mk k4 n4 b4 l4]),.int .i64 0]) [])
  (h5:(((Zax [.mk k0 n0 b0 l0,.mk k1 n1 b1 l1,.mk k2 n2 b2 l2,.mk k3 n3 b3 l3,.mk k4 n4 b4 l4]).length:Int) != 5)=false)
  (hR:AP Tryz.prog 30 [.agg [.int .u64 (n0:Int),.int .u64 (n1:Int),.int .u64 (n2:Int),.int .i64 (IntKind.i64.wrap (n3:Int)),byE b4]] (.bool false) []) :
  AP Tryz.prog 28 [.agg (itC k n b l)] (.tup [.agg [.int .u64 0,.int .u64 0,.int .u64 0,.int .i64 0,.sl .ext []],.int .i64 3]) []:=by
 refine AP.ofA ?_
 refine Zan Tryz.func28 rfl Tryz.ntmps28 rfl rfl ?_
 repeat'(first|(apply Zaa (hO);kernel_rfl;(iterate 4 exact Z))|(apply Zaa (hR);kernel_rfl;(iterate 4 exact Z))|(apply Zaj Zab;exact Z)|(apply Zah Zab;exact Z)|(apply Zav Zab;exact Z)|(apply Zal;(iterate 3 exact Z);exact Go.ZrJ)|(apply Zak;exact Z;exact Go.ZrJ;exact Z;exact Z)|(apply Zac;exact Z;exact Go.ZrJ)|(apply Zaf;exact Z;exact Go.ZrJ)|(apply Zam Zab;(iterate 4 exact Z))|(apply Zao 7 ZaL;decide +kernel;kernel_rfl;kernel_rfl;kernel_rfl;exact Z;exact Z)|(apply Zao 23 ZaL;decide +kernel;kernel_rfl;kernel_rfl;kernel_rfl;exact Z;exact Z)|(apply Zaq;(iterate 4 exact Z))|exact AE.nil _ _ _ _|(apply Zat;exact Z)|(apply Za6;exact Z)|(apply Zay;exact Z;exact Z;decide +kernel;exact Z)|(apply Zaz;exact Z)|(apply Zbp;exact Z)|exact AO.nil _ _ _|(apply Zap;(decide +kernel))|(apply ZaV;(iterate 3 exact Z))|exact AOs.nil|exact ZaH rfl rfl|exact Zb0 rfl rfl|(apply Zau Zab;(iterate 6 exact Z);(first|exact Go.ZrJ|rotate_left);(first|with_reducible assumption|decide +kernel|exact Z);(first|exact Zai rfl|with_reducible assumption|decide +kernel|rotate_left)))
 all_goals(apply Zaw [];(apply Zad Zab;exact Z);(iterate 4 exact Z))
 all_goals rfl
theorem ZqI [Known](k:Int)(n:Nat)(b:List UInt8)(l:List It)(k0 k1 k2 k3 k4:Int)(n0 n1 n2 n3 n4:Nat)(b0 b1 b2 b3 b4:List UInt8)(l0 l1 l2 l3 l4:List It)(kw:Int)(nw:Nat)(bw:List UInt8)(lw:List It)
  (hO:AP Tryz.prog 89 [.agg (itC k n b l),.int .i64 3] (.tup [.sl .ext (Zax [.mk k0 n0 b0 l0,.mk k1 n1 b1 l1,.mk k2 n2 b2 l2,.mk k3 n3 b3 l3,.mk k4 n4 b4 l4]),.int .i64 0]) [])
  (h5:(((Zax [.mk k0 n0 b0 l0,.mk k1 n1 b1 l1,.mk k2 n2 b2 l2,.mk k3 n3 b3 l3,.mk k4 n4 b4 l4]).length:Int) != 5)=false)
  (hR:AP Tryz.prog 30 [.agg [.int .u64 (n0:Int),.int .u64 (n1:Int),.int .u64 (n2:Int),.int .i64 (IntKind.i64.wrap (n3:Int)),byE b4]] (.bool true) [])
  (hW:AP Tryz.prog 33 [.agg [.int .u64 (n0:Int),.int .u64 (n1:Int),.int .u64 (n2:Int),.int .i64 (IntKind.i64.wrap (n3:Int)),byE b4]] (.agg (itC kw nw bw lw)) [])
  (hM:AP Tryz.prog 22 [.agg (itC kw nw bw lw),.agg (itC k n b l)] (.bool false) []) :
  AP Tryz.prog 28 [.agg (itC k n b l)] (.tup [.agg [.int .u64 0,.int .u64 0,.int .u64 0,.int .i64 0,.sl .ext []],.int .i64 3]) []:=by
 refine AP.ofA ?_
 refine Zan Tryz.func28 rfl Tryz.ntmps28 rfl rfl ?_
 repeat'(first|(apply Zaa (hO);kernel_rfl;(iterate 4 exact Z))|(apply Zaa (hR);kernel_rfl;(iterate 4 exact Z))|(apply Zaa (hW);kernel_rfl;(iterate 4 exact Z))|(apply Zaa (hM);kernel_rfl;(iterate 4 exact Z))|(apply Zaj Zab;exact Z)|(apply Zah Zab;exact Z)|(apply Zav Zab;exact Z)|(apply Zae;(iterate 3 exact Z);exact Go.ZrJ)|(apply Zag;exact Z;exact Go.ZrJ;exact Z;exact Z)|(apply Zac;exact Z;exact Go.ZrJ)|(apply Zaf;exact Z;exact Go.ZrJ)|(apply Zam Zab;(iterate 4 exact Z))|(apply Zao 7 ZaL;decide +kernel;kernel_rfl;kernel_rfl;kernel_rfl;exact Z;exact Z)|(apply Zao 23 ZaL;decide +kernel;kernel_rfl;kernel_rfl;kernel_rfl;exact Z;exact Z)|(apply Zaq;(iterate 4 exact Z))|exact AE.nil _ _ _ _|(apply Zat;exact Z)|(apply Za6;exact Z)|(apply Zay;exact Z;exact Z;decide +kernel;exact Z)|(apply Zaz;exact Z)|(apply Zbp;exact Z)|exact AO.nil _ _ _|(apply Zap;(decide +kernel))|(apply ZaV;(iterate 3 exact Z))|exact AOs.nil|exact ZaH rfl rfl|exact Zb0 rfl rfl|(apply Zau Zab;(iterate 6 exact Z);(first|exact Go.ZrJ|rotate_left);(first|with_reducible assumption|decide +kernel|exact Z);(first|exact Zai rfl|with_reducible assumption|decide +kernel|rotate_left)))
 all_goals(apply Zaw [];(apply Zad Zab;exact Z);(iterate 4 exact Z))
 all_goals rfl
theorem ZqJ [Known](k:Int)(n:Nat)(b:List UInt8)(l:List It)(k0 k1 k2 k3 k4:Int)(n0 n1 n2 n3 n4:Nat)(b0 b1 b2 b3 b4:List UInt8)(l0 l1 l2 l3 l4:List It)(kw:Int)(nw:Nat)(bw:List UInt8)(lw:List It)
  (hO:AP Tryz.prog 89 [.agg (itC k n b l),.int .i64 3] (.tup [.sl .ext (Zax [.mk k0 n0 b0 l0,.mk k1 n1 b1 l1,.mk k2 n2 b2 l2,.mk k3 n3 b3 l3,.mk k4 n4 b4 l4]),.int .i64 0]) [])
  (h5:(((Zax [.mk k0 n0 b0 l0,.mk k1 n1 b1 l1,.mk k2 n2 b2 l2,.mk k3 n3 b3 l3,.mk k4 n4 b4 l4]).length:Int) != 5)=false)
  (hR:AP Tryz.prog 30 [.agg [.int .u64 (n0:Int),.int .u64 (n1:Int),.int .u64 (n2:Int),.int .i64 (IntKind.i64.wrap (n3:Int)),byE b4]] (.bool true) [])
  (hW:AP Tryz.prog 33 [.agg [.int .u64 (n0:Int),.int .u64 (n1:Int),.int .u64 (n2:Int),.int .i64 (IntKind.i64.wrap (n3:Int)),byE b4]] (.agg (itC kw nw bw lw)) [])
  (hM:AP Tryz.prog 22 [.agg (itC kw nw bw lw),.agg (itC k n b l)] (.bool true) []) :
  AP Tryz.prog 28 [.agg (itC k n b l)] (.tup [.agg [.int .u64 (n0:Int),.int .u64 (n1:Int),.int .u64 (n2:Int),.int .i64 (IntKind.i64.wrap (n3:Int)),byE b4],.int .i64 0]) []:=by
 refine AP.ofA ?_
 refine Zan Tryz.func28 rfl Tryz.ntmps28 rfl rfl ?_
 repeat'(first|(apply Zaa (hO);kernel_rfl;(iterate 4 exact Z))|(apply Zaa (hR);kernel_rfl;(iterate 4 exact Z))|(apply Zaa (hW);kernel_rfl;(iterate 4 exact Z))|(apply Zaa (hM);kernel_rfl;(iterate 4 exact Z))|(apply Zaj Zab;exact Z)|(apply Zah Zab;exact Z)|(apply Zav Zab;exact Z)|(apply Zae;(iterate 3 exact Z);exact Go.ZrJ)|(apply Zag;exact Z;exact Go.ZrJ;exact Z;exact Z)|(apply Zaf;exact Z;exact Go.ZrJ)|(apply Zam Zab;(iterate 4 exact Z))|(apply Zao 7 ZaL;decide +kernel;kernel_rfl;kernel_rfl;kernel_rfl;exact Z;exact Z)|(apply Zao 23 ZaL;decide +kernel;kernel_rfl;kernel_rfl;kernel_rfl;exact Z;exact Z)|(apply Zaq;(iterate 4 exact Z))|exact AE.nil _ _ _ _|(apply Zat;exact Z)|(apply Za6;exact Z)|(apply Zay;exact Z;exact Z;decide +kernel;exact Z)|(apply Zaz;exact Z)|(apply Zbp;exact Z)|exact AO.nil _ _ _|(apply Zap;(decide +kernel))|(apply ZaV;(iterate 3 exact Z))|exact AOs.nil|exact ZaH rfl rfl|exact Zb0 rfl rfl|(apply Zau Zab;(iterate 6 exact Z);(first|exact Go.ZrJ|rotate_left);(first|with_reducible assumption|decide +kernel|exact Z);(first|exact Zai rfl|with_reducible assumption|decide +kernel|rotate_left)))
 all_goals(apply Zaw [];(apply Zad Zab;exact Z);(iterate 4 exact Z))
 all_goals rfl
end Go.Proofs.YtakblclkflnnpaaGreatDoor
end

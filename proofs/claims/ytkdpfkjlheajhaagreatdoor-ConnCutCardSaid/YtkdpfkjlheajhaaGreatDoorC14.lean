/- A connection: what must come of fixed calls. -/
import Derived.Test.YtkdpfkjlheajhaaGreatDoorC13
import Derived.Shelf.LaysM
import Derived.Shelf.Strconv.Itoa1
import Derived.Shelf.Strconv.Itoa2
import Derived.Test.YtkdpfkjlheajhaaGreatDoorProg
import Derived.Test.YtkdpfkjlheajhaaGreatDoorC10
import Derived.Lib.ItoaMem
import Derived.Lib.Walk
import Derived.WalkKit
import Derived.BigCall
import Derived.BigGuard
import Derived.Lib.ItoaNum
import Derived.Shelf.Pu.Lays
import Derived.Shelf.Pu.ParseUintPublic10
import Derived.Lib.AtoiErrMem
import Derived.Lib.ParseIntBCases
import Derived.Test.YtkdpfkjlheajhaaGreatDoorC09
import Derived.Lib.Strings
import Derived.Lib.Slices
import Derived.Lib.Bytealg
set_option linter.unusedVariables false
set_option linter.unusedSimpArgs false
section
open Go.RowKit Go.Pl Go.Av
namespace Go.Proofs.YtkdpfkjlheajhaaGreatDoor
set_option maxHeartbeats 4000000
abbrev coN:D:=.sl .nil []
abbrev co8:List E:=[.int .u8 0,.int .u8 6,.int .u8 5,.int .u8 0,.int .u8 0,.int .u8 0,.int .u8 0,.int .u8 0]
abbrev coG:List Fr:=[⟨8,1,5⟩]
theorem Ov [Known]:AT Tryz.prog 8 [] [] [] (.ptr 1 0) (coW coN coN 0 0 []) []:=by
 have hN:=Ih
 replace hN:AQ Tryz.prog 43 [] [] (.ptr 0 0) [[.bool true,.sl .ext [],.int .i64 0]]:=hN
 refine Zm Tryz.func8 rfl Tryz.ntmps8 rfl rfl ?_
 repeat'(first|(apply Zh [] (hN);kernel_rfl;(iterate 7 exact Z))|(apply Zj Za;exact Z)|(apply Zg Za;exact Z))
 all_goals(apply ZX [0,1] [];(apply Zd Za;exact Z);(iterate 7 exact Z))
 all_goals rfl
theorem OR [Known](s e:Int)(left:List E):AT Tryz.prog 24 [.ptr 1 0] (coW coN coN s e left) [] (.int .i64 0) (coW coN coN s e left) []:=by
 refine Zm Tryz.func24 rfl Tryz.ntmps24 rfl rfl ?_
 repeat'(first|(apply Zj Za;exact Z)|(apply Zg Za;exact Z)|(apply Ze;exact Z;(first|with_reducible assumption|decide +kernel|(solve|simp only[bn])))|refine Zp Za Z Z Z Z ?_)
 all_goals(apply ZX [0,1] [];(apply Zd Za;exact Z);(iterate 7 exact Z))
 all_goals rfl
theorem Iq [Known]:AT Tryz.prog 24 [.ptr 1 0] (coW (.sl (.own 0) [UK]) coN 0 0 []) coF (.int .i64 1) (coW (.sl (.own 0) [UK]) coN 0 0 []) coF:=by
 refine Zm Tryz.func24 rfl Tryz.ntmps24 rfl rfl ?_
 repeat'(first|(apply Zj Za;exact Z)|(apply Zg Za;exact Z)|(apply Ze;exact Z;(first|with_reducible assumption|decide +kernel|(solve|simp only[bn])))|refine Zp Za Z Z Z Z ?_)
 all_goals(apply ZX [0,1] [0];(apply Zd Za;exact Z);(iterate 7 exact Z))
 all_goals rfl
theorem ccl [Known](s e:Int)(left:List E):AT Tryz.prog 26 [.ptr 1 0] (coW coN coN s e left) [] (.int .i64 e) (coW coN coN s e left) []:=by
 refine Zm Tryz.func26 rfl Tryz.ntmps26 rfl rfl ?_
 repeat'(first|(apply ZR Tryz.func50 Tryz.ntmps50;exact Z;exact Z;kernel_rfl;(iterate 6 exact Z))|(apply Y8;(apply Zd Za;exact Z);exact Z)|(apply Zj Za;exact Z)|(apply Zg Za;exact Z)|(apply Zq Za;exact Z)|(apply Zi;(iterate 3 exact Z);(first|with_reducible assumption|decide +kernel|(solve|simp only[bn])))|(apply Zk;exact Z;(first|with_reducible assumption|decide +kernel|(solve|simp only[bn]));exact Z;exact Z)|(apply Ze;exact Z;(first|with_reducible assumption|decide +kernel|(solve|simp only[bn]))))
 all_goals(apply ZX [0,1] [];(apply Zd Za;exact Z);(iterate 7 exact Z))
 all_goals rfl
theorem GO [Known]:AT Tryz.prog 18 [.ptr 1 0,.agg [.int .u64 5,.int .i64 0,.int .i64 0,.int .i64 0,.int .u64 0,coN]] (coW coN coN 0 3 []) [] (.int .i64 0) (coW coN (.sl (.own 0) co8) 0 3 []) coG:=by
 have hW:=JX ⟨5,0,0,0,0,[]⟩
 rw[show UJ ⟨5,0,0,0,0,[]⟩=.tup [.sl .ext [.int .u8 5,.int .u8 0,.int .u8 0,.int .u8 0,.int .u8 0,.int .u8 0],.int .i64 0] by kernel_rfl]at hW
 replace hW:AP Tryz.prog 51 [.agg [.int .u64 5,.int .i64 0,.int .i64 0,.int .i64 0,.int .u64 0,.sl .ext []]] _ []:=hW
 have hF:=XV [5,0,0,0,0,0] (by decide) (by decide)
 replace hF:AP Tryz.prog 52 [.sl .ext [.int .u8 5,.int .u8 0,.int .u8 0,.int .u8 0,.int .u8 0,.int .u8 0]] (.tup [.sl .ext co8,.int .i64 0]) []:=hF
 refine Zm Tryz.func18 rfl Tryz.ntmps18 rfl rfl ?_
 repeat'(first|(apply Zc (hW);kernel_rfl;(iterate 4 exact Z))|(apply Zc (hF);kernel_rfl;(iterate 4 exact Z))|(apply ZR Tryz.func50 Tryz.ntmps50;exact Z;exact Z;kernel_rfl;(iterate 6 exact Z))|(apply Y8;(apply Zd Za;exact Z);exact Z)|refine Yf Za Z Z Z Z Z Z (Zn rfl) (List.cons_ne_nil _ _) Z Qd Qd Z Z Z ?_|(apply Zj Za;exact Z)|(apply Zg Za;exact Z)|(apply Zq Za;exact Z)|(apply Zi;(iterate 3 exact Z);(first|with_reducible assumption|decide +kernel|(solve|simp only[bn])))|(apply Zk;exact Z;(first|with_reducible assumption|decide +kernel|(solve|simp only[bn]));exact Z;exact Z)|(apply Zf;exact Z;(first|with_reducible assumption|decide +kernel|(solve|simp only[bn])))|(apply Ze;exact Z;(first|with_reducible assumption|decide +kernel|(solve|simp only[bn]))))
 all_goals(apply ZX [0,1] [0];(apply Zd Za;exact Z);(iterate 7 exact Z))
 all_goals rfl
theorem GP [Known]:AT Tryz.prog 21 [.ptr 1 0] (coW coN (.sl (.own 0) co8) 0 3 []) coG (.sl (.own 0) co8) (coW coN coN 0 3 []) coG:=by
 refine Zm Tryz.func21 rfl Tryz.ntmps21 rfl rfl ?_
 repeat'(first|(apply Zg Za;exact Z)|(apply Ze;exact Z;(first|with_reducible assumption|decide +kernel|(solve|simp only[bn]))))
 all_goals(apply ZX [0,1] [0];(apply Zd Za;exact Z);(iterate 7 exact Z))
 all_goals rfl
theorem IW [Known]:AT Tryz.prog 16 [.ptr 1 0,.int .i64 3] (coW (.sl .ext []) coN 0 0 []) [] (.int .i64 0) (coW (.sl .ext []) coN 3 0 []) []:=by
 refine Zm Tryz.func16 rfl Tryz.ntmps16 rfl rfl ?_
 repeat'(first|(apply ZR Tryz.func50 Tryz.ntmps50;exact Z;exact Z;kernel_rfl;(iterate 6 exact Z))|(apply Y8;(apply Zd Za;exact Z);exact Z)|(apply Zj Za;exact Z)|(apply Zg Za;exact Z)|(apply Zq Za;exact Z)|(apply Zi;(iterate 3 exact Z);(first|with_reducible assumption|decide +kernel|(solve|simp only[bn])))|(apply Zk;exact Z;(first|with_reducible assumption|decide +kernel|(solve|simp only[bn]));exact Z;exact Z)|(apply Zl;exact Z;(first|with_reducible assumption|decide +kernel|(solve|simp only[bn]));exact Z;exact Z)|(apply Ze;exact Z;(first|with_reducible assumption|decide +kernel|(solve|simp only[bn]))))
 all_goals(apply ZX [0,1] [];(apply Zd Za;exact Z);(iterate 7 exact Z))
 all_goals rfl
theorem Ir [Known]:AT Tryz.prog 16 [.ptr 1 0,.int .i64 4] (coW (.sl .ext []) coN 3 0 []) [] (.int .i64 7) (coW (.sl .ext []) coN 3 0 []) []:=by
 refine Zm Tryz.func16 rfl Tryz.ntmps16 rfl rfl ?_
 repeat'(first|(apply ZR Tryz.func50 Tryz.ntmps50;exact Z;exact Z;kernel_rfl;(iterate 6 exact Z))|(apply Y8;(apply Zd Za;exact Z);exact Z)|(apply Zj Za;exact Z)|(apply Zg Za;exact Z)|(apply Zq Za;exact Z)|(apply Zi;(iterate 3 exact Z);(first|with_reducible assumption|decide +kernel|(solve|simp only[bn])))|(apply Zz;(iterate 3 exact Z);(first|with_reducible assumption|decide +kernel|(solve|simp only[bn])))|(apply Zk;exact Z;(first|with_reducible assumption|decide +kernel|(solve|simp only[bn]));exact Z;exact Z)|(apply Zl;exact Z;(first|with_reducible assumption|decide +kernel|(solve|simp only[bn]));exact Z;exact Z)|(apply Zf;exact Z;(first|with_reducible assumption|decide +kernel|(solve|simp only[bn])))|(apply Ze;exact Z;(first|with_reducible assumption|decide +kernel|(solve|simp only[bn]))))
 all_goals(apply ZX [0,1] [];(apply Zd Za;exact Z);(iterate 7 exact Z))
 all_goals rfl
theorem IX [Known]:AT Tryz.prog 25 [.ptr 1 0] (coW (.sl .ext []) coN 3 0 []) [] (.int .i64 3) (coW (.sl .ext []) coN 3 0 []) []:=by
 refine Zm Tryz.func25 rfl Tryz.ntmps25 rfl rfl ?_
 repeat'(first|(apply Zg Za;exact Z)|(apply Ze;exact Z;(first|with_reducible assumption|decide +kernel|(solve|simp only[bn]))))
 all_goals(apply ZX [0,1] [];(apply Zd Za;exact Z);(iterate 7 exact Z))
 all_goals rfl
theorem Jk [Known]:AP Tryz.prog 48 [.sl .ext []] (.sl .ext []) []:=by
 refine AP.ofA (Zm Tryz.func48 Z Tryz.ntmps48 Z Z ?_)
 repeat'(first|(apply WH Za;(iterate 5 exact Z);intro b hbn)|(apply Zj Za;exact Z)|(apply Zg Za;exact Z)|(apply Zq Za;exact Z)|(apply QY;exact Z;all_goals intro hb)|refine VN Za Z Z Z Z Z Z Z Z Z Z Z Z ?_|refine Yt Za Z Z Z Z Z Z ?_)
 all_goals exact Qe
theorem IY [Known]:AT Tryz.prog 12 [.ptr 1 0] (coW (.sl (.own 0) [UK]) coN 0 0 []) coF (.tup [.agg rqO,.bool true]) (coW (.sl .ext []) coN 0 0 []) coF:=by
 have hW:=Iq
 have hC:=Jk
 have hU1:Uni 19 [UK]:=by intro e he;rw[List.mem_singleton]at he;subst he;rfl
 refine Zm Tryz.func12 rfl Tryz.ntmps12 rfl rfl ?_
 repeat'(first|(apply Zb [0,1] [0] (hW);kernel_rfl;(iterate 10 exact Z))|(apply Zc (hC);kernel_rfl;(iterate 4 exact Z))|refine UH Za Z Z Z Z Z Z hU1 (by decide) (by decide) Z ?_|(apply Zj Za;exact Z)|(apply Zg Za;exact Z)|(apply Zq Za;exact Z)|(apply Ze;exact Z;(first|with_reducible assumption|decide +kernel|(solve|simp only[bn])))|(apply Zv Za;(iterate 6 exact Z);(first|exact Qt|rotate_left);(first|with_reducible assumption|decide +kernel|exact Z);(first|exact Zn rfl|with_reducible assumption|decide +kernel|rotate_left)))
 all_goals(apply ZX [0,1] [0];(apply Zd Za;exact Z);(iterate 7 exact Z))
 all_goals rfl
theorem WM [Known]:AP Tryz.prog 9 [] (.bool true) []:=by
 have k0:=Ov
 have k1:=ck1
 have k2:=OR 0 0 [.int .u8 0,.int .u8 2,.int .u8 5]
 have k3:=ck2
 have k4:=ccl 0 3 []
 have k5:=GO
 have k6:=GP
 have k7:=ck3
 have k8:=IY
 have k9:=IW
 have k10:=IX
 have k11:=Ir
 have k12:=OR 0 3 []
 refine AP.ofA (Zm Tryz.func9 Z Tryz.ntmps9 Z Z ?_)
 repeat'(first|(apply Zb [] [] (k0);kernel_rfl;(iterate 10 exact Z))|(apply Zb [0,1] [] (k1);kernel_rfl;(iterate 10 exact Z))|(apply Zb [0,1] [] (k2);kernel_rfl;(iterate 10 exact Z))|(apply Zb [0,1] [] (k3);kernel_rfl;(iterate 10 exact Z))|(apply Zb [0,1] [] (k4);kernel_rfl;(iterate 10 exact Z))|(apply Zb [0,1] [] (k5);kernel_rfl;(iterate 10 exact Z))|(apply Zb [0,1] [2] (k6);kernel_rfl;(iterate 10 exact Z))|(apply Zb [2,3] [] (k7);kernel_rfl;(iterate 10 exact Z))|(apply Zb [2,3] [4] (k8);kernel_rfl;(iterate 10 exact Z))|(apply Zb [2,3] [] (k9);kernel_rfl;(iterate 10 exact Z))|(apply Zb [2,3] [] (k10);kernel_rfl;(iterate 10 exact Z))|(apply Zb [2,3] [] (k11);kernel_rfl;(iterate 10 exact Z))|(apply Zb [0,1] [] (k12);kernel_rfl;(iterate 10 exact Z))|(apply Zj Za;exact Z)|(apply Zg Za;exact Z)|(apply Zi;(iterate 3 exact Z);(first|with_reducible assumption|decide +kernel|(solve|simp only[bn])))|(apply Zk;exact Z;(first|with_reducible assumption|decide +kernel|(solve|simp only[bn]));exact Z;exact Z)|refine Zp Za Z Z Z Z ?_|refine Yl Za Z Z Z Z Z Z Z Z Z Z Z Z ?_)
 all_goals exact Qe
end Go.Proofs.YtkdpfkjlheajhaaGreatDoor
end
section
namespace Go.Proofs.YtkdpfkjlheajhaaGreatDoor
open Go.Shelf
def Uj:Go.Shelf.Ren:=⟨fun|283=>152|n=>n,fun|3=>3|9=>9|4=>4|n=>n,fun|n=>n⟩
theorem Ow:Go.Proofs.Lays.n283 Tryz.prog Uj := {
 mixed:=by kernel_rfl,
 f283:=Tryz.func152.trans (congrArg some (by kernel_rfl)),
 t3:=Tryz.underlying3,
 a3:=Tryz.isAgg3,
 z3:=Tryz.sizeOf3,
 v3:=Tryz.zeroValue3,
 t4:=Tryz.underlying4,
 a4:=Tryz.isAgg4,
 z4:=Tryz.sizeOf4,
 v4:=Tryz.zeroValue4,
 t9:=Tryz.underlying9,
 a9:=Tryz.isAgg9,
 z9:=Tryz.sizeOf9,
 v9:=Tryz.zeroValue9 }
def Wk:Go.Shelf.Ren:=⟨fun|284=>153|129=>182|317=>181|318=>183|n=>n,fun|53=>31|3=>3|212=>266|0=>0|4=>4|46=>128|5=>5|9=>9|n=>n,fun|17=>0|n=>n⟩
theorem QM:Go.Proofs.LaysM.n284 Tryz.prog Wk := {
 mixed:=by kernel_rfl,
 f129:=Tryz.func182.trans (congrArg some (by kernel_rfl)),
 f284:=Tryz.func153.trans (congrArg some (by kernel_rfl)),
 f317:=Tryz.func181.trans (congrArg some (by kernel_rfl)),
 f318:=Tryz.func183.trans (congrArg some (by kernel_rfl)),
 t0:=Tryz.underlying0,
 a0:=Tryz.isAgg0,
 z0:=Tryz.sizeOf0,
 v0:=Tryz.zeroValue0,
 t3:=Tryz.underlying3,
 a3:=Tryz.isAgg3,
 z3:=Tryz.sizeOf3,
 v3:=Tryz.zeroValue3,
 t4:=Tryz.underlying4,
 a4:=Tryz.isAgg4,
 z4:=Tryz.sizeOf4,
 v4:=Tryz.zeroValue4,
 t5:=Tryz.underlying5,
 a5:=Tryz.isAgg5,
 z5:=Tryz.sizeOf5,
 v5:=Tryz.zeroValue5,
 t9:=Tryz.underlying9,
 a9:=Tryz.isAgg9,
 z9:=Tryz.sizeOf9,
 v9:=Tryz.zeroValue9,
 t46:=Tryz.underlying128,
 a46:=Tryz.isAgg128,
 z46:=Tryz.sizeOf128,
 v46:=Tryz.zeroValue128,
 t53:=Tryz.underlying31,
 a53:=Tryz.isAgg31,
 z53:=Tryz.sizeOf31,
 v53:=Tryz.zeroValue31,
 t212:=Tryz.underlying266,
 a212:=Tryz.isAgg266,
 z212:=Tryz.sizeOf266,
 v212:=Tryz.zeroValue266,
 g17:=by kernel_rfl,
 i0:=by kernel_rfl,
 i3:=by kernel_rfl,
 i4:=by kernel_rfl,
 i5:=by kernel_rfl,
 i9:=by kernel_rfl,
 i46:=by kernel_rfl,
 i53:=by kernel_rfl,
 i212:=by kernel_rfl,
 m17:=by kernel_rfl }
def Uk:Go.Shelf.Ren:=⟨fun|285=>154|n=>n,fun|37=>26|53=>31|3=>3|4=>4|51=>267|9=>9|5=>5|0=>0|n=>n,fun|n=>n⟩
theorem Ox:Go.Proofs.Lays.n285 Tryz.prog Uk := {
 mixed:=by kernel_rfl,
 f285:=Tryz.func154.trans (congrArg some (by kernel_rfl)),
 t0:=Tryz.underlying0,
 a0:=Tryz.isAgg0,
 z0:=Tryz.sizeOf0,
 v0:=Tryz.zeroValue0,
 t3:=Tryz.underlying3,
 a3:=Tryz.isAgg3,
 z3:=Tryz.sizeOf3,
 v3:=Tryz.zeroValue3,
 t4:=Tryz.underlying4,
 a4:=Tryz.isAgg4,
 z4:=Tryz.sizeOf4,
 v4:=Tryz.zeroValue4,
 t5:=Tryz.underlying5,
 a5:=Tryz.isAgg5,
 z5:=Tryz.sizeOf5,
 v5:=Tryz.zeroValue5,
 t9:=Tryz.underlying9,
 a9:=Tryz.isAgg9,
 z9:=Tryz.sizeOf9,
 v9:=Tryz.zeroValue9,
 t37:=Tryz.underlying26,
 a37:=Tryz.isAgg26,
 z37:=Tryz.sizeOf26,
 v37:=Tryz.zeroValue26,
 t51:=Tryz.underlying267,
 a51:=Tryz.isAgg267,
 z51:=Tryz.sizeOf267,
 v51:=Tryz.zeroValue267,
 t53:=Tryz.underlying31,
 a53:=Tryz.isAgg31,
 z53:=Tryz.sizeOf31,
 v53:=Tryz.zeroValue31 }
end Go.Proofs.YtkdpfkjlheajhaaGreatDoor
end
section
open Go.RowKit Go.Pl Go.Av Go.Shelf Go.Sort Go.Lib
namespace Go.Proofs.YtkdpfkjlheajhaaGreatDoor
set_option maxHeartbeats 6400000
set_option maxRecDepth 100000 in
theorem Jl (u:Nat)(h1:1<=u)(h2:u<18446744073709551616)(w:World)(hc:∀ i,i<20->w.cell? ⟨0,i,none⟩=some (.int .u64 ((10 ^ i:Nat):Int))) :
  Calls Tryz.prog 153 #[.int .u64 u] w fun e w'=>e=.returned (.int .i64 (Lib.nDigits u))/\w'=w:=by
 obtain⟨hnd,h19⟩:=Lib.numDigits_eq u h1 h2
 have hL:Lib.bitLen u<=64:=Lib.bitLen_le u 64 (Nat.le_refl _) h2
 have hcell:=hc (Lib.l10 (Lib.bitLen u)) (by omega)
 have hto:((u:Int)).toNat=u:=by omega
 generalize hq:Lib.l10 (Lib.bitLen u)=q at hnd h19 hcell
 generalize hT:10 ^ q=T at hnd hcell
 have h20:q<20:=by omega
 have Hnd:=Lib.hid hnd
 clear hnd hc
 go_enter Tryz.func153,Tryz.ntmps153
 go_wp2_with (first
  | (go_at_call 182;refine(Any.bits_Len64 (P:=Tryz.prog) (ρ:=Wk) { QM with } _ _ (by omega) (by omega)).mono ?_;rintro e w' ⟨rfl,rfl⟩)
  | (go_at_call 181;refine(Any.internal_strconv_log10Pow2 (P:=Tryz.prog) (ρ:=Wk) { QM with } _ (by first|exact hL|(rw[hto];exact hL)) _).mono ?_;rintro e w' ⟨rfl,rfl⟩)
  | (go_at_call 183;refine(Any.internal_strconv_bool2_int (P:=Tryz.prog) (ρ:=Wk) { QM with } _ _).mono ?_;rintro e w' ⟨rfl,rfl⟩))
 all_goals go_ret
 all_goals(
  refine⟨?_,rfl⟩
  have hnd:=Hnd.out
  congr 2
  split at hnd<;>simp_all<;>omega)
theorem Jm (w:World)(T:TypeId)(nd:Nat)(hs:nd<=24):Holds (fun(b:UInt8)=>Value.int .u8 (b.toNat:Int)) (w.alloc (.cells Lib.zeros24 T)) w.heap.size 0 (Array.replicate nd (0:UInt8)):=fun j hj=>by
 have hj':j<nd:=by simpa using hj
 refine⟨?_,World.frozen?_alloc_new _ _ _ _⟩
 rw[World.cell?_alloc_new,Lib.zeros24_at _ (by omega),getElem!_pos _ j hj]
 simp
theorem GQ (w:World)(o:Obj)(dk:Array UInt8)(k:Nat):Below w.heap.size w ((putRow (fun(b:UInt8)=>Value.int .u8 (b.toNat:Int)) (w.alloc o) w.heap.size 0 dk).drewN k):=by
 have h:∃ os,(putRow (fun(b:UInt8)=>Value.int .u8 (b.toNat:Int)) (w.alloc o) w.heap.size 0 dk).drewN k=grow (w.drewN k) os:=by
  rw[alloc_eq_grow]
  obtain⟨os',_,e⟩:=putRow_grow_new (fun(b:UInt8)=>Value.int .u8 (b.toNat:Int)) w #[o] w.heap.size 0 dk (Nat.le_refl _)
  exact⟨os',by rw[e];rfl⟩
 obtain⟨os,e⟩:=h
 rw[e]
 refine⟨rfl,rfl,rfl,?_,fun b hb=>?_⟩
 ·show w.heap.size<=(w.heap++os).size
  rw[Array.size_append]
  omega
 ·show(w.heap++os)[b]?=w.heap[b]?
  rw[Array.getElem?_append_left hb]
theorem Oy {w:World}{o:Obj}{g i:Nat}{v:Value}(h:w.cell? ⟨g,i,none⟩=some v):(w.alloc o).cell? ⟨g,i,none⟩=some v:=
 (YR w o (World.block_lt_of_cell? w _ h) i).trans h
set_option maxRecDepth 100000 in
theorem XY (u:Nat)(hu64:u<18446744073709551616)(w:World)(hc:∀ i,i<20->w.cell? ⟨0,i,none⟩=some (.int .u64 ((10 ^ i:Nat):Int))) :
  Calls Tryz.prog 136 #[.int .u64 u,.int .i64 10] w fun e w'=>e=.returned (.string ⟨(Lib.decDigits u).toArray⟩)/\Below w.heap.size w w':=by
 by_cases hs:u<100
 ·have Hs:=Lib.hid hs
  go_enter Tryz.func136,Tryz.ntmps136
  go_wp2_with (go_at_call 152;refine(Any.internal_strconv_small (P:=Tryz.prog) (ρ:=Uj) Ow u Hs.out _).mono ?_;rintro e w' ⟨rfl,rfl⟩)
  go_ret
  exact⟨rfl,Below.refl _ _⟩
 ·have hu1:1<=u:=by omega
  have hnd20:Lib.nDigits u<=20:=by have:=Lib.numDigits_eq u hu1 hu64;split at this<;>omega
  have hal:Tryz.prog.arrayLen 234=24:=by simp[Program.arrayLen,Tryz.underlying234]
  have hsl:∀ W,(Instr.sliceAt 234 (.pointer (some ⟨w.heap.size,0,none⟩)) none (some (.int .i64 (Lib.nDigits u:Int))) none).run Tryz.prog W=.ok (.slice (some ⟨w.heap.size,0,none⟩) (Lib.nDigits u) 24) W:=fun W=>by
   rw[run_sliceAt_array_h W 234 ⟨w.heap.size,0,none⟩ (by simp[Program.arrayLen,Program.elem,Tryz.underlying234]) .i64 (Lib.nDigits u:Int) (by omega) (by rw[hal];omega)]
   go_simp
  have hH0:=Jm w 234 (Lib.nDigits u) (by omega)
  have hfmt:Calls Tryz.prog 154 _ _ _:=Any.internal_strconv_formatBase10 (P:=Tryz.prog) (ρ:=Uk) Ox w.heap.size 0 24 u (Array.replicate (Lib.nDigits u) 0) (w.alloc (.cells Lib.zeros24 234)) hH0 (by rw[Array.size_replicate];exact Lib.lt_pow_nDigits u) hu64 (by rw[Array.size_replicate];omega)
  rw[Array.size_replicate]at hfmt
  have HH0:=Lib.hid hH0
  have HC:=Lib.hid hc
  clear hH0 hal hc
  go_enter Tryz.func136,Tryz.ntmps136
  go_wp2_with (first
   | (go_at_call 153;refine(Jl u hu1 hu64 _ (fun i hi=>Oy (HC.out i hi))).mono ?_;rintro e w' ⟨rfl,rfl⟩))
  go_at_call 154
  refine hfmt.mono ?_
  rintro e w' ⟨rfl,k,v',dk,rfl,hF⟩
  have hcv:(convert 26 9 (.slice (some ⟨w.heap.size,0,none⟩) (Lib.nDigits u) 24)).run Tryz.prog ((putRow (fun(b:UInt8)=>Value.int .u8 (b.toNat:Int)) (w.alloc (.cells Lib.zeros24 234)) w.heap.size 0 dk).drewN k)=.ok (.string ⟨(Lib.decDigits u).toArray⟩) ((putRow (fun(b:UInt8)=>Value.int .u8 (b.toNat:Int)) (w.alloc (.cells Lib.zeros24 234)) w.heap.size 0 dk).drewN k):=by
   have h:=run_convert_bytes_back (P:=Tryz.prog) ((putRow (fun(b:UInt8)=>Value.int .u8 (b.toNat:Int)) (w.alloc (.cells Lib.zeros24 234)) w.heap.size 0 dk).drewN k) 26 9 5 ⟨w.heap.size,0,none⟩ 24 (Lib.decDigits u) Tryz.underlying26 Tryz.underlying5 Tryz.underlying9 (fun j hj=>by
    rw[Lib.row_is_numeral hF j hj,Lib.add_plain,World.cell?_drewN]
    exact cell?_putRow (fun(b:UInt8)=>Value.int .u8 (b.toNat:Int)) _ w.heap.size 0 _ dk HH0.out (by rw[hF.size,Array.size_replicate]) j (by rw[hF.size];rw[Lib.decDigits_length]at hj;exact hj))
   rw[Lib.decDigits_length]at h
   exact h
  go_wp2
  go_ret
  exact⟨rfl,GQ w _ dk k⟩
end Go.Proofs.YtkdpfkjlheajhaaGreatDoor
end
section
open Go.RowKit Go.Pl Go.Av
namespace Go.Proofs.YtkdpfkjlheajhaaGreatDoor
set_option maxHeartbeats 4000000
def Qp (x:EidV):List UInt8:=[47,47]++x.h++[47]++x.d
theorem UL {x:EidV}(h:Yd x=true)(hz:isZ x=false)(hi:x.i=true):x.n<=4294967295/\x.s<=4294967295/\x.h=[]/\x.d=[]/\1<=x.n:=by
 rw[Jg hz hi]at h
 simp only[Bool.and_eq_true,decide_eq_true_eq,beq_iff_eq]at h
 obtain⟨⟨⟨⟨_,_,_,h1,h2,_⟩,h3⟩,h4⟩,h5⟩:=h
 exact⟨by omega,by omega,h1,h2,by omega⟩
theorem UM {x:EidV}(h:Yd x=true)(hz:isZ x=false)(hi:x.i=false):x.n=0/\x.s=0/\1<=x.h.length/\x.h.length<=16/\x.d.length<=24/\x.h.all (okB 45)=true/\x.d.all (okB 47)=true:=by
 rw[Jh hz hi]at h
 simp only[Bool.and_eq_true,decide_eq_true_eq,beq_iff_eq]at h
 obtain⟨⟨⟨⟨⟨⟨_,h1,h2,_⟩,h3⟩,h4⟩,h5⟩,h6⟩,h7⟩:=h
 exact⟨by omega,by omega,by omega,by omega,by omega,h6,h7⟩
theorem Oz [Known](x:EidV)(h1:x.h.length<=16)(h2:x.d.length<=24):AP Tryz.prog 125 [.agg (eC x)] (.str (Qp x)) []:=by
 have l1:[(47:UInt8),47].length+x.h.length<=maxLen:=by simp;unfold maxLen;omega
 have l2:([(47:UInt8),47]++x.h).length + [(47:UInt8)].length<=maxLen:=by simp;unfold maxLen;omega
 have l3:([(47:UInt8),47]++x.h++[47]).length+x.d.length<=maxLen:=by simp;unfold maxLen;omega
 refine AP.ofA (Zm Tryz.func125 Z Tryz.ntmps125 Z Z ?_)
 repeat'(first|(apply JI;exact Z;exact Z;(first|exact l1|exact l2|exact l3);exact Z)|(apply Zj Za;exact Z)|(apply Zg Za;exact Z))
 all_goals exact Qe
theorem VV (n:Nat)(hn:n<18446744073709551616):(Lib.decDigits n).length<=20:=by
 rw[Lib.decDigits_length]
 rcases Nat.eq_zero_or_pos n with rfl|h
 ·rw[Lib.nDigits_small (by omega)];omega
 ·have:=Lib.numDigits_eq n h hn;split at this<;>omega
def Zw (x:EidV):List UInt8:=
 if isZ x then [100,116,110,58,110,111,110,101]
 else if x.i then [105,112,110,58]++Lib.decDigits x.n++[46]++Lib.decDigits x.s
 else [100,116,110,58]++Qp x
class KnownPow [Known]:Prop where
 pow:0 ∈ Known.ks
theorem XZ:dcs Rows.laid_internal_strconv_uint64pow10=(List.range 20).map (fun i=>Value.int .u64 ((10 ^ i:Nat):Int)):=by kernel_rfl
theorem OA:((0,dcs Rows.laid_internal_strconv_uint64pow10):Nat × List Value) ∈ K3:=by
 unfold K3
 repeat (first|exact List.mem_cons_self .. | apply List.mem_cons_of_mem)
theorem OB [Known][KnownPow](n:Nat)(hn:n<18446744073709551616):AP Tryz.prog 136 [.int .u64 (n:Int),.int .i64 10] (.str (Lib.decDigits n)) []:=by
 refine⟨fun g w vs hmem hl hv=>?_⟩
 obtain⟨v0,v1,rfl⟩:∃ v0 v1,vs=[v0,v1]:=by
  match vs,hl with
  | [v0,v1],_=>exact⟨v0,v1,rfl⟩
 have h0:=(hv 0 _ _ rfl rfl).int_inv
 have h1:=(hv 1 _ _ rfl rfl).int_inv
 subst h0 h1
 have hc:∀ i,i<20->w.cell? ⟨0,i,none⟩=some (.int .u64 ((10 ^ i:Nat):Int)):=fun i hi=>
  (hmem.gl.1 _ _ ⟨KnownPow.pow,OA⟩ i _ (by rw[XZ,List.getElem?_map,List.getElem?_range hi];rfl)).2
 exact(XY n hn w hc).mono fun e w' ⟨he,hb⟩=>Wu hmem hb he (.str _ (by have:=VV n hn;unfold maxLen;omega))
theorem Ur [Known][KnownPow](n:Nat)(hn:n<18446744073709551616):AP Tryz.prog 124 [.int .u64 (n:Int),.int .i64 10] (.str (Lib.decDigits n)) []:=by
 have h:=OB n hn
 refine AP.ofA (Zm Tryz.func124 Z Tryz.ntmps124 Z Z ?_)
 repeat'(first|(apply Zc (h);kernel_rfl;(iterate 4 exact Z))|(apply Zj Za;exact Z)|(apply Zg Za;exact Z))
 all_goals exact Qe
theorem KM [Known][KnownPow](x:EidV):AP Tryz.prog 115 [.agg (eC x)] (.tup [.str (if Yd x then Zw x else []),.int .i64 (if Yd x then 0 else 3)]) []:=by
 have hR:=W9 x
 cases hr:Yd x with
 | false=>
  rw[hr]at hR
  refine AP.ofA (Zm Tryz.func115 Z Tryz.ntmps115 Z Z ?_)
  repeat'(first|(apply Zc (hR);kernel_rfl;(iterate 4 exact Z))|(apply Zj Za;exact Z)|(apply Zg Za;exact Z)|(apply Zq Za;exact Z)|refine Zf Z Qt ?_)
  all_goals exact Qe
 | true=>
  rw[hr]at hR
  rw[if_pos rfl,if_pos rfl]
  unfold Zw
  cases hz:isZ x with
  | true=>
   rw[if_pos rfl]
   unfold isZ at hz
   refine AP.ofA (Zm Tryz.func115 Z Tryz.ntmps115 Z Z ?_)
   repeat'(first|(apply Zc (hR);kernel_rfl;(iterate 4 exact Z))|(apply Zj Za;exact Z)|(apply Zg Za;exact Z)|(apply Zq Za;exact Z)|refine Zf Z Qt ?_|refine Ze Z Qt ?_|refine WZ Za Z Z Z Z Qk Qk Z Z Z ?_)
   all_goals exact Qe
  | false=>
   rw[if_neg (by simp)]
   cases hi:x.i with
   | true=>
    obtain⟨b1,b2,_⟩:=UL hr hz hi
    rw[if_pos rfl]
    have f1:=Ur x.n (by omega)
    have f2:=Ur x.s (by omega)
    have d1:=VV x.n (by omega)
    have d2:=VV x.s (by omega)
    generalize Lib.decDigits x.n=p at *
    generalize Lib.decDigits x.s=q at *
    have l1:[(105:UInt8),112,110,58].length+p.length<=maxLen:=by simp;unfold maxLen;omega
    have l2:([(105:UInt8),112,110,58]++p).length + [(46:UInt8)].length<=maxLen:=by simp;unfold maxLen;omega
    have l3:([(105:UInt8),112,110,58]++p++[46]).length+q.length<=maxLen:=by simp;unfold maxLen;omega
    unfold isZ at hz
    refine AP.ofA (Zm Tryz.func115 Z Tryz.ntmps115 Z Z ?_)
    repeat'(first|(apply Zc (hR);kernel_rfl;(iterate 4 exact Z))|(apply Zc (f1);kernel_rfl;(iterate 4 exact Z))|(apply Zc (f2);kernel_rfl;(iterate 4 exact Z))|(apply JI;exact Z;exact Z;(first|exact l1|exact l2|exact l3);exact Z)|(apply Zj Za;exact Z)|(apply Zg Za;exact Z)|(apply Zq Za;exact Z)|refine Zf Z Qt ?_|refine Ze Z Qt ?_|refine WZ Za Z Z Z Z Qk Qk Z Z Z ?_|(apply Zx 8 Z9;decide +kernel;kernel_rfl;kernel_rfl;kernel_rfl;exact Z;exact Z)|(apply ZB;(iterate 4 exact Z))|exact AE.nil _ _ _ _|(apply ZF;exact Z)|(apply ZN;exact Z;exact Z;decide +kernel;exact Z)|(apply ZP;exact Z)|exact AO.nil _ _ _|(apply ZA;(decide +kernel))|exact AOs.nil|exact ZY rfl rfl)
    all_goals exact Qe
   | false=>
    obtain⟨_,_,_,b1,b2,_⟩:=UM hr hz hi
    rw[if_neg (by simp)]
    have hP:=Oz x b1 b2
    have hpl:(Qp x).length<=100:=by unfold Qp;simp;omega
    generalize Qp x=p at *
    have l1:[(100:UInt8),116,110,58].length+p.length<=maxLen:=by simp;unfold maxLen;omega
    unfold isZ at hz
    refine AP.ofA (Zm Tryz.func115 Z Tryz.ntmps115 Z Z ?_)
    repeat'(first|(apply Zc (hR);kernel_rfl;(iterate 4 exact Z))|(apply Zc (hP);kernel_rfl;(iterate 4 exact Z))|refine JI Z Z l1 Z ?_|(apply Zj Za;exact Z)|(apply Zg Za;exact Z)|(apply Zq Za;exact Z)|refine Ze Z Qt ?_|refine WZ Za Z Z Z Z Qk Qk Z Z Z ?_)
    all_goals exact Qe
theorem Y4 {x:EidV}(h:Yd x=true):(Zw x).length<=100:=by
 unfold Zw
 cases hz:isZ x with
 | true=>rw[if_pos rfl];decide
 | false=>
  rw[if_neg (by simp)]
  cases hi:x.i with
  | true=>
   obtain⟨b1,b2,_⟩:=UL h hz hi
   have d1:=VV x.n (by omega)
   have d2:=VV x.s (by omega)
   rw[if_pos rfl]
   simp only[List.length_append,List.length_cons,List.length_nil]
   omega
  | false=>
   obtain⟨_,_,_,b1,b2,_⟩:=UM h hz hi
   rw[if_neg (by simp)]
   unfold Qp
   simp only[List.length_append,List.length_cons,List.length_nil]
   omega
def Ys (c:UInt8):List UInt8->List UInt8 × List UInt8 × Bool
 | []=>([],[],false)
 | x::s=>if x=c then([],s,true) else(x::(Ys c s).1,(Ys c s).2.1,(Ys c s).2.2)
theorem Xu {c:UInt8}:∀ {s:List UInt8},c ∉ s->Ys c s=(s,[],false)
 | [],_=>rfl
 | x::s,h=>by
  have h1:¬ x=c:=fun e=>h (by rw[e];exact List.mem_cons_self ..)
  have h2:=Xu (c:=c) (s:=s) fun hm=>h (List.mem_cons_of_mem _ hm)
  rw[Ys,if_neg h1,h2]
theorem Jn {c:UInt8}:∀ {a b:List UInt8},c ∉ a->Ys c (a++c::b)=(a,b,true)
 | [],b,_=>by rw[List.nil_append,Ys,if_pos rfl]
 | x::a,b,h=>by
  have h1:¬ x=c:=fun e=>h (by rw[e];exact List.mem_cons_self ..)
  have h2:=Jn (c:=c) (a:=a) (b:=b) fun hm=>h (List.mem_cons_of_mem _ hm)
  rw[List.cons_append,Ys,if_neg h1,h2]
def YM (p s:List UInt8):List UInt8 × Bool:=if s.take p.length==p then(s.drop p.length,true) else(s,false)
theorem KN (p r:List UInt8):YM p (p++r)=(r,true):=by
 unfold YM
 rw[List.take_left,beq_self_eq_true,if_pos rfl,List.drop_left]
theorem OC {p s:List UInt8}(h:(s.take p.length==p)=false):YM p s=(s,false):=by
 unfold YM;rw[h];rfl
def ppV (s:List UInt8):EidV × Bool:=
 (⟨false,0,0,(Ys 47 (YM [47,47] s).1).1,(Ys 47 (YM [47,47] s).1).2.1⟩,(YM [47,47] s).2&&((Ys 47 (YM [47,47] s).1).2.2&&((Ys 47 (YM [47,47] s).1).1 != []&&Yd ⟨false,0,0,(Ys 47 (YM [47,47] s).1).1,(Ys 47 (YM [47,47] s).1).2.1⟩)))
def OS:List UInt8:=[100,116,110,58,110,111,110,101]
def Jo:List UInt8:=[105,112,110,58]
def Jp:List UInt8:=[100,116,110,58]
end Go.Proofs.YtkdpfkjlheajhaaGreatDoor
end
section
namespace Go.Proofs.YtkdpfkjlheajhaaGreatDoor
open Go.Shelf
def WN:Go.Shelf.Ren:=⟨fun|14=>139|16=>158|17=>159|19=>187|20=>188|21=>189|22=>190|23=>191|24=>192|25=>216|27=>218|26=>217|28=>231|29=>235|30=>152|31=>153|32=>154|33=>155|35=>182|34=>181|36=>183|37=>184|38=>185|39=>210|40=>211|n=>n,fun|9=>9|3=>3|22=>31|24=>211|25=>212|4=>4|34=>271|5=>5|36=>128|37=>26|0=>0|39=>274|21=>21|44=>299|47=>312|50=>315|48=>313|2=>2|52=>234|55=>237|59=>266|60=>267|20=>20|61=>268|65=>308|66=>309|67=>324|n=>n,fun|0=>2|1=>3|2=>0|3=>4|4=>5|n=>n⟩
theorem JY:Go.Proofs.LaysPu.n14 Tryz.prog WN := {
 mixed:=by kernel_rfl,
 f14:=Tryz.func139.trans (congrArg some (by kernel_rfl)),
 f16:=Tryz.func158.trans (congrArg some (by kernel_rfl)),
 f17:=Tryz.func159.trans (congrArg some (by kernel_rfl)),
 f19:=Tryz.func187.trans (congrArg some (by kernel_rfl)),
 f20:=Tryz.func188.trans (congrArg some (by kernel_rfl)),
 f21:=Tryz.func189.trans (congrArg some (by kernel_rfl)),
 f22:=Tryz.func190.trans (congrArg some (by kernel_rfl)),
 f23:=Tryz.func191.trans (congrArg some (by kernel_rfl)),
 f24:=Tryz.func192.trans (congrArg some (by kernel_rfl)),
 f25:=Tryz.func216.trans (congrArg some (by kernel_rfl)),
 f26:=Tryz.func217.trans (congrArg some (by kernel_rfl)),
 f27:=Tryz.func218.trans (congrArg some (by kernel_rfl)),
 f28:=Tryz.func231.trans (congrArg some (by kernel_rfl)),
 f29:=Tryz.func235.trans (congrArg some (by kernel_rfl)),
 f30:=Tryz.func152.trans (congrArg some (by kernel_rfl)),
 f31:=Tryz.func153.trans (congrArg some (by kernel_rfl)),
 f32:=Tryz.func154.trans (congrArg some (by kernel_rfl)),
 f33:=Tryz.func155.trans (congrArg some (by kernel_rfl)),
 f34:=Tryz.func181.trans (congrArg some (by kernel_rfl)),
 f35:=Tryz.func182.trans (congrArg some (by kernel_rfl)),
 f36:=Tryz.func183.trans (congrArg some (by kernel_rfl)),
 f37:=Tryz.func184.trans (congrArg some (by kernel_rfl)),
 f38:=Tryz.func185.trans (congrArg some (by kernel_rfl)),
 f39:=Tryz.func210.trans (congrArg some (by kernel_rfl)),
 f40:=Tryz.func211.trans (congrArg some (by kernel_rfl)),
 t0:=Tryz.underlying0,
 a0:=Tryz.isAgg0,
 z0:=Tryz.sizeOf0,
 v0:=Tryz.zeroValue0,
 i0:=by kernel_rfl,
 t2:=Tryz.underlying2,
 a2:=Tryz.isAgg2,
 z2:=Tryz.sizeOf2,
 v2:=Tryz.zeroValue2,
 i2:=by kernel_rfl,
 t3:=Tryz.underlying3,
 a3:=Tryz.isAgg3,
 z3:=Tryz.sizeOf3,
 v3:=Tryz.zeroValue3,
 i3:=by kernel_rfl,
 t4:=Tryz.underlying4,
 a4:=Tryz.isAgg4,
 z4:=Tryz.sizeOf4,
 v4:=Tryz.zeroValue4,
 i4:=by kernel_rfl,
 t5:=Tryz.underlying5,
 a5:=Tryz.isAgg5,
 z5:=Tryz.sizeOf5,
 v5:=Tryz.zeroValue5,
 i5:=by kernel_rfl,
 t9:=Tryz.underlying9,
 a9:=Tryz.isAgg9,
 z9:=Tryz.sizeOf9,
 v9:=Tryz.zeroValue9,
 i9:=by kernel_rfl,
 t20:=Tryz.underlying20,
 a20:=Tryz.isAgg20,
 z20:=Tryz.sizeOf20,
 v20:=Tryz.zeroValue20,
 i20:=by kernel_rfl,
 t21:=Tryz.underlying21,
 a21:=Tryz.isAgg21,
 z21:=Tryz.sizeOf21,
 v21:=Tryz.zeroValue21,
 i21:=by kernel_rfl,
 t22:=Tryz.underlying31,
 a22:=Tryz.isAgg31,
 z22:=Tryz.sizeOf31,
 v22:=Tryz.zeroValue31,
 i22:=by kernel_rfl,
 t24:=Tryz.underlying211,
 a24:=Tryz.isAgg211,
 z24:=Tryz.sizeOf211,
 v24:=Tryz.zeroValue211,
 i24:=by kernel_rfl,
 t25:=Tryz.underlying212,
 a25:=Tryz.isAgg212,
 z25:=Tryz.sizeOf212,
 v25:=Tryz.zeroValue212,
 i25:=by kernel_rfl,
 t34:=Tryz.underlying271,
 a34:=Tryz.isAgg271,
 z34:=Tryz.sizeOf271,
 v34:=Tryz.zeroValue271,
 i34:=by kernel_rfl,
 c34:=by kernel_rfl,
 t36:=Tryz.underlying128,
 a36:=Tryz.isAgg128,
 z36:=Tryz.sizeOf128,
 v36:=Tryz.zeroValue128,
 i36:=by kernel_rfl,
 t37:=Tryz.underlying26,
 a37:=Tryz.isAgg26,
 z37:=Tryz.sizeOf26,
 v37:=Tryz.zeroValue26,
 i37:=by kernel_rfl,
 t39:=Tryz.underlying274,
 a39:=Tryz.isAgg274,
 z39:=Tryz.sizeOf274,
 v39:=Tryz.zeroValue274,
 i39:=by kernel_rfl,
 t44:=Tryz.underlying299,
 a44:=Tryz.isAgg299,
 z44:=Tryz.sizeOf299,
 v44:=Tryz.zeroValue299,
 i44:=by kernel_rfl,
 t47:=Tryz.underlying312,
 a47:=Tryz.isAgg312,
 z47:=Tryz.sizeOf312,
 v47:=Tryz.zeroValue312,
 i47:=by kernel_rfl,
 t48:=Tryz.underlying313,
 a48:=Tryz.isAgg313,
 z48:=Tryz.sizeOf313,
 v48:=Tryz.zeroValue313,
 i48:=by kernel_rfl,
 t50:=Tryz.underlying315,
 a50:=Tryz.isAgg315,
 z50:=Tryz.sizeOf315,
 v50:=Tryz.zeroValue315,
 i50:=by kernel_rfl,
 t52:=Tryz.underlying234,
 a52:=Tryz.isAgg234,
 z52:=Tryz.sizeOf234,
 v52:=Tryz.zeroValue234,
 i52:=by kernel_rfl,
 t55:=Tryz.underlying237,
 a55:=Tryz.isAgg237,
 z55:=Tryz.sizeOf237,
 v55:=Tryz.zeroValue237,
 i55:=by kernel_rfl,
 t59:=Tryz.underlying266,
 a59:=Tryz.isAgg266,
 z59:=Tryz.sizeOf266,
 v59:=Tryz.zeroValue266,
 i59:=by kernel_rfl,
 t60:=Tryz.underlying267,
 a60:=Tryz.isAgg267,
 z60:=Tryz.sizeOf267,
 v60:=Tryz.zeroValue267,
 i60:=by kernel_rfl,
 t61:=Tryz.underlying268,
 a61:=Tryz.isAgg268,
 z61:=Tryz.sizeOf268,
 t65:=Tryz.underlying308,
 a65:=Tryz.isAgg308,
 z65:=Tryz.sizeOf308,
 v65:=Tryz.zeroValue308,
 i65:=by kernel_rfl,
 t66:=Tryz.underlying309,
 a66:=Tryz.isAgg309,
 z66:=Tryz.sizeOf309,
 v66:=Tryz.zeroValue309,
 i66:=by kernel_rfl,
 t67:=Tryz.underlying324,
 a67:=Tryz.isAgg324,
 z67:=Tryz.sizeOf324,
 v67:=Tryz.zeroValue324,
 i67:=by kernel_rfl,
 g0:=by kernel_rfl,
 m0:=by kernel_rfl,
 g1:=by kernel_rfl,
 m1:=by kernel_rfl,
 g2:=by kernel_rfl,
 m2:=by kernel_rfl,
 g3:=by kernel_rfl,
 m3:=by kernel_rfl,
 g4:=by kernel_rfl,
 m4:=by kernel_rfl }
end Go.Proofs.YtkdpfkjlheajhaaGreatDoor
end
section
open Go.RowKit Go.Pl Go.Av Go.Shelf
namespace Go.Proofs.YtkdpfkjlheajhaaGreatDoor
def puD (s:List UInt8):D:=match Lib.parseUintB 32 s with
 | .ok u=>.tup [.int .u64 (u:Int),.nili]
 | .range=>.tup [.int .u64 4294967295,.iface 274 .junk]
 | _=>.tup [.int .u64 0,.iface 274 .junk]
theorem GR:((2,313):Nat × TypeId) ∈ XA:=by
 unfold XA
 repeat (first|exact List.mem_cons_self .. | apply List.mem_cons_of_mem)
theorem GS:((3,313):Nat × TypeId) ∈ XA:=by
 unfold XA
 repeat (first|exact List.mem_cons_self .. | apply List.mem_cons_of_mem)
theorem JZ {w:World}{g:G}{fr:List Fr}{d1 d2:D}{v1 v2:Value}(h1:V w g fr d1 v1)(h2:V w g fr d2 v2):V w g fr (.tup [d1,d2]) (.tuple #[v1,v2]):=by
 refine .tup _ _ rfl fun j d v hd hv=>?_
 match j,hd,hv with
 | 0,hd,hv=>simp at hd hv;subst hd hv;exact h1
 | 1,hd,hv=>simp at hd hv;subst hd hv;exact h2
 | j+2,hd,hv=>simp at hd
theorem Qq [Known][KnownSc](s:List UInt8)(hs:s.length<=281474976710656):AP Tryz.prog 139 [.str s,.int .i64 10,.int .i64 32] (puD s) []:=by
 refine⟨fun g w vs hmem hl hv=>?_⟩
 obtain⟨v0,v1,v2,rfl⟩:∃ v0 v1 v2,vs=[v0,v1,v2]:=by
  match vs,hl with
  | [v0,v1,v2],_=>exact⟨v0,v1,v2,rfl⟩
 have h0:=(hv 0 _ _ rfl rfl).str_inv.1
 have h1:=(hv 1 _ _ rfl rfl).int_inv
 have h2:=(hv 2 _ _ rfl rfl).int_inv
 subst h0 h1 h2
 have hsz:(⟨s.toArray⟩:ByteArray).size=s.length:=by show s.toArray.size=_;simp
 have hds:(⟨s.toArray⟩:ByteArray).data.toList=s:=by simp
 unfold puD
 cases h:Lib.parseUintB 32 s with
 | ok u=>
  have hc:Calls Tryz.prog 139 _ w _:=Any.strconv_ParseUint_10_at32_ok (P:=Tryz.prog) (ρ:=WN) JY ⟨s.toArray⟩ (by rw[hsz];omega) u (by rw[hds];exact h) w
  refine hc.mono fun e w' ⟨he,hw⟩=>Wu hmem ?_ he (JZ (.int _ _) .nili)
  rcases hw with rfl|rfl
  ·exact Below.refl _ _
  ·exact Lib.bytesWorld_below _ _ _
 | range=>
  obtain⟨_,v,hvv⟩:=hmem.gl.2 _ _ ⟨KnownSc.range,GS⟩
  have hc:Calls Tryz.prog 139 _ w _:=Any.strconv_ParseUint_10_at32_range (P:=Tryz.prog) (ρ:=WN) JY ⟨s.toArray⟩ (by rw[hsz];omega) (by rw[hds];exact h) _ w hvv (.inr ⟨_,_,rfl⟩)
  exact hc.mono fun e w' ⟨N,he,_,_,hb⟩=>Wu hmem hb he (JZ (.int _ _) (.iface _ _ _ (.junk _)))
 | _=>
  obtain⟨_,v,hvv⟩:=hmem.gl.2 _ _ ⟨KnownSc.syn,GR⟩
  have hc:Calls Tryz.prog 139 _ w _:=Any.strconv_ParseUint_10_at32_syntax (P:=Tryz.prog) (ρ:=WN) JY ⟨s.toArray⟩ (by rw[hsz];omega) (by rw[hds];exact h) _ w hvv (.inr ⟨_,_,rfl⟩)
  exact hc.mono fun e w' ⟨N,he,_,_,hb⟩=>Wu hmem hb he (JZ (.int _ _) (.iface _ _ _ (.junk _)))
end Go.Proofs.YtkdpfkjlheajhaaGreatDoor
end
section
open Go.RowKit Go.Pl Go.Av
namespace Go.Proofs.YtkdpfkjlheajhaaGreatDoor
set_option maxHeartbeats 4000000
def puN (s:List UInt8):Nat:=match Lib.parseUintB 32 s with
 | .ok u=>u
 | .range=>4294967295
 | _=>0
def puB (s:List UInt8):Bool:=match Lib.parseUintB 32 s with
 | .ok _=>true
 | _=>false
theorem KO (s:List UInt8):puN s<=4294967295:=by
 unfold puN
 cases h:Lib.parseUintB 32 s with
 | ok u=>exact Lib.parseUintB_le h
 | range=>exact Nat.le_refl _
 | _=>exact Nat.zero_le _
theorem Is (s:List UInt8):puD s=.tup [.int .u64 (puN s:Int),if puB s then .nili else .iface 274 .junk]:=by
 unfold puD puN puB
 cases h:Lib.parseUintB 32 s<;>rfl
def pnV (s:List UInt8):EidV × Bool:=
 (⟨true,puN (Ys 46 s).1,puN (Ys 46 s).2.1,[],[]⟩,(Ys 46 s).2.2&&(puB (Ys 46 s).1&&(puB (Ys 46 s).2.1&&(Yd ⟨true,puN (Ys 46 s).1,puN (Ys 46 s).2.1,[],[]⟩&&(Lib.decDigits (puN (Ys 46 s).1)==(Ys 46 s).1&&Lib.decDigits (puN (Ys 46 s).2.1)==(Ys 46 s).2.1)))))
def WO (s:List UInt8):EidV × Bool:=
 if s==OS then(ZD,true)
 else if(YM Jo s).2 then pnV (YM Jo s).1
 else if(YM Jp s).2 then ppV (YM Jp s).1
 else(ZD,false)
set_option maxRecDepth 100000 in
theorem KP (s:ByteArray)(c:Int)(w:World):Calls Tryz.prog 212 #[.string s,.int .u8 c] w fun e w'=>e=.returned (.int .i64 (Lib.indexByte s.data.toList c.toNat.toUInt8))/\w'=w:=by
 go_enter Tryz.func212,Tryz.ntmps212
 go_wp2
 rw[run_callFunc_extern Tryz.func229 (by kernel_rfl) (by kernel_rfl) (by kernel_rfl) (e:=Extern.BytealgIndexByte.indexByte) (by kernel_rfl),Lib.run_indexByteString]
 simp only[Result.andThen]
 rw[Oper.upon_value]
 go_wp2
 go_ret
 exact⟨rfl,rfl⟩
theorem It [Known](s:List UInt8)(c:Int):AP Tryz.prog 212 [.str s,.int .u8 c] (.int .i64 (Lib.indexByte s c.toNat.toUInt8)) []:=by
 refine⟨fun g w vs hmem hl hv=>?_⟩
 obtain⟨v0,v1,rfl⟩:∃ v0 v1,vs=[v0,v1]:=by
  match vs,hl with
  | [v0,v1],_=>exact⟨v0,v1,rfl⟩
 have h0:=(hv 0 _ _ rfl rfl).str_inv.1
 have h1:=(hv 1 _ _ rfl rfl).int_inv
 subst h0 h1
 exact(KP ⟨s.toArray⟩ c w).mono fun e w' ⟨he,hb⟩=>Wu hmem (hb ▸ Below.refl _ _) he (.int _ _)
end Go.Proofs.YtkdpfkjlheajhaaGreatDoor
end

/- A connection: what must come of fixed calls. -/
import Derived.Test.YtchlgagdbflkmaaGreatDoorL14
import Derived.Shelf.LaysM
import Derived.Shelf.Strconv.Itoa1
import Derived.Shelf.Strconv.Itoa2
import Derived.Test.YtchlgagdbflkmaaGreatDoorProg
import Derived.Test.YtchlgagdbflkmaaGreatDoorL11
import Derived.Lib.ItoaMem
import Derived.Lib.Walk
import Derived.WalkKit
import Derived.BigCall
import Derived.BigGuard
import Derived.Test.YtchlgagdbflkmaaGreatDoorL10
import Derived.Lib.ItoaNum
import Derived.Shelf.Pu.Lays
import Derived.Shelf.Pu.ParseUintPublic10
import Derived.Lib.AtoiErrMem
set_option linter.unusedVariables false
set_option linter.unusedSimpArgs false
section
open Go.RowKit Go.Pl Go.Av
namespace Go.Proofs.YtchlgagdbflkmaaGreatDoor
set_option maxHeartbeats 4000000
abbrev coN:D:=.sl .nil []
abbrev co8:List E:=[.int .u8 0,.int .u8 6,.int .u8 5,.int .u8 0,.int .u8 0,.int .u8 0,.int .u8 0,.int .u8 0]
abbrev coG:List Fr:=[⟨8,1,5⟩]
theorem T5 [Known]:AT Tryz.prog 7 [] [] [] (.ptr 1 0) (coW coN coN 0 0 []) []:=by
 have hN:=Th
 replace hN:AQ Tryz.prog 47 [] [] (.ptr 0 0) [[.bool true,.sl .ext [],.int .i64 0]]:=hN
 refine Zp Tryz.func7 rfl Tryz.ntmps7 rfl rfl ?_
 repeat'(first|(apply Zh [] (hN);kernel_rfl;(iterate 7 exact Z))|(apply Zl Zb;exact Z)|(apply Zj Zb;exact Z))
 all_goals(apply Yc [0,1] [];(apply Zd Zb;exact Z);(iterate 7 exact Z))
 all_goals rfl
theorem H2 [Known](s e:Int)(left:List E):AT Tryz.prog 23 [.ptr 1 0] (coW coN coN s e left) [] (.int .i64 0) (coW coN coN s e left) []:=by
 refine Zp Tryz.func23 rfl Tryz.ntmps23 rfl rfl ?_
 repeat'(first|(apply Zl Zb;exact Z)|(apply Zj Zb;exact Z)|(apply Zg;exact Z;(first|with_reducible assumption|decide +kernel|(solve|simp only[bn])))|refine Zz Zb Z Z Z Z ?_)
 all_goals(apply Yc [0,1] [];(apply Zd Zb;exact Z);(iterate 7 exact Z))
 all_goals rfl
theorem Tp [Known]:AT Tryz.prog 23 [.ptr 1 0] (coW (.sl (.own 0) [Xl]) coN 0 0 []) coF (.int .i64 1) (coW (.sl (.own 0) [Xl]) coN 0 0 []) coF:=by
 refine Zp Tryz.func23 rfl Tryz.ntmps23 rfl rfl ?_
 repeat'(first|(apply Zl Zb;exact Z)|(apply Zj Zb;exact Z)|(apply Zg;exact Z;(first|with_reducible assumption|decide +kernel|(solve|simp only[bn])))|refine Zz Zb Z Z Z Z ?_)
 all_goals(apply Yc [0,1] [0];(apply Zd Zb;exact Z);(iterate 7 exact Z))
 all_goals rfl
theorem ccl [Known](s e:Int)(left:List E):AT Tryz.prog 25 [.ptr 1 0] (coW coN coN s e left) [] (.int .i64 e) (coW coN coN s e left) []:=by
 refine Zp Tryz.func25 rfl Tryz.ntmps25 rfl rfl ?_
 repeat'(first|(apply Zr Tryz.func54 Tryz.ntmps54;exact Z;exact Z;kernel_rfl;(iterate 6 exact Z))|(apply Z4;(apply Zd Zb;exact Z);exact Z)|(apply Zl Zb;exact Z)|(apply Zj Zb;exact Z)|(apply Zt Zb;exact Z)|(apply Zi;(iterate 3 exact Z);(first|with_reducible assumption|decide +kernel|(solve|simp only[bn])))|(apply Zo;exact Z;(first|with_reducible assumption|decide +kernel|(solve|simp only[bn]));exact Z;exact Z)|(apply Zg;exact Z;(first|with_reducible assumption|decide +kernel|(solve|simp only[bn]))))
 all_goals(apply Yc [0,1] [];(apply Zd Zb;exact Z);(iterate 7 exact Z))
 all_goals rfl
theorem N2 [Known]:AT Tryz.prog 17 [.ptr 1 0,.agg [.int .u64 5,.int .i64 0,.int .i64 0,.int .i64 0,.int .u64 0,coN]] (coW coN coN 0 3 []) [] (.int .i64 0) (coW coN (.sl (.own 0) co8) 0 3 []) coG:=by
 have hW:=QX ⟨5,0,0,0,0,[]⟩
 rw[show Qw ⟨5,0,0,0,0,[]⟩=.tup [.sl .ext [.int .u8 5,.int .u8 0,.int .u8 0,.int .u8 0,.int .u8 0,.int .u8 0],.int .i64 0] by kernel_rfl]at hW
 replace hW:AP Tryz.prog 55 [.agg [.int .u64 5,.int .i64 0,.int .i64 0,.int .i64 0,.int .u64 0,.sl .ext []]] _ []:=hW
 have hF:=XW [5,0,0,0,0,0] (by decide) (by decide)
 replace hF:AP Tryz.prog 56 [.sl .ext [.int .u8 5,.int .u8 0,.int .u8 0,.int .u8 0,.int .u8 0,.int .u8 0]] (.tup [.sl .ext co8,.int .i64 0]) []:=hF
 refine Zp Tryz.func17 rfl Tryz.ntmps17 rfl rfl ?_
 repeat'(first|(apply Zc (hW);kernel_rfl;(iterate 4 exact Z))|(apply Zc (hF);kernel_rfl;(iterate 4 exact Z))|(apply Zr Tryz.func54 Tryz.ntmps54;exact Z;exact Z;kernel_rfl;(iterate 6 exact Z))|(apply Z4;(apply Zd Zb;exact Z);exact Z)|refine ZL Zb Z Z Z Z Z Z (Zk rfl) (List.cons_ne_nil _ _) Z Qd Qd Z Z Z ?_|(apply Zl Zb;exact Z)|(apply Zj Zb;exact Z)|(apply Zt Zb;exact Z)|(apply Zi;(iterate 3 exact Z);(first|with_reducible assumption|decide +kernel|(solve|simp only[bn])))|(apply Zo;exact Z;(first|with_reducible assumption|decide +kernel|(solve|simp only[bn]));exact Z;exact Z)|(apply Zf;exact Z;(first|with_reducible assumption|decide +kernel|(solve|simp only[bn])))|(apply Zg;exact Z;(first|with_reducible assumption|decide +kernel|(solve|simp only[bn]))))
 all_goals(apply Yc [0,1] [0];(apply Zd Zb;exact Z);(iterate 7 exact Z))
 all_goals rfl
theorem N3 [Known]:AT Tryz.prog 20 [.ptr 1 0] (coW coN (.sl (.own 0) co8) 0 3 []) coG (.sl (.own 0) co8) (coW coN coN 0 3 []) coG:=by
 refine Zp Tryz.func20 rfl Tryz.ntmps20 rfl rfl ?_
 repeat'(first|(apply Zj Zb;exact Z)|(apply Zg;exact Z;(first|with_reducible assumption|decide +kernel|(solve|simp only[bn]))))
 all_goals(apply Yc [0,1] [0];(apply Zd Zb;exact Z);(iterate 7 exact Z))
 all_goals rfl
theorem T6 [Known]:AT Tryz.prog 15 [.ptr 1 0,.int .i64 3] (coW (.sl .ext []) coN 0 0 []) [] (.int .i64 0) (coW (.sl .ext []) coN 3 0 []) []:=by
 refine Zp Tryz.func15 rfl Tryz.ntmps15 rfl rfl ?_
 repeat'(first|(apply Zr Tryz.func54 Tryz.ntmps54;exact Z;exact Z;kernel_rfl;(iterate 6 exact Z))|(apply Z4;(apply Zd Zb;exact Z);exact Z)|(apply Zl Zb;exact Z)|(apply Zj Zb;exact Z)|(apply Zt Zb;exact Z)|(apply Zi;(iterate 3 exact Z);(first|with_reducible assumption|decide +kernel|(solve|simp only[bn])))|(apply Zo;exact Z;(first|with_reducible assumption|decide +kernel|(solve|simp only[bn]));exact Z;exact Z)|(apply Zn;exact Z;(first|with_reducible assumption|decide +kernel|(solve|simp only[bn]));exact Z;exact Z)|(apply Zg;exact Z;(first|with_reducible assumption|decide +kernel|(solve|simp only[bn]))))
 all_goals(apply Yc [0,1] [];(apply Zd Zb;exact Z);(iterate 7 exact Z))
 all_goals rfl
theorem Tq [Known]:AT Tryz.prog 15 [.ptr 1 0,.int .i64 4] (coW (.sl .ext []) coN 3 0 []) [] (.int .i64 7) (coW (.sl .ext []) coN 3 0 []) []:=by
 refine Zp Tryz.func15 rfl Tryz.ntmps15 rfl rfl ?_
 repeat'(first|(apply Zr Tryz.func54 Tryz.ntmps54;exact Z;exact Z;kernel_rfl;(iterate 6 exact Z))|(apply Z4;(apply Zd Zb;exact Z);exact Z)|(apply Zl Zb;exact Z)|(apply Zj Zb;exact Z)|(apply Zt Zb;exact Z)|(apply Zi;(iterate 3 exact Z);(first|with_reducible assumption|decide +kernel|(solve|simp only[bn])))|(apply Zq;(iterate 3 exact Z);(first|with_reducible assumption|decide +kernel|(solve|simp only[bn])))|(apply Zo;exact Z;(first|with_reducible assumption|decide +kernel|(solve|simp only[bn]));exact Z;exact Z)|(apply Zn;exact Z;(first|with_reducible assumption|decide +kernel|(solve|simp only[bn]));exact Z;exact Z)|(apply Zf;exact Z;(first|with_reducible assumption|decide +kernel|(solve|simp only[bn])))|(apply Zg;exact Z;(first|with_reducible assumption|decide +kernel|(solve|simp only[bn]))))
 all_goals(apply Yc [0,1] [];(apply Zd Zb;exact Z);(iterate 7 exact Z))
 all_goals rfl
theorem T7 [Known]:AT Tryz.prog 24 [.ptr 1 0] (coW (.sl .ext []) coN 3 0 []) [] (.int .i64 3) (coW (.sl .ext []) coN 3 0 []) []:=by
 refine Zp Tryz.func24 rfl Tryz.ntmps24 rfl rfl ?_
 repeat'(first|(apply Zj Zb;exact Z)|(apply Zg;exact Z;(first|with_reducible assumption|decide +kernel|(solve|simp only[bn]))))
 all_goals(apply Yc [0,1] [];(apply Zd Zb;exact Z);(iterate 7 exact Z))
 all_goals rfl
theorem Gn [Known]:AP Tryz.prog 52 [.sl .ext []] (.sl .ext []) []:=by
 refine AP.ofA (Zp Tryz.func52 Z Tryz.ntmps52 Z Z ?_)
 repeat'(first|(apply Ug Zb;(iterate 5 exact Z);intro b hbn)|(apply Zl Zb;exact Z)|(apply Zj Zb;exact Z)|(apply Zt Zb;exact Z)|(apply Yq;exact Z;all_goals intro hb)|refine V1 Zb Z Z Z Z Z Z Z Z Z Z Z Z ?_|refine ZN Zb Z Z Z Z Z Z ?_)
 all_goals exact Qe
theorem T8 [Known]:AT Tryz.prog 11 [.ptr 1 0] (coW (.sl (.own 0) [Xl]) coN 0 0 []) coF (.tup [.agg rqO,.bool true]) (coW (.sl .ext []) coN 0 0 []) coF:=by
 have hW:=Tp
 have hC:=Gn
 have hU1:Uni 19 [Xl]:=by intro e he;rw[List.mem_singleton]at he;subst he;rfl
 refine Zp Tryz.func11 rfl Tryz.ntmps11 rfl rfl ?_
 repeat'(first|(apply Zm [0,1] [0] (hW);kernel_rfl;(iterate 10 exact Z))|(apply Zc (hC);kernel_rfl;(iterate 4 exact Z))|refine KP Zb Z Z Z Z Z Z hU1 (by decide) (by decide) Z ?_|(apply Zl Zb;exact Z)|(apply Zj Zb;exact Z)|(apply Zt Zb;exact Z)|(apply Zg;exact Z;(first|with_reducible assumption|decide +kernel|(solve|simp only[bn])))|(apply ZF Zb;(iterate 6 exact Z);(first|exact Qt|rotate_left);(first|with_reducible assumption|decide +kernel|exact Z);(first|exact Zk rfl|with_reducible assumption|decide +kernel|rotate_left)))
 all_goals(apply Yc [0,1] [0];(apply Zd Zb;exact Z);(iterate 7 exact Z))
 all_goals rfl
theorem Xm [Known]:AP Tryz.prog 8 [] (.bool true) []:=by
 have k0:=T5
 have k1:=ck1
 have k2:=H2 0 0 [.int .u8 0,.int .u8 2,.int .u8 5]
 have k3:=ck2
 have k4:=ccl 0 3 []
 have k5:=N2
 have k6:=N3
 have k7:=ck3
 have k8:=T8
 have k9:=T6
 have k10:=T7
 have k11:=Tq
 have k12:=H2 0 3 []
 refine AP.ofA (Zp Tryz.func8 Z Tryz.ntmps8 Z Z ?_)
 repeat'(first|(apply Zm [] [] (k0);kernel_rfl;(iterate 10 exact Z))|(apply Zm [0,1] [] (k1);kernel_rfl;(iterate 10 exact Z))|(apply Zm [0,1] [] (k2);kernel_rfl;(iterate 10 exact Z))|(apply Zm [0,1] [] (k3);kernel_rfl;(iterate 10 exact Z))|(apply Zm [0,1] [] (k4);kernel_rfl;(iterate 10 exact Z))|(apply Zm [0,1] [] (k5);kernel_rfl;(iterate 10 exact Z))|(apply Zm [0,1] [2] (k6);kernel_rfl;(iterate 10 exact Z))|(apply Zm [2,3] [] (k7);kernel_rfl;(iterate 10 exact Z))|(apply Zm [2,3] [4] (k8);kernel_rfl;(iterate 10 exact Z))|(apply Zm [2,3] [] (k9);kernel_rfl;(iterate 10 exact Z))|(apply Zm [2,3] [] (k10);kernel_rfl;(iterate 10 exact Z))|(apply Zm [2,3] [] (k11);kernel_rfl;(iterate 10 exact Z))|(apply Zm [0,1] [] (k12);kernel_rfl;(iterate 10 exact Z))|(apply Zl Zb;exact Z)|(apply Zj Zb;exact Z)|(apply Zi;(iterate 3 exact Z);(first|with_reducible assumption|decide +kernel|(solve|simp only[bn])))|(apply Zo;exact Z;(first|with_reducible assumption|decide +kernel|(solve|simp only[bn]));exact Z;exact Z)|refine Zz Zb Z Z Z Z ?_|refine Z8 Zb Z Z Z Z Z Z Z Z Z Z Z Z ?_)
 all_goals exact Qe
end Go.Proofs.YtchlgagdbflkmaaGreatDoor
end
section
namespace Go.Proofs.YtchlgagdbflkmaaGreatDoor
open Go.Shelf
def JJ:Go.Shelf.Ren:=⟨fun|283=>194|n=>n,fun|3=>3|9=>9|4=>4|n=>n,fun|n=>n⟩
theorem Hp:Go.Proofs.Lays.n283 Tryz.prog JJ := {
 mixed:=by kernel_rfl,
 f283:=Tryz.func194.trans (congrArg some (by kernel_rfl)),
 t3:=Tryz.underlying3,
 a3:=Tryz.isAgg3,
 z3:=Tryz.sizeOf3,
 v3:=Tryz.zeroValue3,
 t4:=Tryz.underlying4,
 a4:=Tryz.isAgg4,
 z4:=Tryz.sizeOf4,
 v4:=Tryz.zeroValue4,
 t9:=Tryz.underlying9,
 a9:=Tryz.isAgg9,
 z9:=Tryz.sizeOf9,
 v9:=Tryz.zeroValue9 }
def Uj:Go.Shelf.Ren:=⟨fun|284=>195|129=>230|317=>229|318=>231|n=>n,fun|53=>31|3=>3|212=>339|0=>0|4=>4|46=>145|5=>5|9=>9|n=>n,fun|17=>0|n=>n⟩
theorem Kp:Go.Proofs.LaysM.n284 Tryz.prog Uj := {
 mixed:=by kernel_rfl,
 f129:=Tryz.func230.trans (congrArg some (by kernel_rfl)),
 f284:=Tryz.func195.trans (congrArg some (by kernel_rfl)),
 f317:=Tryz.func229.trans (congrArg some (by kernel_rfl)),
 f318:=Tryz.func231.trans (congrArg some (by kernel_rfl)),
 t0:=Tryz.underlying0,
 a0:=Tryz.isAgg0,
 z0:=Tryz.sizeOf0,
 v0:=Tryz.zeroValue0,
 t3:=Tryz.underlying3,
 a3:=Tryz.isAgg3,
 z3:=Tryz.sizeOf3,
 v3:=Tryz.zeroValue3,
 t4:=Tryz.underlying4,
 a4:=Tryz.isAgg4,
 z4:=Tryz.sizeOf4,
 v4:=Tryz.zeroValue4,
 t5:=Tryz.underlying5,
 a5:=Tryz.isAgg5,
 z5:=Tryz.sizeOf5,
 v5:=Tryz.zeroValue5,
 t9:=Tryz.underlying9,
 a9:=Tryz.isAgg9,
 z9:=Tryz.sizeOf9,
 v9:=Tryz.zeroValue9,
 t46:=Tryz.underlying145,
 a46:=Tryz.isAgg145,
 z46:=Tryz.sizeOf145,
 v46:=Tryz.zeroValue145,
 t53:=Tryz.underlying31,
 a53:=Tryz.isAgg31,
 z53:=Tryz.sizeOf31,
 v53:=Tryz.zeroValue31,
 t212:=Tryz.underlying339,
 a212:=Tryz.isAgg339,
 z212:=Tryz.sizeOf339,
 v212:=Tryz.zeroValue339,
 g17:=by kernel_rfl,
 i0:=by kernel_rfl,
 i3:=by kernel_rfl,
 i4:=by kernel_rfl,
 i5:=by kernel_rfl,
 i9:=by kernel_rfl,
 i46:=by kernel_rfl,
 i53:=by kernel_rfl,
 i212:=by kernel_rfl,
 m17:=by kernel_rfl }
def JK:Go.Shelf.Ren:=⟨fun|285=>196|n=>n,fun|37=>26|53=>31|3=>3|4=>4|51=>297|9=>9|5=>5|0=>0|n=>n,fun|n=>n⟩
theorem Hq:Go.Proofs.Lays.n285 Tryz.prog JK := {
 mixed:=by kernel_rfl,
 f285:=Tryz.func196.trans (congrArg some (by kernel_rfl)),
 t0:=Tryz.underlying0,
 a0:=Tryz.isAgg0,
 z0:=Tryz.sizeOf0,
 v0:=Tryz.zeroValue0,
 t3:=Tryz.underlying3,
 a3:=Tryz.isAgg3,
 z3:=Tryz.sizeOf3,
 v3:=Tryz.zeroValue3,
 t4:=Tryz.underlying4,
 a4:=Tryz.isAgg4,
 z4:=Tryz.sizeOf4,
 v4:=Tryz.zeroValue4,
 t5:=Tryz.underlying5,
 a5:=Tryz.isAgg5,
 z5:=Tryz.sizeOf5,
 v5:=Tryz.zeroValue5,
 t9:=Tryz.underlying9,
 a9:=Tryz.isAgg9,
 z9:=Tryz.sizeOf9,
 v9:=Tryz.zeroValue9,
 t37:=Tryz.underlying26,
 a37:=Tryz.isAgg26,
 z37:=Tryz.sizeOf26,
 v37:=Tryz.zeroValue26,
 t51:=Tryz.underlying297,
 a51:=Tryz.isAgg297,
 z51:=Tryz.sizeOf297,
 v51:=Tryz.zeroValue297,
 t53:=Tryz.underlying31,
 a53:=Tryz.isAgg31,
 z53:=Tryz.sizeOf31,
 v53:=Tryz.zeroValue31 }
end Go.Proofs.YtchlgagdbflkmaaGreatDoor
end
section
open Go.RowKit Go.Pl Go.Av Go.Shelf Go.Sort Go.Lib
namespace Go.Proofs.YtchlgagdbflkmaaGreatDoor
set_option maxHeartbeats 6400000
set_option maxRecDepth 100000 in
theorem KS (u:Nat)(h1:1<=u)(h2:u<18446744073709551616)(w:World)(hc:∀ i,i<20->w.cell? ⟨0,i,none⟩=some (.int .u64 ((10 ^ i:Nat):Int))) :
  Calls Tryz.prog 195 #[.int .u64 u] w fun e w'=>e=.returned (.int .i64 (Lib.nDigits u))/\w'=w:=by
 obtain⟨hnd,h19⟩:=Lib.numDigits_eq u h1 h2
 have hL:Lib.bitLen u<=64:=Lib.bitLen_le u 64 (Nat.le_refl _) h2
 have hcell:=hc (Lib.l10 (Lib.bitLen u)) (by omega)
 have hto:((u:Int)).toNat=u:=by omega
 generalize hq:Lib.l10 (Lib.bitLen u)=q at hnd h19 hcell
 generalize hT:10 ^ q=T at hnd hcell
 have h20:q<20:=by omega
 have Hnd:=Lib.hid hnd
 clear hnd hc
 go_enter Tryz.func195,Tryz.ntmps195
 go_wp2_with (first
  | (go_at_call 230;refine(Any.bits_Len64 (P:=Tryz.prog) (ρ:=Uj) { Kp with } _ _ (by omega) (by omega)).mono ?_;rintro e w' ⟨rfl,rfl⟩)
  | (go_at_call 229;refine(Any.internal_strconv_log10Pow2 (P:=Tryz.prog) (ρ:=Uj) { Kp with } _ (by first|exact hL|(rw[hto];exact hL)) _).mono ?_;rintro e w' ⟨rfl,rfl⟩)
  | (go_at_call 231;refine(Any.internal_strconv_bool2_int (P:=Tryz.prog) (ρ:=Uj) { Kp with } _ _).mono ?_;rintro e w' ⟨rfl,rfl⟩))
 all_goals go_ret
 all_goals(
  refine⟨?_,rfl⟩
  have hnd:=Hnd.out
  congr 2
  split at hnd<;>simp_all<;>omega)
theorem KT (w:World)(T:TypeId)(nd:Nat)(hs:nd<=24):Holds (fun(b:UInt8)=>Value.int .u8 (b.toNat:Int)) (w.alloc (.cells Lib.zeros24 T)) w.heap.size 0 (Array.replicate nd (0:UInt8)):=fun j hj=>by
 have hj':j<nd:=by simpa using hj
 refine⟨?_,World.frozen?_alloc_new _ _ _ _⟩
 rw[World.cell?_alloc_new,Lib.zeros24_at _ (by omega),getElem!_pos _ j hj]
 simp
theorem N4 (w:World)(o:Obj)(dk:Array UInt8)(k:Nat):Below w.heap.size w ((putRow (fun(b:UInt8)=>Value.int .u8 (b.toNat:Int)) (w.alloc o) w.heap.size 0 dk).drewN k):=by
 have h:∃ os,(putRow (fun(b:UInt8)=>Value.int .u8 (b.toNat:Int)) (w.alloc o) w.heap.size 0 dk).drewN k=grow (w.drewN k) os:=by
  rw[alloc_eq_grow]
  obtain⟨os',_,e⟩:=putRow_grow_new (fun(b:UInt8)=>Value.int .u8 (b.toNat:Int)) w #[o] w.heap.size 0 dk (Nat.le_refl _)
  exact⟨os',by rw[e];rfl⟩
 obtain⟨os,e⟩:=h
 rw[e]
 refine⟨rfl,rfl,rfl,?_,fun b hb=>?_⟩
 ·show w.heap.size<=(w.heap++os).size
  rw[Array.size_append];omega
 ·show(w.heap++os)[b]?=w.heap[b]?
  rw[Array.getElem?_append_left hb]
theorem Hr {w:World}{o:Obj}{g i:Nat}{v:Value}(h:w.cell? ⟨g,i,none⟩=some v):(w.alloc o).cell? ⟨g,i,none⟩=some v:=
 (Vy w o (World.block_lt_of_cell? w _ h) i).trans h
set_option maxRecDepth 100000 in
theorem IC (u:Nat)(hu64:u<18446744073709551616)(w:World)(hc:∀ i,i<20->w.cell? ⟨0,i,none⟩=some (.int .u64 ((10 ^ i:Nat):Int))) :
  Calls Tryz.prog 165 #[.int .u64 u,.int .i64 10] w fun e w'=>e=.returned (.string ⟨(Lib.decDigits u).toArray⟩)/\Below w.heap.size w w':=by
 by_cases hs:u<100
 ·have Hs:=Lib.hid hs
  go_enter Tryz.func165,Tryz.ntmps165
  go_wp2_with (go_at_call 194;refine(Any.internal_strconv_small (P:=Tryz.prog) (ρ:=JJ) Hp u Hs.out _).mono ?_;rintro e w' ⟨rfl,rfl⟩)
  go_ret
  exact⟨rfl,Below.refl _ _⟩
 ·have hu1:1<=u:=by omega
  have hnd20:Lib.nDigits u<=20:=by have:=Lib.numDigits_eq u hu1 hu64;split at this<;>omega
  have hal:Tryz.prog.arrayLen 303=24:=by simp[Program.arrayLen,Tryz.underlying303]
  have hsl:∀ W,(Instr.sliceAt 303 (.pointer (some ⟨w.heap.size,0,none⟩)) none (some (.int .i64 (Lib.nDigits u:Int))) none).run Tryz.prog W=.ok (.slice (some ⟨w.heap.size,0,none⟩) (Lib.nDigits u) 24) W:=fun W=>by
   rw[run_sliceAt_array_h W 303 ⟨w.heap.size,0,none⟩ (by simp[Program.arrayLen,Program.elem,Tryz.underlying303]) .i64 (Lib.nDigits u:Int) (by omega) (by rw[hal];omega)]
   go_simp
  have hH0:=KT w 303 (Lib.nDigits u) (by omega)
  have hfmt:Calls Tryz.prog 196 _ _ _:=Any.internal_strconv_formatBase10 (P:=Tryz.prog) (ρ:=JK) Hq w.heap.size 0 24 u (Array.replicate (Lib.nDigits u) 0) (w.alloc (.cells Lib.zeros24 303)) hH0 (by rw[Array.size_replicate];exact Lib.lt_pow_nDigits u) hu64 (by rw[Array.size_replicate];omega)
  rw[Array.size_replicate]at hfmt
  have HH0:=Lib.hid hH0
  have HC:=Lib.hid hc
  clear hH0 hal hc
  go_enter Tryz.func165,Tryz.ntmps165
  go_wp2_with (first
   | (go_at_call 195;refine(KS u hu1 hu64 _ (fun i hi=>Hr (HC.out i hi))).mono ?_;rintro e w' ⟨rfl,rfl⟩))
  go_at_call 196
  refine hfmt.mono ?_
  rintro e w' ⟨rfl,k,v',dk,rfl,hF⟩
  have hcv:(convert 26 9 (.slice (some ⟨w.heap.size,0,none⟩) (Lib.nDigits u) 24)).run Tryz.prog ((putRow (fun(b:UInt8)=>Value.int .u8 (b.toNat:Int)) (w.alloc (.cells Lib.zeros24 303)) w.heap.size 0 dk).drewN k)=.ok (.string ⟨(Lib.decDigits u).toArray⟩) ((putRow (fun(b:UInt8)=>Value.int .u8 (b.toNat:Int)) (w.alloc (.cells Lib.zeros24 303)) w.heap.size 0 dk).drewN k):=by
   have h:=run_convert_bytes_back (P:=Tryz.prog) ((putRow (fun(b:UInt8)=>Value.int .u8 (b.toNat:Int)) (w.alloc (.cells Lib.zeros24 303)) w.heap.size 0 dk).drewN k) 26 9 5 ⟨w.heap.size,0,none⟩ 24 (Lib.decDigits u) Tryz.underlying26 Tryz.underlying5 Tryz.underlying9 (fun j hj=>by
    rw[Lib.row_is_numeral hF j hj,Lib.add_plain,World.cell?_drewN]
    exact cell?_putRow (fun(b:UInt8)=>Value.int .u8 (b.toNat:Int)) _ w.heap.size 0 _ dk HH0.out (by rw[hF.size,Array.size_replicate]) j (by rw[hF.size];rw[Lib.decDigits_length]at hj;exact hj))
   rw[Lib.decDigits_length]at h
   exact h
  go_wp2
  go_ret
  exact⟨rfl,N4 w _ dk k⟩
end Go.Proofs.YtchlgagdbflkmaaGreatDoor
end
section
open Go.RowKit Go.Pl Go.Av
namespace Go.Proofs.YtchlgagdbflkmaaGreatDoor
set_option maxHeartbeats 4000000
def QS (x:EidV):List UInt8:=[47,47]++x.h++[47]++x.d
theorem VG {x:EidV}(h:ZY x=true)(hz:isZ x=false)(hi:x.i=true):x.n<=4294967295/\x.s<=4294967295/\x.h=[]/\x.d=[]/\1<=x.n:=by
 rw[Xc hz hi]at h
 simp only[Bool.and_eq_true,decide_eq_true_eq,beq_iff_eq]at h
 obtain⟨⟨⟨⟨_,_,_,h1,h2,_⟩,h3⟩,h4⟩,h5⟩:=h
 exact⟨by omega,by omega,h1,h2,by omega⟩
theorem VH {x:EidV}(h:ZY x=true)(hz:isZ x=false)(hi:x.i=false):x.n=0/\x.s=0/\1<=x.h.length/\x.h.length<=16/\x.d.length<=24/\x.h.all (okB 45)=true/\x.d.all (okB 47)=true:=by
 rw[Xd hz hi]at h
 simp only[Bool.and_eq_true,decide_eq_true_eq,beq_iff_eq]at h
 obtain⟨⟨⟨⟨⟨⟨_,h1,h2,_⟩,h3⟩,h4⟩,h5⟩,h6⟩,h7⟩:=h
 exact⟨by omega,by omega,by omega,by omega,by omega,h6,h7⟩
theorem Ht [Known](x:EidV)(h1:x.h.length<=16)(h2:x.d.length<=24):AP Tryz.prog 142 [.agg (eC x)] (.str (QS x)) []:=by
 have l1:[(47:UInt8),47].length+x.h.length<=maxLen:=by simp;unfold maxLen;omega
 have l2:([(47:UInt8),47]++x.h).length + [(47:UInt8)].length<=maxLen:=by simp;unfold maxLen;omega
 have l3:([(47:UInt8),47]++x.h++[47]).length+x.d.length<=maxLen:=by simp;unfold maxLen;omega
 refine AP.ofA (Zp Tryz.func142 Z Tryz.ntmps142 Z Z ?_)
 repeat'(first|(apply QW;exact Z;exact Z;(first|exact l1|exact l2|exact l3);exact Z)|(apply Zl Zb;exact Z)|(apply Zj Zb;exact Z))
 all_goals exact Qe
theorem U5 (n:Nat)(hn:n<18446744073709551616):(Lib.decDigits n).length<=20:=by
 rw[Lib.decDigits_length]
 rcases Nat.eq_zero_or_pos n with rfl|h
 ·rw[Lib.nDigits_small (by omega)];omega
 ·have:=Lib.numDigits_eq n h hn;split at this<;>omega
def ZC (x:EidV):List UInt8:=
 if isZ x then [100,116,110,58,110,111,110,101]
 else if x.i then [105,112,110,58]++Lib.decDigits x.n++[46]++Lib.decDigits x.s
 else [100,116,110,58]++QS x
class KnownPow [Known]:Prop where
 pow:0 ∈ Known.ks
theorem ID:dcs Rows.laid_internal_strconv_uint64pow10=(List.range 20).map (fun i=>Value.int .u64 ((10 ^ i:Nat):Int)):=by kernel_rfl
theorem Hu:((0,dcs Rows.laid_internal_strconv_uint64pow10):Nat × List Value) ∈ G7:=by
 unfold G7
 repeat (first|exact List.mem_cons_self .. | apply List.mem_cons_of_mem)
theorem Hv [Known][KnownPow](n:Nat)(hn:n<18446744073709551616):AP Tryz.prog 165 [.int .u64 (n:Int),.int .i64 10] (.str (Lib.decDigits n)) []:=by
 refine⟨fun g w vs hmem hl hv=>?_⟩
 obtain⟨v0,v1,rfl⟩:∃ v0 v1,vs=[v0,v1]:=by
  match vs,hl with
  | [v0,v1],_=>exact⟨v0,v1,rfl⟩
 have h0:=(hv 0 _ _ rfl rfl).int_inv
 have h1:=(hv 1 _ _ rfl rfl).int_inv
 subst h0 h1
 have hc:∀ i,i<20->w.cell? ⟨0,i,none⟩=some (.int .u64 ((10 ^ i:Nat):Int)):=fun i hi=>
  (hmem.gl.1 _ _ ⟨KnownPow.pow,Hu⟩ i _ (by rw[ID,List.getElem?_map,List.getElem?_range hi];rfl)).2
 exact(IC n hn w hc).mono fun e w' ⟨he,hb⟩=>Uw hmem hb he (.str _ (by have:=U5 n hn;unfold maxLen;omega))
theorem JY [Known][KnownPow](n:Nat)(hn:n<18446744073709551616):AP Tryz.prog 141 [.int .u64 (n:Int),.int .i64 10] (.str (Lib.decDigits n)) []:=by
 have h:=Hv n hn
 refine AP.ofA (Zp Tryz.func141 Z Tryz.ntmps141 Z Z ?_)
 repeat'(first|(apply Zc (h);kernel_rfl;(iterate 4 exact Z))|(apply Zl Zb;exact Z)|(apply Zj Zb;exact Z))
 all_goals exact Qe
theorem Gp [Known][KnownPow](x:EidV):AP Tryz.prog 123 [.agg (eC x)] (.tup [.str (if ZY x then ZC x else []),.int .i64 (if ZY x then 0 else 3)]) []:=by
 have hR:=QA x
 cases hr:ZY x with
 | false=>
  rw[hr]at hR
  refine AP.ofA (Zp Tryz.func123 Z Tryz.ntmps123 Z Z ?_)
  repeat'(first|(apply Zc (hR);kernel_rfl;(iterate 4 exact Z))|(apply Zl Zb;exact Z)|(apply Zj Zb;exact Z)|(apply Zt Zb;exact Z)|refine Zf Z Qt ?_)
  all_goals exact Qe
 | true=>
  rw[hr]at hR
  rw[if_pos rfl,if_pos rfl]
  unfold ZC
  cases hz:isZ x with
  | true=>
   rw[if_pos rfl]
   unfold isZ at hz
   refine AP.ofA (Zp Tryz.func123 Z Tryz.ntmps123 Z Z ?_)
   repeat'(first|(apply Zc (hR);kernel_rfl;(iterate 4 exact Z))|(apply Zl Zb;exact Z)|(apply Zj Zb;exact Z)|(apply Zt Zb;exact Z)|refine Zf Z Qt ?_|refine Zg Z Qt ?_|refine We Zb Z Z Z Z Qk Qk Z Z Z ?_)
   all_goals exact Qe
  | false=>
   rw[if_neg (by simp)]
   cases hi:x.i with
   | true=>
    obtain⟨b1,b2,_⟩:=VG hr hz hi
    rw[if_pos rfl]
    have f1:=JY x.n (by omega)
    have f2:=JY x.s (by omega)
    have d1:=U5 x.n (by omega)
    have d2:=U5 x.s (by omega)
    generalize Lib.decDigits x.n=p at *
    generalize Lib.decDigits x.s=q at *
    have l1:[(105:UInt8),112,110,58].length+p.length<=maxLen:=by simp;unfold maxLen;omega
    have l2:([(105:UInt8),112,110,58]++p).length + [(46:UInt8)].length<=maxLen:=by simp;unfold maxLen;omega
    have l3:([(105:UInt8),112,110,58]++p++[46]).length+q.length<=maxLen:=by simp;unfold maxLen;omega
    unfold isZ at hz
    refine AP.ofA (Zp Tryz.func123 Z Tryz.ntmps123 Z Z ?_)
    repeat'(first|(apply Zc (hR);kernel_rfl;(iterate 4 exact Z))|(apply Zc (f1);kernel_rfl;(iterate 4 exact Z))|(apply Zc (f2);kernel_rfl;(iterate 4 exact Z))|(apply QW;exact Z;exact Z;(first|exact l1|exact l2|exact l3);exact Z)|(apply Zl Zb;exact Z)|(apply Zj Zb;exact Z)|(apply Zt Zb;exact Z)|refine Zf Z Qt ?_|refine Zg Z Qt ?_|refine We Zb Z Z Z Z Qk Qk Z Z Z ?_|(apply Za 8 Ze;decide +kernel;kernel_rfl;kernel_rfl;kernel_rfl;exact Z;exact Z)|(apply Zv;(iterate 4 exact Z))|exact AE.nil _ _ _ _|(apply ZB;exact Z)|(apply ZD;exact Z;exact Z;decide +kernel;exact Z)|(apply ZE;exact Z)|exact AO.nil _ _ _|(apply Zu;(decide +kernel))|exact AOs.nil|exact ZR rfl rfl)
    all_goals exact Qe
   | false=>
    obtain⟨_,_,_,b1,b2,_⟩:=VH hr hz hi
    rw[if_neg (by simp)]
    have hP:=Ht x b1 b2
    have hpl:(QS x).length<=100:=by unfold QS;simp;omega
    generalize QS x=p at *
    have l1:[(100:UInt8),116,110,58].length+p.length<=maxLen:=by simp;unfold maxLen;omega
    unfold isZ at hz
    refine AP.ofA (Zp Tryz.func123 Z Tryz.ntmps123 Z Z ?_)
    repeat'(first|(apply Zc (hR);kernel_rfl;(iterate 4 exact Z))|(apply Zc (hP);kernel_rfl;(iterate 4 exact Z))|refine QW Z Z l1 Z ?_|(apply Zl Zb;exact Z)|(apply Zj Zb;exact Z)|(apply Zt Zb;exact Z)|refine Zg Z Qt ?_|refine We Zb Z Z Z Z Qk Qk Z Z Z ?_)
    all_goals exact Qe
theorem Ws {x:EidV}(h:ZY x=true):(ZC x).length<=100:=by
 unfold ZC
 cases hz:isZ x with
 | true=>rw[if_pos rfl];decide
 | false=>
  rw[if_neg (by simp)]
  cases hi:x.i with
  | true=>
   obtain⟨b1,b2,_⟩:=VG h hz hi
   have d1:=U5 x.n (by omega)
   have d2:=U5 x.s (by omega)
   rw[if_pos rfl]
   simp only[List.length_append,List.length_cons,List.length_nil]
   omega
  | false=>
   obtain⟨_,_,_,b1,b2,_⟩:=VH h hz hi
   rw[if_neg (by simp)]
   unfold QS
   simp only[List.length_append,List.length_cons,List.length_nil]
   omega
def Wg (c:UInt8):List UInt8->List UInt8 × List UInt8 × Bool
 | []=>([],[],false)
 | x::s=>if x=c then([],s,true) else(x::(Wg c s).1,(Wg c s).2.1,(Wg c s).2.2)
theorem O4 {c:UInt8}:∀ {s:List UInt8},c ∉ s->Wg c s=(s,[],false)
 | [],_=>rfl
 | x::s,h=>by
  have h1:¬ x=c:=fun e=>h (by rw[e];exact List.mem_cons_self ..)
  have h2:=O4 (c:=c) (s:=s) fun hm=>h (List.mem_cons_of_mem _ hm)
  rw[Wg,if_neg h1,h2]
theorem UB {c:UInt8}:∀ {a b:List UInt8},c ∉ a->Wg c (a++c::b)=(a,b,true)
 | [],b,_=>by rw[List.nil_append,Wg,if_pos rfl]
 | x::a,b,h=>by
  have h1:¬ x=c:=fun e=>h (by rw[e];exact List.mem_cons_self ..)
  have h2:=UB (c:=c) (a:=a) (b:=b) fun hm=>h (List.mem_cons_of_mem _ hm)
  rw[List.cons_append,Wg,if_neg h1,h2]
theorem Jr {c:UInt8}:∀ {s:List UInt8},(Wg c s).2.2=true->s=(Wg c s).1++c::(Wg c s).2.1
 | [],h=>by rw[Wg]at h;cases h
 | x::s,h=>by
  rw[Wg]at h ⊢
  by_cases e:x=c
  ·rw[if_pos e];rw[e];rfl
  ·rw[if_neg e]at h ⊢
   have:=Jr (c:=c) (s:=s) h
   dsimp only
   rw[List.cons_append,<- this]
def WG (p s:List UInt8):List UInt8 × Bool:=if s.take p.length==p then(s.drop p.length,true) else(s,false)
theorem Je (p r:List UInt8):WG p (p++r)=(r,true):=by
 unfold WG
 rw[List.take_left,beq_self_eq_true,if_pos rfl,List.drop_left]
theorem O5 {p s:List UInt8}(h:(s.take p.length==p)=false):WG p s=(s,false):=by
 unfold WG;rw[h];rfl
theorem Js {p s:List UInt8}(h:(WG p s).2=true):s=p++(WG p s).1:=by
 unfold WG at h ⊢
 split at h
 ·rename_i hp
  rw[if_pos hp]
  have:=beq_iff_eq.1 hp
  conv=>lhs;rw[<- List.take_append_drop p.length s,this]
 ·cases h
def ppV (s:List UInt8):EidV × Bool:=
 (⟨false,0,0,(Wg 47 (WG [47,47] s).1).1,(Wg 47 (WG [47,47] s).1).2.1⟩,(WG [47,47] s).2&&((Wg 47 (WG [47,47] s).1).2.2&&((Wg 47 (WG [47,47] s).1).1 != []&&ZY ⟨false,0,0,(Wg 47 (WG [47,47] s).1).1,(Wg 47 (WG [47,47] s).1).2.1⟩)))
def V3:List UInt8:=[100,116,110,58,110,111,110,101]
def WQ:List UInt8:=[105,112,110,58]
def Ql:List UInt8:=[100,116,110,58]
theorem VT {x:EidV}:isZ x=true ↔ x=Zx:=by
 obtain⟨i,n,s,h,d⟩:=x
 simp only[isZ,Zx,Bool.and_eq_true,beq_iff_eq,EidV.mk.injEq]
 constructor
 ·rintro⟨h1,h2,h3,h4,h5,_⟩
  exact⟨h1,by omega,by omega,h4,h5⟩
 ·rintro⟨h1,h2,h3,h4,h5⟩
  exact⟨h1,by omega,by omega,h4,h5,trivial⟩
theorem Xn {m:Nat}{c:UInt8}{l:List UInt8}(hl:l.all (okB m)=true)(h:okB m c=false):c ∉ l:=fun hm=>by
 have:=List.all_eq_true.1 hl c hm
 rw[h]at this;cases this
end Go.Proofs.YtchlgagdbflkmaaGreatDoor
end
section
namespace Go.Proofs.YtchlgagdbflkmaaGreatDoor
open Go.Shelf
def U6:Go.Shelf.Ren:=⟨fun|14=>168|16=>200|17=>201|19=>235|20=>236|21=>237|22=>238|23=>239|24=>240|25=>265|27=>267|26=>266|28=>281|29=>286|30=>194|31=>195|32=>196|33=>197|35=>230|34=>229|36=>231|37=>232|38=>233|39=>259|40=>260|n=>n,fun|9=>9|3=>3|22=>31|24=>264|25=>265|4=>4|34=>343|5=>5|36=>145|37=>26|0=>0|39=>346|21=>21|44=>364|47=>378|50=>381|48=>379|2=>2|52=>303|55=>306|59=>339|60=>297|20=>20|61=>340|65=>374|66=>375|67=>391|n=>n,fun|0=>2|1=>3|2=>0|3=>4|4=>5|n=>n⟩
theorem OD:Go.Proofs.LaysPu.n14 Tryz.prog U6 := {
 mixed:=by kernel_rfl,
 f14:=Tryz.func168.trans (congrArg some (by kernel_rfl)),
 f16:=Tryz.func200.trans (congrArg some (by kernel_rfl)),
 f17:=Tryz.func201.trans (congrArg some (by kernel_rfl)),
 f19:=Tryz.func235.trans (congrArg some (by kernel_rfl)),
 f20:=Tryz.func236.trans (congrArg some (by kernel_rfl)),
 f21:=Tryz.func237.trans (congrArg some (by kernel_rfl)),
 f22:=Tryz.func238.trans (congrArg some (by kernel_rfl)),
 f23:=Tryz.func239.trans (congrArg some (by kernel_rfl)),
 f24:=Tryz.func240.trans (congrArg some (by kernel_rfl)),
 f25:=Tryz.func265.trans (congrArg some (by kernel_rfl)),
 f26:=Tryz.func266.trans (congrArg some (by kernel_rfl)),
 f27:=Tryz.func267.trans (congrArg some (by kernel_rfl)),
 f28:=Tryz.func281.trans (congrArg some (by kernel_rfl)),
 f29:=Tryz.func286.trans (congrArg some (by kernel_rfl)),
 f30:=Tryz.func194.trans (congrArg some (by kernel_rfl)),
 f31:=Tryz.func195.trans (congrArg some (by kernel_rfl)),
 f32:=Tryz.func196.trans (congrArg some (by kernel_rfl)),
 f33:=Tryz.func197.trans (congrArg some (by kernel_rfl)),
 f34:=Tryz.func229.trans (congrArg some (by kernel_rfl)),
 f35:=Tryz.func230.trans (congrArg some (by kernel_rfl)),
 f36:=Tryz.func231.trans (congrArg some (by kernel_rfl)),
 f37:=Tryz.func232.trans (congrArg some (by kernel_rfl)),
 f38:=Tryz.func233.trans (congrArg some (by kernel_rfl)),
 f39:=Tryz.func259.trans (congrArg some (by kernel_rfl)),
 f40:=Tryz.func260.trans (congrArg some (by kernel_rfl)),
 t0:=Tryz.underlying0,
 a0:=Tryz.isAgg0,
 z0:=Tryz.sizeOf0,
 v0:=Tryz.zeroValue0,
 i0:=by kernel_rfl,
 t2:=Tryz.underlying2,
 a2:=Tryz.isAgg2,
 z2:=Tryz.sizeOf2,
 v2:=Tryz.zeroValue2,
 i2:=by kernel_rfl,
 t3:=Tryz.underlying3,
 a3:=Tryz.isAgg3,
 z3:=Tryz.sizeOf3,
 v3:=Tryz.zeroValue3,
 i3:=by kernel_rfl,
 t4:=Tryz.underlying4,
 a4:=Tryz.isAgg4,
 z4:=Tryz.sizeOf4,
 v4:=Tryz.zeroValue4,
 i4:=by kernel_rfl,
 t5:=Tryz.underlying5,
 a5:=Tryz.isAgg5,
 z5:=Tryz.sizeOf5,
 v5:=Tryz.zeroValue5,
 i5:=by kernel_rfl,
 t9:=Tryz.underlying9,
 a9:=Tryz.isAgg9,
 z9:=Tryz.sizeOf9,
 v9:=Tryz.zeroValue9,
 i9:=by kernel_rfl,
 t20:=Tryz.underlying20,
 a20:=Tryz.isAgg20,
 z20:=Tryz.sizeOf20,
 v20:=Tryz.zeroValue20,
 i20:=by kernel_rfl,
 t21:=Tryz.underlying21,
 a21:=Tryz.isAgg21,
 z21:=Tryz.sizeOf21,
 v21:=Tryz.zeroValue21,
 i21:=by kernel_rfl,
 t22:=Tryz.underlying31,
 a22:=Tryz.isAgg31,
 z22:=Tryz.sizeOf31,
 v22:=Tryz.zeroValue31,
 i22:=by kernel_rfl,
 t24:=Tryz.underlying264,
 a24:=Tryz.isAgg264,
 z24:=Tryz.sizeOf264,
 v24:=Tryz.zeroValue264,
 i24:=by kernel_rfl,
 t25:=Tryz.underlying265,
 a25:=Tryz.isAgg265,
 z25:=Tryz.sizeOf265,
 v25:=Tryz.zeroValue265,
 i25:=by kernel_rfl,
 t34:=Tryz.underlying343,
 a34:=Tryz.isAgg343,
 z34:=Tryz.sizeOf343,
 v34:=Tryz.zeroValue343,
 i34:=by kernel_rfl,
 c34:=by kernel_rfl,
 t36:=Tryz.underlying145,
 a36:=Tryz.isAgg145,
 z36:=Tryz.sizeOf145,
 v36:=Tryz.zeroValue145,
 i36:=by kernel_rfl,
 t37:=Tryz.underlying26,
 a37:=Tryz.isAgg26,
 z37:=Tryz.sizeOf26,
 v37:=Tryz.zeroValue26,
 i37:=by kernel_rfl,
 t39:=Tryz.underlying346,
 a39:=Tryz.isAgg346,
 z39:=Tryz.sizeOf346,
 v39:=Tryz.zeroValue346,
 i39:=by kernel_rfl,
 t44:=Tryz.underlying364,
 a44:=Tryz.isAgg364,
 z44:=Tryz.sizeOf364,
 v44:=Tryz.zeroValue364,
 i44:=by kernel_rfl,
 t47:=Tryz.underlying378,
 a47:=Tryz.isAgg378,
 z47:=Tryz.sizeOf378,
 v47:=Tryz.zeroValue378,
 i47:=by kernel_rfl,
 t48:=Tryz.underlying379,
 a48:=Tryz.isAgg379,
 z48:=Tryz.sizeOf379,
 v48:=Tryz.zeroValue379,
 i48:=by kernel_rfl,
 t50:=Tryz.underlying381,
 a50:=Tryz.isAgg381,
 z50:=Tryz.sizeOf381,
 v50:=Tryz.zeroValue381,
 i50:=by kernel_rfl,
 t52:=Tryz.underlying303,
 a52:=Tryz.isAgg303,
 z52:=Tryz.sizeOf303,
 v52:=Tryz.zeroValue303,
 i52:=by kernel_rfl,
 t55:=Tryz.underlying306,
 a55:=Tryz.isAgg306,
 z55:=Tryz.sizeOf306,
 v55:=Tryz.zeroValue306,
 i55:=by kernel_rfl,
 t59:=Tryz.underlying339,
 a59:=Tryz.isAgg339,
 z59:=Tryz.sizeOf339,
 v59:=Tryz.zeroValue339,
 i59:=by kernel_rfl,
 t60:=Tryz.underlying297,
 a60:=Tryz.isAgg297,
 z60:=Tryz.sizeOf297,
 v60:=Tryz.zeroValue297,
 i60:=by kernel_rfl,
 t61:=Tryz.underlying340,
 a61:=Tryz.isAgg340,
 z61:=Tryz.sizeOf340,
 t65:=Tryz.underlying374,
 a65:=Tryz.isAgg374,
 z65:=Tryz.sizeOf374,
 v65:=Tryz.zeroValue374,
 i65:=by kernel_rfl,
 t66:=Tryz.underlying375,
 a66:=Tryz.isAgg375,
 z66:=Tryz.sizeOf375,
 v66:=Tryz.zeroValue375,
 i66:=by kernel_rfl,
 t67:=Tryz.underlying391,
 a67:=Tryz.isAgg391,
 z67:=Tryz.sizeOf391,
 v67:=Tryz.zeroValue391,
 i67:=by kernel_rfl,
 g0:=by kernel_rfl,
 m0:=by kernel_rfl,
 g1:=by kernel_rfl,
 m1:=by kernel_rfl,
 g2:=by kernel_rfl,
 m2:=by kernel_rfl,
 g3:=by kernel_rfl,
 m3:=by kernel_rfl,
 g4:=by kernel_rfl,
 m4:=by kernel_rfl }
end Go.Proofs.YtchlgagdbflkmaaGreatDoor
end
section
open Go.RowKit Go.Pl Go.Av Go.Shelf
namespace Go.Proofs.YtchlgagdbflkmaaGreatDoor
def puD (s:List UInt8):D:=match Lib.parseUintB 32 s with
 | .ok u=>.tup [.int .u64 (u:Int),.nili]
 | .range=>.tup [.int .u64 4294967295,.iface 346 .junk]
 | _=>.tup [.int .u64 0,.iface 346 .junk]
theorem N5:((2,379):Nat × TypeId) ∈ Il:=by
 unfold Il
 repeat (first|exact List.mem_cons_self .. | apply List.mem_cons_of_mem)
theorem N6:((3,379):Nat × TypeId) ∈ Il:=by
 unfold Il
 repeat (first|exact List.mem_cons_self .. | apply List.mem_cons_of_mem)
theorem OE {w:World}{g:G}{fr:List Fr}{d1 d2:D}{v1 v2:Value}(h1:V w g fr d1 v1)(h2:V w g fr d2 v2):V w g fr (.tup [d1,d2]) (.tuple #[v1,v2]):=by
 refine .tup _ _ rfl fun j d v hd hv=>?_
 match j,hd,hv with
 | 0,hd,hv=>simp at hd hv;subst hd hv;exact h1
 | 1,hd,hv=>simp at hd hv;subst hd hv;exact h2
 | j+2,hd,hv=>simp at hd
theorem XX [Known][KnownSc](s:List UInt8)(hs:s.length<=281474976710656):AP Tryz.prog 168 [.str s,.int .i64 10,.int .i64 32] (puD s) []:=by
 refine⟨fun g w vs hmem hl hv=>?_⟩
 obtain⟨v0,v1,v2,rfl⟩:∃ v0 v1 v2,vs=[v0,v1,v2]:=by
  match vs,hl with
  | [v0,v1,v2],_=>exact⟨v0,v1,v2,rfl⟩
 have h0:=(hv 0 _ _ rfl rfl).str_inv.1
 have h1:=(hv 1 _ _ rfl rfl).int_inv
 have h2:=(hv 2 _ _ rfl rfl).int_inv
 subst h0 h1 h2
 have hsz:(⟨s.toArray⟩:ByteArray).size=s.length:=by show s.toArray.size=_;simp
 have hds:(⟨s.toArray⟩:ByteArray).data.toList=s:=by simp
 unfold puD
 cases h:Lib.parseUintB 32 s with
 | ok u=>
  have hc:Calls Tryz.prog 168 _ w _:=Any.strconv_ParseUint_10_at32_ok (P:=Tryz.prog) (ρ:=U6) OD ⟨s.toArray⟩ (by rw[hsz];omega) u (by rw[hds];exact h) w
  refine hc.mono fun e w' ⟨he,hw⟩=>Uw hmem ?_ he (OE (.int _ _) .nili)
  rcases hw with rfl|rfl
  ·exact Below.refl _ _
  ·exact Lib.bytesWorld_below _ _ _
 | range=>
  obtain⟨_,v,hvv⟩:=hmem.gl.2 _ _ ⟨KnownSc.range,N6⟩
  have hc:Calls Tryz.prog 168 _ w _:=Any.strconv_ParseUint_10_at32_range (P:=Tryz.prog) (ρ:=U6) OD ⟨s.toArray⟩ (by rw[hsz];omega) (by rw[hds];exact h) _ w hvv (.inr ⟨_,_,rfl⟩)
  exact hc.mono fun e w' ⟨N,he,_,_,hb⟩=>Uw hmem hb he (OE (.int _ _) (.iface _ _ _ (.junk _)))
 | _=>
  obtain⟨_,v,hvv⟩:=hmem.gl.2 _ _ ⟨KnownSc.syn,N5⟩
  have hc:Calls Tryz.prog 168 _ w _:=Any.strconv_ParseUint_10_at32_syntax (P:=Tryz.prog) (ρ:=U6) OD ⟨s.toArray⟩ (by rw[hsz];omega) (by rw[hds];exact h) _ w hvv (.inr ⟨_,_,rfl⟩)
  exact hc.mono fun e w' ⟨N,he,_,_,hb⟩=>Uw hmem hb he (OE (.int _ _) (.iface _ _ _ (.junk _)))
end Go.Proofs.YtchlgagdbflkmaaGreatDoor
end

/- HistorySafe: the walk, joined (hsgen5.py). -/
import Derived.Test.YtchlgagdbflkmaaGreatDoorV42
import Derived.Test.YtchlgagdbflkmaaGreatDoorK01
import Derived.Test.YtchlgagdbflkmaaGreatDoorK13
import Derived.Test.YtchlgagdbflkmaaGreatDoorK33
import Derived.Test.YtchlgagdbflkmaaGreatDoorV40
import Derived.Test.YtchlgagdbflkmaaGreatDoorK07
import Derived.Test.YtchlgagdbflkmaaGreatDoorProg
import Derived.Lib.LaidU8
set_option linter.unusedVariables false
set_option linter.unusedSimpArgs false
section
open Go.RowKit Go.Pl Go.Av
namespace Go.Proofs.YtchlgagdbflkmaaGreatDoor
set_option maxHeartbeats 4000000
theorem DB [Known][KnownU8](ops:List OpH):AP Tryz.prog 5 [.sl .ext (ops.map ohE)] (.bool true) []:=by
 have hol:(ops.map ohE).length=ops.length:=List.length_map ..
 have hUo:=GD ops
 refine AP.ofA (Zl Tryz.func5 Z Tryz.ntmps5 Z Z ?_)
 repeat'(first|(apply Zx [] [] (MH);kernel_rfl;(iterate 10 exact Z))|(apply Zg Za;exact Z)|(apply Zh Za;exact Z))
 refine Gx (HvJ ops) 81 (LandS.mk' (m:=80) (tm1:=hvT ops 0) (bx:=hsN) (fr:=[]) [0] [] (by omega) ⟨0,[],0,rfl,Nat.le_refl _,⟨Nat.le_refl _,fun x hx=>(by cases hx),fun j x hx=>(by simp at hx)⟩,rfl,.inl ⟨rfl,rfl,rfl,rfl⟩⟩ rfl rfl rfl rfl ?_ rfl rfl rfl) ?_
 ·exact .cons rfl (.cons rfl (.cons rfl .nil))
 rintro k tm bx fr ⟨i,L,s,hk,hLi,hO,rfl,hS⟩
 by_cases hlt:i<ops.length/\i<80
 ·obtain⟨⟨kd,n,x,r⟩,hx⟩:∃ o,ops[i]?=some o:=⟨_,List.getElem?_eq_getElem hlt.1⟩
  cases g1:Z2 x with
  | false=>
   cases g2:decide (((r.data.map E.byte).length:Int)>1000) with
   | false=>exact DP ops i k hk hlt kd x r g1 g2 n L s bx fr hLi hO hS hx _
   | true=>
    have hol:(ops.map ohE).length=ops.length:=List.length_map ..
    have hUo:=GD ops
    have hd1:decide ((i:Int)<((ops.map ohE).length:Int))=true:=decide_eq_true (by rw[hol];omega)
    have hd2:decide ((i:Int)<80)=true:=decide_eq_true (by omega)
    have hxe:(ops.map ohE)[((i:Nat):Int).toNat]?=some (ohE ⟨kd,n,x,r⟩):=by rw[Int.toNat_natCast,List.getElem?_map,hx];rfl
    replace hxe:(ops.map ohE)[((i:Nat):Int).toNat]?=some (.agg [.int .i64 kd,.int .i64 n,.int .u64 (x.now:Int),.int .i64 x.kd,.int .u64 (x.tok:Int),.int .i64 x.ses,.int .u64 (x.rq.id:Int),.int .i64 x.rq.kd,.bool x.rq.ep.i,.int .u64 (x.rq.ep.n:Int),.int .u64 (x.rq.ep.s:Int),.str x.rq.ep.h,.str x.rq.ep.d,.bool x.rq.ds.i,.int .u64 (x.rq.ds.n:Int),.int .u64 (x.rq.ds.s:Int),.str x.rq.ds.h,.str x.rq.ds.d,.int .i64 x.rq.pol,.int .i64 x.rq.num,.int .i64 x.rq.tik,.sl (x.rq.pay.map E.byte),.int .u64 (x.rq.life:Int),.int .u64 (x.rq.tok:Int),.bool x.rq.on,.sl (x.data.map E.byte),.int .u64 (r.id:Int),.int .i64 r.err,.int .i64 r.num,.int .i64 r.cnt,.int .u64 (r.tok:Int),.sl (r.data.map E.byte)]):=hxe
    have hG:=UT x
    rw[g1]at hG
    replace hG:AP Tryz.prog 27 [.agg [.int .u64 (x.now:Int),.int .i64 x.kd,.int .u64 (x.tok:Int),.int .i64 x.ses,.int .u64 (x.rq.id:Int),.int .i64 x.rq.kd,.bool x.rq.ep.i,.int .u64 (x.rq.ep.n:Int),.int .u64 (x.rq.ep.s:Int),.str x.rq.ep.h,.str x.rq.ep.d,.bool x.rq.ds.i,.int .u64 (x.rq.ds.n:Int),.int .u64 (x.rq.ds.s:Int),.str x.rq.ds.h,.str x.rq.ds.d,.int .i64 x.rq.pol,.int .i64 x.rq.num,.int .i64 x.rq.tik,byE x.rq.pay,.int .u64 (x.rq.life:Int),.int .u64 (x.rq.tok:Int),.bool x.rq.on,byE x.data]] (.bool false) []:=hG
    rcases hS with⟨rfl,rfl,rfl,rfl⟩ | ⟨hL,c,hc,rfl,rfl⟩
    all_goals
     repeat'(first|(apply Zb (Jf);kernel_rfl;(iterate 4 exact Z))|(apply Zb (hG);kernel_rfl;(iterate 4 exact Z))|(apply Zg Za;exact Z)|(apply Zh Za;exact Z)|(apply Zs Za;exact Z)|(apply Zd;(iterate 3 exact Z);(first|with_reducible assumption|decide +kernel|(solve|simp only[bn])))|(apply Zj;exact Z;(first|with_reducible assumption|decide +kernel|(solve|simp only[bn]));exact Z;exact Z)|(apply Zi;exact Z;(first|with_reducible assumption|decide +kernel|(solve|simp only[bn]));exact Z;exact Z)|(apply Ze;exact Z;(first|with_reducible assumption|decide +kernel|(solve|simp only[bn])))|refine Zn Za Z Z Z Z ?_|(apply Zw Za;(iterate 6 exact Z);(first|exact Qt|rotate_left);(first|with_reducible assumption|decide +kernel|exact Z);(first|exact Zk rfl|with_reducible assumption|decide +kernel|rotate_left)))
     all_goals exact Qe
  | true=>
   have hol:(ops.map ohE).length=ops.length:=List.length_map ..
   have hUo:=GD ops
   have hd1:decide ((i:Int)<((ops.map ohE).length:Int))=true:=decide_eq_true (by rw[hol];omega)
   have hd2:decide ((i:Int)<80)=true:=decide_eq_true (by omega)
   have hxe:(ops.map ohE)[((i:Nat):Int).toNat]?=some (ohE ⟨kd,n,x,r⟩):=by rw[Int.toNat_natCast,List.getElem?_map,hx];rfl
   replace hxe:(ops.map ohE)[((i:Nat):Int).toNat]?=some (.agg [.int .i64 kd,.int .i64 n,.int .u64 (x.now:Int),.int .i64 x.kd,.int .u64 (x.tok:Int),.int .i64 x.ses,.int .u64 (x.rq.id:Int),.int .i64 x.rq.kd,.bool x.rq.ep.i,.int .u64 (x.rq.ep.n:Int),.int .u64 (x.rq.ep.s:Int),.str x.rq.ep.h,.str x.rq.ep.d,.bool x.rq.ds.i,.int .u64 (x.rq.ds.n:Int),.int .u64 (x.rq.ds.s:Int),.str x.rq.ds.h,.str x.rq.ds.d,.int .i64 x.rq.pol,.int .i64 x.rq.num,.int .i64 x.rq.tik,.sl (x.rq.pay.map E.byte),.int .u64 (x.rq.life:Int),.int .u64 (x.rq.tok:Int),.bool x.rq.on,.sl (x.data.map E.byte),.int .u64 (r.id:Int),.int .i64 r.err,.int .i64 r.num,.int .i64 r.cnt,.int .u64 (r.tok:Int),.sl (r.data.map E.byte)]):=hxe
   have hG:=UT x
   rw[g1]at hG
   replace hG:AP Tryz.prog 27 [.agg [.int .u64 (x.now:Int),.int .i64 x.kd,.int .u64 (x.tok:Int),.int .i64 x.ses,.int .u64 (x.rq.id:Int),.int .i64 x.rq.kd,.bool x.rq.ep.i,.int .u64 (x.rq.ep.n:Int),.int .u64 (x.rq.ep.s:Int),.str x.rq.ep.h,.str x.rq.ep.d,.bool x.rq.ds.i,.int .u64 (x.rq.ds.n:Int),.int .u64 (x.rq.ds.s:Int),.str x.rq.ds.h,.str x.rq.ds.d,.int .i64 x.rq.pol,.int .i64 x.rq.num,.int .i64 x.rq.tik,byE x.rq.pay,.int .u64 (x.rq.life:Int),.int .u64 (x.rq.tok:Int),.bool x.rq.on,byE x.data]] (.bool true) []:=hG
   rcases hS with⟨rfl,rfl,rfl,rfl⟩ | ⟨hL,c,hc,rfl,rfl⟩
   all_goals
    repeat'(first|(apply Zb (Jf);kernel_rfl;(iterate 4 exact Z))|(apply Zb (hG);kernel_rfl;(iterate 4 exact Z))|(apply Zg Za;exact Z)|(apply Zh Za;exact Z)|(apply Zs Za;exact Z)|(apply Zd;(iterate 3 exact Z);(first|with_reducible assumption|decide +kernel|(solve|simp only[bn])))|(apply Zo;(iterate 3 exact Z);(first|with_reducible assumption|decide +kernel|(solve|simp only[bn])))|(apply Zj;exact Z;(first|with_reducible assumption|decide +kernel|(solve|simp only[bn]));exact Z;exact Z)|(apply Ze;exact Z;(first|with_reducible assumption|decide +kernel|(solve|simp only[bn])))|refine Zn Za Z Z Z Z ?_|(apply Zw Za;(iterate 6 exact Z);(first|exact Qt|rotate_left);(first|with_reducible assumption|decide +kernel|exact Z);(first|exact Zk rfl|with_reducible assumption|decide +kernel|rotate_left)))
    all_goals exact Qe
 ·have hd:(decide ((i:Int)<((ops.map ohE).length:Int))=false)\/(decide ((i:Int)<((ops.map ohE).length:Int))=true/\decide ((i:Int)<80)=false):=by
   rcases Nat.lt_or_ge i ops.length with h|h
   ·exact .inr ⟨decide_eq_true (by rw[hol];omega),decide_eq_false (by omega)⟩
   ·exact .inl (decide_eq_false (by rw[hol];omega))
  clear hlt
  rcases hd with hd1|⟨hd1,hd2⟩<;>rcases hS with⟨rfl,rfl,rfl,rfl⟩ | ⟨hL,c,hc,rfl,rfl⟩
  all_goals
   repeat'(first|(apply Zb (Jf);kernel_rfl;(iterate 4 exact Z))|(apply Zx [] [] (DK);kernel_rfl;(iterate 10 exact Z))|(apply Zg Za;exact Z)|(apply Zh Za;exact Z)|(apply Zs Za;exact Z)|(apply Zd;(iterate 3 exact Z);(first|with_reducible assumption|decide +kernel|(solve|simp only[bn])))|(apply Zr;(iterate 3 exact Z);(first|with_reducible assumption|decide +kernel|(solve|simp only[bn])))|(apply Zj;exact Z;(first|with_reducible assumption|decide +kernel|(solve|simp only[bn]));exact Z;exact Z)|(apply Zi;exact Z;(first|with_reducible assumption|decide +kernel|(solve|simp only[bn]));exact Z;exact Z)|(apply Zf;exact Z;(first|with_reducible assumption|decide +kernel|(solve|simp only[bn])))|refine Zn Za Z Z Z Z ?_)
   all_goals exact Qe
end Go.Proofs.YtchlgagdbflkmaaGreatDoor
end
section
open Go.RowKit Go.Pl
namespace Go.Pl
def Ip {α:Type}(P:Program)(fs:Array Field)(i o:Nat)(R:Rep α):Prop:=
 ∀(H:Type) (enc:TypeId × Value->H) (W:World) (spare:Nat->Bool) (held:Bool) (n:Nat) (cs:List Value) (xs:List (DataW H × List MemPlace)),cs.length=o+R.n->xs.length=fs.size ->
  (∀(j:Nat) (f:Field),fs[j]?=some f->DataW.trod enc P W 0 spare held n f.type ((cs.drop f.offset).take (P.cellsOf f.type))=xs[j]?)->∃ x,R.ok W (· < W.heap.size) (cs.drop o) x
variable {P:Program} {t:TypeId} {fs:Array Field}
theorem OR {α:Type}{R:Rep α}{i o:Nat}{f:Field}(hf:fs[i]?=some f)(ho:f.offset=o)(hc:P.cellsOf f.type=R.n)(h:Wc P f.type R){H:Type}{enc:TypeId × Value->H}{W:World}{spare:Nat->Bool}{held:Bool}{n:Nat}{cs:List Value}{xs:List (DataW H × List MemPlace)}(hl:xs.length=fs.size)
  (hg:∀(j:Nat) (f:Field),fs[j]?=some f->DataW.trod enc P W 0 spare held n f.type ((cs.drop f.offset).take (P.cellsOf f.type))=xs[j]?):∃ x,R.ok W (· < W.heap.size) ((cs.drop o).take R.n) x:=by
 have e:=hg i f hf
 rw[ho,hc]at e
 have hi:i<xs.length:=by
  rw[hl]
  exact(Array.getElem?_eq_some_iff.1 hf).1
 exact h H enc W spare held n _ _ (e.trans (List.getElem?_eq_getElem hi))
theorem UW {α:Type}{R:Rep α}{i o:Nat}{f:Field}(hf:fs[i]?=some f)(ho:f.offset=o)(hc:P.cellsOf f.type=R.n)(h:Wc P f.type R):Ip P fs i o R:=by
 intro H enc W spare held n cs xs hcl hl hg
 obtain⟨x,hx⟩:=OR hf ho hc h hl hg
 rw[List.take_of_length_le (by rw[List.length_drop];omega)]at hx
 exact⟨x,hx⟩
theorem ZR {α β:Type}{R:Rep α}{R':Rep β}{i o:Nat}{f:Field}(hf:fs[i]?=some f)(ho:f.offset=o)(hc:P.cellsOf f.type=R.n)(h:Wc P f.type R)(h':Ip P fs (i+1) (o+R.n) R'):Ip P fs i o (R.prod R'):=by
 intro H enc W spare held n cs xs hcl hl hg
 obtain⟨x,hx⟩:=OR hf ho hc h hl hg
 have hn:(R.prod R').n=R.n+R'.n:=rfl
 obtain⟨x',hx'⟩:=h' H enc W spare held n cs xs (by rw[hn]at hcl;omega) hl hg
 refine⟨(x,x'),(cs.drop o).take R.n,(cs.drop o).drop R.n,(List.take_append_drop _ _).symm,hx,?_⟩
 rw[List.drop_drop]
 exact hx'
theorem VI {α:Type}{R:Rep α}(hs:P.underlying t=some (.struct fs))(hc:P.cellsOf t=R.n)(h:Ip P fs 0 0 R):Wc P t R:=by
 intro H enc W spare held fuel cs y hy
 obtain⟨xs,n,_,_,hl,hxl,hg⟩:=DataW.trod_struct hs hy
 exact h H enc W spare held n cs xs (by omega) hxl hg
end Go.Pl
end
section
open Go.RowKit Go.Pl Go.Av
namespace Go.Proofs.YtchlgagdbflkmaaGreatDoor
set_option maxHeartbeats 4000000
abbrev RQ:Rep (Nat × Int × XE × XE × Int × Int × Int × List UInt8 × Nat × Nat × Bool):=
 Rep.u64.prod (Rep.i64.prod (RE.prod (RE.prod (Rep.i64.prod (Rep.i64.prod (Rep.i64.prod ((Rep.slice Rep.byte (by decide)).prod (Rep.u64.prod (Rep.u64.prod Rep.bool)))))))))
theorem M1:Wc Tryz.prog 26 (Rep.slice Rep.byte (by decide)):=U3 (R:=Rep.byte) (by decide) Tryz.underlying26 (by kernel_rfl) (XN Tryz.underlying5)
theorem BU:Wc Tryz.prog 41 RQ:=
 VI Tryz.underlying41 (by kernel_rfl) (ZR rfl rfl (by kernel_rfl) (Wz Tryz.underlying31) (ZR rfl rfl (by kernel_rfl) (Y1 Tryz.underlying3)
  (ZR rfl rfl (by kernel_rfl) Rj (ZR rfl rfl (by kernel_rfl) Rj (ZR rfl rfl (by kernel_rfl) (Y1 Tryz.underlying3) (ZR rfl rfl (by kernel_rfl) (Y1 Tryz.underlying3) (ZR rfl rfl (by kernel_rfl) (Y1 Tryz.underlying3)
   (ZR rfl rfl (by kernel_rfl) M1 (ZR rfl rfl (by kernel_rfl) (Wz Tryz.underlying31) (ZR rfl rfl (by kernel_rfl) (Wz Tryz.underlying31) (UW rfl rfl (by kernel_rfl) (XO Tryz.underlying4))))))))))))
abbrev XQ:=Nat × Int × XE × XE × Int × Int × Int × List UInt8 × Nat × Nat × Bool
def XQ.v (x:XQ):RqV:=⟨x.1,x.2.1,x.2.2.1.v,x.2.2.2.1.v,x.2.2.2.2.1,x.2.2.2.2.2.1,x.2.2.2.2.2.2.1,x.2.2.2.2.2.2.2.1,x.2.2.2.2.2.2.2.2.1,x.2.2.2.2.2.2.2.2.2.1,x.2.2.2.2.2.2.2.2.2.2⟩
abbrev RY:Rep (Nat × Int × Int × Int × Nat × List UInt8):=Rep.u64.prod (Rep.i64.prod (Rep.i64.prod (Rep.i64.prod (Rep.u64.prod (Rep.slice Rep.byte (by decide))))))
theorem ST:Wc Tryz.prog 33 RY:=
 VI Tryz.underlying33 (by kernel_rfl) (ZR rfl rfl (by kernel_rfl) (Wz Tryz.underlying31) (ZR rfl rfl (by kernel_rfl) (Y1 Tryz.underlying28) (ZR rfl rfl (by kernel_rfl) (Y1 Tryz.underlying3) (ZR rfl rfl (by kernel_rfl) (Y1 Tryz.underlying3) (ZR rfl rfl (by kernel_rfl) (Wz Tryz.underlying31) (UW rfl rfl (by kernel_rfl) (U3 (R:=Rep.byte) (by decide) Tryz.underlying26 (by kernel_rfl) (XN Tryz.underlying5))))))))
abbrev XY:=Nat × Int × Int × Int × Nat × List UInt8
def XY.v (x:XY):RyV:=⟨x.1,x.2.1,x.2.2.1,x.2.2.2.1,x.2.2.2.2.1,x.2.2.2.2.2⟩
abbrev ryE (x:RyV):E:=.agg [.int .u64 (x.id:Int),.int .i64 x.err,.int .i64 x.num,.int .i64 x.cnt,.int .u64 (x.tok:Int),.sl (x.data.map E.byte)]
theorem SU:ToE RY (fun x=>ryE (XY.v x)):=ToE.u64.prod (ToE.i64.prod (ToE.i64.prod (ToE.i64.prod (ToE.u64.prod (ToE.byte.slice (by decide))))))
abbrev RVh:Rep (Nat × Int × Nat × Int × XQ × List UInt8):=Rep.u64.prod (Rep.i64.prod (Rep.u64.prod (Rep.i64.prod (RQ.prod (Rep.slice Rep.byte (by decide))))))
theorem SV:Wc Tryz.prog 72 RVh:=
 VI Tryz.underlying72 (by kernel_rfl) (ZR rfl rfl (by kernel_rfl) (Wz Tryz.underlying31) (ZR rfl rfl (by kernel_rfl) (Y1 Tryz.underlying3) (ZR rfl rfl (by kernel_rfl) (Wz Tryz.underlying31) (ZR rfl rfl (by kernel_rfl) (Y1 Tryz.underlying3) (ZR rfl rfl (by kernel_rfl) BU (UW rfl rfl (by kernel_rfl) M1))))))
abbrev XVh:=Nat × Int × Nat × Int × XQ × List UInt8
def XVh.v (x:XVh):EvV:=⟨x.1,x.2.1,x.2.2.1,x.2.2.2.1,x.2.2.2.2.1.v,x.2.2.2.2.2⟩
abbrev ROh:Rep (Int × Int × XVh × XY):=Rep.i64.prod (Rep.i64.prod (RVh.prod RY))
theorem SW:Wc Tryz.prog 74 ROh:=
 VI Tryz.underlying74 (by kernel_rfl) (ZR rfl rfl (by kernel_rfl) (Y1 Tryz.underlying3) (ZR rfl rfl (by kernel_rfl) (Y1 Tryz.underlying3) (ZR rfl rfl (by kernel_rfl) SV (UW rfl rfl (by kernel_rfl) ST))))
abbrev XOh:=Int × Int × XVh × XY
def XOh.v (x:XOh):OpH:=⟨x.1,x.2.1,x.2.2.1.v,x.2.2.2.v⟩
theorem SX:ToE ROh (fun x=>ohE (XOh.v x)):=by
 have toE_rq:=ToE.u64.prod (ToE.i64.prod (HZ.prod (HZ.prod (ToE.i64.prod (ToE.i64.prod (ToE.i64.prod ((ToE.byte.slice (by decide)).prod (ToE.u64.prod (ToE.u64.prod ToE.bool)))))))))
 have toE_ev:=ToE.u64.prod (ToE.i64.prod (ToE.u64.prod (ToE.i64.prod (toE_rq.prod (ToE.byte.slice (by decide))))))
 exact ToE.i64.prod (ToE.i64.prod (toE_ev.prod SU))
theorem BV [Known]{W:World}{v:Value}{l:List XOh}(hs:Sl ROh W (· < W.heap.size) v l):V W (g0 W) [] (.sl .ext ((l.map XOh.v).map ohE)) v:=by
 have h:=V.ofE (w:=W) (g:=g0 W) (fr:=[]) (e:=.sl (l.map fun x=>ohE (XOh.v x))) (SX.sl (C:=(g0 W).C) (fun k hk o=>hk) hs)
 have e:(l.map XOh.v).map ohE=l.map fun x=>ohE (XOh.v x):=List.map_map ..
 rw[e]
 exact h
end Go.Proofs.YtchlgagdbflkmaaGreatDoor
end
section
open Go.RowKit Go.Pl Go.Av Go.Lib
namespace Go.Proofs.YtchlgagdbflkmaaGreatDoor
theorem Xe (k:IntKind):∀ zs:List Int,Xq (zs.map fun z=>.lit (.int k z))=zs.map fun z=>Value.int k z
 | []=>rfl
 | z::zs=>by rw[List.map_cons,List.map_cons,Xq,Xe k zs];rfl
theorem GE {P:Program}{W:World}{n:String}{g:Nat}{t:TypeId}{d:DataW Unit}(hg:P.globalNamed n=some g)(ht:(P.globals[g]?).map (·.type)=some t)(h:VarReads P W n d)
  (key:∀(fuel:Nat) (cs:List Value) (p:List MemPlace),DataW.trod (fun _=>()) P W 0 (fun _=>true) false fuel t cs=some (d,p)->∀(j:Nat) (v:Value),(dcs d)[j]?=some v->cs[j]?=some v) :
  ∀(j:Nat) (v:Value),(dcs d)[j]?=some v->(g0 W).C g j/\W.cell? ⟨g,j,none⟩=some v:=by
 obtain⟨g',t',cs,fuel,p,h1,h2,h3,h4⟩:=h
 obtain rfl:=Option.some.inj (hg.symm.trans h1)
 obtain rfl:=Option.some.inj (ht.symm.trans h2)
 intro j v hv
 have hc:=key fuel cs.toList p h4 j v hv
 have hcell:W.cell? ⟨g,j,none⟩=some v:=by
  rw[World.var?_cell hg h3 j,<- Array.getElem?_toList];exact hc
 exact⟨World.block_lt_of_cell? W _ hcell,hcell⟩
theorem Rb {P:Program}{W:World}{t e:TypeId}{n:Nat}{k:IntKind}{d:DataW Unit}(zs:List Int)(hd:d=tabData k zs)(ht:P.underlying t=some (.array n e))(he:P.underlying e=some (.int k))(hce:P.cellsOf e=1)(hct:P.cellsOf t=n) :
  ∀(fuel:Nat) (cs:List Value) (p:List MemPlace),DataW.trod (fun _=>()) P W 0 (fun _=>true) false fuel t cs=some (d,p)->∀(j:Nat) (v:Value),(dcs d)[j]?=some v->cs[j]?=some v:=by
 subst hd
 intro fuel cs p h j v hv
 rw[cells_of_tab ht he hce hct h]
 rw[tabData,dcs,Xe]at hv
 exact hv
theorem Rc {P:Program}{W:World}{t e:TypeId}{n:Nat}{k:IntKind}{d:DataW Unit}{fs:Array Field}(rows:List (List Int))(hd:d=.agg (rows.map fun r=>.agg (r.map fun z=>.lit (.int k z))))(hn:rows.length=n)(ht:P.underlying t=some (.array n e))(he:P.underlying e=some (.struct fs))
  (hf:∀(i:Nat) (f:Field),fs[i]?=some f->P.underlying f.type=some (.int k)/\f.offset=i/\P.cellsOf f.type=1) (hce:P.cellsOf e=fs.size) :
  ∀(fuel:Nat) (cs:List Value) (p:List MemPlace),DataW.trod (fun _=>()) P W 0 (fun _=>true) false fuel t cs=some (d,p)->∀(j:Nat) (v:Value),(dcs d)[j]?=some v->cs[j]?=some v:=by
 subst hd
 intro fuel cs p h j v hv
 have key:∀ i,i<=n->cs.take (i*fs.size)=Xq ((rows.take i).map fun r=>.agg (r.map fun z=>.lit (.int k z))):=by
  intro i
  induction i with
  | zero=>intro _;rw[Nat.zero_mul,List.take_zero,List.take_zero];rfl
  | succ i ih=>
   intro hi
   obtain⟨fuel',d',q,hdi,he'⟩:=array_elem ht h i (by omega)
   rw[List.getElem?_map,List.getElem?_eq_getElem (by omega:i<rows.length)]at hdi
   simp only[Option.map_some,Option.some.injEq]at hdi
   subst hdi
   rw[hce]at he'
   have hcs:=ints_of_struct he hf hce he'
   rw[Nat.succ_mul,List.take_add,ih (by omega),hcs,List.take_succ_eq_append_getElem (by omega:i<rows.length),List.map_append]
   have app:∀(a b:List (DataW Unit)),Xq (a++b)=Xq a++Xq b:=fun a b=>by
    induction a with
    | nil=>rfl
    | cons x a ih=>rw[List.cons_append,Xq,Xq,ih,List.append_assoc]
   rw[app,List.map_cons,List.map_nil,Xq,dcs,Xe]
   simp[Xq]
 have h2:=key n (Nat.le_refl _)
 rw[<- hn,List.take_length]at h2
 rw[dcs,<- h2]at hv
 rw[List.getElem?_take]at hv
 split at hv
 ·exact hv
 ·cases hv
abbrev UX:Known:=⟨[6,7]⟩
theorem HA : @KnownU8 UX:=@KnownU8.mk UX (List.mem_cons_self ..) (List.mem_cons_of_mem _ (List.mem_cons_self ..))
def SY:List Int:=Pinned.utf8FirstZ.map Int.ofNat
def Rd:List (List Int):=[[128,191],[160,191],[128,159],[144,191],[128,143],[0,0],[0,0],[0,0],[0,0],[0,0],[0,0],[0,0],[0,0],[0,0],[0,0],[0,0]]
theorem SZ {W:World}{laid:List (String × DataW Unit)}(h1:("unicode/utf8.first",Rows.laid_unicode_utf8_first) ∈ laid)(h2:("unicode/utf8.acceptRanges",Rows.laid_unicode_utf8_acceptRanges) ∈ laid)(h:laidMet Tryz.prog laid W) : @Gls UX (g0 W).C W:=by
 have r1:=laidMet.reads h h1
 have r2:=laidMet.reads h h2
 have c1:=GE (P:=Tryz.prog) (g:=6) (t:=383) (by kernel_rfl) (by kernel_rfl) r1 (Rb SY (by kernel_rfl) (n:=256) (by kernel_rfl) Tryz.underlying5 (by kernel_rfl) (by kernel_rfl))
 have c2:=GE (P:=Tryz.prog) (g:=7) (t:=386) (by kernel_rfl) (by kernel_rfl) r2 (Rc Rd (by kernel_rfl) (n:=16) rfl Tryz.underlying386 Tryz.underlying385 (fun i f hf=>by
  match i,hf with
  | 0,hf=>simp at hf;subst hf;exact⟨Tryz.underlying5,rfl,by kernel_rfl⟩
  | 1,hf=>simp at hf;subst hf;exact⟨Tryz.underlying5,rfl,by kernel_rfl⟩
  | i+2,hf=>simp at hf) (by kernel_rfl))
 refine⟨fun k cs hk=>?_,fun k t hk=>?_⟩
 ·obtain⟨hk,hm⟩:=hk
  simp only[Is,List.mem_cons,List.not_mem_nil,or_false,Prod.mk.injEq]at hm
  have hk:k ∈ [6,7]:=hk
  simp only[List.mem_cons,List.not_mem_nil,or_false]at hk
  clear r1 r2 h1 h2 h
  rcases hk with rfl|rfl
  all_goals repeat'(refine Or.elim hm (fun hm=>?_) (fun hm=>?_))
  all_goals first
   | (obtain⟨h,rfl⟩:=hm;exact c1)
   | (obtain⟨h,rfl⟩:=hm;exact c2)
   | (obtain⟨h,_⟩:=hm;exact absurd h (by decide))
 ·obtain⟨hk,hm⟩:=hk
  have hk:k ∈ [6,7]:=hk
  simp only[List.mem_cons,List.not_mem_nil,or_false]at hk
  simp only[S6,List.mem_cons,List.not_mem_nil,or_false,Prod.mk.injEq]at hm
  all_goals omega
end Go.Proofs.YtchlgagdbflkmaaGreatDoor
end
section
open Go.RowKit Go.Pl Go.Av
namespace Go.Proofs.YtchlgagdbflkmaaGreatDoor
theorem Dz (v0:Value)(x0:List XOh)(W:World)(h0:Sl ROh W (· < W.heap.size) v0 x0)(hl:laidMet Tryz.prog Rows.historySafeRow.laid W) :
  Calls Tryz.prog 5 #[v0] W fun e w'=>e=.returned (.bool true)/\Below W.heap.size W w':=by
 have hg:=SZ (laid:=Rows.historySafeRow.laid) (by unfold Rows.historySafeRow;repeat (first|exact List.mem_cons_self .. | apply List.mem_cons_of_mem)) (by unfold Rows.historySafeRow;repeat (first|exact List.mem_cons_self .. | apply List.mem_cons_of_mem)) hl
 have h:=@DB UX HA (x0.map XOh.v)
 refine @BX UX Tryz.prog 5 _ (@AC.mono UX _ _ _ _ _ _ _ h fun r b t h=>h.1) W [v0] hg rfl ?_
 intro j d v hd hv
 match j,hd,hv with
 | 0,hd,hv=>cases hd;cases hv;exact @BV UX _ _ _ h0
 | j+1,hd,hv=>cases hd
end Go.Proofs.YtchlgagdbflkmaaGreatDoor
end

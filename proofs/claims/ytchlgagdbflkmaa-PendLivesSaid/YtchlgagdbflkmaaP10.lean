/- Regions that draw their order, in which new variables come in any order. -/
import Derived.Test.YtchlgagdbflkmaaP09
import Derived.Test.YtchlgagdbflkmaaP03
import Derived.Test.YtchlgagdbflkmaaProg
import Derived.Laws.BitsAllLaws
set_option linter.unusedSimpArgs false
set_option linter.unusedVariables false
section
open Go.RowKit Go.Pl
namespace Go.Av
inductive Zy where
 | pu (d:D)
 | al (cs:List D)
def z0 (p:Nat × Zy):Nat × D:=(p.1,match p.2 with | .pu d=>d | .al _=>.junk)
def XL:Nat->List (Nat × Zy)->List (Nat × D)->List (Nat × D)
 | _,[],tm=>tm
 | m,(_,.pu _)::zs,tm=>XL m zs tm
 | m,(t,.al _)::zs,tm=>XL (m+1) zs ((t,.ptr m 0)::tm)
def zcs:List (Nat × Zy)->List (List D)
 | []=>[]
 | (_,.pu _)::zs=>zcs zs
 | (_,.al cs)::zs=>cs::zcs zs
section
variable {P:Program} {T:Tab} {Q:X->St->Prop} {n:Nat} {ee:Nat × Nat} {tm tm':List (Nat × D)} {bx:List (List D)} {fr:List Fr} {b0:Bs} {g g':G} {w w':World} {a:Act}
inductive AZ [Known][Dfr](P:Program) (T:Tab) (l:List Oper) (n:Nat) (bx:List (List D)) (fr:List Fr):List Oper->List (Nat × D)->List (Nat × Zy)->List (Nat × D)->Prop
 | nil (tm:List (Nat × D)):AZ P T l n bx fr [] tm [] tm
 | pu (o:Oper) (rest:List Oper) (t:Nat) (d:D) (tm:List (Nat × D)) (zs:List (Nat × Zy)) (tm':List (Nat × D)) (hd:o.dst=some t) (ht:Nat.blt t n=true) (h:AL P l.toArray [o] ⟨n,ZT l o tm,bx,fr,(bx.length,fr.length)⟩ (qY o bx fr (.pu d))) (k:AZ P T l n bx fr rest ((t,d)::tm) zs tm'):AZ P T l n bx fr (o::rest) tm ((t,.pu d)::zs) tm'
 | al (t:Nat) (e:TypeId) (ty:Nat) (pos:String) (after:Array Edge) (rest:List Oper) (ti:Ti) (tm:List (Nat × D)) (zs:List (Nat × Zy)) (tm':List (Nat × D)) (ht:Nat.blt t n=true) (hti:tl T e=some ti) (k:AZ P T l n bx fr rest ((t,.junk)::tm) zs tm'):AZ P T l n bx fr (⟨some t,.alloc e,ty,pos,after,none⟩::rest) tm ((t,.al (ti.zero.map ZK.d))::zs) tm'
theorem Evo.al [Known](hm:Mem g bx fr w)(o:Obj):Evo ⟨g,fr,w⟩ ⟨g,fr,w.alloc o⟩:=
 ⟨rfl,rfl,rfl,by simp,fun k hk _=>Below.heap_alloc w _ k hk,fun _ _ h=>h,fun k p h=>YF w _ (hm.Clt k p h) p,fun _ _ h=>.inl h,fun _ _ h=>h,fun _ h=>.inl h,fun k c h=>.inl ⟨c,h⟩,YA.refl _ _⟩
theorem Mem.al [Known](hm:Mem g bx fr w)(o:Obj):Mem g bx fr (w.alloc o) where
 bl:=hm.bl
 bat i k cs' h1 h2:=by
  obtain⟨us,ty,k1,k2,k3⟩:=hm.bat i k cs' h1 h2
  exact⟨us,ty,(Below.heap_alloc w _ k (Array.getElem?_eq_some_iff.1 k1).1).trans k1,k2,fun j d v hd hv=>(k3 j d v hd hv).evo (Evo.al hm o)⟩
 bC:=hm.bC
 bN:=hm.bN
 tl:=hm.tl
 tat i k c f h1 h2:=by
  have hT:=hm.tat i k c f h1 h2
  obtain⟨cur,r1,r2⟩:=hT.row
  exact⟨⟨cur,(Below.heap_alloc w _ k (Array.getElem?_eq_some_iff.1 r1).1).trans r1,r2⟩,hT.le,hT.max,hT.pos,hT.far⟩
 tN:=hm.tN
 tρ:=hm.tρ
 Clt k p hC:=by
  have:=hm.Clt k p hC
  simp;omega
 gl:=hm.gl.evo (Evo.al hm o)
structure AZk [Known][Dfr](P:Program) (l acts:List Oper) (n:Nat) (zs:List (Nat × Zy)) (tm:List (Nat × D)) (bx:List (List D)) (fr:List Fr) (ee:Nat × Nat) (Q:X->St->Prop):Prop where
 run:AL P l.toArray acts ⟨n,XL bx.length zs tm,bx++zcs zs,fr,ee⟩ Q
end
end Go.Av
end
section
open Go.RowKit Go.Pl
namespace Go.Av
mutual
def stD (b:Nat)(l:List E):D->D
 | .bsl b' o n c=>match Nat.blt b' b with
  | true=>.bsl b' o n c
  | false=>match Nat.beq b' b with
   | true=>.sl .ext l
   | false=>.junk
 | .ptr b' o=>match Nat.blt b' b with
  | true=>.ptr b' o
  | false=>.junk
 | .sl t l'=>.sl t l'
 | .agg ds=>.agg (J8 b l ds)
 | .tup ds=>.tup (J8 b l ds)
 | .fn f ds=>.fn f (J8 b l ds)
 | .iface t d=>.iface t (stD b l d)
 | .bool b=>.bool b
 | .int k n=>.int k n
 | .str s=>.str s
 | .nilp=>.nilp
 | .eptr cs o=>.eptr cs o
 | .gptr k o=>.gptr k o
 | .nilf=>.nilf
 | .nili=>.nili
 | .junk=>.junk
 | .row z l=>.row z l
def J8 (b:Nat)(l:List E):List D->List D
 | []=>[]
 | d::ds=>stD b l d::J8 b l ds
end
mutual
def SOk (b n:Nat):D->Prop
 | .bsl b' o n' _=>Nat.blt b' b=true\/Nat.blt b b'=true\/(b'=b/\o=0/\n'=n)
 | .agg ds=>J9 b n ds
 | .tup ds=>J9 b n ds
 | .fn _ ds=>J9 b n ds
 | .iface _ d=>SOk b n d
 | _=>True
def J9 (b n:Nat):List D->Prop
 | []=>True
 | d::ds=>SOk b n d/\J9 b n ds
end
section
variable {P:Program} {Q:X->St->Prop} {n:Nat} {ee:Nat × Nat} {tm:List (Nat × D)} {bx bx':List (List D)} {fr fr':List Fr} {b0:Bs} {g g':G} {w w':World} {a:Act} {T:Tab}
variable {ops:Array Oper} {rest:List Oper} {t ty:Nat} {pos:String} {after:Array Edge}
theorem Ye [Known][Dfr](hT:chk P T=true){st e:Nat}{ti te:Ti}{parts:Array (Nat × Operand)}(ht:tl T st=some ti)(hk:ti.kd=.slice e)(hte:tl T e=some te)(hp:parts = #[])(hpos:Nat.blt 0 te.size=true)(htd:Nat.blt t n=true)
  (k:AL P ops rest ⟨n,(t,.sl .zero [])::tm,bx,fr,ee⟩ Q):AL P ops (⟨some t,.buildSlice st 0 parts,ty,pos,after,none⟩::rest) ⟨n,tm,bx,fr,ee⟩ Q:=
 Vv (fun b0 g a w hi=>by
  obtain⟨cs,c1,c2,c3,c4,c5⟩:=UZ (t:=t) (ty:=ty) (pos:=pos) (after:=after) hT ht hk hte (parts:=parts) (xs:=[]) (ds:=[]) (es:=[]) (len:=0) (by rw[hp];rfl) rfl rfl rfl rfl hpos (by rw[Nat.zero_mul];rfl) hi
  have hev:Evo ⟨g,fr,w⟩ ⟨g,fr,w.alloc (.cells cs.toArray e)⟩:=Evo.al hi.mem _
  have hi2:Inv b0 ⟨n,tm,bx,fr,ee⟩ g a (w.alloc (.cells cs.toArray e)):=⟨hi.size,hi.defers,Mem.al hi.mem _,fun t=>(hi.tm t).evo hev,hi.evo.trans hev,hi.bd⟩
  exact⟨.slice (some ⟨w.heap.size,0,none⟩) 0 0,_,tm,bx,fr,g,.sl .zero [],c5,hi2,.sl _ _ _ (.slE _ _ (Nat.zero_le _)) ⟨_,rfl⟩,k⟩) htd
end
end Go.Av
end
section
open Go.RowKit Go.Pl
namespace Go.Av
section
variable {P:Program} {T:Tab} {Q:X->St->Prop} {n:Nat} {ee:Nat × Nat} {tm tm':List (Nat × D)} {bx bx':List (List D)} {fr fr':List Fr} {b0:Bs} {g:G} {w:World} {a:Act} {ys:List Y}
structure AOj [Known][Dfr](P:Program) (l:List Oper) (n:Nat) (rest:List Oper) (ys:List Y) (tm:List (Nat × D)) (bx:List (List D)) (fr:List Fr) (ja:Nat):Prop where
 out:AOt P l n rest ys tm bx fr
 at_:ys[ja]?=some (.pu .junk)
end
end Go.Av
end
section
open Go.RowKit Go.Pl
namespace Go.Av
section
variable {P:Program} {Q:X->St->Prop} {n:Nat} {ee:Nat × Nat} {tm:List (Nat × D)} {bx bx':List (List D)} {fr fr':List Fr} {b0:Bs} {g:G} {w:World} {a:Act} {T:Tab}
variable {ops:Array Oper} {rest:List Oper} {t ty:Nat} {pos:String} {after:Array Edge}
theorem Xa [Known][Dfr](hT:chk P T=true){op:BinOp}{x:Operand}{xt yt e b o m c:Nat}{d:Bool->D}{ti:Ti}(hx:ev tm x=.bsl b o m c)(ht:tl T xt=some ti)(hk:ti.kd=.slice e)(hd:(match op with | .eql=>some (fun b=>D.bool b) | .neq=>some (fun b=>D.bool (!b))|_=>none)=some d)(htd:Nat.blt t n=true)
  (k:AL P ops rest ⟨n,(t,d false)::tm,bx,fr,ee⟩ Q):AL P ops (⟨some t,.binOp op xt x (.const (.slice none 0 0)) yt,ty,pos,after,none⟩::rest) ⟨n,tm,bx,fr,ee⟩ Q:=
 ZM _ htd (fun g a w hi=>by
  have h1:V w g fr (ev tm x) (a.eval x):=hi.ev x
  rw[hx]at h1
  obtain⟨blk,cap,_,_,_,hv,_⟩:=Wy h1
  have hu:=(ZB hT ht).slice hk
  have hrun:(Op.equal xt (.slice (some ⟨blk,o,none⟩) m cap) (.slice none 0 0)).run P w=.ok false w:=Go.run_equal_slice_nil w xt e _ m cap hu
  have hc0:a.eval (.const (.slice none 0 0))=.slice none 0 0:=rfl
  cases op<;>simp at hd<;>subst hd<;>first|exact⟨.bool false,by simp[execOp,hv,hc0,eqGuard,binOp,Sem.run_bind,hrun],.bool _⟩ | exact⟨.bool (!false),by simp[execOp,hv,hc0,eqGuard,binOp,Sem.run_bind,hrun],.bool _⟩) k
end
end Go.Av
end
section
open Go.RowKit Go.Pl Go.Av
namespace Go.Proofs.Ytchlgagdbflkmaa
set_option maxHeartbeats 4000000
def tt:Tab:=[(1,Ti.mk Kd.func 1 8 [ZK.f]),
 (2,Ti.mk (Kd.int IntKind.i64) 1 8 [ZK.i IntKind.i64]),
 (3,Ti.mk (Kd.int IntKind.i64) 1 8 [ZK.i IntKind.i64]),
 (4,Ti.mk Kd.bool 1 1 [ZK.b]),
 (5,Ti.mk (Kd.int IntKind.u8) 1 1 [ZK.i IntKind.u8]),
 (6,Ti.mk (Kd.int IntKind.u8) 1 1 [ZK.i IntKind.u8]),
 (7,Ti.mk (Kd.struct [Av.Fd.mk 0 1 Bool.false 2,Av.Fd.mk 1 1 Bool.false 3,Av.Fd.mk 2 1 Bool.false 4,Av.Fd.mk 3 1 Bool.false 6]) 4 24 [ZK.i IntKind.i64,ZK.i IntKind.i64,ZK.b,ZK.i IntKind.u8]),
 (8,Ti.mk (Kd.struct [Av.Fd.mk 0 1 Bool.false 2,Av.Fd.mk 1 1 Bool.false 3,Av.Fd.mk 2 1 Bool.false 4,Av.Fd.mk 3 1 Bool.false 6]) 4 24 [ZK.i IntKind.i64,ZK.i IntKind.i64,ZK.b,ZK.i IntKind.u8]),
 (9,Ti.mk Kd.str 1 16 [ZK.s]),
 (10,Ti.mk Kd.str 1 16 [ZK.s]),
 (11,Ti.mk Kd.str 1 16 [ZK.s]),
 (12,Ti.mk (Kd.int IntKind.u64) 1 8 [ZK.i IntKind.u64]),
 (13,Ti.mk (Kd.struct [Av.Fd.mk 0 1 Bool.false 9,Av.Fd.mk 1 1 Bool.false 12]) 2 24 [ZK.s,ZK.i IntKind.u64]),
 (14,Ti.mk (Kd.struct [Av.Fd.mk 0 1 Bool.false 9,Av.Fd.mk 1 1 Bool.false 12]) 2 24 [ZK.s,ZK.i IntKind.u64]),
 (15,Ti.mk (Kd.ptr 54) 1 8 [ZK.p]),
 (16,Ti.mk (Kd.ptr 57) 1 8 [ZK.p]),
 (17,Ti.mk (Kd.ptr 66) 1 8 [ZK.p]),
 (18,Ti.mk (Kd.struct [Av.Fd.mk 0 1 Bool.false 17]) 1 8 [ZK.p]),
 (19,Ti.mk (Kd.struct [Av.Fd.mk 0 1 Bool.false 17]) 1 8 [ZK.p]),
 (20,Ti.mk Kd.iface 1 16 [ZK.n]),
 (21,Ti.mk (Kd.int IntKind.i32) 1 4 [ZK.i IntKind.i32]),
 (22,Ti.mk (Kd.slice 33) 1 24 [ZK.l]),
 (23,Ti.mk (Kd.ptr 47) 1 8 [ZK.p]),
 (24,Ti.mk Kd.func 1 8 [ZK.f]),
 (25,Ti.mk (Kd.ptr 28) 1 8 [ZK.p]),
 (26,Ti.mk (Kd.slice 43) 1 24 [ZK.l]),
 (27,Ti.mk (Kd.struct [Av.Fd.mk 0 1 Bool.false 26]) 1 24 [ZK.l]),
 (28,Ti.mk (Kd.struct [Av.Fd.mk 0 1 Bool.false 26]) 1 24 [ZK.l]),
 (29,Ti.mk (Kd.slice 5) 1 24 [ZK.l]),
 (30,Ti.mk (Kd.struct [Av.Fd.mk 0 1 Bool.false 3,Av.Fd.mk 1 1 Bool.false 29,Av.Fd.mk 2 1 Bool.false 3]) 3 40 [ZK.i IntKind.i64,ZK.l,ZK.i IntKind.i64]),
 (31,Ti.mk (Kd.struct [Av.Fd.mk 0 1 Bool.false 3,Av.Fd.mk 1 1 Bool.false 29,Av.Fd.mk 2 1 Bool.false 3]) 3 40 [ZK.i IntKind.i64,ZK.l,ZK.i IntKind.i64]),
 (32,Ti.mk (Kd.struct [Av.Fd.mk 0 1 Bool.false 3,Av.Fd.mk 1 1 Bool.false 3,Av.Fd.mk 2 3 Bool.true 31]) 5 56 [ZK.i IntKind.i64,ZK.i IntKind.i64,ZK.i IntKind.i64,ZK.l,ZK.i IntKind.i64]),
 (33,Ti.mk (Kd.struct [Av.Fd.mk 0 1 Bool.false 3,Av.Fd.mk 1 1 Bool.false 3,Av.Fd.mk 2 3 Bool.true 31]) 5 56 [ZK.i IntKind.i64,ZK.i IntKind.i64,ZK.i IntKind.i64,ZK.l,ZK.i IntKind.i64]),
 (34,Ti.mk Kd.func 1 8 [ZK.f]),
 (35,Ti.mk (Kd.int IntKind.i64) 1 8 [ZK.i IntKind.i64]),
 (36,Ti.mk Kd.func 1 8 [ZK.f]),
 (37,Ti.mk Kd.func 1 8 [ZK.f]),
 (38,Ti.mk (Kd.slice 31) 1 24 [ZK.l]),
 (39,Ti.mk Kd.func 1 8 [ZK.f]),
 (40,Ti.mk (Kd.slice 3) 1 24 [ZK.l]),
 (41,Ti.mk Kd.func 1 8 [ZK.f]),
 (42,Ti.mk (Kd.struct [Av.Fd.mk 0 1 Bool.false 3,Av.Fd.mk 1 1 Bool.false 9,Av.Fd.mk 2 1 Bool.false 3,Av.Fd.mk 3 1 Bool.false 4]) 4 40 [ZK.i IntKind.i64,ZK.s,ZK.i IntKind.i64,ZK.b]),
 (43,Ti.mk (Kd.struct [Av.Fd.mk 0 1 Bool.false 3,Av.Fd.mk 1 1 Bool.false 9,Av.Fd.mk 2 1 Bool.false 3,Av.Fd.mk 3 1 Bool.false 4]) 4 40 [ZK.i IntKind.i64,ZK.s,ZK.i IntKind.i64,ZK.b]),
 (44,Ti.mk Kd.func 1 8 [ZK.f]),
 (45,Ti.mk Kd.func 1 8 [ZK.f]),
 (46,Ti.mk (Kd.struct [Av.Fd.mk 0 1 Bool.false 4,Av.Fd.mk 1 1 Bool.false 38]) 2 32 [ZK.b,ZK.l]),
 (47,Ti.mk (Kd.struct [Av.Fd.mk 0 1 Bool.false 4,Av.Fd.mk 1 1 Bool.false 38]) 2 32 [ZK.b,ZK.l]),
 (48,Ti.mk Kd.func 1 8 [ZK.f]),
 (49,Ti.mk Kd.func 1 8 [ZK.f]),
 (50,Ti.mk Kd.func 1 8 [ZK.f]),
 (51,Ti.mk Kd.func 1 8 [ZK.f]),
 (52,Ti.mk Kd.func 1 8 [ZK.f]),
 (53,Ti.mk (Kd.struct [Av.Fd.mk 0 1 Bool.false 17,Av.Fd.mk 1 1 Bool.false 17,Av.Fd.mk 2 1 Bool.false 17,Av.Fd.mk 3 1 Bool.false 9]) 4 40 [ZK.p,ZK.p,ZK.p,ZK.s]),
 (54,Ti.mk (Kd.struct [Av.Fd.mk 0 1 Bool.false 17,Av.Fd.mk 1 1 Bool.false 17,Av.Fd.mk 2 1 Bool.false 17,Av.Fd.mk 3 1 Bool.false 9]) 4 40 [ZK.p,ZK.p,ZK.p,ZK.s]),
 (55,Ti.mk (Kd.array 0 16) 0 0 []),
 (56,Ti.mk (Kd.struct [Av.Fd.mk 0 0 Bool.true 55]) 0 0 []),
 (57,Ti.mk (Kd.struct [Av.Fd.mk 0 0 Bool.true 55]) 0 0 []),
 (58,Ti.mk (Kd.int IntKind.u32) 1 4 [ZK.i IntKind.u32]),
 (59,Ti.mk (Kd.int IntKind.u8) 1 1 [ZK.i IntKind.u8]),
 (60,Ti.mk (Kd.int IntKind.u8) 1 1 [ZK.i IntKind.u8]),
 (61,Ti.mk Kd.func 1 8 [ZK.f]),
 (62,Ti.mk (Kd.ptr 5) 1 8 [ZK.p]),
 (63,Ti.mk (Kd.int IntKind.i32) 1 4 [ZK.i IntKind.i32]),
 (64,Ti.mk (Kd.int IntKind.i32) 1 4 [ZK.i IntKind.i32]),
 (65,Ti.mk (Kd.struct [Av.Fd.mk 0 1 Bool.false 12,Av.Fd.mk 1 1 Bool.false 12,Av.Fd.mk 2 1 Bool.false 58,Av.Fd.mk 3 1 Bool.false 59,Av.Fd.mk 4 1 Bool.false 5,Av.Fd.mk 5 1 Bool.false 5,Av.Fd.mk 6 1 Bool.false 60,Av.Fd.mk 7 1 Bool.false 61,Av.Fd.mk 8 1 Bool.false 62,Av.Fd.mk 9 1 Bool.false 63,Av.Fd.mk 10 1 Bool.false 64]) 11 48 [ZK.i IntKind.u64,ZK.i IntKind.u64,ZK.i IntKind.u32,ZK.i IntKind.u8,ZK.i IntKind.u8,ZK.i IntKind.u8,ZK.i IntKind.u8,ZK.f,ZK.p,ZK.i IntKind.i32,ZK.i IntKind.i32]),
 (66,Ti.mk (Kd.struct [Av.Fd.mk 0 1 Bool.false 12,Av.Fd.mk 1 1 Bool.false 12,Av.Fd.mk 2 1 Bool.false 58,Av.Fd.mk 3 1 Bool.false 59,Av.Fd.mk 4 1 Bool.false 5,Av.Fd.mk 5 1 Bool.false 5,Av.Fd.mk 6 1 Bool.false 60,Av.Fd.mk 7 1 Bool.false 61,Av.Fd.mk 8 1 Bool.false 62,Av.Fd.mk 9 1 Bool.false 63,Av.Fd.mk 10 1 Bool.false 64]) 11 48 [ZK.i IntKind.u64,ZK.i IntKind.u64,ZK.i IntKind.u32,ZK.i IntKind.u8,ZK.i IntKind.u8,ZK.i IntKind.u8,ZK.i IntKind.u8,ZK.f,ZK.p,ZK.i IntKind.i32,ZK.i IntKind.i32])]
theorem Za:chk Try.prog tt=true:=by kernel_rfl
theorem Z5:Try.prog.follows .mixedOrders=true:=by kernel_rfl
abbrev byE (l:List UInt8):D:=.sl .ext (l.map E.byte)
theorem ZO (l:List UInt8):Uni 1 (l.map E.byte):=Uni.map (f:=E.byte) (fun _=>rfl) l
theorem VX [Known](b:List UInt8)(hb:b.length<=140737488351232):AP Try.prog 15 [byE b] (byE b) []:=by
 have hU:=ZO b
 cases b with
 | nil=>
  refine AP.ofA (ZF Try.func15 Z Try.ntmps15 Z Z ?_)
  repeat'(first|(apply Ql Za;(iterate 5 exact Z);intro b hbn)|(apply Zk Za;exact Z)|(apply Zh Za;exact Z)|(apply Zr Za;exact Z)|(apply Q7;exact Z;all_goals intro hb)|refine Jk Za Z Z Z Z Z Z Z Z Z Z Z Z ?_|refine ZJ Za Z Z Z Z Z Z ?_)
  all_goals(apply Wp [];(apply Zm Za;exact Z);(iterate 4 exact Z))
  all_goals rfl
 | cons c b=>
  refine AP.ofA (ZF Try.func15 Z Try.ntmps15 Z Z ?_)
  repeat'(first|(apply Ql Za;(iterate 5 exact Z);intro b hbn;(have hbn2:=hbn (List.cons_ne_nil _ _));subst hbn2;clear hbn)|(apply Zk Za;exact Z)|(apply Zh Za;exact Z)|(apply Zr Za;exact Z)|(apply Zd;exact Z;(first|with_reducible assumption|(solve|simp only[bn])))|refine Jk Za Z Z Z Z Z Z Z Z Z Z Z Z ?_|(apply Yr Za;(iterate 6 exact Z);(first|with_reducible assumption|exact Z|rotate_left);exact Z;exact Z;(first|exact Zg rfl|with_reducible assumption|rotate_left);(first|exact Zg rfl|with_reducible assumption|rotate_left);(first|exact Qb|rotate_left);(first|exact Qb|rotate_left);(first|exact Qb|rotate_left);exact Z;exact Z))
  all_goals first|(apply Wp [];(apply Zm Za;exact Z);(iterate 4 exact Z))|skip
  all_goals first|rfl|(simp at hb ⊢;(try unfold maxLen);omega)
theorem Wd (x:UInt8):bits .xor .u8 (x.toNat:Int) 255=((x ^^^ 255).toNat:Int):=by
 have h:=u8_xor_nat x.toNat 255 x.toNat_lt (by decide)
 rw[show((255:Int))=((255:Nat):Int) from rfl,h,UInt8.toNat_xor]
 rfl
theorem Yt (bs:List UInt8):flat (bs.map E.byte)=bs.map E.byte:=by
 induction bs with
 | nil=>rfl
 | cons x bs ih=>rw[List.map_cons,YR,ih];rfl
theorem Z9 (bs:List UInt8){i:Nat}(h:i<bs.length)(y:UInt8):Z2 (flat (bs.map E.byte)) i [E.byte y]=flat ((bs.set i y).map E.byte):=by
 rw[Yt,Yt,List.map_set]
 unfold Z2
 rw[List.set_eq_take_append_cons_drop,if_pos (by rw[List.length_map];exact h)]
 rfl
theorem or5 {a b c d e:Bool}(h:(a||(b||(c||(d||e))))=true):a=true\/(a=false/\b=true)\/(a=false/\b=false/\c=true)\/(a=false/\b=false/\c=false/\d=true)\/(a=false/\b=false/\c=false/\d=false/\e=true):=by
 cases a<;>cases b<;>cases c<;>cases d<;>cases e<;>first|(simp;done)|cases h
structure En where
 who:Int
 data:List UInt8
 need:Int
abbrev enE (x:En):E:=.agg [.int .i64 x.who,.sl (x.data.map E.byte),.int .i64 x.need]
theorem WT (l:List En):Uni 3 (l.map enE):=Uni.map (f:=enE) (fun _=>rfl) l
abbrev pqF (c:Nat):List Fr:=[⟨c,3,31⟩]
def ZA (x:En):Bool:=decide (x.who<1)||(decide (x.who>1099511627776)||(decide (x.need<0)||(decide (x.need>1099511627776)||decide ((x.data.length:Int)>1002))))
theorem VY [Known](b:List UInt8)(z c:Nat)(hne:b ≠ [])(hb:b.length<=140737488351232):AQ Try.prog 15 [.bsl 0 0 (b.map E.byte).length c] [[.row z (flat (b.map E.byte))]] (byE b) [[.row z (flat (b.map E.byte))]]:=by
 have hU:=ZO b
 have hn:b.map E.byte ≠ []:=fun e=>hne (List.map_eq_nil_iff.1 e)
 have h1:(b.map E.byte).length<=maxLen:=by rw[List.length_map];unfold maxLen;omega
 have h2:(b.map E.byte).length*1<=140737488355328:=by rw[List.length_map];omega
 refine AQ.weak (ZF Try.func15 Z Try.ntmps15 Z Z ?_)
 repeat'(first|refine Xa Za Z Z Z Z Z ?_|refine Ye Za Z Z Z Z Z Z ?_|refine Wo Za Z Z Z Z (Src.row (l:=b.map E.byte) rfl rfl) Z hU hn h1 h2 Z Z Z ?_|(apply Zk Za;exact Z)|(apply Zh Za;exact Z)|(apply Zr Za;exact Z)|refine UD ?_|(apply Zd;exact Z;(first|with_reducible assumption|decide +kernel|(solve|simp only[bn]))))
 all_goals(apply Wp [0];(apply Zm Za;exact Z);(iterate 4 exact Z))
 all_goals rfl
theorem Vy [Known](who need:Int)(b:List UInt8)(hbl:b.length<=2000)(hb:ZA ⟨who,b,need⟩=true):AT Try.prog 6 [.ptr 0 0,.agg [.int .i64 who,.sl .ext (b.map E.byte),.int .i64 need]] [[.bool true,.sl .nil []]] [] (.int .i64 1) [[.bool true,.sl .nil []]] []:=by
 unfold ZA at hb
 dsimp only at hb
 have hml:(b.map E.byte).length=b.length:=List.length_map ..
 rw[<- hml]at hb
 rcases or5 hb with t1|⟨t1,t2⟩ | ⟨t1,t2,t3⟩ | ⟨t1,t2,t3,t4⟩ | ⟨t1,t2,t3,t4,t5⟩
 all_goals
  clear hb
  refine ZF Try.func6 rfl Try.ntmps6 rfl rfl ?_
  repeat'(first|(apply Zk Za;exact Z)|(apply Zh Za;exact Z)|(apply Zr Za;exact Z)|(apply Ze;(iterate 3 exact Z);(first|with_reducible assumption|decide +kernel|(solve|simp only[bn])))|(apply Ym;(iterate 3 exact Z);(first|with_reducible assumption|decide +kernel|(solve|simp only[bn])))|(apply Zl;exact Z;(first|with_reducible assumption|decide +kernel|(solve|simp only[bn]));exact Z;exact Z)|(apply Zj;exact Z;(first|with_reducible assumption|decide +kernel|(solve|simp only[bn]));exact Z;exact Z)|(apply Zf;exact Z;(first|with_reducible assumption|decide +kernel|(solve|simp only[bn])))|(apply Zd;exact Z;(first|with_reducible assumption|decide +kernel|(solve|simp only[bn])))|refine Zo Za Z Z Z Z ?_)
  all_goals(apply Yu [0] [];(apply Zm Za;exact Z);(iterate 7 exact Z))
  all_goals rfl
theorem WU [Known](who need:Int)(b:List UInt8)(hbl:b.length<=2000)(hb:ZA ⟨who,b,need⟩=false):AT Try.prog 6 [.ptr 0 0,.agg [.int .i64 who,.sl .ext (b.map E.byte),.int .i64 need]] [[.bool true,.sl .nil []]] [] (.int .i64 0) [[.bool true,.sl (.own 0) ([enE ⟨who,b,need⟩])]] (pqF 1):=by
 unfold ZA at hb
 dsimp only at hb
 have hml:(b.map E.byte).length=b.length:=List.length_map ..
 rw[<- hml]at hb
 have hC:=VX b (by omega)
 simp only[Bool.or_eq_false_iff]at hb
 obtain⟨t1,t2,t3,t4,t5⟩:=hb
 refine ZF Try.func6 rfl Try.ntmps6 rfl rfl ?_
 repeat'(first|exact Yo (t:=58) rfl rfl|(apply Yn (hC);kernel_rfl;(iterate 4 exact Z))|refine Z1 Za Z Z Z Z Z Z (Zg rfl) (List.cons_ne_nil _ _) Z Qd Qd Z Z Z ?_|(apply Zk Za;exact Z)|(apply Zh Za;exact Z)|(apply Zr Za;exact Z)|refine UD ?_|(apply Ze;(iterate 3 exact Z);(first|with_reducible assumption|decide +kernel|(solve|simp only[bn])))|(apply Zj;exact Z;(first|with_reducible assumption|decide +kernel|(solve|simp only[bn]));exact Z;exact Z)|(apply Zd;exact Z;(first|with_reducible assumption|decide +kernel|(solve|simp only[bn])))|refine Zo Za Z Z Z Z ?_|refine ZY Za Z Z Z Z Z Z Z Z Z Z Z Z ?_|(apply Zq 8 Z5;decide +kernel;kernel_rfl;kernel_rfl;kernel_rfl;exact Z;exact Z)|(apply Zt;(iterate 4 exact Z))|exact AE.nil _ _ _ _|(apply Zz;exact Z)|(apply ZS;exact Z)|(apply ZG;exact Z;exact Z;decide +kernel;exact Z)|(apply ZH;exact Z)|(apply Ya;exact Z)|exact AO.nil _ _ _|(apply Zs;(decide +kernel))|(apply ZR;(iterate 3 exact Z))|exact AOs.nil|exact ZX rfl rfl|exact YY rfl rfl rfl rfl rfl)
 all_goals first|(apply Yu [0] [0];(apply Zm Za;exact Z);(iterate 7 exact Z))|skip
 all_goals first|rfl
theorem Jx [Known](who need:Int)(b:List UInt8)(hbl:b.length<=2000)(L:List E)(hb:ZA ⟨who,b,need⟩=true):AT Try.prog 6 [.ptr 0 0,.agg [.int .i64 who,.sl .ext (b.map E.byte),.int .i64 need]] [[.bool true,.sl (.own 0) L]] (pqF L.length) (.int .i64 1) [[.bool true,.sl (.own 0) L]] (pqF L.length):=by
 unfold ZA at hb
 dsimp only at hb
 have hml:(b.map E.byte).length=b.length:=List.length_map ..
 rw[<- hml]at hb
 rcases or5 hb with t1|⟨t1,t2⟩ | ⟨t1,t2,t3⟩ | ⟨t1,t2,t3,t4⟩ | ⟨t1,t2,t3,t4,t5⟩
 all_goals
  clear hb
  refine ZF Try.func6 rfl Try.ntmps6 rfl rfl ?_
  repeat'(first|(apply Zk Za;exact Z)|(apply Zh Za;exact Z)|(apply Zr Za;exact Z)|(apply Ze;(iterate 3 exact Z);(first|with_reducible assumption|decide +kernel|(solve|simp only[bn])))|(apply Ym;(iterate 3 exact Z);(first|with_reducible assumption|decide +kernel|(solve|simp only[bn])))|(apply Zl;exact Z;(first|with_reducible assumption|decide +kernel|(solve|simp only[bn]));exact Z;exact Z)|(apply Zj;exact Z;(first|with_reducible assumption|decide +kernel|(solve|simp only[bn]));exact Z;exact Z)|(apply Zf;exact Z;(first|with_reducible assumption|decide +kernel|(solve|simp only[bn])))|(apply Zd;exact Z;(first|with_reducible assumption|decide +kernel|(solve|simp only[bn])))|refine Zo Za Z Z Z Z ?_)
  all_goals(apply Yu [0] [0];(apply Zm Za;exact Z);(iterate 7 exact Z))
  all_goals rfl
theorem QR [Known](who need:Int)(b:List UInt8)(hbl:b.length<=2000)(L:List E)(hb:ZA ⟨who,b,need⟩=false)(h64:64<=L.length):AT Try.prog 6 [.ptr 0 0,.agg [.int .i64 who,.sl .ext (b.map E.byte),.int .i64 need]] [[.bool true,.sl (.own 0) L]] (pqF L.length) (.int .i64 5) [[.bool true,.sl (.own 0) L]] (pqF L.length):=by
 unfold ZA at hb
 dsimp only at hb
 have hml:(b.map E.byte).length=b.length:=List.length_map ..
 rw[<- hml]at hb
 have d6:decide ((L.length:Int) ≥ 64)=true:=decide_eq_true (by omega)
 simp only[Bool.or_eq_false_iff]at hb
 obtain⟨t1,t2,t3,t4,t5⟩:=hb
 refine ZF Try.func6 rfl Try.ntmps6 rfl rfl ?_
 repeat'(first|(apply Zk Za;exact Z)|(apply Zh Za;exact Z)|(apply Zr Za;exact Z)|(apply Ze;(iterate 3 exact Z);(first|with_reducible assumption|decide +kernel|(solve|simp only[bn])))|(apply Zj;exact Z;(first|with_reducible assumption|decide +kernel|(solve|simp only[bn]));exact Z;exact Z)|(apply Zf;exact Z;(first|with_reducible assumption|decide +kernel|(solve|simp only[bn])))|(apply Zd;exact Z;(first|with_reducible assumption|decide +kernel|(solve|simp only[bn])))|refine Zo Za Z Z Z Z ?_)
 all_goals first|(apply Yu [0] [0];(apply Zm Za;exact Z);(iterate 7 exact Z))|skip
 all_goals first|rfl|(show L.length+1<=maxLen;exact d7)|(show(L.length+1)*40<=140737488355328;omega)
theorem Ue [Known](who need:Int)(b:List UInt8)(hbl:b.length<=2000)(L:List E)(hb:ZA ⟨who,b,need⟩=false)(h64:L.length<64)(hU:Uni 3 L):AT Try.prog 6 [.ptr 0 0,.agg [.int .i64 who,.sl .ext (b.map E.byte),.int .i64 need]] [[.bool true,.sl (.own 0) L]] (pqF L.length) (.int .i64 0) [[.bool true,.sl (.own 0) (L++[enE ⟨who,b,need⟩])]] (pqF (L.length+1)):=by
 unfold ZA at hb
 dsimp only at hb
 have hml:(b.map E.byte).length=b.length:=List.length_map ..
 rw[<- hml]at hb
 have hC:=VX b (by omega)
 have d6:decide ((L.length:Int) ≥ 64)=false:=decide_eq_false (by omega)
 have d7:L.length+1<=maxLen:=by unfold maxLen;omega
 simp only[Bool.or_eq_false_iff]at hb
 obtain⟨t1,t2,t3,t4,t5⟩:=hb
 refine ZF Try.func6 rfl Try.ntmps6 rfl rfl ?_
 repeat'(first|exact Yo (t:=58) rfl rfl|(apply Yn (hC);kernel_rfl;(iterate 4 exact Z))|(apply Zk Za;exact Z)|(apply Zh Za;exact Z)|(apply Zr Za;exact Z)|refine UD ?_|(apply Ze;(iterate 3 exact Z);(first|with_reducible assumption|decide +kernel|(solve|simp only[bn])))|(apply Zj;exact Z;(first|with_reducible assumption|decide +kernel|(solve|simp only[bn]));exact Z;exact Z)|(apply Zd;exact Z;(first|with_reducible assumption|decide +kernel|(solve|simp only[bn])))|refine Zo Za Z Z Z Z ?_|refine ZY Za Z Z Z Z Z Z Z Z Z Z Z Z ?_|(apply Zq 8 Z5;decide +kernel;kernel_rfl;kernel_rfl;kernel_rfl;exact Z;exact Z)|(apply Zt;(iterate 4 exact Z))|exact AE.nil _ _ _ _|(apply Zz;exact Z)|(apply ZS;exact Z)|(apply ZG;exact Z;exact Z;decide +kernel;exact Z)|(apply ZH;exact Z)|(apply Ya;exact Z)|exact AO.nil _ _ _|(apply Zs;(decide +kernel))|(apply ZR;(iterate 3 exact Z))|exact AOs.nil|exact ZX rfl rfl|exact YY rfl rfl rfl rfl rfl|(apply Yr Za;(iterate 6 exact Z);(first|with_reducible assumption|decide +kernel|exact Z|rotate_left);exact Z;exact Z;(first|exact Zg rfl|with_reducible assumption|decide +kernel|rotate_left);(first|exact Zg rfl|with_reducible assumption|decide +kernel|rotate_left);(first|exact Qt|rotate_left);(first|exact Qt|rotate_left);(first|exact Qt|rotate_left);exact Z;exact Z))
 all_goals first|(apply Yu [0] [0];(apply Zm Za;exact Z);(iterate 7 exact Z))|skip
 all_goals first|rfl|(show L.length+1<=maxLen;exact d7)|(show(L.length+1)*40<=140737488355328;omega)
theorem UF [Known](who need:Int)(b:List UInt8)(hne:b ≠ [])(hbl:b.length<=2000)(hb:ZA ⟨who,b,need⟩=true):AT Try.prog 6 [.ptr 0 0,.agg [.int .i64 who,.bsl 1 0 (b.map E.byte).length 0,.int .i64 need]] [[.bool true,.sl .nil []],[.row 0 (flat (b.map E.byte))]] [] (.int .i64 1) [[.bool true,.sl .nil []],[.row 0 (flat (b.map E.byte))]] []:=by
 unfold ZA at hb
 dsimp only at hb
 have hml:(b.map E.byte).length=b.length:=List.length_map ..
 rw[<- hml]at hb
 rcases or5 hb with t1|⟨t1,t2⟩ | ⟨t1,t2,t3⟩ | ⟨t1,t2,t3,t4⟩ | ⟨t1,t2,t3,t4,t5⟩
 all_goals
  clear hb
  refine ZF Try.func6 rfl Try.ntmps6 rfl rfl ?_
  repeat'(first|refine Zx Za Z Z Z Z ?_|(apply Zk Za;exact Z)|(apply Zh Za;exact Z)|(apply Zr Za;exact Z)|(apply Ze;(iterate 3 exact Z);(first|with_reducible assumption|decide +kernel|(solve|simp only[bn])))|(apply Ym;(iterate 3 exact Z);(first|with_reducible assumption|decide +kernel|(solve|simp only[bn])))|(apply Zl;exact Z;(first|with_reducible assumption|decide +kernel|(solve|simp only[bn]));exact Z;exact Z)|(apply Zj;exact Z;(first|with_reducible assumption|decide +kernel|(solve|simp only[bn]));exact Z;exact Z)|(apply Zf;exact Z;(first|with_reducible assumption|decide +kernel|(solve|simp only[bn])))|(apply Zd;exact Z;(first|with_reducible assumption|decide +kernel|(solve|simp only[bn]))))
  all_goals(apply Yu [0,1] [];(apply Zm Za;exact Z);(iterate 7 exact Z))
  all_goals rfl
theorem Uf [Known](who need:Int)(b:List UInt8)(hne:b ≠ [])(hbl:b.length<=2000)(hb:ZA ⟨who,b,need⟩=false):AT Try.prog 6 [.ptr 0 0,.agg [.int .i64 who,.bsl 1 0 (b.map E.byte).length 0,.int .i64 need]] [[.bool true,.sl .nil []],[.row 0 (flat (b.map E.byte))]] [] (.int .i64 0) [[.bool true,.sl (.own 0) ([enE ⟨who,b,need⟩])],[.row 0 (flat (b.map E.byte))]] (pqF 1):=by
 unfold ZA at hb
 dsimp only at hb
 have hml:(b.map E.byte).length=b.length:=List.length_map ..
 rw[<- hml]at hb
 have hC:=VY b 0 0 hne (by omega)
 simp only[Bool.or_eq_false_iff]at hb
 obtain⟨t1,t2,t3,t4,t5⟩:=hb
 refine ZF Try.func6 rfl Try.ntmps6 rfl rfl ?_
 repeat'(first|refine Zx Za Z Z Z Z ?_|exact Yo (t:=58) rfl rfl|(apply Zi [1] (hC);kernel_rfl;(iterate 7 exact Z))|refine Z1 Za Z Z Z Z Z Z (Zg rfl) (List.cons_ne_nil _ _) Z Qd Qd Z Z Z ?_|(apply Zk Za;exact Z)|(apply Zh Za;exact Z)|(apply Zr Za;exact Z)|refine UD ?_|(apply Ze;(iterate 3 exact Z);(first|with_reducible assumption|decide +kernel|(solve|simp only[bn])))|(apply Zj;exact Z;(first|with_reducible assumption|decide +kernel|(solve|simp only[bn]));exact Z;exact Z)|(apply Zd;exact Z;(first|with_reducible assumption|decide +kernel|(solve|simp only[bn])))|refine Zo Za Z Z Z Z ?_|refine ZY Za Z Z Z Z Z Z Z Z Z Z Z Z ?_|(apply Zq 8 Z5;decide +kernel;kernel_rfl;kernel_rfl;kernel_rfl;exact Z;exact Z)|(apply Zt;(iterate 4 exact Z))|exact AE.nil _ _ _ _|(apply Zz;exact Z)|(apply ZS;exact Z)|(apply ZG;exact Z;exact Z;decide +kernel;exact Z)|(apply ZH;exact Z)|(apply Ya;exact Z)|exact AO.nil _ _ _|(apply Zs;(decide +kernel))|(apply ZR;(iterate 3 exact Z))|exact AOs.nil|exact ZX rfl rfl|exact YY rfl rfl rfl rfl rfl)
 all_goals first|(apply Yu [0,1] [0];(apply Zm Za;exact Z);(iterate 7 exact Z))|skip
 all_goals first|rfl
theorem Jy [Known](who need:Int)(b:List UInt8)(hne:b ≠ [])(hbl:b.length<=2000)(L:List E)(hb:ZA ⟨who,b,need⟩=true):AT Try.prog 6 [.ptr 0 0,.agg [.int .i64 who,.bsl 1 0 (b.map E.byte).length 0,.int .i64 need]] [[.bool true,.sl (.own 0) L],[.row 0 (flat (b.map E.byte))]] (pqF L.length) (.int .i64 1) [[.bool true,.sl (.own 0) L],[.row 0 (flat (b.map E.byte))]] (pqF L.length):=by
 unfold ZA at hb
 dsimp only at hb
 have hml:(b.map E.byte).length=b.length:=List.length_map ..
 rw[<- hml]at hb
 rcases or5 hb with t1|⟨t1,t2⟩ | ⟨t1,t2,t3⟩ | ⟨t1,t2,t3,t4⟩ | ⟨t1,t2,t3,t4,t5⟩
 all_goals
  clear hb
  refine ZF Try.func6 rfl Try.ntmps6 rfl rfl ?_
  repeat'(first|refine Zx Za Z Z Z Z ?_|(apply Zk Za;exact Z)|(apply Zh Za;exact Z)|(apply Zr Za;exact Z)|(apply Ze;(iterate 3 exact Z);(first|with_reducible assumption|decide +kernel|(solve|simp only[bn])))|(apply Ym;(iterate 3 exact Z);(first|with_reducible assumption|decide +kernel|(solve|simp only[bn])))|(apply Zl;exact Z;(first|with_reducible assumption|decide +kernel|(solve|simp only[bn]));exact Z;exact Z)|(apply Zj;exact Z;(first|with_reducible assumption|decide +kernel|(solve|simp only[bn]));exact Z;exact Z)|(apply Zf;exact Z;(first|with_reducible assumption|decide +kernel|(solve|simp only[bn])))|(apply Zd;exact Z;(first|with_reducible assumption|decide +kernel|(solve|simp only[bn]))))
  all_goals(apply Yu [0,1] [0];(apply Zm Za;exact Z);(iterate 7 exact Z))
  all_goals rfl
theorem QS [Known](who need:Int)(b:List UInt8)(hne:b ≠ [])(hbl:b.length<=2000)(L:List E)(hb:ZA ⟨who,b,need⟩=false)(h64:64<=L.length):AT Try.prog 6 [.ptr 0 0,.agg [.int .i64 who,.bsl 1 0 (b.map E.byte).length 0,.int .i64 need]] [[.bool true,.sl (.own 0) L],[.row 0 (flat (b.map E.byte))]] (pqF L.length) (.int .i64 5) [[.bool true,.sl (.own 0) L],[.row 0 (flat (b.map E.byte))]] (pqF L.length):=by
 unfold ZA at hb
 dsimp only at hb
 have hml:(b.map E.byte).length=b.length:=List.length_map ..
 rw[<- hml]at hb
 have d6:decide ((L.length:Int) ≥ 64)=true:=decide_eq_true (by omega)
 simp only[Bool.or_eq_false_iff]at hb
 obtain⟨t1,t2,t3,t4,t5⟩:=hb
 refine ZF Try.func6 rfl Try.ntmps6 rfl rfl ?_
 repeat'(first|refine Zx Za Z Z Z Z ?_|(apply Zk Za;exact Z)|(apply Zh Za;exact Z)|(apply Zr Za;exact Z)|(apply Ze;(iterate 3 exact Z);(first|with_reducible assumption|decide +kernel|(solve|simp only[bn])))|(apply Zj;exact Z;(first|with_reducible assumption|decide +kernel|(solve|simp only[bn]));exact Z;exact Z)|(apply Zf;exact Z;(first|with_reducible assumption|decide +kernel|(solve|simp only[bn])))|(apply Zd;exact Z;(first|with_reducible assumption|decide +kernel|(solve|simp only[bn])))|refine Zo Za Z Z Z Z ?_)
 all_goals first|(apply Yu [0,1] [0];(apply Zm Za;exact Z);(iterate 7 exact Z))|skip
 all_goals first|rfl|(show L.length+1<=maxLen;exact d7)|(show(L.length+1)*40<=140737488355328;omega)
theorem Qq [Known](who need:Int)(b:List UInt8)(hne:b ≠ [])(hbl:b.length<=2000)(L:List E)(hb:ZA ⟨who,b,need⟩=false)(h64:L.length<64)(hU:Uni 3 L):AT Try.prog 6 [.ptr 0 0,.agg [.int .i64 who,.bsl 1 0 (b.map E.byte).length 0,.int .i64 need]] [[.bool true,.sl (.own 0) L],[.row 0 (flat (b.map E.byte))]] (pqF L.length) (.int .i64 0) [[.bool true,.sl (.own 0) (L++[enE ⟨who,b,need⟩])],[.row 0 (flat (b.map E.byte))]] (pqF (L.length+1)):=by
 unfold ZA at hb
 dsimp only at hb
 have hml:(b.map E.byte).length=b.length:=List.length_map ..
 rw[<- hml]at hb
 have hC:=VY b 0 0 hne (by omega)
 have d6:decide ((L.length:Int) ≥ 64)=false:=decide_eq_false (by omega)
 have d7:L.length+1<=maxLen:=by unfold maxLen;omega
 simp only[Bool.or_eq_false_iff]at hb
 obtain⟨t1,t2,t3,t4,t5⟩:=hb
 refine ZF Try.func6 rfl Try.ntmps6 rfl rfl ?_
 repeat'(first|refine Zx Za Z Z Z Z ?_|exact Yo (t:=58) rfl rfl|(apply Zi [1] (hC);kernel_rfl;(iterate 7 exact Z))|(apply Zk Za;exact Z)|(apply Zh Za;exact Z)|(apply Zr Za;exact Z)|refine UD ?_|(apply Ze;(iterate 3 exact Z);(first|with_reducible assumption|decide +kernel|(solve|simp only[bn])))|(apply Zj;exact Z;(first|with_reducible assumption|decide +kernel|(solve|simp only[bn]));exact Z;exact Z)|(apply Zd;exact Z;(first|with_reducible assumption|decide +kernel|(solve|simp only[bn])))|refine Zo Za Z Z Z Z ?_|refine ZY Za Z Z Z Z Z Z Z Z Z Z Z Z ?_|(apply Zq 8 Z5;decide +kernel;kernel_rfl;kernel_rfl;kernel_rfl;exact Z;exact Z)|(apply Zt;(iterate 4 exact Z))|exact AE.nil _ _ _ _|(apply Zz;exact Z)|(apply ZS;exact Z)|(apply ZG;exact Z;exact Z;decide +kernel;exact Z)|(apply ZH;exact Z)|(apply Ya;exact Z)|exact AO.nil _ _ _|(apply Zs;(decide +kernel))|(apply ZR;(iterate 3 exact Z))|exact AOs.nil|exact ZX rfl rfl|exact YY rfl rfl rfl rfl rfl|(apply Yr Za;(iterate 6 exact Z);(first|with_reducible assumption|decide +kernel|exact Z|rotate_left);exact Z;exact Z;(first|exact Zg rfl|with_reducible assumption|decide +kernel|rotate_left);(first|exact Zg rfl|with_reducible assumption|decide +kernel|rotate_left);(first|exact Qt|rotate_left);(first|exact Qt|rotate_left);(first|exact Qt|rotate_left);exact Z;exact Z))
 all_goals first|(apply Yu [0,1] [0];(apply Zm Za;exact Z);(iterate 7 exact Z))|skip
 all_goals first|rfl|(show L.length+1<=maxLen;exact d7)|(show(L.length+1)*40<=140737488355328;omega)
abbrev Ev:=En × Bool
abbrev reL (e:Ev):List E:=[.int .i64 e.1.who,.str e.1.data,.int .i64 e.1.need,.bool e.2]
abbrev reE (e:Ev):E:=.agg (reL e)
abbrev reF (M:List Ev):List E:=flat (M.map reE)
theorem Wr (e:Ev)(M:List Ev):reF (e::M)=reL e++reF M:=rfl
theorem Vg (M:List Ev):(reF M).length=M.length*4:=by
 induction M with
 | nil=>rfl
 | cons e M ih=>rw[Wr,List.length_append,ih,List.length_cons];simp;omega
theorem We:∀ {M:List Ev} {i:Nat} {e:Ev} (j:Nat),M[i]?=some e->j<4->(reF M)[i*4+j]?=(reL e)[j]?
 | [],i,e,j,h,_=>by simp at h
 | m::M,0,e,j,h,hj=>by
  simp at h
  subst h
  rw[Wr,Nat.zero_mul,Nat.zero_add,List.getElem?_append_left (by simpa using hj)]
 | m::M,i+1,e,j,h,hj=>by
  rw[Wr,List.getElem?_append_right (by simp;omega)]
  have h2:M[i]?=some e:=by simpa using h
  have:=We j h2 hj
  rw[show(i+1)*4+j-(reL m).length=i*4+j by simp;omega]
  exact this
theorem U6:∀ {M:List Ev} {i:Nat} {e:Ev},M[i]?=some e->Z2 (reF M) (i*4+3) [.bool true]=reF (M.set i (e.1,true))
 | [],i,e,h=>by simp at h
 | m::M,0,e,h=>by
  simp at h
  subst h
  rfl
 | m::M,i+1,e,h=>by
  have h2:M[i]?=some e:=by simpa using h
  have ih:=U6 h2
  rw[List.set_cons_succ,Wr,Wr,<- ih]
  unfold Z2
  rw[show(i+1)*4+3=(reL m).length+(i*4+3) by simp;omega,List.take_length_add_append,show(reL m).length+(i*4+3) + [E.bool true].length=(reL m).length+(i*4+3 + [E.bool true].length) by omega,List.drop_length_add_append,List.append_assoc]
def Zb (M:List Ev):List En:=(M.filter fun e=>!e.2).map (·.1)
def Zu (P:En->Bool)(M:List Ev):List Ev:=M.map fun e=>(e.1,e.2||P e.1)
theorem ZC (P:En->Bool)(M:List Ev):Zb (Zu P M)=(Zb M).filter (fun x=>!P x):=by
 induction M with
 | nil=>rfl
 | cons e M ih=>
  unfold Zb Zu at ih ⊢
  obtain⟨x,g⟩:=e
  cases g<;>cases hp:P x<;>simp[hp]at ih ⊢ <;> exact ih
theorem Zp (M:List Ev)(x:En):Zb (M++[(x,false)])=Zb M++[x]:=by
 unfold Zb
 simp
def ZL (P:En->Bool):Nat->List Ev->List (Nat × En)
 | _,[]=>[]
 | k,e::M=>match(!e.2&&P e.1) with
  | true=>(k,e.1)::ZL P (k+1) M
  | false=>ZL P (k+1) M
theorem Wf (P:En->Bool)(k:Nat)(e:Ev)(M:List Ev):ZL P k (e::M)=(match(!e.2&&P e.1) with|true=>(k,e.1)::ZL P (k+1) M|false=>ZL P (k+1) M):=rfl
theorem YK (P:En->Bool):∀(M:List Ev) (k:Nat),(ZL P k M).map (·.2)=(Zb M).filter P
 | [],k=>rfl
 | e::M,k=>by
  have ih:=YK P M (k+1)
  obtain⟨x,g⟩:=e
  unfold ZL
  unfold Zb at ih ⊢
  cases g<;>cases hp:P x<;>simp[hp]at ih ⊢ <;> exact ih
theorem VZ (P:En->Bool):∀(A B:List Ev) (k:Nat),ZL P k (A++B)=ZL P k A++ZL P (k+A.length) B
 | [],B,k=>rfl
 | e::A,B,k=>by
  have ih:=VZ P A B (k+1)
  rw[List.cons_append,Wf,Wf,ih,List.length_cons,show k+1+A.length=k+(A.length+1) by omega]
  cases(!e.2&&P e.1)<;>rfl
theorem W6 (P:En->Bool):∀(M:List Ev) (k:Nat) (p:Nat × En),p ∈ ZL P k M->k<=p.1/\∃ g,M[p.1-k]?=some (p.2,g)
 | [],k,p,h=>by simp[ZL]at h
 | e::M,k,p,h=>by
  unfold ZL at h
  have key:p ∈ ZL P (k+1) M->k<=p.1/\∃ g,(e::M)[p.1-k]?=some (p.2,g):=fun h=>by
   obtain⟨h1,g,h2⟩:=W6 P M (k+1) p h
   refine⟨by omega,g,?_⟩
   rw[show p.1-k=(p.1-(k+1))+1 by omega,List.getElem?_cons_succ]
   exact h2
  cases hb:(!e.2&&P e.1) with
  | true=>
   rw[hb]at h
   rcases List.mem_cons.1 h with rfl|h
   ·exact⟨Nat.le_refl _,e.2,by simp⟩
   ·exact key h
  | false=>
   rw[hb]at h
   exact key h
theorem Zn (P:En->Bool)(M:List Ev):(Zu P M).length=M.length:=List.length_map ..
def YL (P:En->Bool)(M:List Ev)(i:Nat):List Ev:=(Zu P M).take i++M.drop i
theorem UG (P:En->Bool)(M:List Ev):YL P M 0=M:=by simp[YL]
theorem Uc (P:En->Bool)(M:List Ev):YL P M M.length=Zu P M:=by
 unfold YL
 rw[List.drop_length,List.append_nil,List.take_of_length_le (by rw[Zn];exact Nat.le_refl _)]
theorem Qr (P:En->Bool)(M:List Ev)(i:Nat):(YL P M i).length=M.length:=by
 unfold YL
 rw[List.length_append,List.length_take,List.length_drop,Zn]
 omega
theorem Ug (P:En->Bool){M:List Ev}{i:Nat}(h:i<M.length):(YL P M i)[i]?=M[i]? := by
 unfold YL
 have hl:((Zu P M).take i).length=i:=by rw[List.length_take,Zn];omega
 rw[List.getElem?_append_right (by omega),hl,Nat.sub_self,List.getElem?_drop,Nat.add_zero]
theorem Vz (P:En->Bool){M:List Ev}{i:Nat}{e:Ev}(h:M[i]?=some e):YL P M (i+1)=(YL P M i).set i (e.1,e.2||P e.1):=by
 have hi:=(List.getElem?_eq_some_iff.1 h).1
 unfold YL
 have hl:((Zu P M).take i).length=i:=by rw[List.length_take,Zn];omega
 have hp:(Zu P M)[i]?=some (e.1,e.2||P e.1):=by unfold Zu;rw[List.getElem?_map,h];rfl
 rw[List.set_append_right _ _ (by omega),hl,Nat.sub_self,List.take_add_one,hp,List.append_assoc]
 congr 1
 rw[List.drop_eq_getElem_cons hi]
 rfl
theorem UH (P:En->Bool){M:List Ev}{i:Nat}{e:Ev}(h:M[i]?=some e)(hb:(!e.2&&P e.1)=false):YL P M (i+1)=YL P M i:=by
 rw[Vz P h]
 have hg:=(Ug P (List.getElem?_eq_some_iff.1 h).1).trans h
 have e2:(e.1,e.2||P e.1)=e:=by
  obtain⟨x,g⟩:=e
  cases g<;>cases hp:P x<;>simp[hp]at hb ⊢
 rw[e2]
 apply List.ext_getElem?
 intro j
 rw[List.getElem?_set]
 split
 ·rename_i hij
  subst hij
  split
  ·exact hg.symm
  ·rename_i h2
   rw[List.getElem?_eq_none (by omega)]
 ·rfl
end Go.Proofs.Ytchlgagdbflkmaa
end
section
open Go.RowKit Go.Pl Go.Av
namespace Go.Proofs.Ytchlgagdbflkmaa
theorem Qe {p:Prop}(h:p:=by(apply Wp [];(apply Zm Za;exact Z);(iterate 4 exact Z));all_goals rfl):p:=h
end Go.Proofs.Ytchlgagdbflkmaa
end

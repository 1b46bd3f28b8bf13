/- ReportBundles: the walk, joined (rbgen.py). -/
import Derived.Test.YtmljabhmajehnaaGreatDoorR46
import Derived.Test.YtmljabhmajehnaaGreatDoorR47
import Derived.Test.YtmljabhmajehnaaGreatDoorR48
import Derived.Test.YtmljabhmajehnaaGreatDoorR49
import Derived.Test.YtmljabhmajehnaaGreatDoorR19
import Derived.Test.YtmljabhmajehnaaGreatDoorR01
import Derived.Test.YtmljabhmajehnaaGreatDoorR31
import Derived.Test.YtmljabhmajehnaaGreatDoorR20
import Derived.Test.YtmljabhmajehnaaGreatDoorR41
import Derived.Test.YtmljabhmajehnaaGreatDoorR43
import Derived.Test.YtmljabhmajehnaaGreatDoorR07
import Derived.Test.YtmljabhmajehnaaGreatDoorR11
import Derived.Test.YtmljabhmajehnaaGreatDoorR29
import Derived.Test.YtmljabhmajehnaaGreatDoorR36
import Derived.Test.YtmljabhmajehnaaGreatDoorProg
import Derived.Lib.LaidU8
set_option linter.unusedVariables false
set_option linter.unusedSimpArgs false
section
open Go.RowKit Go.Pl Go.Av
namespace Go.Proofs.YtmljabhmajehnaaGreatDoor
set_option maxHeartbeats 4000000
theorem SH (n:Nat):(((n &&& 2:Nat):Int)==0)=(((n:Int).tdiv 2).tmod 2==0):=by
 have key:(n &&& 2)=0 ↔ n.testBit 1=false:=by
  constructor
  ·intro h
   have h2:=congrArg (fun m=>m.testBit 1) h
   simp only[Nat.testBit_and,Nat.zero_testBit]at h2
   rw[show Nat.testBit 2 1=true from rfl,Bool.and_true]at h2
   exact h2
  ·intro h
   apply Nat.eq_of_testBit_eq
   intro i
   rw[Nat.testBit_and,Nat.zero_testBit]
   by_cases hi:i=1
   ·subst hi;rw[h];rfl
   ·have:Nat.testBit 2 i=false:=Nat.testBit_two_pow_of_ne (n:=1) (Ne.symm hi)
    rw[this,Bool.and_false]
 rw[Nat.testBit_eq_decide_div_mod_eq]at key
 rw[show((n:Int).tdiv 2)=((n/2:Nat):Int) from rfl,show(((n/2:Nat):Int).tmod 2)=((n/2 % 2:Nat):Int) from rfl,Bool.eq_iff_iff,beq_iff_eq,beq_iff_eq]
 simp only[Nat.pow_one,decide_eq_false_iff_not]at key
 omega
theorem FW (n:Nat)(h:n<18446744073709551616):(bits .and .u64 (n:Int) 2==0)=((IntKind.u64.wrap ((n:Int).tdiv 2)).tmod 2==0):=by
 have e:bits .and .u64 (n:Int) 2=((n &&& 2:Nat):Int):=u64_and_nat n 2 h (by decide)
 have e2:IntKind.u64.wrap ((n:Int).tdiv 2)=(n:Int).tdiv 2:=by
  rw[show((n:Int).tdiv 2)=((n/2:Nat):Int) from rfl]
  exact IntWalk.u64_in _ (by omega)
 rw[e,e2]
 exact SH n
theorem I6 (s:RepV):((s.a==s.a)&&((s.b==s.b)&&((s.c==s.c)&&(((s.rs:Int)==(s.rs:Int))&&(((s.tm:Int)==(s.tm:Int))&&((s.of.i==s.of.i)&&(((s.of.n:Int)==(s.of.n:Int))&&(((s.of.s:Int)==(s.of.s:Int))&&((s.of.h==s.of.h)&&((s.of.d==s.of.d)&&(((s.t:Int)==(s.t:Int))&&(((s.q:Int)==(s.q:Int))&&true))))))))))))=true:=by simp
theorem XS [Known][KnownU8](r:RepV)(dest src:EidV)(t q life:Nat)(b:BunV)(hr:Fit r.of)(hd:Fit dest)(hs:Fit src)(hfb:b.p.fl<18446744073709551616/\∀ c ∈ b.bl,c.fl<18446744073709551616)(hf:Fit b.p.dest/\Fit b.p.rep/\Fit b.p.src):AP Tryz.prog 5 [.agg (Y6 r),.agg (eC dest),.agg (iC src t q),.int .u64 (life:Int),.agg (bnC b)] (.bool true) []:=by
 have hA:=MH
 have hG:=Xw r.of r.t r.q
 have hH:=Xw src t q
 have hI:=Mm b
 by_cases hg:(decide (IntKind.i64.wrap ((r.of.h.length:Int)+(r.of.d.length:Int))>300):Bool)=false/\(decide (IntKind.i64.wrap ((src.h.length:Int)+(src.d.length:Int))>300):Bool)=false/\decide (IntKind.i64.wrap ((dest.h.length:Int)+(dest.d.length:Int))>300)=false/\Ji b=false
 case neg=>
  refine FR r dest src t q life b _ _ _ _ hA hG hH hI rfl ?_
  revert hg
  generalize (decide (IntKind.i64.wrap ((r.of.h.length:Int)+(r.of.d.length:Int))>300):Bool)=g1
  generalize (decide (IntKind.i64.wrap ((src.h.length:Int)+(src.d.length:Int))>300):Bool)=g2
  generalize decide (IntKind.i64.wrap ((dest.h.length:Int)+(dest.d.length:Int))>300)=g3
  generalize Ji b=g4
  cases g1<;>cases g2<;>cases g3<;>cases g4<;>simp
 obtain⟨g1,g2,g3,g4⟩:=hg
 rw[g1]at hG
 rw[g2]at hH
 rw[g4]at hI
 have hb:BunOk b:=⟨hfb.1,by have:=(Hm g4).1;omega,fun c hc=>⟨hfb.2 c hc,Nat.le_trans ((Hm g4).2 c hc) (by omega)⟩⟩
 have hD:=HE r dest src t q life hr hd hs
 have hB:AP Tryz.prog 31 [.agg (Y6 r),.agg (eC dest),.agg (iC src t q),.int .u64 (life:Int)] (.tup [.agg (bnC (YP r dest src t q life).1),.int .i64 (YP r dest src t q life).2]) []:=Oc r dest src t q life
 have hO:=TC b hb
 have h:(((YP r dest src t q life).2==0)=true/\(YP r dest src t q life).2=0)\/(((YP r dest src t q life).2==0)=false/\(YP r dest src t q life).2=3):=by
  rcases JQ r dest src t q life with⟨e,_⟩ | ⟨_,_,e⟩<;>rw[e]
  ·exact .inr ⟨rfl,rfl⟩
  ·exact .inl ⟨rfl,rfl⟩
 have hAl:(YP r dest src t q life).1.bl.length<=1000000:=by
  rcases JQ r dest src t q life with⟨e,_⟩ | ⟨_,_,e⟩<;>rw[e]
  ·exact Nat.zero_le _
  ·show 1<=_;omega
 have hM:=Rn (YP r dest src t q life).1 hAl
 have hN:=MG (YP r dest src t q life).1 (YP r dest src t q life).1 hAl hAl
 rw[HC]at hN
 have h5:=QW src t q
 have h9:=Jk r (QW r.of r.t r.q)
 generalize (YP r dest src t q life).2=e at *
 generalize (YP r dest src t q life).1=A at *
 unfold ofR at hO
 rw[FW _ hfb.1]at hO
 cases tf:((IntKind.u64.wrap ((b.p.fl:Int).tdiv 2)).tmod 2==0) with
 | true=>
  rw[tf]at hO
  exact FS r dest src t q life b A _ e 4 rp0 hA hG hH hI g3 (Qh dest) h5 h9 hD hB hO hM hN h tf rfl rfl
 | false=>
 rw[tf]at hO
 have hP:=Rn b hb.len
 have hQ:=JP b hb hf.1 hf.2.1 hf.2.2
 have hw2:(Va b).2=YZ b:=by
  unfold Va
  cases YZ b<;>rfl
 rw[hw2]at hQ
 cases hrb:YZ b with
 | false=>
  rw[hrb]at hO hQ
  exact FT r dest src t q life b A _ e 3 rp0 _ hA hG hH hI g3 (Qh dest) h5 h9 hD hB hO hM hN hP hQ (Jk rp0 (QW rp0.of rp0.t rp0.q)) h tf rfl rfl
 | true=>
  rw[hrb]at hO hQ
  have h1:=((XR b).1 hrb).1.one
  obtain⟨z,hz⟩:∃ y,b.bl[b.bl.length-1]?=some y:=⟨_,List.getElem?_eq_getElem (by omega)⟩
  have hp:Ou b=z.data:=by unfold Ou;rw[hz]
  rw[hp]at hO
  have hzl:z.data.length<=3000:=(hb.bl z (List.mem_of_getElem? hz)).2
  have hT:=Mt z.data (by omega)
  rcases BT z.data (by omega) with⟨e1,e2⟩ | ⟨s,e1,e2⟩
  ·rw[e1]at hT
   rw[e2]at hO
   rcases h with h|h
   ·exact SY r dest src t q life b A _ e 3 rp0 _ z false hA hG hH hI g3 (Qh dest) h5 h9 hD hB hO hM hN hP hQ (Jk rp0 (QW rp0.of rp0.t rp0.q)) hT h tf h1 hb.len hz (I6 rp0) (.inr ⟨rfl,rfl⟩)
   ·exact SZ r dest src t q life b A _ e 3 rp0 _ z false hA hG hH hI g3 (Qh dest) h5 h9 hD hB hO hM hN hP hQ (Jk rp0 (QW rp0.of rp0.t rp0.q)) hT h tf h1 hb.len hz (I6 rp0) (.inr ⟨rfl,rfl⟩)
  ·rw[e1]at hT
   rw[e2]at hO
   rcases h with h|h
   ·exact SY r dest src t q life b A _ e 0 s _ z true hA hG hH hI g3 (Qh dest) h5 h9 hD hB hO hM hN hP hQ (Jk s (QW s.of s.t s.q)) hT h tf h1 hb.len hz (I6 s) (.inl ⟨rfl,rfl⟩)
   ·exact SZ r dest src t q life b A _ e 0 s _ z true hA hG hH hI g3 (Qh dest) h5 h9 hD hB hO hM hN hP hQ (Jk s (QW s.of s.t s.q)) hT h tf h1 hb.len hz (I6 s) (.inl ⟨rfl,rfl⟩)
end Go.Proofs.YtmljabhmajehnaaGreatDoor
end
section
open Go.RowKit Go.Pl
namespace Go.Pl
def I7 {α:Type}(P:Program)(fs:Array Field)(i o:Nat)(R:Rep α):Prop:=
 ∀(H:Type) (enc:TypeId × Value->H) (W:World) (spare:Nat->Bool) (held:Bool) (n:Nat) (cs:List Value) (xs:List (DataW H × List MemPlace)),cs.length=o+R.n->xs.length=fs.size ->
  (∀(j:Nat) (f:Field),fs[j]?=some f->DataW.trod enc P W 0 spare held n f.type ((cs.drop f.offset).take (P.cellsOf f.type))=xs[j]?)->∃ x,R.ok W (· < W.heap.size) (cs.drop o) x
variable {P:Program} {t:TypeId} {fs:Array Field}
theorem Iu {α:Type}{R:Rep α}{i o:Nat}{f:Field}(hf:fs[i]?=some f)(ho:f.offset=o)(hc:P.cellsOf f.type=R.n)(h:Y2 P f.type R){H:Type}{enc:TypeId × Value->H}{W:World}{spare:Nat->Bool}{held:Bool}{n:Nat}{cs:List Value}{xs:List (DataW H × List MemPlace)}(hl:xs.length=fs.size)
  (hg:∀(j:Nat) (f:Field),fs[j]?=some f->DataW.trod enc P W 0 spare held n f.type ((cs.drop f.offset).take (P.cellsOf f.type))=xs[j]?):∃ x,R.ok W (· < W.heap.size) ((cs.drop o).take R.n) x:=by
 have e:=hg i f hf
 rw[ho,hc]at e
 have hi:i<xs.length:=by
  rw[hl]
  exact(Array.getElem?_eq_some_iff.1 hf).1
 exact h H enc W spare held n _ _ (e.trans (List.getElem?_eq_getElem hi))
theorem Qp {α:Type}{R:Rep α}{i o:Nat}{f:Field}(hf:fs[i]?=some f)(ho:f.offset=o)(hc:P.cellsOf f.type=R.n)(h:Y2 P f.type R):I7 P fs i o R:=by
 intro H enc W spare held n cs xs hcl hl hg
 obtain⟨x,hx⟩:=Iu hf ho hc h hl hg
 rw[List.take_of_length_le (by rw[List.length_drop];omega)]at hx
 exact⟨x,hx⟩
theorem Ys {α β:Type}{R:Rep α}{R':Rep β}{i o:Nat}{f:Field}(hf:fs[i]?=some f)(ho:f.offset=o)(hc:P.cellsOf f.type=R.n)(h:Y2 P f.type R)(h':I7 P fs (i+1) (o+R.n) R'):I7 P fs i o (R.prod R'):=by
 intro H enc W spare held n cs xs hcl hl hg
 obtain⟨x,hx⟩:=Iu hf ho hc h hl hg
 have hn:(R.prod R').n=R.n+R'.n:=rfl
 obtain⟨x',hx'⟩:=h' H enc W spare held n cs xs (by rw[hn]at hcl;omega) hl hg
 refine⟨(x,x'),(cs.drop o).take R.n,(cs.drop o).drop R.n,(List.take_append_drop _ _).symm,hx,?_⟩
 rw[List.drop_drop]
 exact hx'
theorem V2 {α:Type}{R:Rep α}(hs:P.underlying t=some (.struct fs))(hc:P.cellsOf t=R.n)(h:I7 P fs 0 0 R):Y2 P t R:=by
 intro H enc W spare held fuel cs y hy
 obtain⟨xs,n,_,_,hl,hxl,hg⟩:=DataW.trod_struct hs hy
 exact h H enc W spare held n cs xs (by omega) hxl hg
end Go.Pl
end
section
open Go.RowKit Go.Pl Go.Av
namespace Go.Proofs.YtmljabhmajehnaaGreatDoor
set_option maxHeartbeats 4000000
abbrev XRp:=Bool × Bool × Bool × Nat × Nat × (XE × Nat × Nat)
abbrev RRp:Rep XRp:=Rep.bool.prod (Rep.bool.prod (Rep.bool.prod (Rep.u64.prod (Rep.u64.prod Go.Pl.RI))))
theorem B0:Y2 Tryz.prog 54 RRp:=
 V2 Tryz.underlying54 (by kernel_rfl) (Ys rfl rfl (by kernel_rfl) (U5 Tryz.underlying4) (Ys rfl rfl (by kernel_rfl) (U5 Tryz.underlying4)
  (Ys rfl rfl (by kernel_rfl) (U5 Tryz.underlying4) (Ys rfl rfl (by kernel_rfl) (Ww Tryz.underlying22) (Ys rfl rfl (by kernel_rfl) (Ww Tryz.underlying22) (Qp rfl rfl (by kernel_rfl) Lx))))))
def XRp.v (x:XRp):RepV:=⟨x.1,x.2.1,x.2.2.1,x.2.2.2.1,x.2.2.2.2.1,x.2.2.2.2.2.1.v,x.2.2.2.2.2.2.1,x.2.2.2.2.2.2.2⟩
theorem FX [Known]{W:World}{cs:List Value}{x:XRp}(h:RRp.ok W (· < W.heap.size) cs x):V W (g0 W) [] (.agg (Y6 x.v)) (.agg cs.toArray):=by
 obtain⟨a,b,c,rs,tm,⟨⟨xi,xn,xs,xh,xd⟩,t,q⟩⟩:=x
 have te:=ToE.bool.prod (ToE.bool.prod (ToE.bool.prod (ToE.u64.prod (ToE.u64.prod (Ja.prod (ToE.u64.prod ToE.u64))))))
 exact ToE.agg te (l:=[.bool a,.bool b,.bool c,.int .u64 (rs:Int),.int .u64 (tm:Int),.bool xi,.int .u64 (xn:Int),.int .u64 (xs:Int),.str xh,.str xd,.int .u64 (t:Int),.int .u64 (q:Int)]) rfl h
abbrev XId:=XE × Nat × Nat
theorem FY [Known]{W:World}{cs:List Value}{x:XId}(h:Go.Pl.RI.ok W (· < W.heap.size) cs x):V W (g0 W) [] (.agg (iC x.1.v x.2.1 x.2.2)) (.agg cs.toArray):=by
 obtain⟨⟨xi,xn,xs,xh,xd⟩,t,q⟩:=x
 have te:=Ja.prod (ToE.u64.prod ToE.u64)
 exact ToE.agg te (l:=[.bool xi,.int .u64 (xn:Int),.int .u64 (xs:Int),.str xh,.str xd,.int .u64 (t:Int),.int .u64 (q:Int)]) rfl h
abbrev RPr:Rep (Nat × Int × XE × XE × (XE × Nat × Nat) × Nat):=Rep.u64.prod (Rep.i64.prod (RE.prod (RE.prod (Go.Pl.RI.prod Rep.u64))))
theorem B1:Y2 Tryz.prog 28 RPr:=
 V2 Tryz.underlying28 (by kernel_rfl) (Ys rfl rfl (by kernel_rfl) (Ww Tryz.underlying22) (Ys rfl rfl (by kernel_rfl) (Ow Tryz.underlying3)
  (Ys rfl rfl (by kernel_rfl) Nd (Ys rfl rfl (by kernel_rfl) Nd (Ys rfl rfl (by kernel_rfl) Lx (Qp rfl rfl (by kernel_rfl) (Ww Tryz.underlying22)))))))
abbrev XPr:=Nat × Int × XE × XE × (XE × Nat × Nat) × Nat
def XPr.v (x:XPr):PriV:=⟨x.1,x.2.1,x.2.2.1.v,x.2.2.2.1.v,x.2.2.2.2.1.1.v,x.2.2.2.2.1.2.1,x.2.2.2.2.1.2.2,x.2.2.2.2.2⟩
theorem U4 {W:World}{S:Nat->Prop}{cs:List Value}{x:XE}(h:RE.ok W S cs x):Fit x.v:=by
 obtain⟨i,n,s,hh,d⟩:=x
 obtain⟨c0,c1,rfl,h0,h1⟩:=h
 obtain⟨c2,c3,rfl,h2,h3⟩:=h1
 obtain⟨c4,c5,rfl,h4,h5⟩:=h3
 obtain⟨c6,c7,rfl,h6,h7⟩:=h5
 exact⟨h6.2,h7.2⟩
theorem SI {W:World}{S:Nat->Prop}{cs:List Value}{x:XPr}(h:RPr.ok W S cs x):Fit x.v.dest/\Fit x.v.rep/\Fit x.v.src:=by
 obtain⟨fl,sum,d,r,⟨s,t,q⟩,life⟩:=x
 obtain⟨c0,c1,rfl,h0,h1⟩:=h
 obtain⟨c2,c3,rfl,h2,h3⟩:=h1
 obtain⟨c4,c5,rfl,h4,h5⟩:=h3
 obtain⟨c6,c7,rfl,h6,h7⟩:=h5
 obtain⟨c8,c9,rfl,h8,h9⟩:=h7
 obtain⟨ca,cb,rfl,ha,hb⟩:=h8
 exact⟨U4 h4,U4 h6,U4 ha⟩
theorem B2 {W:World}{S:Nat->Prop}{cs:List Value}{x:XRp}(h:RRp.ok W S cs x):Fit x.v.of:=by
 obtain⟨a,b,c,rs,tm,⟨s,t,q⟩⟩:=x
 obtain⟨c0,c1,rfl,h0,h1⟩:=h
 obtain⟨c2,c3,rfl,h2,h3⟩:=h1
 obtain⟨c4,c5,rfl,h4,h5⟩:=h3
 obtain⟨c6,c7,rfl,h6,h7⟩:=h5
 obtain⟨c8,c9,rfl,h8,h9⟩:=h7
 obtain⟨ca,cb,rfl,ha,hb⟩:=h9
 exact U4 ha
abbrev RB:Rep (Nat × Nat × Nat × Int × List UInt8):=Rep.u64.prod (Rep.u64.prod (Rep.u64.prod (Rep.i64.prod (Rep.slice Rep.byte (by decide)))))
theorem D1:Y2 Tryz.prog 40 RB:=
 V2 Tryz.underlying40 (by kernel_rfl) (Ys rfl rfl (by kernel_rfl) (Ww Tryz.underlying22) (Ys rfl rfl (by kernel_rfl) (Ww Tryz.underlying22)
  (Ys rfl rfl (by kernel_rfl) (Ww Tryz.underlying22) (Ys rfl rfl (by kernel_rfl) (Ow Tryz.underlying3)
   (Qp rfl rfl (by kernel_rfl) (XU (R:=Rep.byte) (by decide) Tryz.underlying32 (by kernel_rfl) (HI Tryz.underlying5)))))))
abbrev XB:=Nat × Nat × Nat × Int × List UInt8
def XB.v (x:XB):BlkV:=⟨x.1,x.2.1,x.2.2.1,x.2.2.2.1,x.2.2.2.2⟩
abbrev RBn:Rep ((Nat × Int × XE × XE × (XE × Nat × Nat) × Nat) × List XB):=RPr.prod (Rep.slice RB (by decide))
theorem B3:Y2 Tryz.prog 31 RBn:=
 V2 Tryz.underlying31 (by kernel_rfl) (Ys rfl rfl (by kernel_rfl) B1 (Qp rfl rfl (by kernel_rfl) (XU (R:=RB) (by decide) Tryz.underlying29 (by kernel_rfl) D1)))
abbrev XBn:=(Nat × Int × XE × XE × (XE × Nat × Nat) × Nat) × List XB
def XBn.v (x:XBn):BunV:=⟨⟨x.1.1,x.1.2.1,x.1.2.2.1.v,x.1.2.2.2.1.v,x.1.2.2.2.2.1.1.v,x.1.2.2.2.2.1.2.1,x.1.2.2.2.2.1.2.2,x.1.2.2.2.2.2⟩,x.2.map XB.v⟩
theorem B4:ToE RB (fun x=>.agg [.int .u64 (x.1:Int),.int .u64 (x.2.1:Int),.int .u64 (x.2.2.1:Int),.int .i64 x.2.2.2.1,.sl (x.2.2.2.2.map E.byte)]):=ToE.u64.prod (ToE.u64.prod (ToE.u64.prod (ToE.i64.prod (ToE.byte.slice (by decide)))))
theorem FZ [Known]{W:World}{cs:List Value}{x:XBn}(h:RBn.ok W (· < W.heap.size) cs x):V W (g0 W) [] (.agg (bnC x.v)) (.agg cs.toArray):=by
 obtain⟨⟨fl,sum,⟨di,dn,ds,dh,dd⟩,⟨ri,rn,rs,rh,rd⟩,⟨⟨xi,xn,xs,xh,xd⟩,t,q⟩,life⟩,bl⟩:=x
 have te:=(ToE.u64.prod (ToE.i64.prod (Ja.prod (Ja.prod ((Ja.prod (ToE.u64.prod ToE.u64)).prod ToE.u64))))).prod (B4.slice (by decide))
 have h2:=ToE.agg te (l:=[.int .u64 (fl:Int),.int .i64 sum,.bool di,.int .u64 (dn:Int),.int .u64 (ds:Int),.str dh,.str dd,.bool ri,.int .u64 (rn:Int),.int .u64 (rs:Int),.str rh,.str rd,.bool xi,.int .u64 (xn:Int),.int .u64 (xs:Int),.str xh,.str xd,.int .u64 (t:Int),.int .u64 (q:Int),.int .u64 (life:Int),.sl (bl.map fun x=>.agg [.int .u64 (x.1:Int),.int .u64 (x.2.1:Int),.int .u64 (x.2.2.1:Int),.int .i64 x.2.2.2.1,.sl (x.2.2.2.2.map E.byte)])]) rfl h
 have e:Yo (bl.map XB.v)=bl.map fun x=>.agg [.int .u64 (x.1:Int),.int .u64 (x.2.1:Int),.int .u64 (x.2.2.1:Int),.int .i64 x.2.2.2.1,.sl (x.2.2.2.2.map E.byte)]:=List.map_map ..
 rw[<- e]at h2
 exact h2
theorem HF {α:Type}{R:Rep α}{w:World}{S:Nat->Prop}:∀ {l:List α} {cs:List Value},Run R w S cs l->∀ x ∈ l,∃ c,R.ok w S c x
 | [],_,_,x,hx=>by simp at hx
 | y::l,cs,⟨c1,c2,_,h1,h2⟩,x,hx=>by
  rcases List.mem_cons.1 hx with rfl|hx
  ·exact⟨c1,h1⟩
  ·exact HF h2 x hx
theorem B5 {W:World}{S:Nat->Prop}{cs:List Value}{x:XB}(h:RB.ok W S cs x):x.v.fl<18446744073709551616:=by
 obtain⟨ty,num,fl,sum,data⟩:=x
 obtain⟨_,_,_,_,_,_,_,_,_,_,_,⟨_,h1⟩,_⟩:=h
 exact h1
theorem D2 {W:World}{cs:List Value}{x:XBn}(h:RBn.ok W (· < W.heap.size) cs x):x.v.p.fl<18446744073709551616/\∀ c ∈ x.v.bl,c.fl<18446744073709551616:=by
 obtain⟨⟨fl,r⟩,bl⟩:=x
 obtain⟨_,_,_,⟨_,_,_,⟨_,h1⟩,_⟩,⟨v,_,A,cap,_,_,_,c3,hr,_⟩⟩:=h
 refine⟨h1,fun c hc=>?_⟩
 obtain⟨y,hy,rfl⟩:=List.mem_map.1 hc
 obtain⟨c4,h4⟩:=HF hr y hy
 exact B5 h4
theorem SJ {W:World}{S:Nat->Prop}{cs:List Value}{x:XBn}(h:RBn.ok W S cs x):Fit x.v.p.dest/\Fit x.v.p.rep/\Fit x.v.p.src:=by
 obtain⟨p,bl⟩:=x
 obtain⟨c0,c1,rfl,h0,h1⟩:=h
 exact SI h0
end Go.Proofs.YtmljabhmajehnaaGreatDoor
end
section
open Go.RowKit Go.Pl Go.Av Go.Lib
namespace Go.Proofs.YtmljabhmajehnaaGreatDoor
theorem XT (k:IntKind):∀ zs:List Int,Kg (zs.map fun z=>.lit (.int k z))=zs.map fun z=>Value.int k z
 | []=>rfl
 | z::zs=>by rw[List.map_cons,List.map_cons,Kg,XT k zs];rfl
theorem HG {P:Program}{W:World}{n:String}{g:Nat}{t:TypeId}{d:DataW Unit}(hg:P.globalNamed n=some g)(ht:(P.globals[g]?).map (·.type)=some t)(h:VarReads P W n d)
  (key:∀(fuel:Nat) (cs:List Value) (p:List MemPlace),DataW.trod (fun _=>()) P W 0 (fun _=>true) false fuel t cs=some (d,p)->∀(j:Nat) (v:Value),(dcs d)[j]?=some v->cs[j]?=some v) :
  ∀(j:Nat) (v:Value),(dcs d)[j]?=some v->(g0 W).C g j/\W.cell? ⟨g,j,none⟩=some v:=by
 obtain⟨g',t',cs,fuel,p,h1,h2,h3,h4⟩:=h
 obtain rfl:=Option.some.inj (hg.symm.trans h1)
 obtain rfl:=Option.some.inj (ht.symm.trans h2)
 intro j v hv
 have hc:=key fuel cs.toList p h4 j v hv
 have hcell:W.cell? ⟨g,j,none⟩=some v:=by
  rw[World.var?_cell hg h3 j,<- Array.getElem?_toList];exact hc
 exact⟨World.block_lt_of_cell? W _ hcell,hcell⟩
theorem SK {P:Program}{W:World}{t e:TypeId}{n:Nat}{k:IntKind}{d:DataW Unit}(zs:List Int)(hd:d=tabData k zs)(ht:P.underlying t=some (.array n e))(he:P.underlying e=some (.int k))(hce:P.cellsOf e=1)(hct:P.cellsOf t=n) :
  ∀(fuel:Nat) (cs:List Value) (p:List MemPlace),DataW.trod (fun _=>()) P W 0 (fun _=>true) false fuel t cs=some (d,p)->∀(j:Nat) (v:Value),(dcs d)[j]?=some v->cs[j]?=some v:=by
 subst hd
 intro fuel cs p h j v hv
 rw[cells_of_tab ht he hce hct h]
 rw[tabData,dcs,XT]at hv
 exact hv
theorem SL {P:Program}{W:World}{t e:TypeId}{n:Nat}{k:IntKind}{d:DataW Unit}{fs:Array Field}(rows:List (List Int))(hd:d=.agg (rows.map fun r=>.agg (r.map fun z=>.lit (.int k z))))(hn:rows.length=n)(ht:P.underlying t=some (.array n e))(he:P.underlying e=some (.struct fs))
  (hf:∀(i:Nat) (f:Field),fs[i]?=some f->P.underlying f.type=some (.int k)/\f.offset=i/\P.cellsOf f.type=1) (hce:P.cellsOf e=fs.size) :
  ∀(fuel:Nat) (cs:List Value) (p:List MemPlace),DataW.trod (fun _=>()) P W 0 (fun _=>true) false fuel t cs=some (d,p)->∀(j:Nat) (v:Value),(dcs d)[j]?=some v->cs[j]?=some v:=by
 subst hd
 intro fuel cs p h j v hv
 have key:∀ i,i<=n->cs.take (i*fs.size)=Kg ((rows.take i).map fun r=>.agg (r.map fun z=>.lit (.int k z))):=by
  intro i
  induction i with
  | zero=>intro _;rw[Nat.zero_mul,List.take_zero,List.take_zero];rfl
  | succ i ih=>
   intro hi
   obtain⟨fuel',d',q,hdi,he'⟩:=array_elem ht h i (by omega)
   rw[List.getElem?_map,List.getElem?_eq_getElem (by omega:i<rows.length)]at hdi
   simp only[Option.map_some,Option.some.injEq]at hdi
   subst hdi
   rw[hce]at he'
   have hcs:=ints_of_struct he hf hce he'
   rw[Nat.succ_mul,List.take_add,ih (by omega),hcs,List.take_succ_eq_append_getElem (by omega:i<rows.length),List.map_append]
   have app:∀(a b:List (DataW Unit)),Kg (a++b)=Kg a++Kg b:=fun a b=>by
    induction a with
    | nil=>rfl
    | cons x a ih=>rw[List.cons_append,Kg,Kg,ih,List.append_assoc]
   rw[app,List.map_cons,List.map_nil,Kg,dcs,XT]
   simp[Kg]
 have h2:=key n (Nat.le_refl _)
 rw[<- hn,List.take_length]at h2
 rw[dcs,<- h2]at hv
 rw[List.getElem?_take]at hv
 split at hv
 ·exact hv
 ·cases hv
abbrev VH:Known:=⟨[0,1]⟩
theorem TN : @KnownU8 VH:=@KnownU8.mk VH (List.mem_cons_self ..) (List.mem_cons_of_mem _ (List.mem_cons_self ..))
def B6:List Int:=Pinned.utf8FirstZ.map Int.ofNat
def SM:List (List Int):=[[128,191],[160,191],[128,159],[144,191],[128,143],[0,0],[0,0],[0,0],[0,0],[0,0],[0,0],[0,0],[0,0],[0,0],[0,0],[0,0]]
theorem B7 {W:World}{laid:List (String × DataW Unit)}(h1:("unicode/utf8.first",Rows.laid_unicode_utf8_first) ∈ laid)(h2:("unicode/utf8.acceptRanges",Rows.laid_unicode_utf8_acceptRanges) ∈ laid)(h:laidMet Tryz.prog laid W) : @Gls VH (g0 W).C W:=by
 have r1:=laidMet.reads h h1
 have r2:=laidMet.reads h h2
 have c1:=HG (P:=Tryz.prog) (g:=0) (t:=271) (by kernel_rfl) (by kernel_rfl) r1 (SK B6 (by kernel_rfl) (n:=256) (by kernel_rfl) Tryz.underlying5 (by kernel_rfl) (by kernel_rfl))
 have c2:=HG (P:=Tryz.prog) (g:=1) (t:=274) (by kernel_rfl) (by kernel_rfl) r2 (SL SM (by kernel_rfl) (n:=16) rfl Tryz.underlying274 Tryz.underlying273 (fun i f hf=>by
  match i,hf with
  | 0,hf=>simp at hf;subst hf;exact⟨Tryz.underlying5,rfl,by kernel_rfl⟩
  | 1,hf=>simp at hf;subst hf;exact⟨Tryz.underlying5,rfl,by kernel_rfl⟩
  | i+2,hf=>simp at hf) (by kernel_rfl))
 refine⟨fun k cs hk=>?_,fun k t hk=>?_⟩
 ·obtain⟨hk,hm⟩:=hk
  simp only[Gb,List.mem_cons,List.not_mem_nil,or_false,Prod.mk.injEq]at hm
  have hk:k ∈ [0,1]:=hk
  simp only[List.mem_cons,List.not_mem_nil,or_false]at hk
  clear r1 r2 h1 h2 h
  rcases hk with rfl|rfl
  all_goals repeat'(refine Or.elim hm (fun hm=>?_) (fun hm=>?_))
  all_goals first
   | (obtain⟨h,rfl⟩:=hm;exact c1)
   | (obtain⟨h,rfl⟩:=hm;exact c2)
   | (obtain⟨h,_⟩:=hm;exact absurd h (by decide))
 ·obtain⟨hk,hm⟩:=hk
  have hk:k ∈ [0,1]:=hk
  simp only[List.mem_cons,List.not_mem_nil,or_false]at hk
  simp only[Da,List.mem_cons,List.not_mem_nil,or_false,Prod.mk.injEq]at hm
  all_goals omega
end Go.Proofs.YtmljabhmajehnaaGreatDoor
end
section
open Go.RowKit Go.Pl Go.Av
namespace Go.Proofs.YtmljabhmajehnaaGreatDoor
theorem B8 {W:World}{S:Nat->Prop}{cs:List Value}{x:XId}(h:Go.Pl.RI.ok W S cs x):Fit x.1.v:=by
 obtain⟨c0,c1,rfl,h0,h1⟩:=h
 exact U4 h0
theorem JR (c0:List Value)(c1:List Value)(c2:List Value)(n3:Nat)(c4:List Value)(x0:XRp)(x1:XE)(x2:XId)(x4:XBn)(W:World)(h0:RRp.ok W (· < W.heap.size) c0 x0)(h1:RE.ok W (· < W.heap.size) c1 x1)(h2:Go.Pl.RI.ok W (· < W.heap.size) c2 x2)(h3:n3<18446744073709551616)(h4:RBn.ok W (· < W.heap.size) c4 x4)(hl:laidMet Tryz.prog Rows.reportBundlesRow.laid W) :
  Calls Tryz.prog 5 #[.agg c0.toArray,.agg c1.toArray,.agg c2.toArray,.int .u64 (n3:Int),.agg c4.toArray] W fun e w'=>e=.returned (.bool true)/\Below W.heap.size W w':=by
 have hg:=B7 (laid:=Rows.reportBundlesRow.laid) (by unfold Rows.reportBundlesRow;repeat (first|exact List.mem_cons_self .. | apply List.mem_cons_of_mem)) (by unfold Rows.reportBundlesRow;repeat (first|exact List.mem_cons_self .. | apply List.mem_cons_of_mem)) hl
 have h:=@XS VH TN x0.v x1.v x2.1.v x2.2.1 x2.2.2 n3 x4.v (B2 h0) (U4 h1) (B8 h2) (D2 h4) (SJ h4)
 refine @D4 VH Tryz.prog 5 _ (@AC.mono VH _ _ _ _ _ _ _ h fun r b t h=>h.1) W [.agg c0.toArray,.agg c1.toArray,.agg c2.toArray,.int .u64 (n3:Int),.agg c4.toArray] hg rfl ?_
 intro j d v hd hv
 match j,hd,hv with
 | 0,hd,hv=>cases hd;cases hv;exact @FX VH _ _ _ h0
 | 1,hd,hv=>cases hd;cases hv;exact @Dl VH _ _ _ h1
 | 2,hd,hv=>cases hd;cases hv;exact @FY VH _ _ _ h2
 | 3,hd,hv=>cases hd;cases hv;exact .int _ _
 | 4,hd,hv=>cases hd;cases hv;exact @FZ VH _ _ _ h4
 | j+5,hd,hv=>cases hd
end Go.Proofs.YtmljabhmajehnaaGreatDoor
end

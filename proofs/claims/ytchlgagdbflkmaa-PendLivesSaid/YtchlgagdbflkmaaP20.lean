/- PendLives: all rounds, one round (pdgen6.py). -/
import Derived.Test.YtchlgagdbflkmaaP13
import Derived.Test.YtchlgagdbflkmaaP14
import Derived.Test.YtchlgagdbflkmaaP15
import Derived.Test.YtchlgagdbflkmaaP16
import Derived.Test.YtchlgagdbflkmaaP18
import Derived.Test.YtchlgagdbflkmaaP19
import Derived.Test.YtchlgagdbflkmaaP01
import Derived.Test.YtchlgagdbflkmaaP06
import Derived.Test.YtchlgagdbflkmaaP10
set_option linter.unusedVariables false
set_option linter.unusedSimpArgs false
section
open Go.RowKit Go.Pl Go.Av
namespace Go.Proofs.Ytchlgagdbflkmaa
set_option maxHeartbeats 4000000
theorem JN [Known](ops:List OpV)(M:List Ev)(i k:Nat)(kd n who:Int)(data:List UInt8)(need:Int)(bx:List (List D))(fr:List Fr)(hk:k+i=150)(hlt:i<ops.length/\i<150)(hMi:M.length<=i)(h64:(Zb M).length<=64)(hx:ops[i]?=some ⟨kd,n,⟨who,data,need⟩⟩)(g:decide (((data.map E.byte).length:Int)>1100)=false)(hall:PlS M bx fr)(Q:X->St->Prop) :
  AW Try.prog (ZD (Try.f3.body.getD .skip)) ⟨205,plT ops i,bx,fr,(([]:List (List D)).length,([]:List Fr).length)⟩ (X.then (LandS (PlJ ops) 205 (([]:List (List D)).length,([]:List Fr).length) k) Q):=by
 by_cases hkd:kd=0
 ·cases hb:ZA ⟨who,data,need⟩ with
  | true=>
   by_cases hx0:data=[]
   ·rcases hall with⟨hM,rfl,rfl⟩ | ⟨hM,hL,c,hc,rfl,rfl⟩ | ⟨hM,hL,c,hc,rfl,rfl⟩
    ·exact Xd ops M i k 0 kd n who data need hk hlt hMi h64 hx g hM hkd hx0 hb _
    ·exact Xe ops M i k c kd n who data need hk hlt hMi h64 hx g hM hL hc hkd hx0 hb _
    ·exact Xf ops M i k c kd n who data need hk hlt hMi h64 hx g hM hL hc hkd hx0 hb _
   ·rcases hall with⟨hM,rfl,rfl⟩ | ⟨hM,hL,c,hc,rfl,rfl⟩ | ⟨hM,hL,c,hc,rfl,rfl⟩
    ·exact Xh ops M i k 0 kd n who data need hk hlt hMi h64 hx g hM hkd hx0 hb _
    ·exact Xi ops M i k c kd n who data need hk hlt hMi h64 hx g hM hL hc hkd hx0 hb _
    ·exact Xj ops M i k c kd n who data need hk hlt hMi h64 hx g hM hL hc hkd hx0 hb _
  | false=>
   by_cases hx0:data=[]
   ·rcases hall with⟨hM,rfl,rfl⟩ | ⟨hM,hL,c,hc,rfl,rfl⟩ | ⟨hM,hL,c,hc,rfl,rfl⟩
    ·exact Xl ops M i k 0 kd n who data need hk hlt hMi h64 hx g hM hkd hx0 hb _
    ·rcases Nat.lt_or_ge c (M.length+1) with hrm|hrm
     ·exact JG ops M i k c kd n who data need hk hlt hMi h64 hx g hM hL hc hkd hx0 hb hrm _
     ·exact JF ops M i k c kd n who data need hk hlt hMi h64 hx g hM hL hc hkd hx0 hb hrm _
    ·rcases Nat.lt_or_ge (Zb M).length 64 with h65|h65
     ·rcases Nat.lt_or_ge c (M.length+1) with hrm|hrm
      ·exact JI ops M i k c kd n who data need hk hlt hMi h64 hx g hM hL hc hkd hx0 hb h65 hrm _
      ·exact JH ops M i k c kd n who data need hk hlt hMi h64 hx g hM hL hc hkd hx0 hb h65 hrm _
     ·exact Xg ops M i k c kd n who data need hk hlt hMi h64 hx g hM hL hc hkd hx0 hb h65 _
   ·rcases hall with⟨hM,rfl,rfl⟩ | ⟨hM,hL,c,hc,rfl,rfl⟩ | ⟨hM,hL,c,hc,rfl,rfl⟩
    ·exact Xm ops M i k 0 kd n who data need hk hlt hMi h64 hx g hM hkd hx0 hb _
    ·rcases Nat.lt_or_ge c (M.length+1) with hrm|hrm
     ·exact JK ops M i k c kd n who data need hk hlt hMi h64 hx g hM hL hc hkd hx0 hb hrm _
     ·exact JJ ops M i k c kd n who data need hk hlt hMi h64 hx g hM hL hc hkd hx0 hb hrm _
    ·rcases Nat.lt_or_ge (Zb M).length 64 with h65|h65
     ·rcases Nat.lt_or_ge c (M.length+1) with hrm|hrm
      ·exact JM ops M i k c kd n who data need hk hlt hMi h64 hx g hM hL hc hkd hx0 hb h65 hrm _
      ·exact JL ops M i k c kd n who data need hk hlt hMi h64 hx g hM hL hc hkd hx0 hb h65 hrm _
     ·exact Xk ops M i k c kd n who data need hk hlt hMi h64 hx g hM hL hc hkd hx0 hb h65 _
 by_cases hk1:kd=1
 ·rcases hall with⟨hM,rfl,rfl⟩ | ⟨hM,hL,c,hc,rfl,rfl⟩ | ⟨hM,hL,c,hc,rfl,rfl⟩
  ·exact Kn ops M i k 0 kd n who data need hk hlt hMi h64 hx g hM hk1 _
  ·exact Ko ops M i k c kd n who data need hk hlt hMi h64 hx g hM hL hc hk1 _
  ·by_cases ho:(Zb M).filter (fun x=>decide (x.need<=n))=[]
   ·exact XM ops M i k c kd n who data need hk hlt hMi h64 hx g hM hL hc hk1 ho (Qs _ hL ho) _
   ·by_cases hl:(Zb M).filter (fun x=>!decide (x.need<=n))=[]
    ·exact XN ops M i k c kd n who data need hk hlt hMi h64 hx g hM hL hc hk1 ho hl _
    ·exact XO ops M i k c kd n who data need hk hlt hMi h64 hx g hM hL hc hk1 ho hl _
 by_cases hk2:kd=2
 ·by_cases hn:n=0
  ·rcases hall with⟨hM,rfl,rfl⟩ | ⟨hM,hL,c,hc,rfl,rfl⟩ | ⟨hM,hL,c,hc,rfl,rfl⟩
   ·exact Ke ops M i k 0 kd n who data need hk hlt hMi h64 hx g hM hk2 hn _
   ·exact Kf ops M i k c kd n who data need hk hlt hMi h64 hx g hM hL hc hk2 hn _
   ·exact Kg ops M i k c kd n who data need hk hlt hMi h64 hx g hM hL hc hk2 hn _
  have hn:(n==0)=false:=by simpa using hn
  rcases hall with⟨hM,rfl,rfl⟩ | ⟨hM,hL,c,hc,rfl,rfl⟩ | ⟨hM,hL,c,hc,rfl,rfl⟩
  ·exact Kk ops M i k 0 kd n who data need hk hlt hMi h64 hx g hM hk2 hn _
  ·exact Kl ops M i k c kd n who data need hk hlt hMi h64 hx g hM hL hc hk2 hn _
  ·exact Km ops M i k c kd n who data need hk hlt hMi h64 hx g hM hL hc hk2 hn _
 by_cases hk3:kd=3
 ·rcases hall with⟨hM,rfl,rfl⟩ | ⟨hM,hL,c,hc,rfl,rfl⟩ | ⟨hM,hL,c,hc,rfl,rfl⟩
  ·exact Kh ops M i k 0 kd n who data need hk hlt hMi h64 hx g hM hk3 _
  ·exact Ki ops M i k c kd n who data need hk hlt hMi h64 hx g hM hL hc hk3 _
  ·exact Kj ops M i k c kd n who data need hk hlt hMi h64 hx g hM hL hc hk3 _
 have q0:(kd==0)=false:=by simpa using hkd
 have q1:(kd==1)=false:=by simpa using hk1
 have q2:(kd==2)=false:=by simpa using hk2
 have q3:(kd==3)=false:=by simpa using hk3
 rcases hall with⟨hM,rfl,rfl⟩ | ⟨hM,hL,c,hc,rfl,rfl⟩ | ⟨hM,hL,c,hc,rfl,rfl⟩
 ·exact Ka ops M i k 0 kd n who data need hk hlt hMi h64 hx g hM q0 q1 q2 q3 _
 ·exact Kb ops M i k c kd n who data need hk hlt hMi h64 hx g hM hL hc q0 q1 q2 q3 _
 ·exact Kc ops M i k c kd n who data need hk hlt hMi h64 hx g hM hL hc q0 q1 q2 q3 _
theorem UQ [Known](who need:Int):AT Try.prog 6 [.ptr 0 0,.agg [.int .i64 who,.sl .nil [],.int .i64 need]] [[.bool false,.sl .nil []]] [] (.int .i64 6) [[.bool false,.sl .nil []]] []:=by
 refine ZF Try.func6 rfl Try.ntmps6 rfl rfl ?_
 repeat'(first|(apply Zk Za;exact Z)|(apply Zh Za;exact Z)|(apply Zr Za;exact Z)|(apply Ze;(iterate 3 exact Z);(first|with_reducible assumption|decide +kernel|(solve|simp only[bn])))|(apply Zj;exact Z;(first|with_reducible assumption|decide +kernel|(solve|simp only[bn]));exact Z;exact Z)|(apply Zf;exact Z;(first|with_reducible assumption|decide +kernel|(solve|simp only[bn]))))
 all_goals(apply Yu [0] [];(apply Zm Za;exact Z);(iterate 7 exact Z))
 all_goals rfl
theorem Uj [Known](ops:List OpV):AP Try.prog 3 [.sl .ext (ops.map opE)] (.bool true) []:=by
 have hol:(ops.map opE).length=ops.length:=List.length_map ..
 have hUo:=ZP ops
 refine AP.ofA (ZF Try.func3 Z Try.ntmps3 Z Z ?_)
 repeat'(first|(apply Zc [] [] (JE);kernel_rfl;(iterate 10 exact Z))|(apply Zk Za;exact Z)|(apply Zh Za;exact Z))
 refine UK (PlJ ops) 151 (LandS.mk' (m:=150) (tm1:=plT ops 0) (bx:=[[.bool true,.sl .nil []],[.sl .nil []]]) (fr:=[]) [0,1] [] (by omega) ⟨0,[],rfl,Nat.le_refl _,Nat.zero_le _,rfl,.inl ⟨rfl,rfl,rfl⟩⟩ rfl rfl rfl rfl ?_ rfl rfl rfl) ?_
 ·exact .cons rfl (.cons rfl (.cons rfl (.cons rfl .nil)))
 rintro k tm bx fr ⟨i,M,hk,hMi,h64,rfl,hall⟩
 by_cases hlt:i<ops.length/\i<150
 ·obtain⟨⟨kd,n,⟨who,data,need⟩⟩,hx⟩:∃ o,ops[i]?=some o:=⟨_,List.getElem?_eq_getElem hlt.1⟩
  cases g:decide (((data.map E.byte).length:Int)>1100) with
  | true=>
   have hd1:decide ((i:Int)<((ops.map opE).length:Int))=true:=decide_eq_true (by rw[hol];omega)
   have hd2:decide ((i:Int)<150)=true:=decide_eq_true (by omega)
   have hxe:(ops.map opE)[((i:Nat):Int).toNat]?=some (opE ⟨kd,n,⟨who,data,need⟩⟩):=by rw[Int.toNat_natCast,List.getElem?_map,hx];rfl
   replace hxe:(ops.map opE)[((i:Nat):Int).toNat]?=some (.agg [.int .i64 kd,.int .i64 n,.int .i64 who,.sl (data.map E.byte),.int .i64 need]):=hxe
   rcases hall with⟨hM,rfl,rfl⟩ | ⟨hM,hL,c,hc,rfl,rfl⟩ | ⟨hM,hL,c,hc,rfl,rfl⟩
   all_goals
    repeat'(first|(apply Yn (VB);kernel_rfl;(iterate 4 exact Z))|(apply Zk Za;exact Z)|(apply Zh Za;exact Z)|(apply Zr Za;exact Z)|(apply Ze;(iterate 3 exact Z);(first|with_reducible assumption|decide +kernel|(solve|simp only[bn])))|(apply Zl;exact Z;(first|with_reducible assumption|decide +kernel|(solve|simp only[bn]));exact Z;exact Z)|(apply Zf;exact Z;(first|with_reducible assumption|decide +kernel|(solve|simp only[bn])))|refine Zo Za Z Z Z Z ?_|(apply Zv Za;(iterate 6 exact Z);(first|exact Qt|rotate_left);(first|with_reducible assumption|decide +kernel|exact Z);(first|exact Zg rfl|with_reducible assumption|decide +kernel|rotate_left)))
    all_goals exact Qe
  | false=>exact JN ops M i k kd n who data need bx fr hk hlt hMi h64 hx g hall _
 ·have hd:(decide ((i:Int)<((ops.map opE).length:Int))=false)\/(decide ((i:Int)<((ops.map opE).length:Int))=true/\decide ((i:Int)<150)=false):=by
   rcases Nat.lt_or_ge i ops.length with h|h
   ·exact .inr ⟨decide_eq_true (by rw[hol];omega),decide_eq_false (by omega)⟩
   ·exact .inl (decide_eq_false (by rw[hol];omega))
  clear hlt
  rcases hd with hd1|⟨hd1,hd2⟩<;>rcases hall with⟨hM,rfl,rfl⟩ | ⟨hM,hL,c,hc,rfl,rfl⟩ | ⟨hM,hL,c,hc,rfl,rfl⟩
  all_goals
   repeat'(first|(apply Yn (VB);kernel_rfl;(iterate 4 exact Z))|(apply Yn (Xc 1 0);kernel_rfl;(iterate 4 exact Z))|(apply Zc [2] [] ((UQ 1 0));kernel_rfl;(iterate 10 exact Z))|(apply Zc [3] [] ((UQ 1 0));kernel_rfl;(iterate 10 exact Z))|(apply Yn (QU 5);kernel_rfl;(iterate 4 exact Z))|(apply Zc [2] [] ((WA 5 false));kernel_rfl;(iterate 10 exact Z))|(apply Zc [3] [] ((WA 5 false));kernel_rfl;(iterate 10 exact Z))|(apply Yn (JC 1);kernel_rfl;(iterate 4 exact Z))|(apply Yn (Xb);kernel_rfl;(iterate 4 exact Z))|(apply Yn (QV);kernel_rfl;(iterate 4 exact Z))|(apply Zk Za;exact Z)|(apply Zh Za;exact Z)|(apply Zr Za;exact Z)|(apply Ze;(iterate 3 exact Z);(first|with_reducible assumption|decide +kernel|(solve|simp only[bn])))|(apply Yl;(iterate 3 exact Z);(first|with_reducible assumption|decide +kernel|(solve|simp only[bn])))|(apply Zl;exact Z;(first|with_reducible assumption|decide +kernel|(solve|simp only[bn]));exact Z;exact Z)|(apply Zj;exact Z;(first|with_reducible assumption|decide +kernel|(solve|simp only[bn]));exact Z;exact Z)|(apply Zd;exact Z;(first|with_reducible assumption|decide +kernel|(solve|simp only[bn])))|refine Zo Za Z Z Z Z ?_)
   all_goals exact Qe
end Go.Proofs.Ytchlgagdbflkmaa
end
section
open Go.RowKit Go.Pl
namespace Go.Pl
def Uk {α:Type}(P:Program)(fs:Array Field)(i o:Nat)(R:Rep α):Prop:=
 ∀(H:Type) (enc:TypeId × Value->H) (W:World) (spare:Nat->Bool) (held:Bool) (n:Nat) (cs:List Value) (xs:List (DataW H × List MemPlace)),cs.length=o+R.n->xs.length=fs.size ->
  (∀(j:Nat) (f:Field),fs[j]?=some f->DataW.trod enc P W 0 spare held n f.type ((cs.drop f.offset).take (P.cellsOf f.type))=xs[j]?)->∃ x,R.ok W (· < W.heap.size) (cs.drop o) x
variable {P:Program} {t:TypeId} {fs:Array Field}
theorem V3 {α:Type}{R:Rep α}{i o:Nat}{f:Field}(hf:fs[i]?=some f)(ho:f.offset=o)(hc:P.cellsOf f.type=R.n)(h:Wi P f.type R){H:Type}{enc:TypeId × Value->H}{W:World}{spare:Nat->Bool}{held:Bool}{n:Nat}{cs:List Value}{xs:List (DataW H × List MemPlace)}(hl:xs.length=fs.size)
  (hg:∀(j:Nat) (f:Field),fs[j]?=some f->DataW.trod enc P W 0 spare held n f.type ((cs.drop f.offset).take (P.cellsOf f.type))=xs[j]?):∃ x,R.ok W (· < W.heap.size) ((cs.drop o).take R.n) x:=by
 have e:=hg i f hf
 rw[ho,hc]at e
 have hi:i<xs.length:=by
  rw[hl]
  exact(Array.getElem?_eq_some_iff.1 hf).1
 exact h H enc W spare held n _ _ (e.trans (List.getElem?_eq_getElem hi))
theorem VC {α:Type}{R:Rep α}{i o:Nat}{f:Field}(hf:fs[i]?=some f)(ho:f.offset=o)(hc:P.cellsOf f.type=R.n)(h:Wi P f.type R):Uk P fs i o R:=by
 intro H enc W spare held n cs xs hcl hl hg
 obtain⟨x,hx⟩:=V3 hf ho hc h hl hg
 rw[List.take_of_length_le (by rw[List.length_drop];omega)]at hx
 exact⟨x,hx⟩
theorem YZ {α β:Type}{R:Rep α}{R':Rep β}{i o:Nat}{f:Field}(hf:fs[i]?=some f)(ho:f.offset=o)(hc:P.cellsOf f.type=R.n)(h:Wi P f.type R)(h':Uk P fs (i+1) (o+R.n) R'):Uk P fs i o (R.prod R'):=by
 intro H enc W spare held n cs xs hcl hl hg
 obtain⟨x,hx⟩:=V3 hf ho hc h hl hg
 have hn:(R.prod R').n=R.n+R'.n:=rfl
 obtain⟨x',hx'⟩:=h' H enc W spare held n cs xs (by rw[hn]at hcl;omega) hl hg
 refine⟨(x,x'),(cs.drop o).take R.n,(cs.drop o).drop R.n,(List.take_append_drop _ _).symm,hx,?_⟩
 rw[List.drop_drop]
 exact hx'
theorem WX {α:Type}{R:Rep α}(hs:P.underlying t=some (.struct fs))(hc:P.cellsOf t=R.n)(h:Uk P fs 0 0 R):Wi P t R:=by
 intro H enc W spare held fuel cs y hy
 obtain⟨xs,n,_,_,hl,hxl,hg⟩:=DataW.trod_struct hs hy
 exact h H enc W spare held n cs xs (by omega) hxl hg
end Go.Pl
end
section
open Go.RowKit Go.Pl Go.Av
namespace Go.Proofs.Ytchlgagdbflkmaa
set_option maxHeartbeats 4000000
abbrev REn:Rep (Int × List UInt8 × Int):=Rep.i64.prod ((Rep.slice Rep.byte (by decide)).prod Rep.i64)
abbrev ROp:Rep (Int × Int × Int × List UInt8 × Int):=Rep.i64.prod (Rep.i64.prod REn)
theorem XP:Wi Try.prog 31 REn:=
 WX Try.underlying31 (by kernel_rfl) (YZ rfl rfl (by kernel_rfl) (Wt Try.underlying3) (YZ rfl rfl (by kernel_rfl) (Va (R:=Rep.byte) (by decide) Try.underlying29 (by kernel_rfl) (UR Try.underlying5)) (VC rfl rfl (by kernel_rfl) (Wt Try.underlying3))))
theorem XQ:Wi Try.prog 33 ROp:=
 WX Try.underlying33 (by kernel_rfl) (YZ rfl rfl (by kernel_rfl) (Wt Try.underlying3) (YZ rfl rfl (by kernel_rfl) (Wt Try.underlying3) (VC rfl rfl (by kernel_rfl) XP)))
abbrev XOp:=Int × Int × Int × List UInt8 × Int
def XOp.v (x:XOp):OpV:=⟨x.1,x.2.1,⟨x.2.2.1,x.2.2.2.1,x.2.2.2.2⟩⟩
theorem XR:ToE ROp (fun x=>opE (XOp.v x)):=ToE.i64.prod (ToE.i64.prod (ToE.i64.prod ((ToE.byte.slice (by decide)).prod ToE.i64)))
theorem Kp [Known]{W:World}{v:Value}{l:List XOp}(hs:Sl ROp W (· < W.heap.size) v l):V W (g0 W) [] (.sl .ext ((l.map XOp.v).map opE)) v:=by
 have h:=V.ofE (w:=W) (g:=g0 W) (fr:=[]) (e:=.sl (l.map fun x=>opE (XOp.v x))) (XR.sl (C:=(g0 W).C) (fun k hk o=>hk) hs)
 have e:(l.map XOp.v).map opE=l.map fun x=>opE (XOp.v x):=List.map_map ..
 rw[e]
 exact h
abbrev VD:Known:=⟨[]⟩
theorem XZ (W:World) : @Gls VD (g0 W).C W:=⟨fun k cs h=>absurd h.1 (by intro hk;cases hk),fun k t h=>absurd h.1 (by intro hk;cases hk)⟩
theorem VF (v0:Value)(x0:List XOp)(W:World)(h0:Sl ROp W (· < W.heap.size) v0 x0) :
  Calls Try.prog 3 #[v0] W fun e w'=>e=.returned (.bool true)/\Below W.heap.size W w':=by
 have h:=@Uj VD (x0.map XOp.v)
 refine @Kt VD Try.prog 3 _ (@AC.mono VD _ _ _ _ _ _ _ h fun r b t h=>h.1) W [v0] (XZ W) rfl ?_
 intro j d v hd hv
 match j,hd,hv with
 | 0,hd,hv=>cases hd;cases hv;exact @Kp VD _ _ _ h0
 | j+1,hd,hv=>cases hd
end Go.Proofs.Ytchlgagdbflkmaa
end

/- The document's blocks: its answers are the program's, plain. -/
import Derived.Test.YtakblclkflnnpaaGreatDoorK39
import Derived.Test.YtakblclkflnnpaaGreatDoorK38
import Derived.Test.YtakblclkflnnpaaGreatDoorK24
import Derived.Test.YtakblclkflnnpaaGreatDoorK11
import Derived.Test.YtakblclkflnnpaaGreatDoorK34
import Derived.Test.YtakblclkflnnpaaGreatDoorK01
import Derived.Test.YtakblclkflnnpaaGreatDoorK07
import Derived.Test.YtakblclkflnnpaaGreatDoorK10
import Derived.Test.YtakblclkflnnpaaGreatDoorK31
import Derived.Test.YtakblclkflnnpaaGreatDoorK12
import Derived.Test.YtakblclkflnnpaaGreatDoorK23
import Derived.Test.YtakblclkflnnpaaGreatDoorProg
import Derived.Lib.LaidU8
set_option linter.unusedVariables false
set_option linter.unusedSimpArgs false
section
open Go.RowKit Go.Pl Go.Av
namespace Go.Proofs.YtakblclkflnnpaaGreatDoor
set_option maxHeartbeats 4000000
theorem Zf0 (b:BlkV)(x:List It)(hx:Zbg x<=4/\Zb1 x 5=true/\Zco x=true):ZaC (.mk 4 0 [] (ZbR b++x))=true:=by
 rw[Zb2,ZbK,ZbL,ZbQ,Zet,ZfZ,ZdH,Zeu,hx.2.1,hx.2.2]
 have h1:Zb1 (ZbR b) 5=true:=by simp[ZbR,Zb1,ZbK]
 have h2:Zco (ZbR b)=true:=by simp[ZbR,Zco,ZbQ,Zc2]
 have h3:Zc2 4 0 [] (ZbR b++x)=true:=by simp[Zc2]
 rw[h1,h2,h3]
 simp
 omega
theorem ZiQ {b:BlkV}(h0:0<=b.sum)(h2:b.sum<=2):ZaQ (ZbR b) 3=b.sum:=by
 unfold ZaQ ZbR
 rw[if_neg (by omega)]
 show(match decide (((b.sum.toNat:Nat):Int)>2) with|true=>(-1:Int)|false=>match It.beq (.mk 0 b.sum.toNat [] []) (.mk 0 b.sum.toNat [] []) with|true=>((b.sum.toNat:Nat):Int)|false => -1)=b.sum
 rw[show decide (((b.sum.toNat:Nat):Int)>2)=false from decide_eq_false (by omega),It.beq_iff.2 rfl]
 exact Int.toNat_of_nonneg h0
theorem Zmg {b:BlkV}(s:Nat):(ZbE (ZbR b) s).2=true:=by
 cases s with
 | zero=>
  unfold ZbE
  have:=Zf0 b [] ⟨by simp[Zbg],rfl,rfl⟩
  rw[List.append_nil]at this
  exact this
 | succ s=>
  unfold ZbE
  dsimp only
  have:ZaC (ZaR (s+1) (ZbR b))=true:=Zf0 b [.mk 2 0 (List.replicate (2*(s+1)) 0) []] ⟨by simp[Zbg,ZbL],by simp[Zb1,ZbK],by simp[Zco,ZbQ,Zc2]⟩
  rw[this]
theorem Zg4 {b:BlkV}(h:Zbh b=true):ZcU b=(Zb6 b,0):=by
 obtain⟨_,_,h3,h4,_⟩:=Zdl h
 unfold ZcU
 rw[h]
 dsimp only
 rw[ZoQ]
 unfold ZoP Zb6
 rw[ZiQ h3 h4,ZfY]
 rw[show(decide ((3:Int)<0)||decide ((3:Int) ≥ ((5:Nat):Int)))=false from by decide]
 dsimp only
 rw[decide_eq_true (show b.sum ≥ 0 from h3),Zmg]
theorem Zh5 {b:BlkV}(h:Zbh b=false):ZcU b=(z0,3):=by
 unfold ZcU
 rw[h]
theorem ZnA (x:It):Znx x (ZdX x 3)=Zj1 x (ZdX x 3):=by
 unfold Znx Zj1
 cases t1:((ZdX x 3).2 != 0) with
 | true=>rfl
 | false=>
 dsimp only
 have e0:(ZdX x 3).2=0:=by simpa using t1
 split
 ·rename_i k0 n0 b0 l0 k1 n1 b1 l1 k2 n2 b2 l2 k3 n3 b3 l3 k4 n4 b4 l4 hl
  rw[hl]
  dsimp only
  cases hr:Zbh ⟨n0,n1,n2,IntKind.i64.wrap (n3:Int),b4⟩ with
  | false=>
   rw[Zh5 hr,Bool.false_and]
   dsimp only
   cases k4 != 2<;>rfl
  | true=>
   rw[Zg4 hr,Bool.true_and]
   dsimp only
   rw[show((0:Int) != 0)=false from rfl]
   cases hm:It.beq (Zb6 ⟨n0,n1,n2,IntKind.i64.wrap (n3:Int),b4⟩) x with
   | false=>cases k4 != 2<;>rfl
   | true=>
    have hx:=It.beq_iff.1 hm
    have hw:=Zg4 hr
    unfold ZcU at hw
    rw[hr]at hw
    dsimp only at hw
    have ho:=Zme hw
    rw[hx]at ho
    have h1:=congrArg Prod.fst ho
    rw[hl]at h1
    dsimp only[ZbR]at h1
    have h5:k4=2:=by
     injection h1 with _ h1
     injection h1 with _ h1
     injection h1 with _ h1
     injection h1 with _ h1
     injection h1 with h1 _
     injection h1
    subst h5
    rfl
 ·rename_i hno
  split
  ·rename_i hl
   exact absurd hl (hno _ _ _ _ _ _ _ _ _ _ _ _ _ _ _ _ _ _ _ _)
  ·rfl
theorem ZoX (x:It):Zf7 x=Zmf x:=by
 unfold Zf7 Zmf
 rw[ZnA,Zl6]
theorem Zmh [Known][KnownU8](x:It)(hw:wfI x)(hxl:x.l.length<=1000000)(hsz:Zbg x.l<=900)(hlim:∀ s m,s<=2->(Za9 (ZaR s (x.l.take m))).length<=1000000000)(hb:∀ y ∈ x.l,y.b.length<=3000):AP Tryz.prog 28 [itD x] (ZnP (Zf7 x)) []:=by
 have hO:=Zl7 x 3 hw hxl hsz hlim
 have hsub:=ZjZ x 3
 have hws:wfs x.l:=by obtain⟨k,n,b,l⟩:=x;exact hw.2.2.2
 rw[ZoX]
 unfold Zmf
 rw[Zl6]at hsub
 generalize Zkw x 3=o at *
 obtain⟨ol,oe⟩:=o
 have hlen:=Zar ol
 dsimp only at hsub
 have hSame:=fun(B:BlkV) (h1:Zbh B=true) (h2:B.fl<18446744073709551616)=>ZbJ (Zb6 B) (ZgC h1 h2) x hw
 obtain⟨k,n,b,l⟩:=x
 dsimp only[It.l]at *
 unfold Zj1
 dsimp only
 replace hO:AP Tryz.prog 89 [.agg (itC k n b l),.int .i64 3] (.tup [.sl .ext (Zax ol),.int .i64 oe]) []:=hO
 cases t1:(oe != 0) with
 | true=>exact ZqF k n b l _ oe hO t1
 | false=>
 have e0:oe=0:=by simpa using t1
 subst e0
 have hno:ol.length ≠ 5->AP Tryz.prog 28 [itD (.mk k n b l)] (ZnP (bk0,3)) []:=fun h=>ZqG k n b l _ hO (by rw[hlen];simp;omega)
 match ol,hO,hsub,hno with
 | [],_,_,h=>exact h (by simp)
 | [.mk _ _ _ _],_,_,h=>exact h (by simp)
 | [.mk _ _ _ _,.mk _ _ _ _],_,_,h=>exact h (by simp)
 | [.mk _ _ _ _,.mk _ _ _ _,.mk _ _ _ _],_,_,h=>exact h (by simp)
 | [.mk _ _ _ _,.mk _ _ _ _,.mk _ _ _ _,.mk _ _ _ _],_,_,h=>exact h (by simp)
 | .mk _ _ _ _::.mk _ _ _ _::.mk _ _ _ _::.mk _ _ _ _::.mk _ _ _ _::_::_,_,_,h=>exact h (by simp)
 | [.mk k0 n0 b0 l0,.mk k1 n1 b1 l1,.mk k2 n2 b2 l2,.mk k3 n3 b3 l3,.mk k4 n4 b4 l4],hO,hsub,_=>
 dsimp only
 have h5:(((Zax [It.mk k0 n0 b0 l0,.mk k1 n1 b1 l1,.mk k2 n2 b2 l2,.mk k3 n3 b3 l3,.mk k4 n4 b4 l4]).length:Int) != 5)=false:=by rw[Zar];rfl
 have hw2:n2<18446744073709551616:=(ZaY hws (.mk k2 n2 b2 l2) (hsub _ (by simp))).1
 have hb4:b4.length<=3000:=hb (.mk k4 n4 b4 l4) (hsub _ (by simp))
 have hR:=Zh1 ⟨n0,n1,n2,IntKind.i64.wrap (n3:Int),b4⟩ hw2 (by show b4.length<=100000;omega)
 have hW:=fun h=>ZgD ⟨n0,n1,n2,IntKind.i64.wrap (n3:Int),b4⟩ h hw2
 have hS:=fun h=>hSame ⟨n0,n1,n2,IntKind.i64.wrap (n3:Int),b4⟩ h hw2
 clear hSame
 generalize Zb6 ⟨n0,n1,n2,IntKind.i64.wrap (n3:Int),b4⟩=r at *
 obtain⟨wk,wn,wb,wl⟩:=r
 cases hr:Zbh ⟨n0,n1,n2,IntKind.i64.wrap (n3:Int),b4⟩ with
 | false=>
  rw[hr]at hR
  exact ZqH k n b l k0 k1 k2 k3 k4 n0 n1 n2 n3 n4 b0 b1 b2 b3 b4 l0 l1 l2 l3 l4 hO h5 hR
 | true=>
  rw[hr]at hR
  replace hW:=hW hr
  replace hS:=hS hr
  cases hm:It.beq (.mk wk wn wb wl) (.mk k n b l) with
  | false=>
   rw[hm]at hS
   exact ZqI k n b l k0 k1 k2 k3 k4 n0 n1 n2 n3 n4 b0 b1 b2 b3 b4 l0 l1 l2 l3 l4 wk wn wb wl hO h5 hR hW hS
  | true=>
   rw[hm]at hS
   exact ZqJ k n b l k0 k1 k2 k3 k4 n0 n1 n2 n3 n4 b0 b1 b2 b3 b4 l0 l1 l2 l3 l4 wk wn wb wl hO h5 hR hW hS
theorem Zh6 [Known](a b:BlkV):AP Tryz.prog 31 [.agg (bkC a),.agg (bkC b)] (.bool (ZeX a b)) []:=by
 obtain⟨ty,num,fl,sum,data⟩:=a
 obtain⟨ty2,num2,fl2,sum2,data2⟩:=b
 unfold ZeX
 dsimp only
 cases t1:((ty:Int)==(ty2:Int))<;>cases t2:((num:Int)==(num2:Int))<;>cases t3:((fl:Int)==(fl2:Int))<;>cases t4:(sum==sum2)<;>cases t5:(data==data2)
 all_goals
  refine AP.ofA ?_
  refine Zan Tryz.func31 rfl Tryz.ntmps31 rfl rfl ?_
  repeat'(first|(apply Zaj Zab;exact Z)|(apply Zah Zab;exact Z)|(apply Zae;(iterate 3 exact Z);exact Go.ZrJ)|(apply Zas;(iterate 3 exact Z);exact Go.ZrJ)|(apply Zak;exact Z;exact Go.ZrJ;exact Z;exact Z)|(apply Zag;exact Z;exact Go.ZrJ;exact Z;exact Z)|(apply Zcs Zab;(iterate 9 exact Z)))
  all_goals(apply Zaw [];(apply Zad Zab;exact Z);(iterate 4 exact Z))
  all_goals first|rfl|(dsimp only;rw[t5];rfl)
theorem Zj2:∀(l:List It) (d:Nat) (m:Int),0<=Zbk l d m->∀ y ∈ l,y.b.length<=3000
 | [],_,_,_,y,hy=>by simp at hy
 | x::l,d,m,h,y,hy=>by
  rw[Zbk]at h
  split at h
  ·omega
  ·rename_i hm
   have h1:0<=Za7 x d m:=by
    rcases Int.lt_or_le (Za7 x d m) 0 with h2|h2
    ·exfalso
     cases l with
     | nil=>rw[Zbk]at h;omega
     | cons y l=>rw[Zbk,if_pos h2]at h;omega
    ·exact h2
   rcases List.mem_cons.1 hy with rfl|hy
   ·obtain⟨k,n,b,r⟩:=y
    rw[Za7]at h1
    split at h1
    ·omega
    ·split at h1
     ·omega
     ·simp only[It.b];omega
   ·exact Zj2 l d _ h y hy
theorem ZiR {x:It}(h:0<=Za7 x 1 300)(hn:nI x):wfI x/\x.l.length<=1000000/\(∀ y ∈ x.l,y.b.length<=3000)/\∀ s m,s=1\/s=2->(Za9 (ZaR s (x.l.take m))).length<=1000000000:=by
 have hw:=(ZcT x 1 300 (by omega) h hn).1
 obtain⟨k,n,b,l⟩:=x
 rw[Za7]at h
 split at h
 ·omega
 split at h
 ·omega
 have h2:0<=Zbk l 2 299:=h
 have hs:=ZfJ l 2 299 (by omega) h2 hn.2
 have hlt:Zbk l 2 299<=299:=(Zc5 l 2 299 (by omega)).1
 refine⟨hw,?_,Zj2 l 2 299 h2,fun s m hsm=>?_⟩
 ·have:=hs.2.2.1
  simp only[It.l]
  omega
 ·have h0:=Zev 4 0 [] (l.take m++[.mk 2 0 (List.replicate (2*s) 0) []])
  have h3:=Zev 2 0 (List.replicate (2*s) 0) []
  have h4:=ZaO l m
  have h5:∀(a c:List It),Zba (a++c)=Zba a++Zba c:=fun a c=>by
   induction a with
   | nil=>rfl
   | cons y a ih=>rw[List.cons_append,Zba,Zba,ih,List.append_assoc]
  rw[h5]at h0
  simp only[Zba,List.length_append,List.length_nil,List.length_replicate,Nat.add_zero,Nat.zero_add]at h0 h3
  have h6:=hs.2.1
  show(Za9 (.mk 4 0 [] (l.take m++[.mk 2 0 (List.replicate (2*s) 0) []]))).length<=1000000000
  omega
end Go.Proofs.YtakblclkflnnpaaGreatDoor
end
section
open Go.RowKit Go.Pl Go.Av
namespace Go.Proofs.YtakblclkflnnpaaGreatDoor
set_option maxHeartbeats 4000000
theorem ZnR (k:Int)(n:Nat)(b:List UInt8)(l:List It):(Zba l).length<=(Za9 (.mk k n b l)).length:=by
 rw[Za9,List.length_append,List.length_append]
 omega
mutual
theorem Zj3:∀(x:It) (d:Nat) (m:Int),0<=Za7 x d m->(ZbL x:Int)<=m-Za7 x d m
 | .mk k n b l,d,m,h=>by
  rw[Za7]at h ⊢
  split at h
  ·omega
  split at h
  ·omega
  rename_i h1 h2
  rw[if_neg h1,if_neg h2]
  have:=Zh7 l (d+1) (m-1) h
  rw[ZbL]
  omega
theorem Zh7:∀(l:List It) (d:Nat) (m:Int),0<=Zbk l d m->(Zbg l:Int)<=m-Zbk l d m
 | [],_,m,h=>by simp[Zbk,Zbg]
 | x::l,d,m,h=>by
  rw[Zbk]at h ⊢
  split at h
  ·omega
  rename_i h1
  rw[if_neg h1]
  have h0:0<=Za7 x d m:=by
   rcases Int.lt_or_le (Za7 x d m) 0 with hlt|hge
   ·have:=Zc5 l d (Za7 x d m) (by have:=Zc4 x d m (by omega);omega);omega
   ·exact hge
  have q:=Zj3 x d m h0
  have r:=Zh7 l d _ h
  rw[Zbg]
  omega
end
theorem Zmi {x:It}(h:0<=Za7 x 1 300)(hn:nI x):wfI x/\x.l.length<=1000000/\Zbg x.l<=900/\(∀ y ∈ x.l,y.b.length<=3000)/\(∀ s m,s<=2->(Za9 (ZaR s (x.l.take m))).length<=1000000000)/\ZbK x 11=true:=by
 obtain⟨h1,h2,h3,h4⟩:=ZiR h hn
 have hs:=Zj3 x 1 300 h
 obtain⟨_,_,_,hd⟩:=ZcT x 1 300 (by omega) h hn
 refine⟨h1,h2,?_,h3,fun s m hs2=>?_,ZeF x 9 11 hd (by omega)⟩
 ·obtain⟨k,n,b,l⟩:=x
  rw[ZbL]at hs
  show Zbg l<=900
  omega
 ·match s,hs2 with
  | 0,_=>
   have h5:=h4 1 m (.inl rfl)
   have p:=Zev 4 0 [] (x.l.take m++[.mk 2 0 (List.replicate (2*0) 0) []])
   have q:=ZnR 4 0 [] (x.l.take m++[.mk 2 0 (List.replicate (2*1) 0) []])
   have e:∀ y:List It,Zba (x.l.take m++y)=Zba (x.l.take m)++Zba y:=fun y=>Zdf _ _
   rw[e]at p q
   have r:(Zba [It.mk 2 0 (List.replicate (2*0) 0) []]).length<=20:=by decide
   unfold ZaR at h5 ⊢
   have h6:(Za9 (.mk 4 0 [] (x.l.take m++[.mk 2 0 (List.replicate (2*1) 0) []]))).length<=3009*400:=by
    have hp:=(ZcT x 1 300 (by omega) h hn).2.1
    obtain⟨k,n,b,l⟩:=x
    have h7:=ZaO l m
    have h8:=ZnR k n b l
    have h9:=Zev 4 0 [] (l.take m++[.mk 2 0 (List.replicate (2*1) 0) []])
    have h10:Zba (l.take m++[.mk 2 0 (List.replicate (2*1) 0) []])=Zba (l.take m)++Zba [.mk 2 0 (List.replicate (2*1) 0) []]:=Zdf _ _
    have r2:(Zba [It.mk 2 0 (List.replicate (2*1) 0) []]).length<=20:=by decide
    rw[h10]at h9
    simp only[List.length_append,List.length_nil,It.l]at h9 ⊢
    omega
   simp only[List.length_append,List.length_nil]at p q h6 ⊢
   omega
  | s+1,hs2=>exact h4 (s+1) m (by omega)
end Go.Proofs.YtakblclkflnnpaaGreatDoor
end
section
open Go.RowKit Go.Pl Go.Av
namespace Go.Proofs.YtakblclkflnnpaaGreatDoor
set_option maxHeartbeats 4000000
def a0:BlkV:=⟨7,3,0,2,[25,1,244]⟩
def x1:It:=.mk 4 0 [] [.mk 0 7 [] [],.mk 0 3 [] [],.mk 0 0 [] [],.mk 0 2 [] [],.mk 2 0 [25,1,244] [],.mk 2 0 [94,237,141,204] []]
def c0:BlkV:=⟨10,4,0,0,[130,9,2]⟩
theorem f1:ofV 7 3 2 (.mk 0 500 [] []) 0=(a0,0):=by kernel_rfl
theorem f2:ZcU a0=(x1,0):=by kernel_rfl
theorem f3:Zf7 x1=(a0,0):=by kernel_rfl
theorem f4:ZkC a0 7=0:=by kernel_rfl
theorem f4':(ZiA [25,1,244]).1=500:=by kernel_rfl
theorem f5:ZkC a0 10=4:=by kernel_rfl
theorem f6:ofV 10 4 0 (Znu 9 2) 0=(c0,0):=by kernel_rfl
theorem f7:ZkC c0 10=0:=by kernel_rfl
theorem f7':ZcX [130,9,2]=(9,2,true):=by kernel_rfl
theorem f8:ofV 10 4 0 (Znu 9 10) 0=(bk0,3):=by kernel_rfl
theorem f9:ZeX a0 a0=true:=by kernel_rfl
theorem ZqK:wfI x1:=by simp[x1,wfI,wfs]
theorem ZpR (s m:Nat)(hs:s=1\/s=2):(Za9 (ZaR s (x1.l.take m))).length<=1000000000:=by
 have hw:∀ y ∈ x1.l.take m,y ∈ x1.l:=fun y h=>List.mem_of_mem_take h
 have h6:m=0\/m=1\/m=2\/m=3\/m=4\/m=5\/x1.l.take m=x1.l:=by
  rcases Nat.lt_or_ge m 6 with h|h
  ·omega
  ·exact .inr (.inr (.inr (.inr (.inr (.inr (List.take_of_length_le h))))))
 rcases h6 with h|h|h|h|h|h|h
 all_goals
  first|rw[h]|skip
  rcases hs with rfl|rfl
  all_goals decide +kernel
abbrev a0C:D:=.agg [.int .u64 7,.int .u64 3,.int .u64 0,.int .i64 2,byE [25,1,244]]
abbrev c0C:D:=.agg [.int .u64 10,.int .u64 4,.int .u64 0,.int .i64 0,byE [130,9,2]]
abbrev z5C:D:=.agg [.int .u64 0,.int .u64 0,.int .u64 0,.int .i64 0,.sl .ext []]
abbrev x1C:D:=.agg [.int .i64 4,.int .u64 0,.sl .ext [],.sl .ext (Zax x1.l)]
theorem fx1 [Known][KnownU8]:AP Tryz.prog 43 [.int .u64 3,.int .i64 2,.int .u64 500] (.tup [a0C,.int .i64 0]) []:=by
 have h:=Znt 3 2 500 (by decide)
 rw[f1]at h
 exact h
theorem fx2 [Known][KnownU8]:AP Tryz.prog 26 [a0C] (.tup [x1C,.int .i64 0]) []:=by
 have h:=ZfX a0 (by decide) (by decide)
 rw[f2]at h
 exact h
theorem fx3 [Known][KnownU8]:AP Tryz.prog 27 [x1C] (.tup [a0C,.int .i64 0]) []:=by
 have h:=Zj0 x1 ZqK (by decide) (fun s m hs=>ZpR s m hs) (by decide)
 rw[f3]at h
 exact h
theorem fx4 [Known][KnownU8]:AP Tryz.prog 35 [a0C] (.tup [.int .u64 500,.int .i64 0]) []:=by
 have h:=Znv a0 (by decide)
 rw[f4]at h
 replace h:AP Tryz.prog 35 [a0C] (.tup [.int .u64 (((ZiA [25,1,244]).1:Nat):Int),.int .i64 0]) []:=h
 rw[f4']at h
 exact h
theorem fx5 [Known][KnownU8]:AP Tryz.prog 36 [a0C] (.tup [.int .u64 0,.int .u64 0,.int .i64 4]) []:=by
 have h:=Zh3 a0 (by decide)
 rw[f5]at h
 exact h
theorem fx6 [Known][KnownU8]:AP Tryz.prog 44 [.int .u64 4,.int .i64 0,.int .u64 9,.int .u64 2] (.tup [c0C,.int .i64 0]) []:=by
 have h:=Zh2 4 0 9 2 (by decide) (by decide)
 rw[f6]at h
 exact h
theorem fx7 [Known][KnownU8]:AP Tryz.prog 36 [c0C] (.tup [.int .u64 9,.int .u64 2,.int .i64 0]) []:=by
 have h:=Zh3 c0 (by decide)
 rw[f7]at h
 replace h:AP Tryz.prog 36 [c0C] (.tup [.int .u64 (((ZcX [130,9,2]).1:Nat):Int),.int .u64 (((ZcX [130,9,2]).2.1:Nat):Int),.int .i64 0]) []:=h
 rw[f7']at h
 exact h
theorem fx8 [Known][KnownU8]:AP Tryz.prog 44 [.int .u64 4,.int .i64 0,.int .u64 9,.int .u64 10] (.tup [z5C,.int .i64 3]) []:=by
 have h:=Zh2 4 0 9 10 (by decide) (by decide)
 rw[f8]at h
 exact h
theorem fx9 [Known]:AP Tryz.prog 32 [a0C,a0C] (.bool true) []:=by
 have h:=Zh4 a0 a0
 rw[f9]at h
 exact h
theorem Zmj [Known][KnownU8]:AP Tryz.prog 24 [] (.bool true) []:=by
 have h1:=fx1
 have h2:=fx2
 have h3:=fx3
 have h4:=fx4
 have h5:=fx5
 have h6:=fx6
 have h7:=fx7
 have h8:=fx8
 have h9:=fx9
 generalize Zax x1.l=XL at *
 refine AP.ofA ?_
 refine Zan Tryz.func24 rfl Tryz.ntmps24 rfl rfl ?_
 repeat'(first|(apply Zaa (h1);kernel_rfl;(iterate 4 exact Z))|(apply Zaa (h2);kernel_rfl;(iterate 4 exact Z))|(apply Zaa (h3);kernel_rfl;(iterate 4 exact Z))|(apply Zaa (h4);kernel_rfl;(iterate 4 exact Z))|(apply Zaa (h5);kernel_rfl;(iterate 4 exact Z))|(apply Zaa (h6);kernel_rfl;(iterate 4 exact Z))|(apply Zaa (h7);kernel_rfl;(iterate 4 exact Z))|(apply Zaa (h8);kernel_rfl;(iterate 4 exact Z))|(apply Zaa (h9);kernel_rfl;(iterate 4 exact Z))|(apply Zcs Zab;(iterate 9 exact Z))|(apply Zaj Zab;exact Z)|(apply Zah Zab;exact Z)|(apply Zae;(iterate 3 exact Z);exact Go.ZrJ)|(apply Zak;exact Z;exact Go.ZrJ;exact Z;exact Z)|(apply Zcs Zab;(iterate 9 exact Z)))
 all_goals(apply Zaw [];(apply Zad Zab;exact Z);(iterate 4 exact Z))
 all_goals rfl
theorem Zh8 (b:BlkV):ZbK (Zb6 b) 10=true:=by
 unfold Zb6 ZbE
 have h:∀ x:List It,Zb1 x 9=true->ZbK (.mk 4 0 [] (ZbR b++x)) 10=true:=fun x hx=>by
  rw[ZbK,ZdH,hx]
  simp[ZbR,Zb1,ZbK]
 split
 ·have:=h [] rfl
  rw[List.append_nil]at this
  exact this
 ·split
  ·exact h [_] (by simp[Zb1,ZbK])
  ·rfl
theorem Zf8 [Known][KnownU8](b c:BlkV)(x:It)(hfb:b.fl<18446744073709551616)(hfc:c.fl<18446744073709551616)(hx:nI x):AP Tryz.prog 4 [.agg (bkC b),.agg (bkC c),itD x] (.bool true) []:=by
 have hA:=Zmj
 cases t1:decide (((b.data.map E.byte).length:Int)>400) with
 | true=>
  obtain⟨k,n,bb,l⟩:=x
  exact Zrl b.ty b.num b.fl c.ty c.num c.fl b.sum c.sum b.data c.data k n bb l hA t1
 | false=>
 cases t2:decide (((c.data.map E.byte).length:Int)>400) with
 | true=>
  obtain⟨k,n,bb,l⟩:=x
  exact Zrm b.ty b.num b.fl c.ty c.num c.fl b.sum c.sum b.data c.data k n bb l hA t1 t2
 | false=>
 have hG:=ZmX x 1 300 (by omega) (by omega) (by omega)
 have hall:=fun h=>Zmi (x:=x) h hx
 generalize Za7 x 1 300=g at *
 cases t3:decide (g<0) with
 | true=>
  obtain⟨k,n,bb,l⟩:=x
  exact Zrn b.ty b.num b.fl c.ty c.num c.fl b.sum c.sum b.data c.data k n bb l g hA t1 t2 hG t3
 | false=>
 have hg0:0<=g:=by have:=of_decide_eq_false t3;omega
 obtain⟨hw,hxl,hsz,hb,hlim,hdeep⟩:=hall hg0
 have hbd:b.data.length<=400:=by have:=of_decide_eq_false t1;rw[List.length_map]at this;omega
 have hSb:=Zmc b
 have hSc:=Zmc c
 have hSp:=Zmc (Zf7 x).1
 have hRd:=Zj0 x hw hxl (fun s m hs=>hlim s m (by omega)) hb
 have hAx:=ZpC x hw 10 hdeep (by omega)
 have hDd:=Zmh x hw hxl hsz hlim hb
 have hSame:=Zh6 (Zf7 x).1 (Zf7 x).1
 rw[ZiP]at hSame
 have hC1:=Zh4 b c
 have hC2:=Zh6 b c
 have hW:=ZfX b hfb (by omega)
 have hR1:=ZdI b (by omega)
 have hR2:=Zh1 b hfb (by omega)
 generalize Zf7 x=r at *
 obtain⟨⟨pty,pnum,pfl,psum,pd⟩,f⟩:=r
 generalize ZeX b c=q at *
 cases hr:Zbh b with
 | false=>
  rw[hr]at hR1 hR2
  rw[Zh5 hr]at hW
  obtain⟨k,n,bb,l⟩:=x
  exact Zro b.ty b.num b.fl c.ty c.num c.fl b.sum c.sum b.data c.data k n bb l g f q pty pnum pfl psum pd hA t1 t2 hG t3 hSb hSc hSp hRd hAx hDd hSame hC1 hC2 (by simp) hW hR1 hR2
 | true=>
  have hwy:=ZgC hr hfb
  have hAy:=ZpC (Zb6 b) hwy 9 (Zh8 b) (by omega)
  have hWr:=ZgD b hr hfb
  have hFin:=ZbJ (Zb6 b) hwy (Zb6 b) hwy
  rw[It.beq_iff.2 rfl]at hFin
  rw[hr]at hR1 hR2
  rw[Zg4 hr]at hW
  generalize Zb6 b=y at *
  obtain⟨yk,yn,yb,yl⟩:=y
  obtain⟨k,n,bb,l⟩:=x
  exact Zrp b.ty b.num b.fl c.ty c.num c.fl b.sum c.sum b.data c.data k n bb l g f q pty pnum pfl psum pd yk yn yb yl hA t1 t2 hG t3 hSb hSc hSp hRd hAx hDd hSame hC1 hC2 (by simp) hW hR1 hR2 hAy hWr hFin
end Go.Proofs.YtakblclkflnnpaaGreatDoor
end
section
open Go.RowKit Go.Pl
namespace Go.Pl
def Zj4 {α:Type}(P:Program)(fs:Array Field)(i o:Nat)(R:Rep α):Prop:=
 ∀(H:Type) (enc:TypeId × Value->H) (W:World) (spare:Nat->Bool) (held:Bool) (n:Nat) (cs:List Value) (xs:List (DataW H × List MemPlace)),cs.length=o+R.n->xs.length=fs.size ->
  (∀(j:Nat) (f:Field),fs[j]?=some f->DataW.trod enc P W 0 spare held n f.type ((cs.drop f.offset).take (P.cellsOf f.type))=xs[j]?)->∃ x,R.ok W (· < W.heap.size) (cs.drop o) x
variable {P:Program} {t:TypeId} {fs:Array Field}
theorem Zh9 {α:Type}{R:Rep α}{i o:Nat}{f:Field}(hf:fs[i]?=some f)(ho:f.offset=o)(hc:P.cellsOf f.type=R.n)(h:Zdt P f.type R){H:Type}{enc:TypeId × Value->H}{W:World}{spare:Nat->Bool}{held:Bool}{n:Nat}{cs:List Value}{xs:List (DataW H × List MemPlace)}(hl:xs.length=fs.size)
  (hg:∀(j:Nat) (f:Field),fs[j]?=some f->DataW.trod enc P W 0 spare held n f.type ((cs.drop f.offset).take (P.cellsOf f.type))=xs[j]?):∃ x,R.ok W (· < W.heap.size) ((cs.drop o).take R.n) x:=by
 have e:=hg i f hf
 rw[ho,hc]at e
 have hi:i<xs.length:=by
  rw[hl]
  exact(Array.getElem?_eq_some_iff.1 hf).1
 exact h H enc W spare held n _ _ (e.trans (List.getElem?_eq_getElem hi))
theorem Zkx {α:Type}{R:Rep α}{i o:Nat}{f:Field}(hf:fs[i]?=some f)(ho:f.offset=o)(hc:P.cellsOf f.type=R.n)(h:Zdt P f.type R):Zj4 P fs i o R:=by
 intro H enc W spare held n cs xs hcl hl hg
 obtain⟨x,hx⟩:=Zh9 hf ho hc h hl hg
 rw[List.take_of_length_le (by rw[List.length_drop];omega)]at hx
 exact⟨x,hx⟩
theorem Zdm {α β:Type}{R:Rep α}{R':Rep β}{i o:Nat}{f:Field}(hf:fs[i]?=some f)(ho:f.offset=o)(hc:P.cellsOf f.type=R.n)(h:Zdt P f.type R)(h':Zj4 P fs (i+1) (o+R.n) R'):Zj4 P fs i o (R.prod R'):=by
 intro H enc W spare held n cs xs hcl hl hg
 obtain⟨x,hx⟩:=Zh9 hf ho hc h hl hg
 have hn:(R.prod R').n=R.n+R'.n:=rfl
 obtain⟨x',hx'⟩:=h' H enc W spare held n cs xs (by rw[hn]at hcl;omega) hl hg
 refine⟨(x,x'),(cs.drop o).take R.n,(cs.drop o).drop R.n,(List.take_append_drop _ _).symm,hx,?_⟩
 rw[List.drop_drop]
 exact hx'
theorem Zia {α:Type}{R:Rep α}(hs:P.underlying t=some (.struct fs))(hc:P.cellsOf t=R.n)(h:Zj4 P fs 0 0 R):Zdt P t R:=by
 intro H enc W spare held fuel cs y hy
 obtain⟨xs,n,_,_,hl,hxl,hg⟩:=DataW.trod_struct hs hy
 exact h H enc W spare held n cs xs (by omega) hxl hg
end Go.Pl
end
section
open Go.RowKit Go.Pl Go.Av
namespace Go.Proofs.YtakblclkflnnpaaGreatDoor
set_option maxHeartbeats 4000000
abbrev RB:Rep (Nat × Nat × Nat × Int × List UInt8):=Rep.u64.prod (Rep.u64.prod (Rep.u64.prod (Rep.i64.prod (Rep.slice Rep.byte (by decide)))))
theorem ZpS:Zdt Tryz.prog 58 RB:=
 Zia Tryz.underlying58 (by kernel_rfl) (Zdm rfl rfl (by kernel_rfl) (Zd1 Tryz.underlying22) (Zdm rfl rfl (by kernel_rfl) (Zd1 Tryz.underlying22)
  (Zdm rfl rfl (by kernel_rfl) (Zd1 Tryz.underlying22) (Zdm rfl rfl (by kernel_rfl) (Zg8 Tryz.underlying3)
   (Zkx rfl rfl (by kernel_rfl) (Zfd (R:=Rep.byte) (by decide) Tryz.underlying29 (by kernel_rfl) (Zf9 Tryz.underlying5)))))))
abbrev XB:=Nat × Nat × Nat × Int × List UInt8
def XB.v (x:XB):BlkV:=⟨x.1,x.2.1,x.2.2.1,x.2.2.2.1,x.2.2.2.2⟩
theorem ZqY [Known]{W:World}{cs:List Value}{x:XB}(h:RB.ok W (· < W.heap.size) cs x):V W (g0 W) [] (.agg (bkC x.v)) (.agg cs.toArray):=by
 obtain⟨ty,num,fl,sum,data⟩:=x
 have toE_b:=ToE.u64.prod (ToE.u64.prod (ToE.u64.prod (ToE.i64.prod (ToE.byte.slice (by decide)))))
 exact ToE.agg toE_b (l:=[.int .u64 (ty:Int),.int .u64 (num:Int),.int .u64 (fl:Int),.int .i64 sum,.sl (data.map E.byte)]) rfl h
theorem ZnS {W:World}{S:Nat->Prop}{cs:List Value}{x:XB}(h:RB.ok W S cs x):x.v.fl<18446744073709551616:=by
 obtain⟨ty,num,fl,sum,data⟩:=x
 obtain⟨c0,c1,rfl,h0,h1⟩:=h
 obtain⟨c2,c3,rfl,h2,h3⟩:=h1
 obtain⟨c4,c5,rfl,h4,h5⟩:=h3
 exact h4.2
end Go.Proofs.YtakblclkflnnpaaGreatDoor
end
section
open Go.RowKit Go.Pl Go.Av
namespace Go.Proofs.YtakblclkflnnpaaGreatDoor
def ZrI {α β:Type}(R:Rep α)(f:β->α):Rep β where
 n:=R.n
 ok:=fun w S cs x=>R.ok w S cs (f x)
 len:=R.len
 one:=R.one
 frame:=R.frame
 mono:=R.mono
 lt:=R.lt
def ZqL:Rep It where
 n:=4
 ok:=fun _ _ _ _=>False
 len:=fun h=>h.elim
 one:=fun h=>h.elim
 frame:=fun _ h=>h
 mono:=fun _ h=>h
 lt:=fun h=>h
def RI:Nat -> {R:Rep It // R.n=4}
 | 0=>⟨ZqL,rfl⟩
 | m+1=>⟨ZrI (Rep.i64.prod (Rep.u64.prod ((Rep.slice Rep.byte (by decide)).prod (Rep.slice (RI m).1 (by rw[(RI m).2];decide))))) fun x=>(x.k,x.n,x.b,x.l),rfl⟩
theorem Zj5:∀ m:Nat,ToE (RI m).1 itE
 | 0=>⟨fun _ _ _ _ _ _ h=>h.elim⟩
 | m+1=>⟨fun w S C cs x hC h=>by
  have h0:=((ToE.i64.prod (ToE.u64.prod ((ToE.byte.slice (by decide)).prod ((Zj5 m).slice (by rw[(RI m).2];decide))))).cells w S C cs (x.k,x.n,x.b,x.l) hC h)
  obtain⟨k,n,b,l⟩:=x
  have e:(itE (.mk k n b l)).cells=[.int .i64 k,.int .u64 (n:Int),.sl (b.map E.byte),.sl (l.map itE)]:=by rw[<- ZaI];rfl
  rw[e]
  exact h0⟩
theorem Zmk {α:Type}{R:Rep α}{w:World}{S:Nat->Prop}:∀ {l:List α} {cs:List Value},Run R w S cs l->∀ x ∈ l,∃ cs',R.ok w S cs' x
 | [],_,_,x,hx=>nomatch hx
 | y::l,cs,h,x,hx=>by
  obtain⟨c1,c2,_,h1,h2⟩:=h
  rcases List.mem_cons.1 hx with rfl|hx
  ·exact⟨c1,h1⟩
  ·exact Zmk h2 x hx
theorem ZnT:∀ {l:List It},(∀ x ∈ l,nI x)->nIs l
 | [],_=>trivial
 | x::l,h=>⟨h x (List.mem_cons_self ..),ZnT fun y hy=>h y (List.mem_cons_of_mem _ hy)⟩
theorem Zml:∀(m:Nat) {w:World} {S:Nat->Prop} {cs:List Value} {x:It},(RI m).1.ok w S cs x->nI x
 | 0,_,_,_,_,h=>h.elim
 | m+1,w,S,cs,x,h=>by
  obtain⟨k,n,b,l⟩:=x
  obtain⟨_,_,_,_,_,_,_,⟨_,hn⟩,_,_,_,_,v,_,A,cap,_,_,_,cs',hr,_⟩:=h
  exact⟨hn,ZnT fun y hy=>let⟨c,hc⟩:=Zmk hr y hy;Zml m hc⟩
variable {P:Program} {t:TypeId}
theorem Zib {α:Type}{R:Rep α}{e:TypeId}(hR:0<R.n)(ht:P.underlying t=some (.slice e))(hc:P.cellsOf e=R.n){H:Type}{enc:TypeId × Value->H}{W:World}{spare:Nat->Bool}{held:Bool}{fuel:Nat}{cs:List Value}{y:DataW H × List MemPlace}
  (he:∀(f:Nat) (cs:List Value) (y:DataW H × List MemPlace),f<fuel->DataW.trod enc P W 0 spare held f e cs=some y->∃ x,R.ok W (· < W.heap.size) cs x) (h:DataW.trod enc P W 0 spare held fuel t cs=some y):∃ x,(Rep.slice R hR).ok W (· < W.heap.size) cs x:=by
 rcases DataW.trod_slice ht h with⟨rfl,_⟩ | ⟨a,len,cap,elems,rest,n,hn,rfl,_,_,hl,hm,hlen,hi,_,_⟩
 ·exact⟨[],_,rfl,Sl.nil _ _ _⟩
 ·rw[hc]at hi
  have key:∀ k,k<=len->∃(l:List α) (cs:List Value),l.length=k/\Run R W (· < W.heap.size) cs l/\∀ j,j<cs.length->W.cell? (a.add j)=cs[j]? := by
   intro k
   induction k with
   | zero=>intro _;exact⟨[],[],rfl,rfl,fun j hj=>by simp at hj⟩
   | succ k ih=>
    intro hk
    obtain⟨l,cs,hll,hr,hcc⟩:=ih (by omega)
    have hik:=hi k (by omega)
    rw[List.getElem?_eq_getElem (by omega)]at hik
    obtain⟨cs',hcs',ht'⟩:=Option.bind_eq_some_iff.1 hik
    obtain⟨x,hx⟩:=he n cs' _ (by omega) ht'
    obtain⟨_,hcl,hat⟩:=World.cells?_some hcs'
    refine⟨l++[x],cs++cs',by simp[hll],hr.append (Run.single hx),fun j hj=>?_⟩
    have hlen:=hr.length
    rw[hll]at hlen
    rcases Nat.lt_or_ge j cs.length with h1|h1
    ·rw[List.getElem?_append_left h1];exact hcc j h1
    ·rw[List.getElem?_append_right h1]
     have h2:j-cs.length<R.n:=by rw[List.length_append,hcl]at hj;omega
     have:=hat (j-cs.length) h2
     rw[Go.Deep.add_add]at this
     rw[<- this]
     congr 2
     omega
  obtain⟨l,cs,hll,hr,hcc⟩:=key len (Nat.le_refl _)
  subst hll
  refine⟨l,_,rfl,some a,cap,rfl,hl,hm,cs,hr,fun hne=>?_⟩
  have hlen:=hr.length
  have hpos:0<cs.length:=by rw[hlen];exact Nat.mul_pos (List.length_pos_iff.2 hne) hR
  obtain⟨b,off,spot⟩:=a
  have h0:=(hcc 0 hpos).trans (List.getElem?_eq_getElem hpos)
  have hspot:spot=none:=by simpa[Addr.add]using World.cell?_spot h0
  subst hspot
  refine⟨b,off,rfl,World.block_lt_of_cell? W _ (by simpa[Addr.add]using h0),fun j hj=>?_⟩
  rw[<- hcc j hj]
  congr 1
  unfold Addr.add;split<;>simp_all
theorem Zky {fs:Array Field}{f0 f1 f2 f3:Field}(hs:P.underlying t=some (.struct fs))(hfs:fs = #[f0,f1,f2,f3])(hc:P.cellsOf t=4)
  (h00:f0.offset=0) (h01:f1.offset=1) (h02:f2.offset=2) (h03:f3.offset=3) (hc0:P.cellsOf f0.type=1) (hc1:P.cellsOf f1.type=1) (hc2:P.cellsOf f2.type=1) (hc3:P.cellsOf f3.type=1)
  (h0:Zdt P f0.type Rep.i64) (h1:Zdt P f1.type Rep.u64) (h2:Zdt P f2.type (Rep.slice Rep.byte (by decide))) (h3:P.underlying f3.type=some (.slice t))
  {H:Type} {enc:TypeId × Value->H} {W:World} {spare:Nat->Bool} {held:Bool}:∀(fuel:Nat) (cs:List Value) (y:DataW H × List MemPlace),DataW.trod enc P W 0 spare held fuel t cs=some y->∀ j,fuel<=j->∃ x,(RI j).1.ok W (· < W.heap.size) cs x:=by
 intro fuel
 induction fuel using Nat.strongRecOn with
 | _ fuel ih=>
  intro cs y h j hj
  obtain⟨xs,n,hn,_,hl,hxl,hg⟩:=DataW.trod_struct hs h
  subst hfs
  obtain⟨j,rfl⟩:∃ i,j=i+1:=⟨j-1,by omega⟩
  have e0:=hg 0 f0 rfl
  have e1:=hg 1 f1 rfl
  have e2:=hg 2 f2 rfl
  have e3:=hg 3 f3 rfl
  rw[hc]at hl
  match cs,hl with
  | [v0,v1,v2,v3],_=>
  rw[h00,hc0]at e0
  rw[h01,hc1]at e1
  rw[h02,hc2]at e2
  rw[h03,hc3]at e3
  have hn4:xs.length=4:=hxl
  obtain⟨k,hk⟩:=h0 H enc W spare held n _ _ (e0.trans (List.getElem?_eq_getElem (by omega)))
  obtain⟨m,hm⟩:=h1 H enc W spare held n _ _ (e1.trans (List.getElem?_eq_getElem (by omega)))
  obtain⟨b,hb⟩:=h2 H enc W spare held n _ _ (e2.trans (List.getElem?_eq_getElem (by omega)))
  obtain⟨l,hll⟩:=Zib (R:=(RI j).1) (by rw[(RI j).2];decide) h3 (by rw[hc,(RI j).2]) (fun f cs y hf hy=>ih f (by omega) cs y hy j (by omega)) (e3.trans (List.getElem?_eq_getElem (by omega)))
  exact⟨.mk k m b l,[v0],[v1,v2,v3],rfl,hk,[v1],[v2,v3],rfl,hm,[v2],[v3],rfl,hb,hll⟩
end Go.Proofs.YtakblclkflnnpaaGreatDoor
end
section
open Go.RowKit Go.Pl Go.Av
namespace Go.Proofs.YtakblclkflnnpaaGreatDoor
theorem ZpT {W:World}{cs:List Value}{x:It}{m:Nat}(h:(RI m).1.ok W (· < W.heap.size) cs x):V W (g0 W) [] (itD x) (.agg cs.toArray):=by
 obtain⟨k,n,b,l⟩:=x
 have h1:=ToE.agg (Zj5 m) (l:=[.int .i64 k,.int .u64 (n:Int),.sl (b.map E.byte),.sl (Zax l)]) (hf:=rfl) h
 exact h1
end Go.Proofs.YtakblclkflnnpaaGreatDoor
end
section
open Go.RowKit Go.Pl Go.Av Go.Lib
namespace Go.Proofs.YtakblclkflnnpaaGreatDoor
theorem Zf1 (k:IntKind):∀ zs:List Int,ZkA (zs.map fun z=>.lit (.int k z))=zs.map fun z=>Value.int k z
 | []=>rfl
 | z::zs=>by rw[List.map_cons,List.map_cons,ZkA,Zf1 k zs];rfl
theorem Zj6 {P:Program}{W:World}{n:String}{g:Nat}{t:TypeId}{d:DataW Unit}(hg:P.globalNamed n=some g)(ht:(P.globals[g]?).map (·.type)=some t)(h:VarReads P W n d)
  (key:∀(fuel:Nat) (cs:List Value) (p:List MemPlace),DataW.trod (fun _=>()) P W 0 (fun _=>true) false fuel t cs=some (d,p)->∀(j:Nat) (v:Value),(dcs d)[j]?=some v->cs[j]?=some v) :
  ∀(j:Nat) (v:Value),(dcs d)[j]?=some v->(g0 W).C g j/\W.cell? ⟨g,j,none⟩=some v:=by
 obtain⟨g',t',cs,fuel,p,h1,h2,h3,h4⟩:=h
 obtain rfl:=Option.some.inj (hg.symm.trans h1)
 obtain rfl:=Option.some.inj (ht.symm.trans h2)
 intro j v hv
 have hc:=key fuel cs.toList p h4 j v hv
 have hcell:W.cell? ⟨g,j,none⟩=some v:=by
  rw[World.var?_cell hg h3 j,<- Array.getElem?_toList];exact hc
 exact⟨World.block_lt_of_cell? W _ hcell,hcell⟩
theorem ZoY {P:Program}{W:World}{t e:TypeId}{n:Nat}{k:IntKind}{d:DataW Unit}(zs:List Int)(hd:d=tabData k zs)(ht:P.underlying t=some (.array n e))(he:P.underlying e=some (.int k))(hce:P.cellsOf e=1)(hct:P.cellsOf t=n) :
  ∀(fuel:Nat) (cs:List Value) (p:List MemPlace),DataW.trod (fun _=>()) P W 0 (fun _=>true) false fuel t cs=some (d,p)->∀(j:Nat) (v:Value),(dcs d)[j]?=some v->cs[j]?=some v:=by
 subst hd
 intro fuel cs p h j v hv
 rw[cells_of_tab ht he hce hct h]
 rw[tabData,dcs,Zf1]at hv
 exact hv
theorem ZoZ {P:Program}{W:World}{t e:TypeId}{n:Nat}{k:IntKind}{d:DataW Unit}{fs:Array Field}(rows:List (List Int))(hd:d=.agg (rows.map fun r=>.agg (r.map fun z=>.lit (.int k z))))(hn:rows.length=n)(ht:P.underlying t=some (.array n e))(he:P.underlying e=some (.struct fs))
  (hf:∀(i:Nat) (f:Field),fs[i]?=some f->P.underlying f.type=some (.int k)/\f.offset=i/\P.cellsOf f.type=1) (hce:P.cellsOf e=fs.size) :
  ∀(fuel:Nat) (cs:List Value) (p:List MemPlace),DataW.trod (fun _=>()) P W 0 (fun _=>true) false fuel t cs=some (d,p)->∀(j:Nat) (v:Value),(dcs d)[j]?=some v->cs[j]?=some v:=by
 subst hd
 intro fuel cs p h j v hv
 have key:∀ i,i<=n->cs.take (i*fs.size)=ZkA ((rows.take i).map fun r=>.agg (r.map fun z=>.lit (.int k z))):=by
  intro i
  induction i with
  | zero=>intro _;rw[Nat.zero_mul,List.take_zero,List.take_zero];rfl
  | succ i ih=>
   intro hi
   obtain⟨fuel',d',q,hdi,he'⟩:=array_elem ht h i (by omega)
   rw[List.getElem?_map,List.getElem?_eq_getElem (by omega:i<rows.length)]at hdi
   simp only[Option.map_some,Option.some.injEq]at hdi
   subst hdi
   rw[hce]at he'
   have hcs:=ints_of_struct he hf hce he'
   rw[Nat.succ_mul,List.take_add,ih (by omega),hcs,List.take_succ_eq_append_getElem (by omega:i<rows.length),List.map_append]
   have app:∀(a b:List (DataW Unit)),ZkA (a++b)=ZkA a++ZkA b:=fun a b=>by
    induction a with
    | nil=>rfl
    | cons x a ih=>rw[List.cons_append,ZkA,ZkA,ih,List.append_assoc]
   rw[app,List.map_cons,List.map_nil,ZkA,dcs,Zf1]
   simp[ZkA]
 have h2:=key n (Nat.le_refl _)
 rw[<- hn,List.take_length]at h2
 rw[dcs,<- h2]at hv
 rw[List.getElem?_take]at hv
 split at hv
 ·exact hv
 ·cases hv
abbrev ZdJ:Known:=⟨[0,1]⟩
theorem Zkz : @KnownU8 ZdJ:=@KnownU8.mk ZdJ (List.mem_cons_self ..) (List.mem_cons_of_mem _ (List.mem_cons_self ..))
def ZpU:List Int:=Pinned.utf8FirstZ.map Int.ofNat
def Zo0:List (List Int):=[[128,191],[160,191],[128,159],[144,191],[128,143],[0,0],[0,0],[0,0],[0,0],[0,0],[0,0],[0,0],[0,0],[0,0],[0,0],[0,0]]
theorem ZpV {W:World}{laid:List (String × DataW Unit)}(h1:("unicode/utf8.first",Rows.laid_unicode_utf8_first) ∈ laid)(h2:("unicode/utf8.acceptRanges",Rows.laid_unicode_utf8_acceptRanges) ∈ laid)(h:laidMet Tryz.prog laid W) : @Gls ZdJ (g0 W).C W:=by
 have r1:=laidMet.reads h h1
 have r2:=laidMet.reads h h2
 have c1:=Zj6 (P:=Tryz.prog) (g:=0) (t:=288) (by kernel_rfl) (by kernel_rfl) r1 (ZoY ZpU (by kernel_rfl) (n:=256) (by kernel_rfl) Tryz.underlying5 (by kernel_rfl) (by kernel_rfl))
 have c2:=Zj6 (P:=Tryz.prog) (g:=1) (t:=291) (by kernel_rfl) (by kernel_rfl) r2 (ZoZ Zo0 (by kernel_rfl) (n:=16) rfl Tryz.underlying291 Tryz.underlying290 (fun i f hf=>by
  match i,hf with
  | 0,hf=>simp at hf;subst hf;exact⟨Tryz.underlying5,rfl,by kernel_rfl⟩
  | 1,hf=>simp at hf;subst hf;exact⟨Tryz.underlying5,rfl,by kernel_rfl⟩
  | i+2,hf=>simp at hf) (by kernel_rfl))
 refine⟨fun k cs hk=>?_,fun k t hk=>?_⟩
 ·obtain⟨hk,hm⟩:=hk
  simp only[ZnB,List.mem_cons,List.not_mem_nil,or_false,Prod.mk.injEq]at hm
  have hk:k ∈ [0,1]:=hk
  simp only[List.mem_cons,List.not_mem_nil,or_false]at hk
  clear r1 r2 h1 h2 h
  rcases hk with rfl|rfl
  all_goals repeat'(refine Or.elim hm (fun hm=>?_) (fun hm=>?_))
  all_goals first
   | (obtain⟨h,rfl⟩:=hm;exact c1)
   | (obtain⟨h,rfl⟩:=hm;exact c2)
   | (obtain⟨h,_⟩:=hm;exact absurd h (by decide))
 ·obtain⟨hk,hm⟩:=hk
  have hk:k ∈ [0,1]:=hk
  simp only[List.mem_cons,List.not_mem_nil,or_false]at hk
  simp only[ZqM,List.mem_cons,List.not_mem_nil,or_false,Prod.mk.injEq]at hm
  all_goals omega
end Go.Proofs.YtakblclkflnnpaaGreatDoor
end
section
open Go.RowKit Go.Pl Go.Av
namespace Go.Proofs.YtakblclkflnnpaaGreatDoor
theorem Ze4 (c0:List Value)(c1:List Value)(c2:List Value)(x0:XB)(x1:XB)(x2:It)(W:World)(h0:RB.ok W (· < W.heap.size) c0 x0)(h1:RB.ok W (· < W.heap.size) c1 x1)(h2:∃ m,(RI m).1.ok W (· < W.heap.size) c2 x2)(hl:laidMet Tryz.prog Rows.canonBlocksRow.laid W) :
  Calls Tryz.prog 4 #[.agg c0.toArray,.agg c1.toArray,.agg ⟨c2⟩] W fun e w'=>e=.returned (.bool true)/\Below W.heap.size W w':=by
 have hg:=ZpV (laid:=Rows.canonBlocksRow.laid) (by unfold Rows.canonBlocksRow;repeat (first|exact List.mem_cons_self .. | apply List.mem_cons_of_mem)) (by unfold Rows.canonBlocksRow;repeat (first|exact List.mem_cons_self .. | apply List.mem_cons_of_mem)) hl
 have h:=@Zf8 ZdJ Zkz x0.v x1.v x2 (ZnS h0) (ZnS h1) (Zml _ h2.choose_spec)
 refine @Zq0 ZdJ Tryz.prog 4 _ (@AC.mono ZdJ _ _ _ _ _ _ _ h fun r b t h=>h.1) W [.agg c0.toArray,.agg c1.toArray,.agg ⟨c2⟩] hg rfl ?_
 intro j d v hd hv
 match j,hd,hv with
 | 0,hd,hv=>cases hd;cases hv;exact @ZqY ZdJ _ _ _ h0
 | 1,hd,hv=>cases hd;cases hv;exact @ZqY ZdJ _ _ _ h1
 | 2,hd,hv=>cases hd;cases hv;exact ZpT h2.choose_spec
 | j+3,hd,hv=>cases hd
end Go.Proofs.YtakblclkflnnpaaGreatDoor
end

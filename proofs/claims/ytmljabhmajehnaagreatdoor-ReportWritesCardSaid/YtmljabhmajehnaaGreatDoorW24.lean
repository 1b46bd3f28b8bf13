/- The document's answers for names: the name of an item, by cases. -/
import Derived.Test.YtmljabhmajehnaaGreatDoorW22
import Derived.Test.YtmljabhmajehnaaGreatDoorW19
import Derived.Test.YtmljabhmajehnaaGreatDoorW23
import Derived.Test.YtmljabhmajehnaaGreatDoorW18
import Derived.Test.YtmljabhmajehnaaGreatDoorW10
import Derived.Scope
set_option linter.unusedVariables false
set_option linter.unusedSimpArgs false
section
open Go.RowKit Go.Pl Go.Av
namespace Go.Proofs.YtmljabhmajehnaaGreatDoor
set_option maxHeartbeats 4000000
theorem RU [Known](k:Int)(n:Nat)(b:List UInt8)(l:List It)(h:k ≠ 4\/l.length ≠ 2):AP Tryz.prog 117 [itD (.mk k n b l)] (.tup [.agg [.bool false,.int .u64 0,.int .u64 0,.str [],.str []],.bool false]) []:=by
 by_cases hk:k=4
 ·have t1:(k != 4)=false:=by simpa using hk
  have hl:l.length ≠ 2:=by
   rcases h with h|h
   ·exact absurd hk h
   ·exact h
  have t2:(((Zu l).length:Int) != 2)=true:=by rw[Zx];simp;omega
  refine AP.ofA (Zl Tryz.func117 Z Tryz.ntmps117 Z Z ?_)
  repeat'(first|(apply Zi Za;exact Z)|(apply Zf Za;exact Z)|(apply Zp Za;exact Z)|refine Ze Z Z Z Qt ?_|refine Zh Z Qt Z Z ?_|refine Zd Z Qt ?_|refine Zm Za Z Z Z Z ?_)
  all_goals exact Qe
 ·have t1:(k != 4)=true:=by simpa using hk
  refine AP.ofA (Zl Tryz.func117 Z Tryz.ntmps117 Z Z ?_)
  repeat'(first|(apply Zi Za;exact Z)|(apply Zf Za;exact Z)|(apply Zp Za;exact Z)|refine Zn Z Z Z Qt ?_|refine Zj Z Qt Z Z ?_|refine Zd Z Qt ?_)
  all_goals exact Qe
theorem SG [Known](s z:It)(n:Nat)(b:List UInt8)(n2:Nat)(b2:List UInt8)(kp:Int)(np:Nat)(bp:List UInt8)(lp:List It)(kq:Int)(nq:Nat)(bq:List UInt8)(lq:List It)(ez:z=.mk 4 n2 b2 [.mk kp np bp lp,.mk kq nq bq lq])(κ:Int)(w:It)(z4 R:Bool)
  (hK:AP Tryz.prog 87 [.agg [.bool true,.int .u64 (np:Int),.int .u64 (nq:Int),.str [],.str []]] (.int .i64 κ) []) (t4:decide (κ<0)=z4)
  (hW:z4=false->AP Tryz.prog 90 [.agg [.bool true,.int .u64 (np:Int),.int .u64 (nq:Int),.str [],.str []]] (itD w) [])
  (hS:z4=false->AP Tryz.prog 71 [itD w,itD (.mk 4 n b [s,z])] (.bool R) []) :
  AP Tryz.prog 117 [itD (.mk 4 n b [s,z])] (XS z4 (!R) true np nq [] []) []:=by
 have hU:=Yz [s,z]
 subst ez
 have hU2:=Yz [.mk kp np bp lp,.mk kq nq bq lq]
 have t2:(((Zu [s,.mk 4 n2 b2 [.mk kp np bp lp,.mk kq nq bq lq]]).length:Int) != 2)=false:=rfl
 have t3:(((Zu [.mk kp np bp lp,.mk kq nq bq lq]).length:Int)==2)=true:=rfl
 obtain⟨sk,sn,sb,sl⟩:=s
 obtain⟨wk,wn,wb,wl⟩:=w
 cases z4 with
 | true=>
  clear hW hS
  cases R
  all_goals
   refine AP.ofA (Zl Tryz.func117 Z Tryz.ntmps117 Z Z ?_)
   repeat'(first|(apply Zb (hK);kernel_rfl;(iterate 4 exact Z))|(apply Zi Za;exact Z)|(apply Zf Za;exact Z)|(apply Zp Za;exact Z)|refine Ze Z Z Z Qt ?_|refine Zn Z Z Z Qt ?_|refine Zj Z Qt Z Z ?_|refine Zh Z Qt Z Z ?_|refine Zd Z Qt ?_|refine Zg Z Qt ?_|refine Zm Za Z Z Z Z ?_|(apply Zo 7 ZD;decide +kernel;kernel_rfl;kernel_rfl;kernel_rfl;exact Z;exact Z)|(apply Zo 10 ZD;decide +kernel;kernel_rfl;kernel_rfl;kernel_rfl;exact Z;exact Z)|(apply Zs;(iterate 4 exact Z))|exact AE.nil _ _ _ _|(apply Zw;exact Z)|(apply Zz;exact Z;exact Z;decide +kernel;exact Z)|(apply ZA;exact Z)|exact AO.nil _ _ _|(apply Zr;(decide +kernel))|exact AOs.nil|exact ZF rfl rfl|(apply Zv Za;(iterate 6 exact Z);(first|exact Qt|rotate_left);(first|with_reducible assumption|decide +kernel|exact Z);(first|exact Zk rfl|with_reducible assumption|decide +kernel|rotate_left)))
   all_goals exact Qe
 | false=>
  have hW:=hW rfl
  have hS:=hS rfl
  cases R
  all_goals
   refine AP.ofA (Zl Tryz.func117 Z Tryz.ntmps117 Z Z ?_)
   repeat'(first|(apply Zb (hK);kernel_rfl;(iterate 4 exact Z))|(apply Zb (hW);kernel_rfl;(iterate 4 exact Z))|(apply Zb (hS);kernel_rfl;(iterate 4 exact Z))|(apply Zi Za;exact Z)|(apply Zf Za;exact Z)|(apply Zp Za;exact Z)|refine Ze Z Z Z Qt ?_|refine Zj Z Qt Z Z ?_|refine Zh Z Qt Z Z ?_|refine Zd Z Qt ?_|refine Zg Z Qt ?_|refine Zm Za Z Z Z Z ?_|(apply Zo 7 ZD;decide +kernel;kernel_rfl;kernel_rfl;kernel_rfl;exact Z;exact Z)|(apply Zo 10 ZD;decide +kernel;kernel_rfl;kernel_rfl;kernel_rfl;exact Z;exact Z)|(apply Zs;(iterate 4 exact Z))|exact AE.nil _ _ _ _|(apply Zw;exact Z)|(apply Zz;exact Z;exact Z;decide +kernel;exact Z)|(apply ZA;exact Z)|exact AO.nil _ _ _|(apply Zr;(decide +kernel))|exact AOs.nil|exact ZF rfl rfl|(apply Zv Za;(iterate 6 exact Z);(first|exact Qt|rotate_left);(first|with_reducible assumption|decide +kernel|exact Z);(first|exact Zk rfl|with_reducible assumption|decide +kernel|rotate_left)))
   all_goals exact Qe
theorem SH [Known](s:It)(n:Nat)(b:List UInt8)(kz:Int)(nz:Nat)(bz:List UInt8)(lz:List It)(hz:kz=4/\lz.length ≠ 2\/kz ≠ 4/\kz ≠ 3)(w:It)(R:Bool)
  (hK:AP Tryz.prog 87 [.agg [.bool false,.int .u64 0,.int .u64 0,.str [],.str []]] (.int .i64 0) [])
  (hW:AP Tryz.prog 90 [.agg [.bool false,.int .u64 0,.int .u64 0,.str [],.str []]] (itD w) [])
  (hS:AP Tryz.prog 71 [itD w,itD (.mk 4 n b [s,.mk kz nz bz lz])] (.bool R) []) :
  AP Tryz.prog 117 [itD (.mk 4 n b [s,.mk kz nz bz lz])] (XS false (!R) false 0 0 [] []) []:=by
 have hU:=Yz [s,.mk kz nz bz lz]
 have t2:(((Zu [s,.mk kz nz bz lz]).length:Int) != 2)=false:=rfl
 obtain⟨sk,sn,sb,sl⟩:=s
 obtain⟨wk,wn,wb,wl⟩:=w
 have t5:(kz==3)=false:=by
  rcases hz with⟨rfl,_⟩ | ⟨_,h⟩
  ·rfl
  ·simpa using h
 rcases hz with⟨rfl,hl⟩ | ⟨hk,_⟩
 ·have t3:(((Zu lz).length:Int)==2)=false:=by rw[Zx];simp;omega
  cases R
  all_goals
   refine AP.ofA (Zl Tryz.func117 Z Tryz.ntmps117 Z Z ?_)
   repeat'(first|(apply Zb (hK);kernel_rfl;(iterate 4 exact Z))|(apply Zb (hW);kernel_rfl;(iterate 4 exact Z))|(apply Zb (hS);kernel_rfl;(iterate 4 exact Z))|(apply Zi Za;exact Z)|(apply Zf Za;exact Z)|(apply Zp Za;exact Z)|refine Ze Z Z Z Qt ?_|refine Zj Z Qt Z Z ?_|refine Zh Z Qt Z Z ?_|refine Zd Z Qt ?_|refine Zg Z Qt ?_|refine Zm Za Z Z Z Z ?_|(apply Zo 7 ZD;decide +kernel;kernel_rfl;kernel_rfl;kernel_rfl;exact Z;exact Z)|(apply Zs;(iterate 4 exact Z))|exact AE.nil _ _ _ _|(apply Zw;exact Z)|(apply Zz;exact Z;exact Z;decide +kernel;exact Z)|(apply ZA;exact Z)|exact AO.nil _ _ _|(apply Zr;(decide +kernel))|exact AOs.nil|exact ZF rfl rfl|(apply Zv Za;(iterate 6 exact Z);(first|exact Qt|rotate_left);(first|with_reducible assumption|decide +kernel|exact Z);(first|exact Zk rfl|with_reducible assumption|decide +kernel|rotate_left)))
   all_goals exact Qe
 ·have t3:(kz==4)=false:=by simpa using hk
  cases R
  all_goals
   refine AP.ofA (Zl Tryz.func117 Z Tryz.ntmps117 Z Z ?_)
   repeat'(first|(apply Zb (hK);kernel_rfl;(iterate 4 exact Z))|(apply Zb (hW);kernel_rfl;(iterate 4 exact Z))|(apply Zb (hS);kernel_rfl;(iterate 4 exact Z))|(apply Zi Za;exact Z)|(apply Zf Za;exact Z)|(apply Zp Za;exact Z)|refine Ze Z Z Z Qt ?_|refine Zt Z Z Z Qt ?_|refine Zh Z Qt Z Z ?_|refine Zd Z Qt ?_|refine Zg Z Qt ?_|refine Zm Za Z Z Z Z ?_|(apply Zo 7 ZD;decide +kernel;kernel_rfl;kernel_rfl;kernel_rfl;exact Z;exact Z)|(apply Zs;(iterate 4 exact Z))|exact AE.nil _ _ _ _|(apply Zw;exact Z)|(apply Zz;exact Z;exact Z;decide +kernel;exact Z)|(apply ZA;exact Z)|exact AO.nil _ _ _|(apply Zr;(decide +kernel))|exact AOs.nil|exact ZF rfl rfl|(apply Zv Za;(iterate 6 exact Z);(first|exact Qt|rotate_left);(first|with_reducible assumption|decide +kernel|exact Z);(first|exact Zk rfl|with_reducible assumption|decide +kernel|rotate_left)))
   all_goals exact Qe
theorem SI [Known](s:It)(n:Nat)(b:List UInt8)(nz:Nat)(bz:List UInt8)(lz:List It)(xi:Bool)(xn xs:Nat)(xh xd:List UInt8)(κ:Int)(w:It)(R:Bool)(hl:[(100:UInt8),116,110,58].length+bz.length<=maxLen)
  (hP:AP Tryz.prog 152 [.str ([100,116,110,58]++bz)] (.tup [.agg [.bool xi,.int .u64 (xn:Int),.int .u64 (xs:Int),.str xh,.str xd],.bool true]) [])
  (hK:AP Tryz.prog 87 [.agg [.bool xi,.int .u64 (xn:Int),.int .u64 (xs:Int),.str xh,.str xd]] (.int .i64 κ) []) (t4:decide (κ<0)=false)
  (hW:AP Tryz.prog 90 [.agg [.bool xi,.int .u64 (xn:Int),.int .u64 (xs:Int),.str xh,.str xd]] (itD w) [])
  (hS:AP Tryz.prog 71 [itD w,itD (.mk 4 n b [s,.mk 3 nz bz lz])] (.bool R) []) :
  AP Tryz.prog 117 [itD (.mk 4 n b [s,.mk 3 nz bz lz])] (XS false (!R) xi xn xs xh xd) []:=by
 have hU:=Yz [s,.mk 3 nz bz lz]
 have t2:(((Zu [s,.mk 3 nz bz lz]).length:Int) != 2)=false:=rfl
 obtain⟨sk,sn,sb,sl⟩:=s
 obtain⟨wk,wn,wb,wl⟩:=w
 cases R
 all_goals
  refine AP.ofA (Zl Tryz.func117 Z Tryz.ntmps117 Z Z ?_)
  repeat'(first|(apply Zb (hP);kernel_rfl;(iterate 4 exact Z))|(apply Zb (hK);kernel_rfl;(iterate 4 exact Z))|(apply Zb (hW);kernel_rfl;(iterate 4 exact Z))|(apply Zb (hS);kernel_rfl;(iterate 4 exact Z))|refine UM Z Z hl Z ?_|refine WC Za Z Z Z Z Z Z Z Z Z ?_|(apply Zi Za;exact Z)|(apply Zf Za;exact Z)|(apply Zp Za;exact Z)|refine Ze Z Z Z Qt ?_|refine Zt Z Z Z Qt ?_|refine Zh Z Qt Z Z ?_|refine Zd Z Qt ?_|refine Zg Z Qt ?_|refine Zm Za Z Z Z Z ?_|(apply Zo 7 ZD;decide +kernel;kernel_rfl;kernel_rfl;kernel_rfl;exact Z;exact Z)|(apply Zs;(iterate 4 exact Z))|exact AE.nil _ _ _ _|(apply Zw;exact Z)|(apply Zz;exact Z;exact Z;decide +kernel;exact Z)|(apply ZA;exact Z)|exact AO.nil _ _ _|(apply Zr;(decide +kernel))|exact AOs.nil|exact ZF rfl rfl|(apply Zv Za;(iterate 6 exact Z);(first|exact Qt|rotate_left);(first|with_reducible assumption|decide +kernel|exact Z);(first|exact Zk rfl|with_reducible assumption|decide +kernel|rotate_left))|refine WC Za Z Z Z Z Z Z Z Z Z ?_)
  all_goals exact Qe
theorem SJ [Known](s:It)(n:Nat)(b:List UInt8)(nz:Nat)(bz:List UInt8)(lz:List It)(hl:[(100:UInt8),116,110,58].length+bz.length<=maxLen)
  (hP:AP Tryz.prog 152 [.str ([100,116,110,58]++bz)] (.tup [.agg [.bool false,.int .u64 0,.int .u64 0,.str [],.str []],.bool false]) []) :
  AP Tryz.prog 117 [itD (.mk 4 n b [s,.mk 3 nz bz lz])] (.tup [.agg [.bool false,.int .u64 0,.int .u64 0,.str [],.str []],.bool false]) []:=by
 have hU:=Yz [s,.mk 3 nz bz lz]
 have t2:(((Zu [s,.mk 3 nz bz lz]).length:Int) != 2)=false:=rfl
 obtain⟨sk,sn,sb,sl⟩:=s
 refine AP.ofA (Zl Tryz.func117 Z Tryz.ntmps117 Z Z ?_)
 repeat'(first|(apply Zb (hP);kernel_rfl;(iterate 4 exact Z))|refine UM Z Z hl Z ?_|refine WC Za Z Z Z Z Z Z Z Z Z ?_|(apply Zi Za;exact Z)|(apply Zf Za;exact Z)|(apply Zp Za;exact Z)|refine Ze Z Z Z Qt ?_|refine Zt Z Z Z Qt ?_|refine Zh Z Qt Z Z ?_|refine Zd Z Qt ?_|refine Zg Z Qt ?_|refine Zm Za Z Z Z Z ?_|(apply Zv Za;(iterate 6 exact Z);(first|exact Qt|rotate_left);(first|with_reducible assumption|decide +kernel|exact Z);(first|exact Zk rfl|with_reducible assumption|decide +kernel|rotate_left))|refine WC Za Z Z Z Z Z Z Z Z Z ?_)
 all_goals exact Qe
theorem JN {x:It}{c:EidV}(hc:(ZS x).2=true->c=(ZS x).1){i:Bool}{n q:Nat}{h d:List UInt8}(ec:c=⟨i,n,q,h,d⟩):XS (decide (Y4 c<0)) (!(It.beq (Z1 c) x)) i n q h d=KU x:=by
 have hk:=Xm c
 cases hr:ZM c with
 | false=>
  have e:decide (Y4 c<0)=true:=decide_eq_true (by have:=of_decide_eq_false (hk.trans hr);omega)
  rw[e,UZ (RT hc hr)]
  cases !(It.beq (Z1 c) x)<;>rfl
 | true=>
  have e:decide (Y4 c<0)=false:=decide_eq_false (by have:=of_decide_eq_true (hk.trans hr);omega)
  rw[e]
  cases hs:It.beq (Z1 c) x with
  | false=>rw[UZ (SE hc hs)];rfl
  | true=>rw[Tm (SF hr hs),ec];rfl
theorem J8 {c:EidV}(h:decide (Y4 c<0)=false):ZM c=true:=by
 rw[<- Xm]
 exact decide_eq_true (by have:=of_decide_eq_false h;omega)
theorem U0 {c:EidV}(h:ZM c=true):decide (Y4 c<0)=false:=decide_eq_false (by have:=of_decide_eq_true ((Xm c).trans h);omega)
theorem IG [Known](x:It)(hw:wfI x)(hb:∀ y ∈ x.l,y.b.length<=1099511627000):AP Tryz.prog 117 [itD x] (KU x) []:=by
 obtain⟨k,n,b,l⟩:=x
 by_cases hk:k=4
 case neg=>rw[UZ (Lp (.inl hk))];exact RU k n b l (.inl hk)
 by_cases hl:l.length=2
 case neg=>rw[UZ (Lp (.inr hl))];exact RU k n b l (.inr hl)
 subst hk
 obtain⟨s,z,rfl⟩:∃ s z,l=[s,z]:=by
  match l,hl with
  | [s,z],_=>exact⟨s,z,rfl⟩
 have hbz:=hb z (by simp[It.l])
 clear hl hb
 have kZ:=W9 Ye ⟨by decide,by decide⟩
 have wZ:=Vt Ye (by decide)
 have sZ:=VN (Z1 Ye) (Vf (by decide)) _ hw
 obtain⟨kz,nz,bz,lz⟩:=z
 simp only[It.b]at hbz
 by_cases h3:kz=3
 ·subst h3
  have hP:=IC (V1++bz) (by simp[V1];omega)
  have hml:[(100:UInt8),116,110,58].length+bz.length<=maxLen:=by simp;unfold maxLen;omega
  cases hp:(Z3 (V1++bz)).2 with
  | false=>
   rw[Ub hp]at hP
   rw[UZ (Tn hp)]
   exact SJ s n b nz bz lz hml hP
  | true=>
   obtain⟨hr,_⟩:=W6 hp
   unfold QO at hP
   rw[hp]at hP
   have hc:(ZS (.mk 4 n b [s,.mk 3 nz bz lz])).2=true->(Z3 (V1++bz)).1=(ZS (.mk 4 n b [s,.mk 3 nz bz lz])).1:=
    GA (fun e=>by cases e) (fun p q e=>by cases e) (fun t e _=>by cases e;rfl)
   generalize (Z3 (V1++bz)).1=c at *
   rw[<- JN hc (show c=⟨c.i,c.n,c.s,c.h,c.d⟩ from rfl),U0 hr]
   exact SI s n b nz bz lz c.i c.n c.s c.h c.d (Y4 c) (Z1 c) _ hml hP (W9 c (Uc hr)) (U0 hr) (Vt c hr) (VN (Z1 c) (Vf hr) _ hw)
 ·by_cases h4:kz=4/\lz.length=2
  ·obtain⟨rfl,hl2⟩:=h4
   obtain⟨⟨kp,np,bp,lp⟩,⟨kq,nq,bq,lq⟩,rfl⟩:∃ p q,lz=[p,q]:=by
    match lz,hl2 with
    | [p,q],_=>exact⟨p,q,rfl⟩
   have hc:(ZS (.mk 4 n b [s,.mk 4 nz bz [.mk kp np bp lp,.mk kq nq bq lq]])).2=true->(⟨true,np,nq,[],[]⟩:EidV)=(ZS (.mk 4 n b [s,.mk 4 nz bz [.mk kp np bp lp,.mk kq nq bq lq]])).1:=
    GA (fun e=>by cases e) (fun p q e=>by cases e;rfl) (fun t e _=>by cases e)
   rw[<- JN hc rfl]
   exact SG s _ n b nz bz kp np bp lp kq nq bq lq rfl (Y4 ⟨true,np,nq,[],[]⟩) (Z1 ⟨true,np,nq,[],[]⟩) _ _ (W9 ⟨true,np,nq,[],[]⟩ ⟨Nat.zero_le _,Nat.zero_le _⟩) rfl (fun h=>Vt ⟨true,np,nq,[],[]⟩ (J8 h)) (fun h=>VN (Z1 ⟨true,np,nq,[],[]⟩) (Vf (J8 h)) _ hw)
  ·have hc:(ZS (.mk 4 n b [s,.mk kz nz bz lz])).2=true->Ye=(ZS (.mk 4 n b [s,.mk kz nz bz lz])).1:=
    GA (fun e=>rfl) (fun p q e=>by cases e;exact absurd ⟨rfl,rfl⟩ h4) (fun t e _=>by cases e;exact absurd rfl h3)
   rw[<- JN hc rfl]
   exact SH s n b kz nz bz lz (by
    by_cases h5:kz=4
    ·exact .inl ⟨h5,fun e=>h4 ⟨h5,e⟩⟩
    ·exact .inr ⟨h5,h3⟩) (Z1 Ye) _ kZ wZ sZ
theorem U1:∀ {l:List It} {y:It},y ∈ l->(ZH y).length<=(ZO l).length
 | x::l,y,h=>by
  rw[ZO,List.length_append]
  rcases List.mem_cons.1 h with rfl|h
  ·omega
  ·have:=U1 h;omega
theorem SK (y:It):y.b.length<=(ZH y).length:=by
 obtain⟨k,n,b,l⟩:=y
 rw[ZH,List.length_append,List.length_append]
 show b.length<=_
 omega
theorem Hx (k:Int)(n:Nat)(b:List UInt8)(l:List It):(ZO l).length<=(ZH (.mk k n b l)).length:=by
 rw[ZH,List.length_append,List.length_append]
 omega
theorem L4 (l:List Nat):Uni 1 (l.map fun n:Nat=>E.int .u64 (n:Int)):=Uni.map (f:=fun n:Nat=>E.int .u64 (n:Int)) (fun _=>rfl) l
def QR (n:Nat):Bool:=decide ((n:Int)<1)||decide ((n:Int)>255)
theorem XV [Known](n:Nat):AP Tryz.prog 160 [.int .u64 (n:Int)] (.bool (QR n)) []:=by
 unfold QR
 refine AP.ofA (Zl Tryz.func160 Z Tryz.ntmps160 Z Z ?_)
 repeat'(first|(apply Zi Za;exact Z)|(apply Zf Za;exact Z)|(apply Ze;(iterate 3 exact Z);(first|with_reducible assumption|(solve|simp only[bn])))|(apply Zn;(iterate 3 exact Z);(first|with_reducible assumption|(solve|simp only[bn])))|(apply Yp;exact Z;exact Z;all_goals intro hb)|(apply Zj;exact Z;(first|with_reducible assumption|(solve|simp only[bn]));exact Z;exact Z)|(apply Zh;exact Z;(first|with_reducible assumption|(solve|simp only[bn]));exact Z;exact Z))
 all_goals(apply Zq [];(apply Zc Za;exact Z);(iterate 4 exact Z))
 all_goals first|rfl|(simp only[*];done)|(simp only[*];rfl)
def SL:Bool->Bool->Int
 | true,_=>0
 | false,true=>1
 | false,false => -1
theorem M1 [Known](a b:Nat)(x y:Bool)(hx:QR a=x)(hy:QR b=y):AP Tryz.prog 184 [.sl .ext [.int .u64 (a:Int),.int .u64 (b:Int)],.fn 160 []] (.int .i64 (SL x y)) []:=by
 have ga:=XV a
 have gb:=XV b
 rw[hx]at ga
 rw[hy]at gb
 have hU:=L4 [a,b]
 have q0:decide ((0:Int)<(([.int .u64 (a:Int),.int .u64 (b:Int)]:List E).length:Int))=true:=rfl
 have q1:decide ((1:Int)<(([.int .u64 (a:Int),.int .u64 (b:Int)]:List E).length:Int))=true:=rfl
 have q2:decide ((2:Int)<(([.int .u64 (a:Int),.int .u64 (b:Int)]:List E).length:Int))=false:=rfl
 have e1:IntKind.i64.wrap (0+1)=1:=by decide
 have e2:IntKind.i64.wrap (1+1)=2:=by decide
 cases x<;>cases y
 all_goals
  refine AP.ofA (Zl Tryz.func184 Z Tryz.ntmps184 Z Z ?_)
  repeat'(first|rw[e1]|rw[e2]|(apply Vy (ga);exact Z;kernel_rfl;(iterate 3 exact Z))|(apply Vy (gb);exact Z;kernel_rfl;(iterate 3 exact Z))|refine Zv Za Z Z Z Z Z Z (by decide) Z hU ?_|refine Yr 20 ?_|refine YH ?_|(apply Zi Za;exact Z)|(apply Zf Za;exact Z)|(apply Zp Za;exact Z)|refine Zd Z Qt ?_|refine Zg Z Qt ?_|refine Yy ?_|refine Zm Za Z Z Z Z ?_)
  all_goals exact Qe
theorem NO [Known](a b:Nat):AP Tryz.prog 159 [.sl .ext [.int .u64 (a:Int),.int .u64 (b:Int)],.fn 160 []] (.bool (QR a||QR b)) []:=by
 cases hx:QR a<;>cases hy:QR b
 all_goals
  have hI:=M1 a b _ _ hx hy
  refine AP.ofA (Zl Tryz.func159 Z Tryz.ntmps159 Z Z ?_)
  repeat'(first|(apply Zb (hI);kernel_rfl;(iterate 4 exact Z))|(apply Zi Za;exact Z)|(apply Zf Za;exact Z))
  all_goals exact Qe
theorem GD [Known](a b:Nat):AP Tryz.prog 130 [.sl .ext [.int .u64 (a:Int),.int .u64 (b:Int)]] (.bool (!(QR a||QR b))) []:=by
 have hI:=NO a b
 refine AP.ofA (Zl Tryz.func130 Z Tryz.ntmps130 Z Z ?_)
 repeat'(first|(apply Zb (hI);kernel_rfl;(iterate 4 exact Z))|(apply Zi Za;exact Z)|(apply Zf Za;exact Z))
 all_goals exact Qe
theorem XW [Known]:AT Tryz.prog 64 [.sl .nil []] [] [] (.agg [.int .i64 4,.int .u64 0,.sl .nil [],.sl .nil []]) [] []:=by
 refine Zl Tryz.func64 rfl Tryz.ntmps64 rfl rfl ?_
 repeat'(first|refine Yr 20 ?_|refine YH ?_|(apply Zi Za;exact Z)|(apply Zf Za;exact Z)|refine Zg Z Qt ?_|refine Zm Za Z Z Z Z ?_)
 all_goals(apply QG [] [];(apply Zc Za;exact Z);(iterate 7 exact Z))
 all_goals rfl
abbrev nmE (n:Nat):E:=.agg [.int .i64 0,.int .u64 (n:Int),.sl [],.sl []]
theorem II [Known](a b:Nat):AP Tryz.prog 97 [.sl .ext [.int .u64 (a:Int),.int .u64 (b:Int)]] (.agg [.int .i64 4,.int .u64 0,.sl .ext [],.sl .ext [nmE a,nmE b]]) []:=by
 have ga:=YF a
 have gb:=YF b
 have hL:=XW
 have hU:=L4 [a,b]
 have e1:IntKind.i64.wrap (0+1)=1:=by decide
 have e2:IntKind.i64.wrap (1+1)=2:=by decide
 have hU4:∀(l:List Nat),Uni 4 (l.map nmE):=fun l=>Uni.map (f:=nmE) (fun _=>rfl) l
 have q0:decide ((0:Int)<(([.int .u64 (a:Int),.int .u64 (b:Int)]:List E).length:Int))=true:=rfl
 have q1:decide ((1:Int)<(([.int .u64 (a:Int),.int .u64 (b:Int)]:List E).length:Int))=true:=rfl
 have q2:decide ((2:Int)<(([.int .u64 (a:Int),.int .u64 (b:Int)]:List E).length:Int))=false:=rfl
 have hu1:=hU4 [a]
 have hu2:=hU4 [a,b]
 refine AP.ofA (Zl Tryz.func97 Z Tryz.ntmps97 Z Z ?_)
 repeat'(first|rw[e1]|rw[e2]|(apply Ya [] [] (hL);kernel_rfl;(iterate 10 exact Z))|(apply Zb (ga);kernel_rfl;(iterate 4 exact Z))|(apply Zb (gb);kernel_rfl;(iterate 4 exact Z))|refine Zv Za Z Z Z Z Z Z (by decide) Z hU ?_|refine Yr 20 ?_|refine YH ?_|refine Wp Za Z Z Z Z Z Z Z Z Z Z Z (Zk rfl) (Zk rfl) (List.cons_ne_nil _ _) Qd Qd Z Z ?_|refine Yb Za Z Z Z Z Z Z (Zk rfl) (List.cons_ne_nil _ _) Z Qd Qd Z Z Z ?_|(apply Zi Za;exact Z)|(apply Zf Za;exact Z)|(apply Zp Za;exact Z)|refine Zd Z Qt ?_|refine Zg Z Qt ?_|refine Zm Za Z Z Z Z ?_|refine ZR Za Z Z Z Z Z Z Z Z Z Z Z Z ?_|(apply Zo 5 ZD;decide +kernel;kernel_rfl;kernel_rfl;kernel_rfl;exact Z;exact Z)|(apply Zs;(iterate 4 exact Z))|exact AE.nil _ _ _ _|(apply Zw;exact Z)|(apply Zz;exact Z;exact Z;decide +kernel;exact Z)|(apply ZA;exact Z)|exact AO.nil _ _ _|(apply Zr;(decide +kernel))|exact AOs.nil|exact ZF rfl rfl|exact Wz rfl rfl rfl rfl rfl)
 all_goals exact Qe
theorem IJ [Known](a b c d:Nat):AT Tryz.prog 97 [.sl .ext [.int .u64 (a:Int),.int .u64 (b:Int),.int .u64 (c:Int),.int .u64 (d:Int)]] [] [] (.agg [.int .i64 4,.int .u64 0,.sl .nil [],.sl (.own 0) [nmE a,nmE b,nmE c,nmE d]]) [] [⟨4,4,115⟩]:=by
 have ga:=YF a
 have gb:=YF b
 have gc:=YF c
 have gd:=YF d
 have hL:=XW
 have hU:=L4 [a,b,c,d]
 have e1:IntKind.i64.wrap (0+1)=1:=by decide
 have e2:IntKind.i64.wrap (1+1)=2:=by decide
 have e3:IntKind.i64.wrap (2+1)=3:=by decide
 have e4:IntKind.i64.wrap (3+1)=4:=by decide
 have hU4:∀(l:List Nat),Uni 4 (l.map nmE):=fun l=>Uni.map (f:=nmE) (fun _=>rfl) l
 have q0:decide ((0:Int)<(([.int .u64 (a:Int),.int .u64 (b:Int),.int .u64 (c:Int),.int .u64 (d:Int)]:List E).length:Int))=true:=rfl
 have q1:decide ((1:Int)<(([.int .u64 (a:Int),.int .u64 (b:Int),.int .u64 (c:Int),.int .u64 (d:Int)]:List E).length:Int))=true:=rfl
 have q2:decide ((2:Int)<(([.int .u64 (a:Int),.int .u64 (b:Int),.int .u64 (c:Int),.int .u64 (d:Int)]:List E).length:Int))=true:=rfl
 have q3:decide ((3:Int)<(([.int .u64 (a:Int),.int .u64 (b:Int),.int .u64 (c:Int),.int .u64 (d:Int)]:List E).length:Int))=true:=rfl
 have q4:decide ((4:Int)<(([.int .u64 (a:Int),.int .u64 (b:Int),.int .u64 (c:Int),.int .u64 (d:Int)]:List E).length:Int))=false:=rfl
 have hu1:=hU4 [a]
 have hu2:=hU4 [a,b]
 have hu3:=hU4 [a,b,c]
 have hu4:=hU4 [a,b,c,d]
 refine Zl Tryz.func97 rfl Tryz.ntmps97 rfl rfl ?_
 repeat'(first|rw[e1]|rw[e2]|rw[e3]|rw[e4]|(apply Ya [] [] (hL);kernel_rfl;(iterate 10 exact Z))|(apply Zb (ga);kernel_rfl;(iterate 4 exact Z))|(apply Zb (gb);kernel_rfl;(iterate 4 exact Z))|(apply Zb (gc);kernel_rfl;(iterate 4 exact Z))|(apply Zb (gd);kernel_rfl;(iterate 4 exact Z))|refine Zv Za Z Z Z Z Z Z (by decide) Z hU ?_|refine Yr 20 ?_|refine YH ?_|refine Wp Za Z Z Z Z Z Z Z Z Z Z Z (Zk rfl) (Zk rfl) (List.cons_ne_nil _ _) Qd Qd Z Z ?_|refine Yb Za Z Z Z Z Z Z (Zk rfl) (List.cons_ne_nil _ _) Z Qd Qd Z Z Z ?_|(apply Zi Za;exact Z)|(apply Zf Za;exact Z)|(apply Zp Za;exact Z)|refine Zd Z Qt ?_|refine Zg Z Qt ?_|refine Zm Za Z Z Z Z ?_|refine ZR Za Z Z Z Z Z Z Z Z Z Z Z Z ?_|(apply Zo 5 ZD;decide +kernel;kernel_rfl;kernel_rfl;kernel_rfl;exact Z;exact Z)|(apply Zs;(iterate 4 exact Z))|exact AE.nil _ _ _ _|(apply Zw;exact Z)|(apply Zz;exact Z;exact Z;decide +kernel;exact Z)|(apply ZA;exact Z)|exact AO.nil _ _ _|(apply Zr;(decide +kernel))|exact AOs.nil|exact ZF rfl rfl|exact Wz rfl rfl rfl rfl rfl)
 all_goals(apply QG [] [0];(apply Zc Za;exact Z);(iterate 7 exact Z))
 all_goals rfl
def Yl (x:EidV)(t q:Nat):It:=.mk 4 0 [] [Z1 x,.mk 4 0 [] [.mk 0 t [] [],.mk 0 q [] []]]
theorem YT {x:EidV}{t q:Nat}:Yo x t q=true ↔ ZM x=true/\t<=1099511627776/\q<=1099511627776:=by
 unfold Yo
 simp only[Bool.and_eq_true,decide_eq_true_eq]
 rw[and_assoc]
 exact and_congr Iff.rfl (and_congr (by omega) (by omega))
theorem XX {x:EidV}{t q:Nat}(h:Yo x t q=true):wfI (Yl x t q):=by
 obtain⟨h1,h2,h3⟩:=YT.1 h
 have hw:=Vf h1
 unfold Yl
 generalize Z1 x=y at *
 simp[wfI,wfs,hw]
 omega
theorem JO [Known](x:EidV)(t q:Nat):AP Tryz.prog 62 [.agg (iC x t q)] (.tup [itD (if Yo x t q then Yl x t q else .mk 0 0 [] []),.int .i64 (if Yo x t q then 0 else 3)]) []:=by
 have hR:=JI x t q
 cases hr:Yo x t q with
 | false=>
  rw[hr]at hR
  refine AP.ofA (Zl Tryz.func62 Z Tryz.ntmps62 Z Z ?_)
  repeat'(first|(apply Zb (hR);kernel_rfl;(iterate 4 exact Z))|(apply Zi Za;exact Z)|(apply Zf Za;exact Z)|(apply Zp Za;exact Z)|refine Zd Z Qt ?_)
  all_goals exact Qe
 | true=>
  rw[hr]at hR
  rw[if_pos rfl,if_pos rfl]
  obtain⟨h1,h2,h3⟩:=YT.1 hr
  have hE:=JJ x
  rw[h1,if_pos rfl,if_pos rfl]at hE
  have hw:=Vf h1
  have nt:=YF t
  have nq:=YF q
  unfold Yl
  generalize Z1 x=y at *
  have hL1:=W8 [.mk 0 t [] [],.mk 0 q [] []] (by simp) (by simp[wfI,wfs];omega)
  have hL:=W8 [y,.mk 4 0 [] [.mk 0 t [] [],.mk 0 q [] []]] (by simp) (by simp[wfI,wfs,hw];omega)
  obtain⟨k,n,b,l⟩:=y
  replace nt:AP Tryz.prog _ [.int .u64 (t:Int)] (.agg [.int .i64 0,.int .u64 (t:Int),.sl .ext [],.sl .ext []]) []:=nt
  replace nq:AP Tryz.prog _ [.int .u64 (q:Int)] (.agg [.int .i64 0,.int .u64 (q:Int),.sl .ext [],.sl .ext []]) []:=nq
  replace hE:AP Tryz.prog _ [.agg (eC x)] (.tup [.agg [.int .i64 k,.int .u64 (n:Int),byE b,.sl .ext (Zu l)],.int .i64 0]) []:=hE
  replace hL1:AP Tryz.prog _ _ (.agg [.int .i64 4,.int .u64 0,.sl .ext [],.sl .ext [.agg [.int .i64 0,.int .u64 (t:Int),.sl [],.sl []],.agg [.int .i64 0,.int .u64 (q:Int),.sl [],.sl []]]]) []:=hL1
  refine AP.ofA (Zl Tryz.func62 Z Tryz.ntmps62 Z Z ?_)
  repeat'(first|(apply Zb (hR);kernel_rfl;(iterate 4 exact Z))|(apply Zb (hE);kernel_rfl;(iterate 4 exact Z))|(apply Zb (nt);kernel_rfl;(iterate 4 exact Z))|(apply Zb (nq);kernel_rfl;(iterate 4 exact Z))|(apply Zb (hL1);kernel_rfl;(iterate 4 exact Z))|(apply Zb (hL);kernel_rfl;(iterate 4 exact Z))|(apply Zi Za;exact Z)|(apply Zf Za;exact Z)|(apply Zp Za;exact Z)|refine Zg Z Qt ?_|refine ZR Za Z Z Z Z Z Z Z Z Z Z Z Z ?_|(apply Zo 13 ZD;decide +kernel;kernel_rfl;kernel_rfl;kernel_rfl;exact Z;exact Z)|(apply Zs;(iterate 4 exact Z))|exact AE.nil _ _ _ _|(apply Zw;exact Z)|(apply UQ;exact Z)|(apply Zz;exact Z;exact Z;decide +kernel;exact Z)|(apply ZA;exact Z)|(apply J0;exact Z)|exact AO.nil _ _ _|(apply Zr;(decide +kernel))|(apply ZX;(iterate 3 exact Z))|exact AOs.nil|exact ZF rfl rfl|exact Wz rfl rfl rfl rfl rfl|exact QH rfl)
  all_goals exact Qe
def VX (p:PriV):List It:=[.mk 0 7 [] [],.mk 0 p.fl [] [],.mk 0 p.sum.toNat [] [],Z1 p.dest,Z1 p.src,Z1 p.rep,.mk 4 0 [] [.mk 0 p.t [] [],.mk 0 p.q [] []],.mk 0 p.life [] []]
def WW (p:PriV):It × Int:=match Vm p with
 | true=>VJ (VX p) 2
 | false=>(z0,3)
theorem Jk {p:PriV}(h:Vm p=true):0<=p.sum/\p.sum<=2/\ZM p.dest=true/\ZM p.rep=true/\Yo p.src p.t p.q=true/\p.life<=1099511627776:=by
 unfold Vm at h
 simp only[Bool.and_eq_true,decide_eq_true_eq]at h
 obtain⟨_,h1,h2,h3,h4,h5,h6⟩:=h
 exact⟨h1,h2,h3,h4,h5,by omega⟩
theorem Lq {p:PriV}(h:Vm p=true)(hfl:p.fl<18446744073709551616):wfs (VX p):=by
 obtain⟨h1,h2,h3,h4,h5,h6⟩:=Jk h
 obtain⟨i1,i2,i3⟩:=YT.1 h5
 refine⟨?_,?_,?_,Vf h3,Vf i1,Vf h4,?_,?_,trivial⟩
 all_goals first|(simp[wfI,wfs];done)|(simp[wfI,wfs];omega)
theorem To [Known][KnownU8](p:PriV)(hfl:p.fl<18446744073709551616)(hlim:∀ s,s=1\/s=2->(ZH (Yw s (VX p))).length<=1000000000):AP Tryz.prog 107 [.agg (prC p)] (Jj (WW p)) []:=by
 have hR:=KL p
 unfold WW
 cases hr:Vm p with
 | false=>
  rw[hr]at hR
  obtain⟨fl,sum,⟨di,dn,ds,dh,dd⟩,⟨ri,rn,rs,rh,rd⟩,⟨xi,xn,xs,xh,xd⟩,t,q,life⟩:=p
  dsimp only[z0]at *
  refine AP.ofA (Zl Tryz.func107 Z Tryz.ntmps107 Z Z ?_)
  repeat'(first|(apply Zb (hR);kernel_rfl;(iterate 4 exact Z))|(apply Zi Za;exact Z)|(apply Zf Za;exact Z)|(apply Zp Za;exact Z)|refine Zd Z Qt ?_)
  all_goals exact Qe
 | true=>
  rw[hr]at hR
  obtain⟨h1,h2,h3,h4,h5,h6⟩:=Jk hr
  have hS:=Ho (VX p) 2 (Lq hr hfl) (by simp[VX]) hlim
  have hD:=JJ p.dest
  have hP:=JJ p.rep
  have hI:=JO p.src p.t p.q
  rw[if_pos h3,if_pos h3]at hD
  rw[if_pos h4,if_pos h4]at hP
  rw[if_pos h5,if_pos h5]at hI
  have hN:=YF 7
  have hF:=YF p.fl
  have hM:=YF p.sum.toNat
  have hL:=YF p.life
  dsimp only
  generalize VJ (VX p) 2=r at *
  unfold VX at hS
  unfold Yl at hI
  obtain⟨fl,sum,⟨di,dn,ds,dh,dd⟩,⟨ri,rn,rs,rh,rd⟩,⟨xi,xn,xs,xh,xd⟩,t,q,life⟩:=p
  dsimp only at *
  generalize Z1 ⟨di,dn,ds,dh,dd⟩=I1 at *
  generalize Z1 ⟨ri,rn,rs,rh,rd⟩=I2 at *
  generalize Z1 ⟨xi,xn,xs,xh,xd⟩=I3 at *
  obtain⟨ak,an,ab,al⟩:=I1
  obtain⟨bk,bn,bb,bl⟩:=I2
  obtain⟨ck,cn,cb,cl⟩:=I3
  obtain⟨⟨k,n,b,l⟩,e⟩:=r
  have es:IntKind.u64.wrap sum=((sum.toNat:Nat):Int):=by rw[IntWalk.u64_in _ (by omega)];omega
  have hU:=Yz [It.mk ck cn cb cl,.mk 4 0 [] [.mk 0 t [] [],.mk 0 q [] []]]
  have hv0:(Zu [It.mk ck cn cb cl,.mk 4 0 [] [.mk 0 t [] [],.mk 0 q [] []]])[(0:Int).toNat]?=some (.agg [.int .i64 ck,.int .u64 (cn:Int),.sl (cb.map E.byte),.sl (Zu cl)]):=rfl
  have hv1:(Zu [It.mk ck cn cb cl,.mk 4 0 [] [.mk 0 t [] [],.mk 0 q [] []]])[(1:Int).toNat]?=some (.agg [.int .i64 4,.int .u64 0,.sl [],.sl [nmE t,nmE q]]):=rfl
  generalize hLe:Zu [It.mk ck cn cb cl,.mk 4 0 [] [.mk 0 t [] [],.mk 0 q [] []]]=LL at *
  replace hI:AP Tryz.prog 62 [.agg (iC ⟨xi,xn,xs,xh,xd⟩ t q)] (.tup [.agg [.int .i64 4,.int .u64 0,.sl .ext [],.sl .ext LL],.int .i64 0]) []:=by rw[<- hLe];exact hI
  replace hS:AP Tryz.prog 138 [.sl .ext [nmE 7,nmE fl,nmE sum.toNat,.agg [.int .i64 ak,.int .u64 (an:Int),.sl (ab.map E.byte),.sl (Zu al)],.agg [.int .i64 ck,.int .u64 (cn:Int),.sl (cb.map E.byte),.sl (Zu cl)],.agg [.int .i64 bk,.int .u64 (bn:Int),.sl (bb.map E.byte),.sl (Zu bl)],.agg [.int .i64 4,.int .u64 0,.sl [],.sl [nmE t,nmE q]],nmE life],.int .i64 2] (Jj (.mk k n b l,e)) []:=hS
  refine AP.ofA (Zl Tryz.func107 Z Tryz.ntmps107 Z Z ?_)
  repeat'(first|(apply Zb (hR);kernel_rfl;(iterate 4 exact Z))|rw[es]|(apply Zb (hD);kernel_rfl;(iterate 4 exact Z))|(apply Zb (hP);kernel_rfl;(iterate 4 exact Z))|(apply Zb (hI);kernel_rfl;(iterate 4 exact Z))|(apply Zb (hN);kernel_rfl;(iterate 4 exact Z))|(apply Zb (hF);kernel_rfl;(iterate 4 exact Z))|(apply Zb (hM);kernel_rfl;(iterate 4 exact Z))|(apply Zb (hL);kernel_rfl;(iterate 4 exact Z))|(apply Zb (hS);kernel_rfl;(iterate 4 exact Z))|(apply Zi Za;exact Z)|(apply Zf Za;exact Z)|(apply Zp Za;exact Z)|refine Zg Z Qt ?_|refine ZR Za Z Z Z Z Z Z Z Z Z Z Z Z ?_|(apply Zo 21 ZD;decide +kernel;kernel_rfl;kernel_rfl;kernel_rfl;exact Z;exact Z)|(apply Zs;(iterate 4 exact Z))|exact AE.nil _ _ _ _|(apply Zw;exact Z)|(apply Zz;exact Z;exact Z;decide +kernel;exact Z)|(apply ZA;exact Z)|exact AO.nil _ _ _|(apply Zr;(decide +kernel))|exact AOs.nil|exact ZF rfl rfl|(apply Zv Za;(iterate 6 exact Z);(first|exact Qt|rotate_left);(first|with_reducible assumption|decide +kernel|exact Z);(first|exact Zk rfl|with_reducible assumption|decide +kernel|rotate_left)))
  all_goals exact Qe
end Go.Proofs.YtmljabhmajehnaaGreatDoor
end
section
open Go.RowKit Go.Pl
namespace Go.Av
theorem Z2 [Known][Dfr]{P:Program}{Q:X->St->Prop}{x:X}{S:St}(h:Q x S):unK P Q [] x S:=h
def X.noGoto (Q:X->St->Prop):X->St->Prop
 | .goto _,_=>False
 | x,S=>Q x S
theorem Uf [Known][Dfr]{P:Program}{Q:X->St->Prop}{S:St}{c:Code}(h:AW P c S (X.noGoto Q)):AW P (.scope c) S Q:=⟨fun b0 g a w hi=>wp_scope_straight <| wp_mono (h.run b0 g a w hi) fun e a w hc=>by
 cases e<;>simp only[Vi,X.noGoto,Exit.noGoto]at hc ⊢
 case goto l=>obtain⟨S,g,h1,h2⟩:=hc;exact h2
 all_goals exact hc⟩
section
variable {P:Program} {Q:X->St->Prop} {n:Nat} {ee:Nat × Nat} {tm:List (Nat × D)} {bx:List (List D)} {fr:List Fr} {T:Tab}
variable {ops:Array Oper} {rest:List Oper} {t ty:Nat} {pos:String} {after:Array Edge}
end
end Go.Av
end

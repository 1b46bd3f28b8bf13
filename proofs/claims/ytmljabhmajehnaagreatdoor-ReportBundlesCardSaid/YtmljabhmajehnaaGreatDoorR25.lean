/- Items: how many there are, how deep they go; that this is what walk counts. Plain laws. -/
import Derived.Test.YtmljabhmajehnaaGreatDoorR24
import Derived.Test.YtmljabhmajehnaaGreatDoorR23
import Derived.Test.YtmljabhmajehnaaGreatDoorR21
import Derived.Test.YtmljabhmajehnaaGreatDoorR19
set_option linter.unusedVariables false
set_option linter.unusedSimpArgs false
section
open Go.RowKit Go.Pl Go.Av
namespace Go.Proofs.YtmljabhmajehnaaGreatDoor
mutual
def YD:It->Nat
 | .mk _ _ _ l=>1+Yg l
def Yg:List It->Nat
 | []=>0
 | x::l=>YD x+Yg l
end
mutual
def Yz:It->Bool
 | .mk k n b l=>Wp k n b l&&Y9 l
def Y9:List It->Bool
 | []=>true
 | x::l=>Yz x&&Y9 l
end
mutual
theorem G0:∀(x:It) (d m:Nat),Wq x d m=if YU x (7-d)=true/\YD x<=m/\Yz x=true then some (m-YD x) else none
 | .mk k n b l,d,m=>by
  rw[Wq]
  split
  ·rename_i h
   rw[if_neg]
   rintro⟨h1,_⟩
   rw[show 7-d=0 by omega,YU]at h1
   cases h1
  rename_i hd
  rw[show 7-d=(7-(d+1))+1 by omega,YU,YD,Yz]
  split
  ·rename_i h
   rw[if_neg]
   rintro⟨_,h1,_⟩
   omega
  rename_i hm
  cases ho:Wp k n b l with
  | false=>
   dsimp only
   rw[if_neg]
   rintro⟨_,_,h1⟩
   simp at h1
  | true=>
   dsimp only
   rw[O7 l (d+1) (m-1),Bool.true_and]
   by_cases h:YN l (7-(d+1))=true/\Yg l<=m-1/\Y9 l=true
   ·rw[if_pos h,if_pos ⟨h.1,by omega,h.2.2⟩]
    congr 1;omega
   ·rw[if_neg h,if_neg]
    exact fun⟨a,b,c⟩=>h ⟨a,by omega,c⟩
theorem O7:∀(l:List It) (d m:Nat),YM l d m=if YN l (7-d)=true/\Yg l<=m/\Y9 l=true then some (m-Yg l) else none
 | [],d,m=>by rw[YM,if_pos ⟨by rw[YN],by rw[Yg];omega,by rw[Y9]⟩,Yg];rfl
 | x::l,d,m=>by
  rw[YM,G0 x d m,YN,Yg,Y9]
  by_cases h:YU x (7-d)=true/\YD x<=m/\Yz x=true
  ·rw[if_pos h]
   dsimp only
   rw[O7 l d (m-YD x),h.1,h.2.2,Bool.true_and,Bool.true_and]
   by_cases h2:YN l (7-d)=true/\Yg l<=m-YD x/\Y9 l=true
   ·rw[if_pos h2,if_pos ⟨h2.1,by omega,h2.2.2⟩]
    congr 1;omega
   ·rw[if_neg h2,if_neg]
    exact fun⟨a,b,c⟩=>h2 ⟨a,by omega,c⟩
  ·rw[if_neg h]
   dsimp only
   rw[if_neg]
   rintro⟨a,b,c⟩
   rw[Bool.and_eq_true]at a c
   exact h ⟨a.1,by omega,c.1⟩
end
theorem YY (x:It):ZC x=(YU x 6&&(decide (YD x<=256)&&Yz x)):=by
 unfold ZC
 rw[G0]
 split
 ·rename_i h
  obtain⟨a,b,c⟩:=h
  rw[show 7-1=6 from rfl]at a
  simp[a,b,c]
 ·rename_i h
  rw[show 7-1=6 from rfl]at h
  show false=_
  cases h2:(YU x 6&&(decide (YD x<=256)&&Yz x)) with
  | false=>rfl
  | true=>
   simp only[Bool.and_eq_true,decide_eq_true_eq]at h2
   exact absurd ⟨h2.1,h2.2.1,h2.2.2⟩ h
mutual
theorem KS:∀(x:It) (d e:Nat),YU x d=true->d<=e->YU x e=true
 | .mk k n b l,0,e,h,_=>by rw[YU]at h;cases h
 | .mk k n b l,d+1,0,h,hle=>by omega
 | .mk k n b l,d+1,e+1,h,hle=>by
  rw[YU]at h ⊢
  exact KT l d e h (by omega)
theorem KT:∀(l:List It) (d e:Nat),YN l d=true->d<=e->YN l e=true
 | [],_,_,_,_=>by rw[YN]
 | x::l,d,e,h,hle=>by
  rw[YN,Bool.and_eq_true]at h ⊢
  exact⟨KS x d e h.1 hle,KT l d e h.2 hle⟩
end
mutual
theorem Tj:∀(x:It) (d:Nat) (m:Int),0<=Wk x d m->(YD x:Int)=m-Wk x d m
 | .mk k n b l,d,m,h=>by
  rw[Wk]at h ⊢
  split at h
  ·omega
  split at h
  ·omega
  rename_i h1 h2
  rw[if_neg h1,if_neg h2,YD]
  have:=X5 l (d+1) (m-1) h
  omega
theorem X5:∀(l:List It) (d:Nat) (m:Int),0<=WS l d m->(Yg l:Int)=m-WS l d m
 | [],d,m,h=>by rw[WS,Yg];omega
 | x::l,d,m,h=>by
  rw[WS]at h ⊢
  split at h
  ·omega
  rename_i h1
  rw[if_neg h1,Yg]
  have h0:0<=Wk x d m:=by
   rcases Int.lt_or_le (Wk x d m) 0 with hlt|hge
   ·have:=Jg l d (Wk x d m) (by have:=Jf x d m (by omega);omega);omega
   ·exact hge
  have a:=Tj x d m h0
  have b:=X5 l d _ h
  omega
end
end Go.Proofs.YtmljabhmajehnaaGreatDoor
end
section
open Go.RowKit Go.Pl Go.Av
namespace Go.Proofs.YtmljabhmajehnaaGreatDoor
set_option maxHeartbeats 4000000
theorem O8:∀ {l:List It} {d:Nat},YN l d=true->∀ y ∈ l,YU y d=true
 | x::l,d,h,y,hy=>by
  rw[YN,Bool.and_eq_true]at h
  rcases List.mem_cons.1 hy with rfl|hy
  ·exact h.1
  ·exact O8 h.2 y hy
theorem Sk {l l':List It}(h:l.length ≠ l'.length):It.beqs l l'=false:=by
 rw[<- Bool.not_eq_true]
 intro e
 exact h (congrArg List.length (It.beqs_iff.1 e))
theorem VC [Known]:∀(x:It),wfI x->∀ y:It,wfI y->AP Tryz.prog 71 [itD x,itD y] (.bool (It.beq x y)) []:=by
 refine It.ind fun k n b l ih hw y hw'=>?_
 obtain⟨k',n',b',l'⟩:=y
 obtain⟨_,_,hl,hws⟩:=hw
 obtain⟨_,_,hl',hws'⟩:=hw'
 have e1:=Zw l
 have e2:=Zw l'
 rw[It.beq]
 by_cases h1:k=k'
 case neg=>
  have t1:(k != k')=true:=by simpa using h1
  have tt:((k==k')&&((n==n')&&((b==b')&&It.beqs l l')))=false:=by simp[h1]
  rw[tt]
  refine AP.ofA (Zl Tryz.func71 U Tryz.ntmps71 U U ?_)
  repeat'(first|(apply Zi Za;exact U)|(apply Zg Za;exact U)|(apply Zp Za;exact U)|refine Zm U U U Qt ?_|refine Zj U Qt U U ?_|refine Zd U Qt ?_)
  all_goals exact Qe
 have t1:(k != k')=false:=by simpa using h1
 by_cases h2:n=n'
 case neg=>
  have t2:((n:Int) != (n':Int))=true:=by simp;omega
  have tt:((k==k')&&((n==n')&&((b==b')&&It.beqs l l')))=false:=by simp[h2]
  rw[tt]
  refine AP.ofA (Zl Tryz.func71 U Tryz.ntmps71 U U ?_)
  repeat'(first|(apply Zi Za;exact U)|(apply Zg Za;exact U)|(apply Zp Za;exact U)|refine Ze U U U Qt ?_|refine Zm U U U Qt ?_|refine Zj U Qt U U ?_|refine Zh U Qt U U ?_|refine Zd U Qt ?_)
  all_goals exact Qe
 have t2:((n:Int) != (n':Int))=false:=by simp;omega
 by_cases h3:b=b'
 case neg=>
  have t3:(b != b')=true:=by simpa using h3
  have tt:((k==k')&&((n==n')&&((b==b')&&It.beqs l l')))=false:=by simp[h3]
  rw[tt]
  refine AP.ofA (Zl Tryz.func71 U Tryz.ntmps71 U U ?_)
  repeat'(first|(apply Zi Za;exact U)|(apply Zg Za;exact U)|(apply Zp Za;exact U)|refine Ze U U U Qt ?_|refine Zm U U U Qt ?_|refine Zj U Qt U U ?_|refine Zh U Qt U U ?_|refine Zd U Qt ?_|refine Vf Za U U U U U U U U U ?_)
  all_goals exact Qe
 have t3:(b != b')=false:=by simpa using h3
 have e:((k==k')&&((n==n')&&((b==b')&&It.beqs l l')))=It.beqs l l':=by simp[h1,h2,h3]
 rw[e]
 by_cases hne:l.length=l'.length
 case neg=>
  have t4:(((Zv l).length:Int) != ((Zv l').length:Int))=true:=by rw[e1,e2];simp;omega
  rw[Sk hne]
  refine AP.ofA (Zl Tryz.func71 U Tryz.ntmps71 U U ?_)
  repeat'(first|(apply Zi Za;exact U)|(apply Zg Za;exact U)|(apply Zp Za;exact U)|refine Ze U U U Qt ?_|refine Zh U Qt U U ?_|refine Zd U Qt ?_|refine Zn Za U U U U ?_|refine Vf Za U U U U U U U U U ?_)
  all_goals exact Qe
 have t4:(((Zv l).length:Int) != ((Zv l').length:Int))=false:=by rw[e1,e2,hne];simp
 generalize hfin:It.beqs l l'=fin
 have ih':∀ y ∈ l,∀ y' ∈ l',AP Tryz.prog 71 [itD y,itD y'] (.bool (It.beq y y')) []:=fun y hy y' hy'=>ih y hy (Wh hws y hy) y' (Wh hws' y' hy')
 clear ih e h1 h2 h3
 refine AP.ofA (Zl Tryz.func71 U Tryz.ntmps71 U U ?_)
 repeat'(first|(apply Zi Za;exact U)|(apply Zg Za;exact U)|(apply Zp Za;exact U)|refine Ze U U U Qt ?_|refine Zh U Qt U U ?_|refine Zf U Qt ?_|refine Zn Za U U U U ?_|refine Vf Za U U U U U U U U U ?_)
 refine ZJ (fun f tm bx fr=>∃ i:Nat,f+i=l.length/\It.beqs (l.drop i) (l'.drop i)=fin/\tm=[(2,.ptr 0 0),(3,.ptr 1 0),(5,.int .i64 (i:Int)),(4,.bool false)]/\bx=[itC k n b l,itC k' n' b' l']/\fr=[]) (l.length+1) (Lands.mk' (m:=l.length) (Nat.lt_succ_self _) ⟨0,rfl,hfin,rfl,rfl,rfl⟩ ?_ rfl rfl rfl rfl rfl rfl) ?_
 ·exact .cons rfl (.cons rfl (.cons rfl (.cons rfl .nil)))
 rintro f tm bx fr ⟨i,hf,hfin,rfl,rfl,rfl⟩
 have hU:=YE l
 have hU':=YE l'
 rcases Nat.lt_or_ge i l.length with hlt|hge
 ·have hdl:decide ((i:Int)<((Zv l).length:Int))=true:=decide_eq_true (by omega)
  obtain⟨⟨k1,n1,b1,l1⟩,hy⟩:∃ y,l[i]?=some y:=⟨_,List.getElem?_eq_getElem hlt⟩
  obtain⟨⟨k2,n2,b2,l2⟩,hy'⟩:∃ y,l'[i]?=some y:=⟨_,List.getElem?_eq_getElem (by omega)⟩
  have hv:(Zv l)[((i:Nat):Int).toNat]?=some (.agg [.int .i64 k1,.int .u64 (n1:Int),.sl (b1.map E.byte),.sl (Zv l1)]):=by
   rw[Int.toNat_natCast,Yl,List.getElem?_map,hy];rfl
  have hv':(Zv l')[((i:Nat):Int).toNat]?=some (.agg [.int .i64 k2,.int .u64 (n2:Int),.sl (b2.map E.byte),.sl (Zv l2)]):=by
   rw[Int.toNat_natCast,Yl,List.getElem?_map,hy'];rfl
  have hc:=ih' _ (List.mem_of_getElem? hy) _ (List.mem_of_getElem? hy')
  have hdr:l.drop i=It.mk k1 n1 b1 l1::l.drop (i+1):=by
   rw[List.drop_eq_getElem_cons hlt];congr 1
   exact(List.getElem?_eq_some_iff.1 hy).2
  have hdr':l'.drop i=It.mk k2 n2 b2 l2::l'.drop (i+1):=by
   rw[List.drop_eq_getElem_cons (by omega)];congr 1
   exact(List.getElem?_eq_some_iff.1 hy').2
  rw[hdr,hdr',It.beqs]at hfin
  have ei:IntKind.i64.wrap ((i:Int)+1)=((i+1:Nat):Int):=by rw[IntWalk.i64_in _ (by omega)];omega
  cases hb:It.beq (.mk k1 n1 b1 l1) (.mk k2 n2 b2 l2) with
  | false=>
   rw[hb]at hfin hc
   subst hfin
   repeat'(first|(apply Zb (hc);kernel_rfl;(iterate 4 exact U))|(apply Zi Za;exact U)|(apply Zg Za;exact U)|(apply Zp Za;exact U)|refine Zd U Qt ?_|refine Yf ?_|refine Zn Za U U U U ?_|(apply ZT 10 ZB;decide +kernel;kernel_rfl;kernel_rfl;exact U;exact U)|(apply Z4;(iterate 3 exact U))|refine AD.nil _|exact Yx rfl|(apply Zu Za;(iterate 6 exact U);(first|exact Qt|rotate_left);(first|with_reducible assumption|decide +kernel|exact U);(first|exact Zk rfl|with_reducible assumption|decide +kernel|rotate_left)))
   all_goals exact Qe
  | true=>
   rw[hb]at hfin hc
   repeat'(first|rw[ei]|(apply Zb (hc);kernel_rfl;(iterate 4 exact U))|(apply Zi Za;exact U)|(apply Zg Za;exact U)|(apply Zp Za;exact U)|refine Zd U Qt ?_|refine Zf U Qt ?_|refine Zn Za U U U U ?_|(apply ZT 10 ZB;decide +kernel;kernel_rfl;kernel_rfl;exact U;exact U)|(apply Z4;(iterate 3 exact U))|refine AD.nil _|exact Yx rfl|(apply Zu Za;(iterate 6 exact U);(first|exact Qt|rotate_left);(first|with_reducible assumption|decide +kernel|exact U);(first|exact Zk rfl|with_reducible assumption|decide +kernel|rotate_left)))
   refine Lands.mk' (m:=f-1) (by omega) ⟨i+1,by omega,hfin,rfl,rfl,rfl⟩ ?_ rfl rfl rfl rfl rfl rfl
   exact .cons rfl (.cons rfl (.cons rfl (.cons rfl .nil)))
 ·have hdl:decide ((i:Int)<((Zv l).length:Int))=false:=decide_eq_false (by omega)
  rw[List.drop_eq_nil_of_le hge,List.drop_eq_nil_of_le (by omega)]at hfin
  have hfin:true=fin:=hfin
  subst hfin
  repeat'(first|(apply Zi Za;exact U)|(apply Zg Za;exact U)|(apply Zp Za;exact U)|refine Zf U Qt ?_|refine Zn Za U U U U ?_)
  all_goals exact Qe
theorem Dv [Known](k:Int)(n:Nat)(b:List UInt8)(l:List It)(h:k ≠ 4\/l.length ≠ 2):AP Tryz.prog 117 [itD (.mk k n b l)] (.tup [.agg [.bool false,.int .u64 0,.int .u64 0,.str [],.str []],.bool false]) []:=by
 by_cases hk:k=4
 ·have t1:(k != 4)=false:=by simpa using hk
  have hl:l.length ≠ 2:=by
   rcases h with h|h
   ·exact absurd hk h
   ·exact h
  have t2:(((Zv l).length:Int) != 2)=true:=by rw[Zw];simp;omega
  refine AP.ofA (Zl Tryz.func117 U Tryz.ntmps117 U U ?_)
  repeat'(first|(apply Zi Za;exact U)|(apply Zg Za;exact U)|(apply Zp Za;exact U)|refine Ze U U U Qt ?_|refine Zh U Qt U U ?_|refine Zd U Qt ?_|refine Zn Za U U U U ?_)
  all_goals exact Qe
 ·have t1:(k != 4)=true:=by simpa using hk
  refine AP.ofA (Zl Tryz.func117 U Tryz.ntmps117 U U ?_)
  repeat'(first|(apply Zi Za;exact U)|(apply Zg Za;exact U)|(apply Zp Za;exact U)|refine Zm U U U Qt ?_|refine Zj U Qt U U ?_|refine Zd U Qt ?_)
  all_goals exact Qe
theorem Fg [Known](s z:It)(n:Nat)(b:List UInt8)(n2:Nat)(b2:List UInt8)(kp:Int)(np:Nat)(bp:List UInt8)(lp:List It)(kq:Int)(nq:Nat)(bq:List UInt8)(lq:List It)(ez:z=.mk 4 n2 b2 [.mk kp np bp lp,.mk kq nq bq lq])(κ:Int)(w:It)(z4 R:Bool)
  (hK:AP Tryz.prog 87 [.agg [.bool true,.int .u64 (np:Int),.int .u64 (nq:Int),.str [],.str []]] (.int .i64 κ) []) (t4:decide (κ<0)=z4)
  (hW:z4=false->AP Tryz.prog 90 [.agg [.bool true,.int .u64 (np:Int),.int .u64 (nq:Int),.str [],.str []]] (itD w) [])
  (hS:z4=false->AP Tryz.prog 71 [itD w,itD (.mk 4 n b [s,z])] (.bool R) []) :
  AP Tryz.prog 117 [itD (.mk 4 n b [s,z])] (KO z4 (!R) true np nq [] []) []:=by
 have hU:=YE [s,z]
 subst ez
 have hU2:=YE [.mk kp np bp lp,.mk kq nq bq lq]
 have t2:(((Zv [s,.mk 4 n2 b2 [.mk kp np bp lp,.mk kq nq bq lq]]).length:Int) != 2)=false:=rfl
 have t3:(((Zv [.mk kp np bp lp,.mk kq nq bq lq]).length:Int)==2)=true:=rfl
 obtain⟨sk,sn,sb,sl⟩:=s
 obtain⟨wk,wn,wb,wl⟩:=w
 cases z4 with
 | true=>
  clear hW hS
  cases R
  all_goals
   refine AP.ofA (Zl Tryz.func117 U Tryz.ntmps117 U U ?_)
   repeat'(first|(apply Zb (hK);kernel_rfl;(iterate 4 exact U))|(apply Zi Za;exact U)|(apply Zg Za;exact U)|(apply Zp Za;exact U)|refine Ze U U U Qt ?_|refine Zm U U U Qt ?_|refine Zj U Qt U U ?_|refine Zh U Qt U U ?_|refine Zd U Qt ?_|refine Zf U Qt ?_|refine Zn Za U U U U ?_|(apply Zo 7 ZB;decide +kernel;kernel_rfl;kernel_rfl;kernel_rfl;exact U;exact U)|(apply Zo 10 ZB;decide +kernel;kernel_rfl;kernel_rfl;kernel_rfl;exact U;exact U)|(apply Zs;(iterate 4 exact U))|exact AE.nil _ _ _ _|(apply Zx;exact U)|(apply Zz;exact U;exact U;decide +kernel;exact U)|(apply ZA;exact U)|exact AO.nil _ _ _|(apply Zr;(decide +kernel))|exact AOs.nil|exact ZF rfl rfl|(apply Zu Za;(iterate 6 exact U);(first|exact Qt|rotate_left);(first|with_reducible assumption|decide +kernel|exact U);(first|exact Zk rfl|with_reducible assumption|decide +kernel|rotate_left)))
   all_goals exact Qe
 | false=>
  have hW:=hW rfl
  have hS:=hS rfl
  cases R
  all_goals
   refine AP.ofA (Zl Tryz.func117 U Tryz.ntmps117 U U ?_)
   repeat'(first|(apply Zb (hK);kernel_rfl;(iterate 4 exact U))|(apply Zb (hW);kernel_rfl;(iterate 4 exact U))|(apply Zb (hS);kernel_rfl;(iterate 4 exact U))|(apply Zi Za;exact U)|(apply Zg Za;exact U)|(apply Zp Za;exact U)|refine Ze U U U Qt ?_|refine Zj U Qt U U ?_|refine Zh U Qt U U ?_|refine Zd U Qt ?_|refine Zf U Qt ?_|refine Zn Za U U U U ?_|(apply Zo 7 ZB;decide +kernel;kernel_rfl;kernel_rfl;kernel_rfl;exact U;exact U)|(apply Zo 10 ZB;decide +kernel;kernel_rfl;kernel_rfl;kernel_rfl;exact U;exact U)|(apply Zs;(iterate 4 exact U))|exact AE.nil _ _ _ _|(apply Zx;exact U)|(apply Zz;exact U;exact U;decide +kernel;exact U)|(apply ZA;exact U)|exact AO.nil _ _ _|(apply Zr;(decide +kernel))|exact AOs.nil|exact ZF rfl rfl|(apply Zu Za;(iterate 6 exact U);(first|exact Qt|rotate_left);(first|with_reducible assumption|decide +kernel|exact U);(first|exact Zk rfl|with_reducible assumption|decide +kernel|rotate_left)))
   all_goals exact Qe
theorem Fh [Known](s:It)(n:Nat)(b:List UInt8)(kz:Int)(nz:Nat)(bz:List UInt8)(lz:List It)(hz:kz=4/\lz.length ≠ 2\/kz ≠ 4/\kz ≠ 3)(w:It)(R:Bool)
  (hK:AP Tryz.prog 87 [.agg [.bool false,.int .u64 0,.int .u64 0,.str [],.str []]] (.int .i64 0) [])
  (hW:AP Tryz.prog 90 [.agg [.bool false,.int .u64 0,.int .u64 0,.str [],.str []]] (itD w) [])
  (hS:AP Tryz.prog 71 [itD w,itD (.mk 4 n b [s,.mk kz nz bz lz])] (.bool R) []) :
  AP Tryz.prog 117 [itD (.mk 4 n b [s,.mk kz nz bz lz])] (KO false (!R) false 0 0 [] []) []:=by
 have hU:=YE [s,.mk kz nz bz lz]
 have t2:(((Zv [s,.mk kz nz bz lz]).length:Int) != 2)=false:=rfl
 obtain⟨sk,sn,sb,sl⟩:=s
 obtain⟨wk,wn,wb,wl⟩:=w
 have t5:(kz==3)=false:=by
  rcases hz with⟨rfl,_⟩ | ⟨_,h⟩
  ·rfl
  ·simpa using h
 rcases hz with⟨rfl,hl⟩ | ⟨hk,_⟩
 ·have t3:(((Zv lz).length:Int)==2)=false:=by rw[Zw];simp;omega
  cases R
  all_goals
   refine AP.ofA (Zl Tryz.func117 U Tryz.ntmps117 U U ?_)
   repeat'(first|(apply Zb (hK);kernel_rfl;(iterate 4 exact U))|(apply Zb (hW);kernel_rfl;(iterate 4 exact U))|(apply Zb (hS);kernel_rfl;(iterate 4 exact U))|(apply Zi Za;exact U)|(apply Zg Za;exact U)|(apply Zp Za;exact U)|refine Ze U U U Qt ?_|refine Zj U Qt U U ?_|refine Zh U Qt U U ?_|refine Zd U Qt ?_|refine Zf U Qt ?_|refine Zn Za U U U U ?_|(apply Zo 7 ZB;decide +kernel;kernel_rfl;kernel_rfl;kernel_rfl;exact U;exact U)|(apply Zs;(iterate 4 exact U))|exact AE.nil _ _ _ _|(apply Zx;exact U)|(apply Zz;exact U;exact U;decide +kernel;exact U)|(apply ZA;exact U)|exact AO.nil _ _ _|(apply Zr;(decide +kernel))|exact AOs.nil|exact ZF rfl rfl|(apply Zu Za;(iterate 6 exact U);(first|exact Qt|rotate_left);(first|with_reducible assumption|decide +kernel|exact U);(first|exact Zk rfl|with_reducible assumption|decide +kernel|rotate_left)))
   all_goals exact Qe
 ·have t3:(kz==4)=false:=by simpa using hk
  cases R
  all_goals
   refine AP.ofA (Zl Tryz.func117 U Tryz.ntmps117 U U ?_)
   repeat'(first|(apply Zb (hK);kernel_rfl;(iterate 4 exact U))|(apply Zb (hW);kernel_rfl;(iterate 4 exact U))|(apply Zb (hS);kernel_rfl;(iterate 4 exact U))|(apply Zi Za;exact U)|(apply Zg Za;exact U)|(apply Zp Za;exact U)|refine Ze U U U Qt ?_|refine Zt U U U Qt ?_|refine Zh U Qt U U ?_|refine Zd U Qt ?_|refine Zf U Qt ?_|refine Zn Za U U U U ?_|(apply Zo 7 ZB;decide +kernel;kernel_rfl;kernel_rfl;kernel_rfl;exact U;exact U)|(apply Zs;(iterate 4 exact U))|exact AE.nil _ _ _ _|(apply Zx;exact U)|(apply Zz;exact U;exact U;decide +kernel;exact U)|(apply ZA;exact U)|exact AO.nil _ _ _|(apply Zr;(decide +kernel))|exact AOs.nil|exact ZF rfl rfl|(apply Zu Za;(iterate 6 exact U);(first|exact Qt|rotate_left);(first|with_reducible assumption|decide +kernel|exact U);(first|exact Zk rfl|with_reducible assumption|decide +kernel|rotate_left)))
   all_goals exact Qe
theorem Fi [Known](s:It)(n:Nat)(b:List UInt8)(nz:Nat)(bz:List UInt8)(lz:List It)(xi:Bool)(xn xs:Nat)(xh xd:List UInt8)(κ:Int)(w:It)(R:Bool)(hl:[(100:UInt8),116,110,58].length+bz.length<=maxLen)
  (hP:AP Tryz.prog 152 [.str ([100,116,110,58]++bz)] (.tup [.agg [.bool xi,.int .u64 (xn:Int),.int .u64 (xs:Int),.str xh,.str xd],.bool true]) [])
  (hK:AP Tryz.prog 87 [.agg [.bool xi,.int .u64 (xn:Int),.int .u64 (xs:Int),.str xh,.str xd]] (.int .i64 κ) []) (t4:decide (κ<0)=false)
  (hW:AP Tryz.prog 90 [.agg [.bool xi,.int .u64 (xn:Int),.int .u64 (xs:Int),.str xh,.str xd]] (itD w) [])
  (hS:AP Tryz.prog 71 [itD w,itD (.mk 4 n b [s,.mk 3 nz bz lz])] (.bool R) []) :
  AP Tryz.prog 117 [itD (.mk 4 n b [s,.mk 3 nz bz lz])] (KO false (!R) xi xn xs xh xd) []:=by
 have hU:=YE [s,.mk 3 nz bz lz]
 have t2:(((Zv [s,.mk 3 nz bz lz]).length:Int) != 2)=false:=rfl
 obtain⟨sk,sn,sb,sl⟩:=s
 obtain⟨wk,wn,wb,wl⟩:=w
 cases R
 all_goals
  refine AP.ofA (Zl Tryz.func117 U Tryz.ntmps117 U U ?_)
  repeat'(first|(apply Zb (hP);kernel_rfl;(iterate 4 exact U))|(apply Zb (hK);kernel_rfl;(iterate 4 exact U))|(apply Zb (hW);kernel_rfl;(iterate 4 exact U))|(apply Zb (hS);kernel_rfl;(iterate 4 exact U))|refine QD U U hl U ?_|refine Vf Za U U U U U U U U U ?_|(apply Zi Za;exact U)|(apply Zg Za;exact U)|(apply Zp Za;exact U)|refine Ze U U U Qt ?_|refine Zt U U U Qt ?_|refine Zh U Qt U U ?_|refine Zd U Qt ?_|refine Zf U Qt ?_|refine Zn Za U U U U ?_|(apply Zo 7 ZB;decide +kernel;kernel_rfl;kernel_rfl;kernel_rfl;exact U;exact U)|(apply Zs;(iterate 4 exact U))|exact AE.nil _ _ _ _|(apply Zx;exact U)|(apply Zz;exact U;exact U;decide +kernel;exact U)|(apply ZA;exact U)|exact AO.nil _ _ _|(apply Zr;(decide +kernel))|exact AOs.nil|exact ZF rfl rfl|(apply Zu Za;(iterate 6 exact U);(first|exact Qt|rotate_left);(first|with_reducible assumption|decide +kernel|exact U);(first|exact Zk rfl|with_reducible assumption|decide +kernel|rotate_left))|refine Vf Za U U U U U U U U U ?_)
  all_goals exact Qe
theorem Fj [Known](s:It)(n:Nat)(b:List UInt8)(nz:Nat)(bz:List UInt8)(lz:List It)(hl:[(100:UInt8),116,110,58].length+bz.length<=maxLen)
  (hP:AP Tryz.prog 152 [.str ([100,116,110,58]++bz)] (.tup [.agg [.bool false,.int .u64 0,.int .u64 0,.str [],.str []],.bool false]) []) :
  AP Tryz.prog 117 [itD (.mk 4 n b [s,.mk 3 nz bz lz])] (.tup [.agg [.bool false,.int .u64 0,.int .u64 0,.str [],.str []],.bool false]) []:=by
 have hU:=YE [s,.mk 3 nz bz lz]
 have t2:(((Zv [s,.mk 3 nz bz lz]).length:Int) != 2)=false:=rfl
 obtain⟨sk,sn,sb,sl⟩:=s
 refine AP.ofA (Zl Tryz.func117 U Tryz.ntmps117 U U ?_)
 repeat'(first|(apply Zb (hP);kernel_rfl;(iterate 4 exact U))|refine QD U U hl U ?_|refine Vf Za U U U U U U U U U ?_|(apply Zi Za;exact U)|(apply Zg Za;exact U)|(apply Zp Za;exact U)|refine Ze U U U Qt ?_|refine Zt U U U Qt ?_|refine Zh U Qt U U ?_|refine Zd U Qt ?_|refine Zf U Qt ?_|refine Zn Za U U U U ?_|(apply Zu Za;(iterate 6 exact U);(first|exact Qt|rotate_left);(first|with_reducible assumption|decide +kernel|exact U);(first|exact Zk rfl|with_reducible assumption|decide +kernel|rotate_left))|refine Vf Za U U U U U U U U U ?_)
 all_goals exact Qe
theorem XC {x:It}{c:EidV}(hc:(ZS x).2=true->c=(ZS x).1){i:Bool}{n q:Nat}{h d:List UInt8}(ec:c=⟨i,n,q,h,d⟩):KO (decide (Y8 c<0)) (!(It.beq (ZY c) x)) i n q h d=KQ x:=by
 have hk:=Jb c
 cases hr:ZQ c with
 | false=>
  have e:decide (Y8 c<0)=true:=decide_eq_true (by have:=of_decide_eq_false (hk.trans hr);omega)
  rw[e,QQ (Du hc hr)]
  cases !(It.beq (ZY c) x)<;>rfl
 | true=>
  have e:decide (Y8 c<0)=false:=decide_eq_false (by have:=of_decide_eq_true (hk.trans hr);omega)
  rw[e]
  cases hs:It.beq (ZY c) x with
  | false=>rw[QQ (Fe hc hs)];rfl
  | true=>rw[N6 (Ff hr hs),ec];rfl
theorem X6 {c:EidV}(h:decide (Y8 c<0)=false):ZQ c=true:=by
 rw[<- Jb]
 exact decide_eq_true (by have:=of_decide_eq_false h;omega)
theorem QR {c:EidV}(h:ZQ c=true):decide (Y8 c<0)=false:=decide_eq_false (by have:=of_decide_eq_true ((Jb c).trans h);omega)
theorem X7 [Known](x:It)(hw:wfI x)(hb:∀ y ∈ x.l,y.b.length<=1099511627000):AP Tryz.prog 117 [itD x] (KQ x) []:=by
 obtain⟨k,n,b,l⟩:=x
 by_cases hk:k=4
 case neg=>rw[QQ (SX (.inl hk))];exact Dv k n b l (.inl hk)
 by_cases hl:l.length=2
 case neg=>rw[QQ (SX (.inr hl))];exact Dv k n b l (.inr hl)
 subst hk
 obtain⟨s,z,rfl⟩:∃ s z,l=[s,z]:=by
  match l,hl with
  | [s,z],_=>exact⟨s,z,rfl⟩
 have hbz:=hb z (by simp[It.l])
 clear hl hb
 have kZ:=W4 Yi ⟨by decide,by decide⟩
 have wZ:=WF Yi (by decide)
 have sZ:=VC (ZY Yi) (VP (by decide)) _ hw
 obtain⟨kz,nz,bz,lz⟩:=z
 simp only[It.b]at hbz
 by_cases h3:kz=3
 ·subst h3
  have hP:=GY (Ux++bz) (by simp[Ux];omega)
  have hml:[(100:UInt8),116,110,58].length+bz.length<=maxLen:=by simp;unfold maxLen;omega
  cases hp:(Yc (Ux++bz)).2 with
  | false=>
   rw[UM hp]at hP
   rw[QQ (N7 hp)]
   exact Fj s n b nz bz lz hml hP
  | true=>
   obtain⟨hr,_⟩:=VB hp
   unfold JH at hP
   rw[hp]at hP
   have hc:(ZS (.mk 4 n b [s,.mk 3 nz bz lz])).2=true->(Yc (Ux++bz)).1=(ZS (.mk 4 n b [s,.mk 3 nz bz lz])).1:=
    Th (fun e=>by cases e) (fun p q e=>by cases e) (fun t e _=>by cases e;rfl)
   generalize (Yc (Ux++bz)).1=c at *
   rw[<- XC hc (show c=⟨c.i,c.n,c.s,c.h,c.d⟩ from rfl),QR hr]
   exact Fi s n b nz bz lz c.i c.n c.s c.h c.d (Y8 c) (ZY c) _ hml hP (W4 c (UN hr)) (QR hr) (WF c hr) (VC (ZY c) (VP hr) _ hw)
 ·by_cases h4:kz=4/\lz.length=2
  ·obtain⟨rfl,hl2⟩:=h4
   obtain⟨⟨kp,np,bp,lp⟩,⟨kq,nq,bq,lq⟩,rfl⟩:∃ p q,lz=[p,q]:=by
    match lz,hl2 with
    | [p,q],_=>exact⟨p,q,rfl⟩
   have hc:(ZS (.mk 4 n b [s,.mk 4 nz bz [.mk kp np bp lp,.mk kq nq bq lq]])).2=true->(⟨true,np,nq,[],[]⟩:EidV)=(ZS (.mk 4 n b [s,.mk 4 nz bz [.mk kp np bp lp,.mk kq nq bq lq]])).1:=
    Th (fun e=>by cases e) (fun p q e=>by cases e;rfl) (fun t e _=>by cases e)
   rw[<- XC hc rfl]
   exact Fg s _ n b nz bz kp np bp lp kq nq bq lq rfl (Y8 ⟨true,np,nq,[],[]⟩) (ZY ⟨true,np,nq,[],[]⟩) _ _ (W4 ⟨true,np,nq,[],[]⟩ ⟨Nat.zero_le _,Nat.zero_le _⟩) rfl (fun h=>WF ⟨true,np,nq,[],[]⟩ (X6 h)) (fun h=>VC (ZY ⟨true,np,nq,[],[]⟩) (VP (X6 h)) _ hw)
  ·have hc:(ZS (.mk 4 n b [s,.mk kz nz bz lz])).2=true->Yi=(ZS (.mk 4 n b [s,.mk kz nz bz lz])).1:=
    Th (fun e=>rfl) (fun p q e=>by cases e;exact absurd ⟨rfl,rfl⟩ h4) (fun t e _=>by cases e;exact absurd rfl h3)
   rw[<- XC hc rfl]
   exact Fh s n b kz nz bz lz (by
    by_cases h5:kz=4
    ·exact .inl ⟨h5,fun e=>h4 ⟨h5,e⟩⟩
    ·exact .inr ⟨h5,h3⟩) (ZY Yi) _ kZ wZ sZ
theorem UQ:∀ {l:List It} {y:It},y ∈ l->(ZI y).length<=(ZO l).length
 | x::l,y,h=>by
  rw[ZO,List.length_append]
  rcases List.mem_cons.1 h with rfl|h
  ·omega
  ·have:=UQ h;omega
theorem Dw (y:It):y.b.length<=(ZI y).length:=by
 obtain⟨k,n,b,l⟩:=y
 rw[ZI,List.length_append,List.length_append]
 show b.length<=_
 omega
theorem G1 (k:Int)(n:Nat)(b:List UInt8)(l:List It):(ZO l).length<=(ZI (.mk k n b l)).length:=by
 rw[ZI,List.length_append,List.length_append]
 omega
theorem BA (l:List Nat):Uni 1 (l.map fun n:Nat=>E.int .u64 (n:Int)):=Uni.map (f:=fun n:Nat=>E.int .u64 (n:Int)) (fun _=>rfl) l
def Jn (n:Nat):Bool:=decide ((n:Int)<1)||decide ((n:Int)>255)
theorem KU [Known](n:Nat):AP Tryz.prog 160 [.int .u64 (n:Int)] (.bool (Jn n)) []:=by
 unfold Jn
 refine AP.ofA (Zl Tryz.func160 U Tryz.ntmps160 U U ?_)
 repeat'(first|(apply Zi Za;exact U)|(apply Zg Za;exact U)|(apply Ze;(iterate 3 exact U);(first|with_reducible assumption|(solve|simp only[bn])))|(apply Zm;(iterate 3 exact U);(first|with_reducible assumption|(solve|simp only[bn])))|(apply YB;exact U;exact U;all_goals intro hb)|(apply Zj;exact U;(first|with_reducible assumption|(solve|simp only[bn]));exact U;exact U)|(apply Zh;exact U;(first|with_reducible assumption|(solve|simp only[bn]));exact U;exact U))
 all_goals(apply Zq [];(apply Zc Za;exact U);(iterate 4 exact U))
 all_goals first|rfl|(simp only[*];done)|(simp only[*];rfl)
def Fk:Bool->Bool->Int
 | true,_=>0
 | false,true=>1
 | false,false => -1
theorem Sm [Known](a b:Nat)(x y:Bool)(hx:Jn a=x)(hy:Jn b=y):AP Tryz.prog 184 [.sl .ext [.int .u64 (a:Int),.int .u64 (b:Int)],.fn 160 []] (.int .i64 (Fk x y)) []:=by
 have ga:=KU a
 have gb:=KU b
 rw[hx]at ga
 rw[hy]at gb
 have hU:=BA [a,b]
 have q0:decide ((0:Int)<(([.int .u64 (a:Int),.int .u64 (b:Int)]:List E).length:Int))=true:=rfl
 have q1:decide ((1:Int)<(([.int .u64 (a:Int),.int .u64 (b:Int)]:List E).length:Int))=true:=rfl
 have q2:decide ((2:Int)<(([.int .u64 (a:Int),.int .u64 (b:Int)]:List E).length:Int))=false:=rfl
 have e1:IntKind.i64.wrap (0+1)=1:=by decide
 have e2:IntKind.i64.wrap (1+1)=2:=by decide
 cases x<;>cases y
 all_goals
  refine AP.ofA (Zl Tryz.func184 U Tryz.ntmps184 U U ?_)
  repeat'(first|rw[e1]|rw[e2]|(apply V5 (ga);exact U;kernel_rfl;(iterate 3 exact U))|(apply V5 (gb);exact U;kernel_rfl;(iterate 3 exact U))|refine Zu Za U U U U U U (by decide) U hU ?_|refine Yu 20 ?_|refine YI ?_|(apply Zi Za;exact U)|(apply Zg Za;exact U)|(apply Zp Za;exact U)|refine Zd U Qt ?_|refine Zf U Qt ?_|refine Yf ?_|refine Zn Za U U U U ?_)
  all_goals exact Qe
theorem LS [Known](a b:Nat):AP Tryz.prog 159 [.sl .ext [.int .u64 (a:Int),.int .u64 (b:Int)],.fn 160 []] (.bool (Jn a||Jn b)) []:=by
 cases hx:Jn a<;>cases hy:Jn b
 all_goals
  have hI:=Sm a b _ _ hx hy
  refine AP.ofA (Zl Tryz.func159 U Tryz.ntmps159 U U ?_)
  repeat'(first|(apply Zb (hI);kernel_rfl;(iterate 4 exact U))|(apply Zi Za;exact U)|(apply Zg Za;exact U))
  all_goals exact Qe
theorem Tk [Known](a b:Nat):AP Tryz.prog 130 [.sl .ext [.int .u64 (a:Int),.int .u64 (b:Int)]] (.bool (!(Jn a||Jn b))) []:=by
 have hI:=LS a b
 refine AP.ofA (Zl Tryz.func130 U Tryz.ntmps130 U U ?_)
 repeat'(first|(apply Zb (hI);kernel_rfl;(iterate 4 exact U))|(apply Zi Za;exact U)|(apply Zg Za;exact U))
 all_goals exact Qe
theorem KV [Known]:AT Tryz.prog 64 [.sl .nil []] [] [] (.agg [.int .i64 4,.int .u64 0,.sl .nil [],.sl .nil []]) [] []:=by
 refine Zl Tryz.func64 rfl Tryz.ntmps64 rfl rfl ?_
 repeat'(first|refine Yu 20 ?_|refine YI ?_|(apply Zi Za;exact U)|(apply Zg Za;exact U)|refine Zf U Qt ?_|refine Zn Za U U U U ?_)
 all_goals(apply Jz [] [];(apply Zc Za;exact U);(iterate 7 exact U))
 all_goals rfl
abbrev nmE (n:Nat):E:=.agg [.int .i64 0,.int .u64 (n:Int),.sl [],.sl []]
theorem G2 [Known](a b:Nat):AP Tryz.prog 97 [.sl .ext [.int .u64 (a:Int),.int .u64 (b:Int)]] (.agg [.int .i64 4,.int .u64 0,.sl .ext [],.sl .ext [nmE a,nmE b]]) []:=by
 have ga:=YT a
 have gb:=YT b
 have hL:=KV
 have hU:=BA [a,b]
 have e1:IntKind.i64.wrap (0+1)=1:=by decide
 have e2:IntKind.i64.wrap (1+1)=2:=by decide
 have hU4:∀(l:List Nat),Uni 4 (l.map nmE):=fun l=>Uni.map (f:=nmE) (fun _=>rfl) l
 have q0:decide ((0:Int)<(([.int .u64 (a:Int),.int .u64 (b:Int)]:List E).length:Int))=true:=rfl
 have q1:decide ((1:Int)<(([.int .u64 (a:Int),.int .u64 (b:Int)]:List E).length:Int))=true:=rfl
 have q2:decide ((2:Int)<(([.int .u64 (a:Int),.int .u64 (b:Int)]:List E).length:Int))=false:=rfl
 have hu1:=hU4 [a]
 have hu2:=hU4 [a,b]
 refine AP.ofA (Zl Tryz.func97 U Tryz.ntmps97 U U ?_)
 repeat'(first|rw[e1]|rw[e2]|(apply Yq [] [] (hL);kernel_rfl;(iterate 10 exact U))|(apply Zb (ga);kernel_rfl;(iterate 4 exact U))|(apply Zb (gb);kernel_rfl;(iterate 4 exact U))|refine Zu Za U U U U U U (by decide) U hU ?_|refine Yu 20 ?_|refine YI ?_|refine Wu Za U U U U U U U U U U U (Zk rfl) (Zk rfl) (List.cons_ne_nil _ _) Qd Qd U U ?_|refine Z7 Za U U U U U U (Zk rfl) (List.cons_ne_nil _ _) U Qd Qd U U U ?_|(apply Zi Za;exact U)|(apply Zg Za;exact U)|(apply Zp Za;exact U)|refine Zd U Qt ?_|refine Zf U Qt ?_|refine Zn Za U U U U ?_|refine ZM Za U U U U U U U U U U U U ?_|(apply Zo 5 ZB;decide +kernel;kernel_rfl;kernel_rfl;kernel_rfl;exact U;exact U)|(apply Zs;(iterate 4 exact U))|exact AE.nil _ _ _ _|(apply Zx;exact U)|(apply Zz;exact U;exact U;decide +kernel;exact U)|(apply ZA;exact U)|exact AO.nil _ _ _|(apply Zr;(decide +kernel))|exact AOs.nil|exact ZF rfl rfl|exact WH rfl rfl rfl rfl rfl)
 all_goals exact Qe
theorem G3 [Known](a b c d:Nat):AT Tryz.prog 97 [.sl .ext [.int .u64 (a:Int),.int .u64 (b:Int),.int .u64 (c:Int),.int .u64 (d:Int)]] [] [] (.agg [.int .i64 4,.int .u64 0,.sl .nil [],.sl (.own 0) [nmE a,nmE b,nmE c,nmE d]]) [] [⟨4,4,115⟩]:=by
 have ga:=YT a
 have gb:=YT b
 have gc:=YT c
 have gd:=YT d
 have hL:=KV
 have hU:=BA [a,b,c,d]
 have e1:IntKind.i64.wrap (0+1)=1:=by decide
 have e2:IntKind.i64.wrap (1+1)=2:=by decide
 have e3:IntKind.i64.wrap (2+1)=3:=by decide
 have e4:IntKind.i64.wrap (3+1)=4:=by decide
 have hU4:∀(l:List Nat),Uni 4 (l.map nmE):=fun l=>Uni.map (f:=nmE) (fun _=>rfl) l
 have q0:decide ((0:Int)<(([.int .u64 (a:Int),.int .u64 (b:Int),.int .u64 (c:Int),.int .u64 (d:Int)]:List E).length:Int))=true:=rfl
 have q1:decide ((1:Int)<(([.int .u64 (a:Int),.int .u64 (b:Int),.int .u64 (c:Int),.int .u64 (d:Int)]:List E).length:Int))=true:=rfl
 have q2:decide ((2:Int)<(([.int .u64 (a:Int),.int .u64 (b:Int),.int .u64 (c:Int),.int .u64 (d:Int)]:List E).length:Int))=true:=rfl
 have q3:decide ((3:Int)<(([.int .u64 (a:Int),.int .u64 (b:Int),.int .u64 (c:Int),.int .u64 (d:Int)]:List E).length:Int))=true:=rfl
 have q4:decide ((4:Int)<(([.int .u64 (a:Int),.int .u64 (b:Int),.int .u64 (c:Int),.int .u64 (d:Int)]:List E).length:Int))=false:=rfl
 have hu1:=hU4 [a]
 have hu2:=hU4 [a,b]
 have hu3:=hU4 [a,b,c]
 have hu4:=hU4 [a,b,c,d]
 refine Zl Tryz.func97 rfl Tryz.ntmps97 rfl rfl ?_
 repeat'(first|rw[e1]|rw[e2]|rw[e3]|rw[e4]|(apply Yq [] [] (hL);kernel_rfl;(iterate 10 exact U))|(apply Zb (ga);kernel_rfl;(iterate 4 exact U))|(apply Zb (gb);kernel_rfl;(iterate 4 exact U))|(apply Zb (gc);kernel_rfl;(iterate 4 exact U))|(apply Zb (gd);kernel_rfl;(iterate 4 exact U))|refine Zu Za U U U U U U (by decide) U hU ?_|refine Yu 20 ?_|refine YI ?_|refine Wu Za U U U U U U U U U U U (Zk rfl) (Zk rfl) (List.cons_ne_nil _ _) Qd Qd U U ?_|refine Z7 Za U U U U U U (Zk rfl) (List.cons_ne_nil _ _) U Qd Qd U U U ?_|(apply Zi Za;exact U)|(apply Zg Za;exact U)|(apply Zp Za;exact U)|refine Zd U Qt ?_|refine Zf U Qt ?_|refine Zn Za U U U U ?_|refine ZM Za U U U U U U U U U U U U ?_|(apply Zo 5 ZB;decide +kernel;kernel_rfl;kernel_rfl;kernel_rfl;exact U;exact U)|(apply Zs;(iterate 4 exact U))|exact AE.nil _ _ _ _|(apply Zx;exact U)|(apply Zz;exact U;exact U;decide +kernel;exact U)|(apply ZA;exact U)|exact AO.nil _ _ _|(apply Zr;(decide +kernel))|exact AOs.nil|exact ZF rfl rfl|exact WH rfl rfl rfl rfl rfl)
 all_goals(apply Jz [] [0];(apply Zc Za;exact U);(iterate 7 exact U))
 all_goals rfl
end Go.Proofs.YtmljabhmajehnaaGreatDoor
end

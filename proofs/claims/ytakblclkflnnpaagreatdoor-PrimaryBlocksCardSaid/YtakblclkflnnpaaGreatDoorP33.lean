/- The document's answers for names: the name of an item, by cases. -/
import Derived.Test.YtakblclkflnnpaaGreatDoorP32
import Derived.Test.YtakblclkflnnpaaGreatDoorP31
import Derived.Test.YtakblclkflnnpaaGreatDoorP23
import Derived.Test.YtakblclkflnnpaaGreatDoorP29
set_option linter.unusedVariables false
set_option linter.unusedSimpArgs false
section
open Go.RowKit Go.Pl Go.Av
namespace Go.Proofs.YtakblclkflnnpaaGreatDoor
set_option maxHeartbeats 4000000
theorem ZpO [Known](k:Int)(n:Nat)(b:List UInt8)(l:List It)(h:k ≠ 4\/l.length ≠ 2):AP Tryz.prog 90 [itD (.mk k n b l)] (.tup [.agg [.bool false,.int .u64 0,.int .u64 0,.str [],.str []],.bool false]) []:=by
 by_cases hk:k=4
 ·have t1:(k != 4)=false:=by simpa using hk
  have hl:l.length ≠ 2:=by
   rcases h with h|h
   ·exact absurd hk h
   ·exact h
  have t2:(((Zas l).length:Int) != 2)=true:=by rw[Zan];simp;omega
  refine AP.ofA ?_
  refine Zap Tryz.func90 rfl Tryz.ntmps90 rfl rfl ?_
  repeat'(first|(apply Zaj Zab;exact Z)|(apply Zai Zab;exact Z)|(apply Zay Zab;exact Z)|(apply Zaf;(iterate 3 exact Z);exact Go.Zqn)|(apply Zah;exact Z;exact Go.Zqn;exact Z;exact Z)|(apply Zac;exact Z;exact Go.Zqn)|(apply Zal Zab;(iterate 4 exact Z)))
  all_goals(apply Zax [];(apply Zad Zab;exact Z);(iterate 4 exact Z))
  all_goals rfl
 ·have t1:(k != 4)=true:=by simpa using hk
  refine AP.ofA ?_
  refine Zap Tryz.func90 rfl Tryz.ntmps90 rfl rfl ?_
  repeat'(first|(apply Zaj Zab;exact Z)|(apply Zai Zab;exact Z)|(apply Zay Zab;exact Z)|(apply Zao;(iterate 3 exact Z);exact Go.Zqn)|(apply Zak;exact Z;exact Go.Zqn;exact Z;exact Z)|(apply Zac;exact Z;exact Go.Zqn))
  all_goals(apply Zax [];(apply Zad Zab;exact Z);(iterate 4 exact Z))
  all_goals rfl
theorem Zp4 [Known](s z:It)(n:Nat)(b:List UInt8)(n2:Nat)(b2:List UInt8)(kp:Int)(np:Nat)(bp:List UInt8)(lp:List It)(kq:Int)(nq:Nat)(bq:List UInt8)(lq:List It)(ez:z=.mk 4 n2 b2 [.mk kp np bp lp,.mk kq nq bq lq])(κ:Int)(w:It)(z4 R:Bool)
  (hK:AP Tryz.prog 45 [.agg [.bool true,.int .u64 (np:Int),.int .u64 (nq:Int),.str [],.str []]] (.int .i64 κ) []) (t4:decide (κ<0)=z4)
  (hW:z4=false->AP Tryz.prog 47 [.agg [.bool true,.int .u64 (np:Int),.int .u64 (nq:Int),.str [],.str []]] (itD w) [])
  (hS:z4=false->AP Tryz.prog 22 [itD w,itD (.mk 4 n b [s,z])] (.bool R) []) :
  AP Tryz.prog 90 [itD (.mk 4 n b [s,z])] (Zio z4 (!R) true np nq [] []) []:=by
 have hU:=ZbG [s,z]
 subst ez
 have hU2:=ZbG [.mk kp np bp lp,.mk kq nq bq lq]
 have t2:(((Zas [s,.mk 4 n2 b2 [.mk kp np bp lp,.mk kq nq bq lq]]).length:Int) != 2)=false:=rfl
 have t3:(((Zas [.mk kp np bp lp,.mk kq nq bq lq]).length:Int)==2)=true:=rfl
 obtain⟨sk,sn,sb,sl⟩:=s
 obtain⟨wk,wn,wb,wl⟩:=w
 cases z4 with
 | true=>
  clear hW hS
  cases R
  all_goals
   refine AP.ofA ?_
   refine Zap Tryz.func90 rfl Tryz.ntmps90 rfl rfl ?_
   repeat'(first|(apply Zaa (hK);kernel_rfl;(iterate 4 exact Z))|(apply Zaj Zab;exact Z)|(apply Zai Zab;exact Z)|(apply Zay Zab;exact Z)|(apply Zaf;(iterate 3 exact Z);exact Go.Zqn)|(apply Zao;(iterate 3 exact Z);exact Go.Zqn)|(apply Zak;exact Z;exact Go.Zqn;exact Z;exact Z)|(apply Zah;exact Z;exact Go.Zqn;exact Z;exact Z)|(apply Zac;exact Z;exact Go.Zqn)|(apply Zae;exact Z;exact Go.Zqn)|(apply Zal Zab;(iterate 4 exact Z))|(apply Zam 7 ZaR;decide +kernel;kernel_rfl;kernel_rfl;kernel_rfl;exact Z;exact Z)|(apply Zam 10 ZaR;decide +kernel;kernel_rfl;kernel_rfl;kernel_rfl;exact Z;exact Z)|(apply Zar;(iterate 4 exact Z))|exact AE.nil _ _ _ _|(apply Zav;exact Z)|(apply Zaz;exact Z;exact Z;decide +kernel;exact Z)|(apply ZaA;exact Z)|exact AO.nil _ _ _|(apply Zaq;(decide +kernel))|exact AOs.nil|exact ZaI rfl rfl|(apply Zat Zab;(iterate 6 exact Z);(first|exact Go.Zqn|rotate_left);(first|with_reducible assumption|decide +kernel|exact Z);(first|exact Zag rfl|with_reducible assumption|decide +kernel|rotate_left)))
   all_goals(apply Zax [];(apply Zad Zab;exact Z);(iterate 4 exact Z))
   all_goals rfl
 | false=>
  have hW:=hW rfl
  have hS:=hS rfl
  cases R
  all_goals
   refine AP.ofA ?_
   refine Zap Tryz.func90 rfl Tryz.ntmps90 rfl rfl ?_
   repeat'(first|(apply Zaa (hK);kernel_rfl;(iterate 4 exact Z))|(apply Zaa (hW);kernel_rfl;(iterate 4 exact Z))|(apply Zaa (hS);kernel_rfl;(iterate 4 exact Z))|(apply Zaj Zab;exact Z)|(apply Zai Zab;exact Z)|(apply Zay Zab;exact Z)|(apply Zaf;(iterate 3 exact Z);exact Go.Zqn)|(apply Zak;exact Z;exact Go.Zqn;exact Z;exact Z)|(apply Zah;exact Z;exact Go.Zqn;exact Z;exact Z)|(apply Zac;exact Z;exact Go.Zqn)|(apply Zae;exact Z;exact Go.Zqn)|(apply Zal Zab;(iterate 4 exact Z))|(apply Zam 7 ZaR;decide +kernel;kernel_rfl;kernel_rfl;kernel_rfl;exact Z;exact Z)|(apply Zam 10 ZaR;decide +kernel;kernel_rfl;kernel_rfl;kernel_rfl;exact Z;exact Z)|(apply Zar;(iterate 4 exact Z))|exact AE.nil _ _ _ _|(apply Zav;exact Z)|(apply Zaz;exact Z;exact Z;decide +kernel;exact Z)|(apply ZaA;exact Z)|exact AO.nil _ _ _|(apply Zaq;(decide +kernel))|exact AOs.nil|exact ZaI rfl rfl|(apply Zat Zab;(iterate 6 exact Z);(first|exact Go.Zqn|rotate_left);(first|with_reducible assumption|decide +kernel|exact Z);(first|exact Zag rfl|with_reducible assumption|decide +kernel|rotate_left)))
   all_goals(apply Zax [];(apply Zad Zab;exact Z);(iterate 4 exact Z))
   all_goals rfl
theorem Zp5 [Known](s:It)(n:Nat)(b:List UInt8)(kz:Int)(nz:Nat)(bz:List UInt8)(lz:List It)(hz:kz=4/\lz.length ≠ 2\/kz ≠ 4/\kz ≠ 3)(w:It)(R:Bool)
  (hK:AP Tryz.prog 45 [.agg [.bool false,.int .u64 0,.int .u64 0,.str [],.str []]] (.int .i64 0) [])
  (hW:AP Tryz.prog 47 [.agg [.bool false,.int .u64 0,.int .u64 0,.str [],.str []]] (itD w) [])
  (hS:AP Tryz.prog 22 [itD w,itD (.mk 4 n b [s,.mk kz nz bz lz])] (.bool R) []) :
  AP Tryz.prog 90 [itD (.mk 4 n b [s,.mk kz nz bz lz])] (Zio false (!R) false 0 0 [] []) []:=by
 have hU:=ZbG [s,.mk kz nz bz lz]
 have t2:(((Zas [s,.mk kz nz bz lz]).length:Int) != 2)=false:=rfl
 obtain⟨sk,sn,sb,sl⟩:=s
 obtain⟨wk,wn,wb,wl⟩:=w
 have t5:(kz==3)=false:=by
  rcases hz with⟨rfl,_⟩ | ⟨_,h⟩
  ·rfl
  ·simpa using h
 rcases hz with⟨rfl,hl⟩ | ⟨hk,_⟩
 ·have t3:(((Zas lz).length:Int)==2)=false:=by rw[Zan];simp;omega
  cases R
  all_goals
   refine AP.ofA ?_
   refine Zap Tryz.func90 rfl Tryz.ntmps90 rfl rfl ?_
   repeat'(first|(apply Zaa (hK);kernel_rfl;(iterate 4 exact Z))|(apply Zaa (hW);kernel_rfl;(iterate 4 exact Z))|(apply Zaa (hS);kernel_rfl;(iterate 4 exact Z))|(apply Zaj Zab;exact Z)|(apply Zai Zab;exact Z)|(apply Zay Zab;exact Z)|(apply Zaf;(iterate 3 exact Z);exact Go.Zqn)|(apply Zak;exact Z;exact Go.Zqn;exact Z;exact Z)|(apply Zah;exact Z;exact Go.Zqn;exact Z;exact Z)|(apply Zac;exact Z;exact Go.Zqn)|(apply Zae;exact Z;exact Go.Zqn)|(apply Zal Zab;(iterate 4 exact Z))|(apply Zam 7 ZaR;decide +kernel;kernel_rfl;kernel_rfl;kernel_rfl;exact Z;exact Z)|(apply Zar;(iterate 4 exact Z))|exact AE.nil _ _ _ _|(apply Zav;exact Z)|(apply Zaz;exact Z;exact Z;decide +kernel;exact Z)|(apply ZaA;exact Z)|exact AO.nil _ _ _|(apply Zaq;(decide +kernel))|exact AOs.nil|exact ZaI rfl rfl|(apply Zat Zab;(iterate 6 exact Z);(first|exact Go.Zqn|rotate_left);(first|with_reducible assumption|decide +kernel|exact Z);(first|exact Zag rfl|with_reducible assumption|decide +kernel|rotate_left)))
   all_goals(apply Zax [];(apply Zad Zab;exact Z);(iterate 4 exact Z))
   all_goals rfl
 ·have t3:(kz==4)=false:=by simpa using hk
  cases R
  all_goals
   refine AP.ofA ?_
   refine Zap Tryz.func90 rfl Tryz.ntmps90 rfl rfl ?_
   repeat'(first|(apply Zaa (hK);kernel_rfl;(iterate 4 exact Z))|(apply Zaa (hW);kernel_rfl;(iterate 4 exact Z))|(apply Zaa (hS);kernel_rfl;(iterate 4 exact Z))|(apply Zaj Zab;exact Z)|(apply Zai Zab;exact Z)|(apply Zay Zab;exact Z)|(apply Zaf;(iterate 3 exact Z);exact Go.Zqn)|(apply Zau;(iterate 3 exact Z);exact Go.Zqn)|(apply Zah;exact Z;exact Go.Zqn;exact Z;exact Z)|(apply Zac;exact Z;exact Go.Zqn)|(apply Zae;exact Z;exact Go.Zqn)|(apply Zal Zab;(iterate 4 exact Z))|(apply Zam 7 ZaR;decide +kernel;kernel_rfl;kernel_rfl;kernel_rfl;exact Z;exact Z)|(apply Zar;(iterate 4 exact Z))|exact AE.nil _ _ _ _|(apply Zav;exact Z)|(apply Zaz;exact Z;exact Z;decide +kernel;exact Z)|(apply ZaA;exact Z)|exact AO.nil _ _ _|(apply Zaq;(decide +kernel))|exact AOs.nil|exact ZaI rfl rfl|(apply Zat Zab;(iterate 6 exact Z);(first|exact Go.Zqn|rotate_left);(first|with_reducible assumption|decide +kernel|exact Z);(first|exact Zag rfl|with_reducible assumption|decide +kernel|rotate_left)))
   all_goals(apply Zax [];(apply Zad Zab;exact Z);(iterate 4 exact Z))
   all_goals rfl
theorem Zp6 [Known](s:It)(n:Nat)(b:List UInt8)(nz:Nat)(bz:List UInt8)(lz:List It)(xi:Bool)(xn xs:Nat)(xh xd:List UInt8)(κ:Int)(w:It)(R:Bool)(hl:[(100:UInt8),116,110,58].length+bz.length<=maxLen)
  (hP:AP Tryz.prog 149 [.str ([100,116,110,58]++bz)] (.tup [.agg [.bool xi,.int .u64 (xn:Int),.int .u64 (xs:Int),.str xh,.str xd],.bool true]) [])
  (hK:AP Tryz.prog 45 [.agg [.bool xi,.int .u64 (xn:Int),.int .u64 (xs:Int),.str xh,.str xd]] (.int .i64 κ) []) (t4:decide (κ<0)=false)
  (hW:AP Tryz.prog 47 [.agg [.bool xi,.int .u64 (xn:Int),.int .u64 (xs:Int),.str xh,.str xd]] (itD w) [])
  (hS:AP Tryz.prog 22 [itD w,itD (.mk 4 n b [s,.mk 3 nz bz lz])] (.bool R) []) :
  AP Tryz.prog 90 [itD (.mk 4 n b [s,.mk 3 nz bz lz])] (Zio false (!R) xi xn xs xh xd) []:=by
 have hU:=ZbG [s,.mk 3 nz bz lz]
 have t2:(((Zas [s,.mk 3 nz bz lz]).length:Int) != 2)=false:=rfl
 obtain⟨sk,sn,sb,sl⟩:=s
 obtain⟨wk,wn,wb,wl⟩:=w
 cases R
 all_goals
  refine AP.ofA ?_
  refine Zap Tryz.func90 rfl Tryz.ntmps90 rfl rfl ?_
  repeat'(first|(apply Zaa (hP);kernel_rfl;(iterate 4 exact Z))|(apply Zaa (hK);kernel_rfl;(iterate 4 exact Z))|(apply Zaa (hW);kernel_rfl;(iterate 4 exact Z))|(apply Zaa (hS);kernel_rfl;(iterate 4 exact Z))|(apply ZeG;exact Z;exact Z;exact hl;exact Z)|(apply Zdo Zab;(iterate 9 exact Z))|(apply Zaj Zab;exact Z)|(apply Zai Zab;exact Z)|(apply Zay Zab;exact Z)|(apply Zaf;(iterate 3 exact Z);exact Go.Zqn)|(apply Zau;(iterate 3 exact Z);exact Go.Zqn)|(apply Zah;exact Z;exact Go.Zqn;exact Z;exact Z)|(apply Zac;exact Z;exact Go.Zqn)|(apply Zae;exact Z;exact Go.Zqn)|(apply Zal Zab;(iterate 4 exact Z))|(apply Zam 7 ZaR;decide +kernel;kernel_rfl;kernel_rfl;kernel_rfl;exact Z;exact Z)|(apply Zar;(iterate 4 exact Z))|exact AE.nil _ _ _ _|(apply Zav;exact Z)|(apply Zaz;exact Z;exact Z;decide +kernel;exact Z)|(apply ZaA;exact Z)|exact AO.nil _ _ _|(apply Zaq;(decide +kernel))|exact AOs.nil|exact ZaI rfl rfl|(apply Zat Zab;(iterate 6 exact Z);(first|exact Go.Zqn|rotate_left);(first|with_reducible assumption|decide +kernel|exact Z);(first|exact Zag rfl|with_reducible assumption|decide +kernel|rotate_left))|(apply Zdo Zab;(iterate 9 exact Z)))
  all_goals(apply Zax [];(apply Zad Zab;exact Z);(iterate 4 exact Z))
  all_goals rfl
theorem Zp7 [Known](s:It)(n:Nat)(b:List UInt8)(nz:Nat)(bz:List UInt8)(lz:List It)(hl:[(100:UInt8),116,110,58].length+bz.length<=maxLen)
  (hP:AP Tryz.prog 149 [.str ([100,116,110,58]++bz)] (.tup [.agg [.bool false,.int .u64 0,.int .u64 0,.str [],.str []],.bool false]) []) :
  AP Tryz.prog 90 [itD (.mk 4 n b [s,.mk 3 nz bz lz])] (.tup [.agg [.bool false,.int .u64 0,.int .u64 0,.str [],.str []],.bool false]) []:=by
 have hU:=ZbG [s,.mk 3 nz bz lz]
 have t2:(((Zas [s,.mk 3 nz bz lz]).length:Int) != 2)=false:=rfl
 obtain⟨sk,sn,sb,sl⟩:=s
 refine AP.ofA ?_
 refine Zap Tryz.func90 rfl Tryz.ntmps90 rfl rfl ?_
 repeat'(first|(apply Zaa (hP);kernel_rfl;(iterate 4 exact Z))|(apply ZeG;exact Z;exact Z;exact hl;exact Z)|(apply Zdo Zab;(iterate 9 exact Z))|(apply Zaj Zab;exact Z)|(apply Zai Zab;exact Z)|(apply Zay Zab;exact Z)|(apply Zaf;(iterate 3 exact Z);exact Go.Zqn)|(apply Zau;(iterate 3 exact Z);exact Go.Zqn)|(apply Zah;exact Z;exact Go.Zqn;exact Z;exact Z)|(apply Zac;exact Z;exact Go.Zqn)|(apply Zae;exact Z;exact Go.Zqn)|(apply Zal Zab;(iterate 4 exact Z))|(apply Zat Zab;(iterate 6 exact Z);(first|exact Go.Zqn|rotate_left);(first|with_reducible assumption|decide +kernel|exact Z);(first|exact Zag rfl|with_reducible assumption|decide +kernel|rotate_left))|(apply Zdo Zab;(iterate 9 exact Z)))
 all_goals(apply Zax [];(apply Zad Zab;exact Z);(iterate 4 exact Z))
 all_goals rfl
theorem ZfF {x:It}{c:EidV}(hc:(ZaQ x).2=true->c=(ZaQ x).1){i:Bool}{n q:Nat}{h d:List UInt8}(ec:c=⟨i,n,q,h,d⟩):Zio (decide (ZbS c<0)) (!(It.beq (Za2 c) x)) i n q h d=ZjV x:=by
 have hk:=Zev c
 cases hr:ZaL c with
 | false=>
  have e:decide (ZbS c<0)=true:=decide_eq_true (by have:=of_decide_eq_false (hk.trans hr);omega)
  rw[e,Zer (ZpN hc hr)]
  cases !(It.beq (Za2 c) x)<;>rfl
 | true=>
  have e:decide (ZbS c<0)=false:=decide_eq_false (by have:=of_decide_eq_true (hk.trans hr);omega)
  rw[e]
  cases hs:It.beq (Za2 c) x with
  | false=>rw[Zer (Zp2 hc hs)];rfl
  | true=>rw[Zlu (Zp3 hr hs),ec];rfl
theorem ZfG {c:EidV}(h:decide (ZbS c<0)=false):ZaL c=true:=by
 rw[<- Zev]
 exact decide_eq_true (by have:=of_decide_eq_false h;omega)
theorem ZdS {c:EidV}(h:ZaL c=true):decide (ZbS c<0)=false:=decide_eq_false (by have:=of_decide_eq_true ((Zev c).trans h);omega)
theorem Zd1 [Known](x:It)(hw:wfI x)(hb:∀ y ∈ x.l,y.b.length<=1099511627000):AP Tryz.prog 90 [itD x] (ZjV x) []:=by
 obtain⟨k,n,b,l⟩:=x
 by_cases hk:k=4
 case neg=>rw[Zer (ZoQ (.inl hk))];exact ZpO k n b l (.inl hk)
 by_cases hl:l.length=2
 case neg=>rw[Zer (ZoQ (.inr hl))];exact ZpO k n b l (.inr hl)
 subst hk
 obtain⟨s,z,rfl⟩:∃ s z,l=[s,z]:=by
  match l,hl with
  | [s,z],_=>exact⟨s,z,rfl⟩
 have hbz:=hb z (by simp[It.l])
 clear hl hb
 have kZ:=Zcm Zcf ⟨by decide,by decide⟩
 have wZ:=ZbV Zcf (by decide)
 have sZ:=ZbK (Za2 Zcf) (ZcQ (by decide)) _ hw
 obtain⟨kz,nz,bz,lz⟩:=z
 simp only[It.b]at hbz
 by_cases h3:kz=3
 ·subst h3
  have hP:=Zip (ZfN++bz) (by simp[ZfN];omega)
  have hml:[(100:UInt8),116,110,58].length+bz.length<=maxLen:=by simp;unfold maxLen;omega
  cases hp:(Za4 (ZfN++bz)).2 with
  | false=>
   rw[Zdy hp]at hP
   rw[Zer (Zlw hp)]
   exact Zp7 s n b nz bz lz hml hP
  | true=>
   obtain⟨hr,_⟩:=Zcw hp
   unfold ZfD at hP
   rw[hp]at hP
   have hc:(ZaQ (.mk 4 n b [s,.mk 3 nz bz lz])).2=true->(Za4 (ZfN++bz)).1=(ZaQ (.mk 4 n b [s,.mk 3 nz bz lz])).1:=
    Zlv (fun e=>by cases e) (fun p q e=>by cases e) (fun t e _=>by cases e;rfl)
   generalize (Za4 (ZfN++bz)).1=c at *
   rw[<- ZfF hc (show c=⟨c.i,c.n,c.s,c.h,c.d⟩ from rfl),ZdS hr]
   exact Zp6 s n b nz bz lz c.i c.n c.s c.h c.d (ZbS c) (Za2 c) _ hml hP (Zcm c (Zeq hr)) (ZdS hr) (ZbV c hr) (ZbK (Za2 c) (ZcQ hr) _ hw)
 ·by_cases h4:kz=4/\lz.length=2
  ·obtain⟨rfl,hl2⟩:=h4
   obtain⟨⟨kp,np,bp,lp⟩,⟨kq,nq,bq,lq⟩,rfl⟩:∃ p q,lz=[p,q]:=by
    match lz,hl2 with
    | [p,q],_=>exact⟨p,q,rfl⟩
   have hc:(ZaQ (.mk 4 n b [s,.mk 4 nz bz [.mk kp np bp lp,.mk kq nq bq lq]])).2=true->(⟨true,np,nq,[],[]⟩:EidV)=(ZaQ (.mk 4 n b [s,.mk 4 nz bz [.mk kp np bp lp,.mk kq nq bq lq]])).1:=
    Zlv (fun e=>by cases e) (fun p q e=>by cases e;rfl) (fun t e _=>by cases e)
   rw[<- ZfF hc rfl]
   exact Zp4 s _ n b nz bz kp np bp lp kq nq bq lq rfl (ZbS ⟨true,np,nq,[],[]⟩) (Za2 ⟨true,np,nq,[],[]⟩) _ _ (Zcm ⟨true,np,nq,[],[]⟩ ⟨Nat.zero_le _,Nat.zero_le _⟩) rfl (fun h=>ZbV ⟨true,np,nq,[],[]⟩ (ZfG h)) (fun h=>ZbK (Za2 ⟨true,np,nq,[],[]⟩) (ZcQ (ZfG h)) _ hw)
  ·have hc:(ZaQ (.mk 4 n b [s,.mk kz nz bz lz])).2=true->Zcf=(ZaQ (.mk 4 n b [s,.mk kz nz bz lz])).1:=
    Zlv (fun e=>rfl) (fun p q e=>by cases e;exact absurd ⟨rfl,rfl⟩ h4) (fun t e _=>by cases e;exact absurd rfl h3)
   rw[<- ZfF hc rfl]
   exact Zp5 s n b kz nz bz lz (by
    by_cases h5:kz=4
    ·exact .inl ⟨h5,fun e=>h4 ⟨h5,e⟩⟩
    ·exact .inr ⟨h5,h3⟩) (Za2 Zcf) _ kZ wZ sZ
theorem Zp8 [Known](zk:Int)(zn:Nat)(zb:List UInt8)(zl:List It)(L:List E)(e:Int)
  (hO:AP Tryz.prog 89 [.agg (itC zk zn zb zl),.int .i64 2] (.tup [.sl .ext L,.int .i64 e]) [])
  (t1:(e != 0)=true) :
  AP Tryz.prog 18 [.agg (itC zk zn zb zl)] (.tup [.agg [.int .u64 0,.int .i64 0,.bool false,.int .u64 0,.int .u64 0,.str [],.str [],.bool false,.int .u64 0,.int .u64 0,.str [],.str [],.bool false,.int .u64 0,.int .u64 0,.str [],.str [],.int .u64 0,.int .u64 0,.int .u64 0],.int .i64 e]) []:=by
 refine AP.ofA ?_
 refine Zap Tryz.func18 rfl Tryz.ntmps18 rfl rfl ?_
 repeat'(first|(apply Zaa (hO);kernel_rfl;(iterate 4 exact Z))|(apply Zaj Zab;exact Z)|(apply Zai Zab;exact Z)|(apply Zay Zab;exact Z)|(apply Zac;exact Z;exact Go.Zqn))
 all_goals(apply Zax [];(apply Zad Zab;exact Z);(iterate 4 exact Z))
 all_goals rfl
theorem Zp9 [Known](zk:Int)(zn:Nat)(zb:List UInt8)(zl:List It)(L:List E)(e:Int)
  (hO:AP Tryz.prog 89 [.agg (itC zk zn zb zl),.int .i64 2] (.tup [.sl .ext L,.int .i64 e]) [])
  (t1:(e != 0)=false) (t2:((L.length:Int) != 8)=true) :
  AP Tryz.prog 18 [.agg (itC zk zn zb zl)] (.tup [.agg [.int .u64 0,.int .i64 0,.bool false,.int .u64 0,.int .u64 0,.str [],.str [],.bool false,.int .u64 0,.int .u64 0,.str [],.str [],.bool false,.int .u64 0,.int .u64 0,.str [],.str [],.int .u64 0,.int .u64 0,.int .u64 0],.int .i64 3]) []:=by
 refine AP.ofA ?_
 refine Zap Tryz.func18 rfl Tryz.ntmps18 rfl rfl ?_
 repeat'(first|(apply Zaa (hO);kernel_rfl;(iterate 4 exact Z))|(apply Zaj Zab;exact Z)|(apply Zai Zab;exact Z)|(apply Zay Zab;exact Z)|(apply Zao;(iterate 3 exact Z);exact Go.Zqn)|(apply Zak;exact Z;exact Go.Zqn;exact Z;exact Z)|(apply Zac;exact Z;exact Go.Zqn)|(apply Zae;exact Z;exact Go.Zqn)|(apply Zal Zab;(iterate 4 exact Z)))
 all_goals(apply Zax [];(apply Zad Zab;exact Z);(iterate 4 exact Z))
 all_goals rfl
theorem ZpA [Known](zk:Int)(zn:Nat)(zb:List UInt8)(zl:List It)(L:List E)(e:Int)
  (hO:AP Tryz.prog 89 [.agg (itC zk zn zb zl),.int .i64 2] (.tup [.sl .ext L,.int .i64 e]) [])
  (t1:(e != 0)=false) (t2:((L.length:Int) != 8)=false) (hU:Uni 4 L) (mk:Int) (mn:Nat) (mb:List UInt8) (ml:List It)
  (hv6:L[(6:Int).toNat]?=some (.agg [.int .i64 mk,.int .u64 (mn:Int),.sl (mb.map E.byte),.sl (Zas ml)])) (t3:(((Zas ml).length:Int) != 2)=true) :
  AP Tryz.prog 18 [.agg (itC zk zn zb zl)] (.tup [.agg [.int .u64 0,.int .i64 0,.bool false,.int .u64 0,.int .u64 0,.str [],.str [],.bool false,.int .u64 0,.int .u64 0,.str [],.str [],.bool false,.int .u64 0,.int .u64 0,.str [],.str [],.int .u64 0,.int .u64 0,.int .u64 0],.int .i64 3]) []:=by
 refine AP.ofA ?_
 refine Zap Tryz.func18 rfl Tryz.ntmps18 rfl rfl ?_
 repeat'(first|(apply Zaa (hO);kernel_rfl;(iterate 4 exact Z))|(apply Zaj Zab;exact Z)|(apply Zai Zab;exact Z)|(apply Zay Zab;exact Z)|(apply Zaf;(iterate 3 exact Z);exact Go.Zqn)|(apply Zah;exact Z;exact Go.Zqn;exact Z;exact Z)|(apply Zac;exact Z;exact Go.Zqn)|(apply Zae;exact Z;exact Go.Zqn)|(apply Zal Zab;(iterate 4 exact Z))|(apply Zat Zab;(iterate 6 exact Z);(first|exact Go.Zqn|rotate_left);(first|with_reducible assumption|decide +kernel|exact Z);(first|exact Zag rfl|with_reducible assumption|decide +kernel|rotate_left)))
 all_goals(apply Zax [];(apply Zad Zab;exact Z);(iterate 4 exact Z))
 all_goals rfl
theorem Zqa [Known](s r:Bool)(zk:Int)(zn:Nat)(zb:List UInt8)(zl:List It)(L:List E)(e:Int)
  (hO:AP Tryz.prog 89 [.agg (itC zk zn zb zl),.int .i64 2] (.tup [.sl .ext L,.int .i64 e]) [])
  (t1:(e != 0)=false) (t2:((L.length:Int) != 8)=false) (hU:Uni 4 L)
  (ak:Int) (an:Nat) (ab:List UInt8) (al:List It) (bk:Int) (bn:Nat) (bb:List UInt8) (bl:List It) (ck:Int) (cn:Nat) (cb:List UInt8) (cl:List It) (fk:Int) (fn:Nat) (fb:List UInt8) (fl:List It) (gk:Int) (gn:Nat) (gb:List UInt8) (gl:List It) (tk:Int) (tn:Nat) (tb:List UInt8) (tl:List It) (qk:Int) (qn:Nat) (qb:List UInt8) (ql:List It) (hk:Int) (hn:Nat) (hb:List UInt8) (hl:List It) (mk:Int) (mn:Nat) (mb:List UInt8) (di:Bool) (dn ds:Nat) (dh dd:List UInt8) (ri:Bool) (rn rs:Nat) (rh rd:List UInt8) (xi:Bool) (xn xs:Nat) (xh xd:List UInt8) (wk:Int) (wn:Nat) (wb:List UInt8) (wl:List It)
  (hv1:L[(1:Int).toNat]?=some (.agg [.int .i64 ak,.int .u64 (an:Int),.sl (ab.map E.byte),.sl (Zas al)])) (hv2:L[(2:Int).toNat]?=some (.agg [.int .i64 bk,.int .u64 (bn:Int),.sl (bb.map E.byte),.sl (Zas bl)])) (hv3:L[(3:Int).toNat]?=some (.agg [.int .i64 ck,.int .u64 (cn:Int),.sl (cb.map E.byte),.sl (Zas cl)])) (hv4:L[(4:Int).toNat]?=some (.agg [.int .i64 fk,.int .u64 (fn:Int),.sl (fb.map E.byte),.sl (Zas fl)])) (hv5:L[(5:Int).toNat]?=some (.agg [.int .i64 gk,.int .u64 (gn:Int),.sl (gb.map E.byte),.sl (Zas gl)])) (hv6:L[(6:Int).toNat]?=some (.agg [.int .i64 mk,.int .u64 (mn:Int),.sl (mb.map E.byte),.sl [.agg [.int .i64 tk,.int .u64 (tn:Int),.sl (tb.map E.byte),.sl (Zas tl)],.agg [.int .i64 qk,.int .u64 (qn:Int),.sl (qb.map E.byte),.sl (Zas ql)]]])) (hv7:L[(7:Int).toNat]?=some (.agg [.int .i64 hk,.int .u64 (hn:Int),.sl (hb.map E.byte),.sl (Zas hl)]))
  (t3:((([.agg [.int .i64 tk,.int .u64 (tn:Int),.sl (tb.map E.byte),.sl (Zas tl)],.agg [.int .i64 qk,.int .u64 (qn:Int),.sl (qb.map E.byte),.sl (Zas ql)]]:List E).length:Int) != 2)=false) 
  (hD:AP Tryz.prog 90 [.agg (itC ck cn cb cl)] (.tup [.agg [.bool di,.int .u64 (dn:Int),.int .u64 (ds:Int),.str dh,.str dd],.bool false]) [])
  (hS:AP Tryz.prog 90 [.agg (itC fk fn fb fl)] (.tup [.agg [.bool xi,.int .u64 (xn:Int),.int .u64 (xs:Int),.str xh,.str xd],.bool s]) [])
  (hR:AP Tryz.prog 90 [.agg (itC gk gn gb gl)] (.tup [.agg [.bool ri,.int .u64 (rn:Int),.int .u64 (rs:Int),.str rh,.str rd],.bool r]) []) :
  AP Tryz.prog 18 [.agg (itC zk zn zb zl)] (.tup [.agg [.int .u64 0,.int .i64 0,.bool false,.int .u64 0,.int .u64 0,.str [],.str [],.bool false,.int .u64 0,.int .u64 0,.str [],.str [],.bool false,.int .u64 0,.int .u64 0,.str [],.str [],.int .u64 0,.int .u64 0,.int .u64 0],.int .i64 3]) []:=by
 refine AP.ofA ?_
 refine Zap Tryz.func18 rfl Tryz.ntmps18 rfl rfl ?_
 repeat'(first|(apply Zaa (hO);kernel_rfl;(iterate 4 exact Z))|(apply Zaa (hD);kernel_rfl;(iterate 4 exact Z))|(apply Zaa (hS);kernel_rfl;(iterate 4 exact Z))|(apply Zaa (hR);kernel_rfl;(iterate 4 exact Z))|(apply Zaj Zab;exact Z)|(apply Zai Zab;exact Z)|(apply Zay Zab;exact Z)|(apply Zaf;(iterate 3 exact Z);exact Go.Zqn)|(apply Zao;(iterate 3 exact Z);exact Go.Zqn)|(apply Zak;exact Z;exact Go.Zqn;exact Z;exact Z)|(apply Zah;exact Z;exact Go.Zqn;exact Z;exact Z)|(apply Zac;exact Z;exact Go.Zqn)|(apply Zae;exact Z;exact Go.Zqn)|(apply Zal Zab;(iterate 4 exact Z))|(apply Zam 15 ZaR;decide +kernel;kernel_rfl;kernel_rfl;kernel_rfl;exact Z;exact Z)|(apply Zam 17 ZaR;decide +kernel;kernel_rfl;kernel_rfl;kernel_rfl;exact Z;exact Z)|(apply Zam 19 ZaR;decide +kernel;kernel_rfl;kernel_rfl;kernel_rfl;exact Z;exact Z)|(apply Zar;(iterate 4 exact Z))|exact AE.nil _ _ _ _|(apply Zav;exact Z)|(apply Za8;exact Z)|(apply Zaz;exact Z;exact Z;decide +kernel;exact Z)|(apply ZaA;exact Z)|(apply Zbp;exact Z)|exact AO.nil _ _ _|(apply Zaq;(decide +kernel))|(apply ZaZ;(iterate 3 exact Z))|exact AOs.nil|exact ZaI rfl rfl|exact Zca rfl rfl|(apply Zat Zab;(iterate 6 exact Z);(first|exact Go.Zqn|rotate_left);(first|with_reducible assumption|decide +kernel|exact Z);(first|exact Zag rfl|with_reducible assumption|decide +kernel|rotate_left)))
 all_goals(apply Zax [];(apply Zad Zab;exact Z);(iterate 4 exact Z))
 all_goals rfl
theorem Zqb [Known](r:Bool)(zk:Int)(zn:Nat)(zb:List UInt8)(zl:List It)(L:List E)(e:Int)
  (hO:AP Tryz.prog 89 [.agg (itC zk zn zb zl),.int .i64 2] (.tup [.sl .ext L,.int .i64 e]) [])
  (t1:(e != 0)=false) (t2:((L.length:Int) != 8)=false) (hU:Uni 4 L)
  (ak:Int) (an:Nat) (ab:List UInt8) (al:List It) (bk:Int) (bn:Nat) (bb:List UInt8) (bl:List It) (ck:Int) (cn:Nat) (cb:List UInt8) (cl:List It) (fk:Int) (fn:Nat) (fb:List UInt8) (fl:List It) (gk:Int) (gn:Nat) (gb:List UInt8) (gl:List It) (tk:Int) (tn:Nat) (tb:List UInt8) (tl:List It) (qk:Int) (qn:Nat) (qb:List UInt8) (ql:List It) (hk:Int) (hn:Nat) (hb:List UInt8) (hl:List It) (mk:Int) (mn:Nat) (mb:List UInt8) (di:Bool) (dn ds:Nat) (dh dd:List UInt8) (ri:Bool) (rn rs:Nat) (rh rd:List UInt8) (xi:Bool) (xn xs:Nat) (xh xd:List UInt8) (wk:Int) (wn:Nat) (wb:List UInt8) (wl:List It)
  (hv1:L[(1:Int).toNat]?=some (.agg [.int .i64 ak,.int .u64 (an:Int),.sl (ab.map E.byte),.sl (Zas al)])) (hv2:L[(2:Int).toNat]?=some (.agg [.int .i64 bk,.int .u64 (bn:Int),.sl (bb.map E.byte),.sl (Zas bl)])) (hv3:L[(3:Int).toNat]?=some (.agg [.int .i64 ck,.int .u64 (cn:Int),.sl (cb.map E.byte),.sl (Zas cl)])) (hv4:L[(4:Int).toNat]?=some (.agg [.int .i64 fk,.int .u64 (fn:Int),.sl (fb.map E.byte),.sl (Zas fl)])) (hv5:L[(5:Int).toNat]?=some (.agg [.int .i64 gk,.int .u64 (gn:Int),.sl (gb.map E.byte),.sl (Zas gl)])) (hv6:L[(6:Int).toNat]?=some (.agg [.int .i64 mk,.int .u64 (mn:Int),.sl (mb.map E.byte),.sl [.agg [.int .i64 tk,.int .u64 (tn:Int),.sl (tb.map E.byte),.sl (Zas tl)],.agg [.int .i64 qk,.int .u64 (qn:Int),.sl (qb.map E.byte),.sl (Zas ql)]]])) (hv7:L[(7:Int).toNat]?=some (.agg [.int .i64 hk,.int .u64 (hn:Int),.sl (hb.map E.byte),.sl (Zas hl)]))
  (t3:((([.agg [.int .i64 tk,.int .u64 (tn:Int),.sl (tb.map E.byte),.sl (Zas tl)],.agg [.int .i64 qk,.int .u64 (qn:Int),.sl (qb.map E.byte),.sl (Zas ql)]]:List E).length:Int) != 2)=false) 
  (hD:AP Tryz.prog 90 [.agg (itC ck cn cb cl)] (.tup [.agg [.bool di,.int .u64 (dn:Int),.int .u64 (ds:Int),.str dh,.str dd],.bool true]) [])
  (hS:AP Tryz.prog 90 [.agg (itC fk fn fb fl)] (.tup [.agg [.bool xi,.int .u64 (xn:Int),.int .u64 (xs:Int),.str xh,.str xd],.bool false]) [])
  (hR:AP Tryz.prog 90 [.agg (itC gk gn gb gl)] (.tup [.agg [.bool ri,.int .u64 (rn:Int),.int .u64 (rs:Int),.str rh,.str rd],.bool r]) []) :
  AP Tryz.prog 18 [.agg (itC zk zn zb zl)] (.tup [.agg [.int .u64 0,.int .i64 0,.bool false,.int .u64 0,.int .u64 0,.str [],.str [],.bool false,.int .u64 0,.int .u64 0,.str [],.str [],.bool false,.int .u64 0,.int .u64 0,.str [],.str [],.int .u64 0,.int .u64 0,.int .u64 0],.int .i64 3]) []:=by
 refine AP.ofA ?_
 refine Zap Tryz.func18 rfl Tryz.ntmps18 rfl rfl ?_
 repeat'(first|(apply Zaa (hO);kernel_rfl;(iterate 4 exact Z))|(apply Zaa (hD);kernel_rfl;(iterate 4 exact Z))|(apply Zaa (hS);kernel_rfl;(iterate 4 exact Z))|(apply Zaa (hR);kernel_rfl;(iterate 4 exact Z))|(apply Zaj Zab;exact Z)|(apply Zai Zab;exact Z)|(apply Zay Zab;exact Z)|(apply Zaf;(iterate 3 exact Z);exact Go.Zqn)|(apply Zao;(iterate 3 exact Z);exact Go.Zqn)|(apply Zak;exact Z;exact Go.Zqn;exact Z;exact Z)|(apply Zah;exact Z;exact Go.Zqn;exact Z;exact Z)|(apply Zac;exact Z;exact Go.Zqn)|(apply Zae;exact Z;exact Go.Zqn)|(apply Zal Zab;(iterate 4 exact Z))|(apply Zam 15 ZaR;decide +kernel;kernel_rfl;kernel_rfl;kernel_rfl;exact Z;exact Z)|(apply Zam 17 ZaR;decide +kernel;kernel_rfl;kernel_rfl;kernel_rfl;exact Z;exact Z)|(apply Zam 19 ZaR;decide +kernel;kernel_rfl;kernel_rfl;kernel_rfl;exact Z;exact Z)|(apply Zar;(iterate 4 exact Z))|exact AE.nil _ _ _ _|(apply Zav;exact Z)|(apply Za8;exact Z)|(apply Zaz;exact Z;exact Z;decide +kernel;exact Z)|(apply ZaA;exact Z)|(apply Zbp;exact Z)|exact AO.nil _ _ _|(apply Zaq;(decide +kernel))|(apply ZaZ;(iterate 3 exact Z))|exact AOs.nil|exact ZaI rfl rfl|exact Zca rfl rfl|(apply Zat Zab;(iterate 6 exact Z);(first|exact Go.Zqn|rotate_left);(first|with_reducible assumption|decide +kernel|exact Z);(first|exact Zag rfl|with_reducible assumption|decide +kernel|rotate_left)))
 all_goals(apply Zax [];(apply Zad Zab;exact Z);(iterate 4 exact Z))
 all_goals rfl
theorem Zqc [Known](zk:Int)(zn:Nat)(zb:List UInt8)(zl:List It)(L:List E)(e:Int)
  (hO:AP Tryz.prog 89 [.agg (itC zk zn zb zl),.int .i64 2] (.tup [.sl .ext L,.int .i64 e]) [])
  (t1:(e != 0)=false) (t2:((L.length:Int) != 8)=false) (hU:Uni 4 L)
  (ak:Int) (an:Nat) (ab:List UInt8) (al:List It) (bk:Int) (bn:Nat) (bb:List UInt8) (bl:List It) (ck:Int) (cn:Nat) (cb:List UInt8) (cl:List It) (fk:Int) (fn:Nat) (fb:List UInt8) (fl:List It) (gk:Int) (gn:Nat) (gb:List UInt8) (gl:List It) (tk:Int) (tn:Nat) (tb:List UInt8) (tl:List It) (qk:Int) (qn:Nat) (qb:List UInt8) (ql:List It) (hk:Int) (hn:Nat) (hb:List UInt8) (hl:List It) (mk:Int) (mn:Nat) (mb:List UInt8) (di:Bool) (dn ds:Nat) (dh dd:List UInt8) (ri:Bool) (rn rs:Nat) (rh rd:List UInt8) (xi:Bool) (xn xs:Nat) (xh xd:List UInt8) (wk:Int) (wn:Nat) (wb:List UInt8) (wl:List It)
  (hv1:L[(1:Int).toNat]?=some (.agg [.int .i64 ak,.int .u64 (an:Int),.sl (ab.map E.byte),.sl (Zas al)])) (hv2:L[(2:Int).toNat]?=some (.agg [.int .i64 bk,.int .u64 (bn:Int),.sl (bb.map E.byte),.sl (Zas bl)])) (hv3:L[(3:Int).toNat]?=some (.agg [.int .i64 ck,.int .u64 (cn:Int),.sl (cb.map E.byte),.sl (Zas cl)])) (hv4:L[(4:Int).toNat]?=some (.agg [.int .i64 fk,.int .u64 (fn:Int),.sl (fb.map E.byte),.sl (Zas fl)])) (hv5:L[(5:Int).toNat]?=some (.agg [.int .i64 gk,.int .u64 (gn:Int),.sl (gb.map E.byte),.sl (Zas gl)])) (hv6:L[(6:Int).toNat]?=some (.agg [.int .i64 mk,.int .u64 (mn:Int),.sl (mb.map E.byte),.sl [.agg [.int .i64 tk,.int .u64 (tn:Int),.sl (tb.map E.byte),.sl (Zas tl)],.agg [.int .i64 qk,.int .u64 (qn:Int),.sl (qb.map E.byte),.sl (Zas ql)]]])) (hv7:L[(7:Int).toNat]?=some (.agg [.int .i64 hk,.int .u64 (hn:Int),.sl (hb.map E.byte),.sl (Zas hl)]))
  (t3:((([.agg [.int .i64 tk,.int .u64 (tn:Int),.sl (tb.map E.byte),.sl (Zas tl)],.agg [.int .i64 qk,.int .u64 (qn:Int),.sl (qb.map E.byte),.sl (Zas ql)]]:List E).length:Int) != 2)=false) 
  (hD:AP Tryz.prog 90 [.agg (itC ck cn cb cl)] (.tup [.agg [.bool di,.int .u64 (dn:Int),.int .u64 (ds:Int),.str dh,.str dd],.bool true]) [])
  (hS:AP Tryz.prog 90 [.agg (itC fk fn fb fl)] (.tup [.agg [.bool xi,.int .u64 (xn:Int),.int .u64 (xs:Int),.str xh,.str xd],.bool true]) [])
  (hR:AP Tryz.prog 90 [.agg (itC gk gn gb gl)] (.tup [.agg [.bool ri,.int .u64 (rn:Int),.int .u64 (rs:Int),.str rh,.str rd],.bool false]) []) :
  AP Tryz.prog 18 [.agg (itC zk zn zb zl)] (.tup [.agg [.int .u64 0,.int .i64 0,.bool false,.int .u64 0,.int .u64 0,.str [],.str [],.bool false,.int .u64 0,.int .u64 0,.str [],.str [],.bool false,.int .u64 0,.int .u64 0,.str [],.str [],.int .u64 0,.int .u64 0,.int .u64 0],.int .i64 3]) []:=by
 refine AP.ofA ?_
 refine Zap Tryz.func18 rfl Tryz.ntmps18 rfl rfl ?_
 repeat'(first|(apply Zaa (hO);kernel_rfl;(iterate 4 exact Z))|(apply Zaa (hD);kernel_rfl;(iterate 4 exact Z))|(apply Zaa (hS);kernel_rfl;(iterate 4 exact Z))|(apply Zaa (hR);kernel_rfl;(iterate 4 exact Z))|(apply Zaj Zab;exact Z)|(apply Zai Zab;exact Z)|(apply Zay Zab;exact Z)|(apply Zaf;(iterate 3 exact Z);exact Go.Zqn)|(apply Zao;(iterate 3 exact Z);exact Go.Zqn)|(apply Zak;exact Z;exact Go.Zqn;exact Z;exact Z)|(apply Zah;exact Z;exact Go.Zqn;exact Z;exact Z)|(apply Zac;exact Z;exact Go.Zqn)|(apply Zae;exact Z;exact Go.Zqn)|(apply Zal Zab;(iterate 4 exact Z))|(apply Zam 15 ZaR;decide +kernel;kernel_rfl;kernel_rfl;kernel_rfl;exact Z;exact Z)|(apply Zam 17 ZaR;decide +kernel;kernel_rfl;kernel_rfl;kernel_rfl;exact Z;exact Z)|(apply Zam 19 ZaR;decide +kernel;kernel_rfl;kernel_rfl;kernel_rfl;exact Z;exact Z)|(apply Zar;(iterate 4 exact Z))|exact AE.nil _ _ _ _|(apply Zav;exact Z)|(apply Za8;exact Z)|(apply Zaz;exact Z;exact Z;decide +kernel;exact Z)|(apply ZaA;exact Z)|(apply Zbp;exact Z)|exact AO.nil _ _ _|(apply Zaq;(decide +kernel))|(apply ZaZ;(iterate 3 exact Z))|exact AOs.nil|exact ZaI rfl rfl|exact Zca rfl rfl|(apply Zat Zab;(iterate 6 exact Z);(first|exact Go.Zqn|rotate_left);(first|with_reducible assumption|decide +kernel|exact Z);(first|exact Zag rfl|with_reducible assumption|decide +kernel|rotate_left)))
 all_goals(apply Zax [];(apply Zad Zab;exact Z);(iterate 4 exact Z))
 all_goals rfl
end Go.Proofs.YtakblclkflnnpaaGreatDoor
end

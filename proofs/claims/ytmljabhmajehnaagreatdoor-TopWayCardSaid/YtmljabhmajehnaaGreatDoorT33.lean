/- TopWay: the walk (twgen.py). -/
import Derived.Test.YtmljabhmajehnaaGreatDoorT32
import Derived.Test.YtmljabhmajehnaaGreatDoorT01
import Derived.Test.YtmljabhmajehnaaGreatDoorT26
import Derived.Test.YtmljabhmajehnaaGreatDoorT07
import Derived.Test.YtmljabhmajehnaaGreatDoorT10
import Derived.Test.YtmljabhmajehnaaGreatDoorT24
import Derived.Test.YtmljabhmajehnaaGreatDoorT29
import Derived.Test.YtmljabhmajehnaaGreatDoorT12
import Derived.Test.YtmljabhmajehnaaGreatDoorT15
import Derived.SizedLaws
set_option linter.unusedVariables false
set_option linter.unusedSimpArgs false
section
open Go.RowKit Go.Pl Go.Av
namespace Go.Proofs.YtmljabhmajehnaaGreatDoor
set_option maxHeartbeats 4000000
structure Way (P:List UInt8) (id:EidV) (t q:Nat) (b:BunV):Prop where
 ok:BunOk b
 right:ZP b=true
 pay:Il b=P
 src:b.p.src=id
 t:b.p.t=t
 q:b.p.q=q
theorem Way.len {P:List UInt8}{id:EidV}{t q:Nat}{b:BunV}(h:Way P id t q b):b.bl.length<=1000:=by
 have:=(Yi (Bool.and_eq_true_iff.1 h.right).1).1
 omega
theorem Way.next {P:List UInt8}{id:EidV}{t q:Nat}{b out:BunV}{self:EidV}{s n:Nat}(h:Way P id t q b)(hs:Sent b out self s n):Way P id t q out:=
 ⟨Nw h.ok hs,hs.right,(Ny hs).trans h.pay,by rw[hs.p];exact h.src,by rw[hs.p];exact h.t,by rw[hs.p];exact h.q⟩
theorem HW [Known][KnownU8](b:BunV)(ws:List UInt8)(n0:Nat)(hfl:b.p.fl<18446744073709551616/\∀ c ∈ b.bl,c.fl<18446744073709551616/\c.data.length<=140737488351232):AP Tryz.prog 3 [.agg (bnC b),byE ws,.int .u64 (n0:Int)] (.bool true) []:=by
 have hA:=Ga
 have hlen:=Wn b.bl
 have hwl:(ws.map E.byte).length=ws.length:=List.length_map ..
 cases g1:decide (((ZU b.bl).length:Int)>8) with
 | true=>
  clear hfl
  obtain⟨⟨fl,sum,⟨di,dn,ds,dh,dd⟩,⟨ri,rn,rs,rh,rd⟩,⟨xi,xn,xs,xh,xd⟩,t,q,life⟩,bl⟩:=b
  try dsimp only at *
  refine AP.ofA (Zk Tryz.func3 Z Tryz.ntmps3 Z Z ?_)
  repeat'(first|(apply Zb (hA);kernel_rfl;(iterate 4 exact Z))|(apply Zh Za;exact Z)|(apply Ze Za;exact Z)|(apply Zq Za;exact Z)|(apply Zp;(iterate 3 exact Z);(first|with_reducible assumption|decide +kernel|(solve|simp only[bn])))|(apply Zl;exact Z;(first|with_reducible assumption|decide +kernel|(solve|simp only[bn]));exact Z;exact Z)|(apply Zd;exact Z;(first|with_reducible assumption|decide +kernel|(solve|simp only[bn])))|refine Zm Za Z Z Z Z ?_)
  all_goals exact Qe
 | false=>
 cases g2:decide (((ws.map E.byte).length:Int)>60) with
 | true=>
  clear hfl
  obtain⟨⟨fl,sum,⟨di,dn,ds,dh,dd⟩,⟨ri,rn,rs,rh,rd⟩,⟨xi,xn,xs,xh,xd⟩,t,q,life⟩,bl⟩:=b
  try dsimp only at *
  refine AP.ofA (Zk Tryz.func3 Z Tryz.ntmps3 Z Z ?_)
  repeat'(first|(apply Zb (hA);kernel_rfl;(iterate 4 exact Z))|(apply Zh Za;exact Z)|(apply Ze Za;exact Z)|(apply Zq Za;exact Z)|(apply Zg;(iterate 3 exact Z);(first|with_reducible assumption|decide +kernel|(solve|simp only[bn])))|(apply Zp;(iterate 3 exact Z);(first|with_reducible assumption|decide +kernel|(solve|simp only[bn])))|(apply Zl;exact Z;(first|with_reducible assumption|decide +kernel|(solve|simp only[bn]));exact Z;exact Z)|(apply Zi;exact Z;(first|with_reducible assumption|decide +kernel|(solve|simp only[bn]));exact Z;exact Z)|(apply Zd;exact Z;(first|with_reducible assumption|decide +kernel|(solve|simp only[bn])))|refine Zm Za Z Z Z Z ?_)
  all_goals exact Qe
 | false=>
 cases g3:decide ((n0:Int)>549755813888) with
 | true=>
  clear hfl
  obtain⟨⟨fl,sum,⟨di,dn,ds,dh,dd⟩,⟨ri,rn,rs,rh,rd⟩,⟨xi,xn,xs,xh,xd⟩,t,q,life⟩,bl⟩:=b
  try dsimp only at *
  refine AP.ofA (Zk Tryz.func3 Z Tryz.ntmps3 Z Z ?_)
  repeat'(first|(apply Zb (hA);kernel_rfl;(iterate 4 exact Z))|(apply Zh Za;exact Z)|(apply Ze Za;exact Z)|(apply Zq Za;exact Z)|(apply Zg;(iterate 3 exact Z);(first|with_reducible assumption|decide +kernel|(solve|simp only[bn])))|(apply Zp;(iterate 3 exact Z);(first|with_reducible assumption|decide +kernel|(solve|simp only[bn])))|(apply Zl;exact Z;(first|with_reducible assumption|decide +kernel|(solve|simp only[bn]));exact Z;exact Z)|(apply Zi;exact Z;(first|with_reducible assumption|decide +kernel|(solve|simp only[bn]));exact Z;exact Z)|(apply Zd;exact Z;(first|with_reducible assumption|decide +kernel|(solve|simp only[bn])))|refine Zm Za Z Z Z Z ?_)
  all_goals exact Qe
 | false=>
 have hbl8:b.bl.length<=8:=by have:=of_decide_eq_false g1;omega
 have hR:=Io b hfl.1 (by omega) hfl.2
 cases hr:ZP b with
 | false=>
  rw[hr]at hR
  clear hfl hr hbl8
  obtain⟨⟨fl,sum,⟨di,dn,ds,dh,dd⟩,⟨ri,rn,rs,rh,rd⟩,⟨xi,xn,xs,xh,xd⟩,t,q,life⟩,bl⟩:=b
  try dsimp only at *
  refine AP.ofA (Zk Tryz.func3 Z Tryz.ntmps3 Z Z ?_)
  repeat'(first|(apply Zb (hA);kernel_rfl;(iterate 4 exact Z))|(apply Zb (hR);kernel_rfl;(iterate 4 exact Z))|(apply Zh Za;exact Z)|(apply Ze Za;exact Z)|(apply Zq Za;exact Z)|(apply Zg;(iterate 3 exact Z);(first|with_reducible assumption|decide +kernel|(solve|simp only[bn])))|(apply Zi;exact Z;(first|with_reducible assumption|decide +kernel|(solve|simp only[bn]));exact Z;exact Z)|(apply Zd;exact Z;(first|with_reducible assumption|decide +kernel|(solve|simp only[bn])))|refine Zm Za Z Z Z Z ?_)
  all_goals exact Qe
 | true=>
 rw[hr]at hR
 have hb:BunOk b:=⟨hfl.1,by omega,fun c hc=>⟨(hfl.2 c hc).1,by have:=Xv ((Yi (Bool.and_eq_true_iff.1 hr).1).2 c hc);omega⟩⟩
 have hP:=Nx b hb
 have hway:Way (Il b) b.p.src b.p.t b.p.q b:=⟨hb,hr,rfl,rfl,rfl,rfl⟩
 have hn0:=of_decide_eq_false g3
 have hw60:=of_decide_eq_false g2
 generalize Il b=P at *
 have hbw:=hway
 clear hfl hb hr hbl8
 obtain⟨⟨fl,sum,⟨di,dn,ds,dh,dd⟩,⟨ri,rn,rs,rh,rd⟩,⟨xi,xn,xs,xh,xd⟩,t,q,life⟩,bl⟩:=b
 dsimp only at hway hP hR g1
 refine AP.ofA (Zk Tryz.func3 Z Tryz.ntmps3 Z Z ?_)
 repeat'(first|(apply Zb (hR);kernel_rfl;(iterate 4 exact Z))|(apply Zb (hP);kernel_rfl;(iterate 4 exact Z))|(apply Zh Za;exact Z)|(apply Ze Za;exact Z)|(apply Zq Za;exact Z)|(apply Zg;(iterate 3 exact Z);(first|with_reducible assumption|decide +kernel|(solve|simp only[bn])))|(apply Zi;exact Z;(first|with_reducible assumption|decide +kernel|(solve|simp only[bn]));exact Z;exact Z)|(apply Zf;exact Z;(first|with_reducible assumption|decide +kernel|(solve|simp only[bn])))|refine Zm Za Z Z Z Z ?_|(apply Zn 8 ZF;decide +kernel;kernel_rfl;kernel_rfl;kernel_rfl;exact Z;exact Z)|(apply Zs;(iterate 4 exact Z))|exact AE.nil _ _ _ _|(apply Zx;exact Z)|(apply Ye;exact Z)|(apply ZA;exact Z;exact Z;decide +kernel;exact Z)|(apply ZB;exact Z)|(apply Yu;exact Z)|exact AO.nil _ _ _|(apply Zr;(decide +kernel))|(apply Z4;(iterate 3 exact Z))|exact AOs.nil|exact ZM rfl rfl|exact Y4 rfl rfl|refine JT Za Z Z Z Z Z Z Z Z Z ?_)
 refine ZW (fun f tm bx fr=>∃(i n:Nat) (bi:BunV),f+i=ws.length/\n<=549755813888+256*i/\Way P ⟨xi,xn,xs,xh,xd⟩ t q bi/\tm=[(1,.sl .ext (ws.map E.byte)),(2,.int .u64 (n:Int)),(3,.ptr 0 0),(7,.str P),(8,.ptr 1 0),(9,.int .i64 (i:Int))]/\bx=[bnC bi,[.bool xi,.int .u64 (xn:Int),.int .u64 (xs:Int),.str xh,.str xd,.int .u64 (t:Int),.int .u64 (q:Int)]]/\fr=[]) (ws.length+1) (Lands.mk' (m:=ws.length) (Nat.lt_succ_self _) ⟨0,n0,_,by omega,by omega,hway,rfl,rfl,rfl⟩ ?_ rfl rfl rfl rfl rfl rfl) ?_
 ·exact .cons rfl (.cons rfl (.cons rfl (.cons rfl (.cons rfl (.cons rfl .nil)))))
 rintro f tm bx fr ⟨i,n,bi,hf,hni,hw,rfl,rfl,rfl⟩
 rcases Nat.lt_or_ge i ws.length with hlt|hge
 ·have hdl:decide ((i:Int)<((ws.map E.byte).length:Int))=true:=decide_eq_true (by omega)
  obtain⟨w,hy⟩:∃ y,ws[i]?=some y:=⟨_,List.getElem?_eq_getElem hlt⟩
  have hv:(ws.map E.byte)[((i:Nat):Int).toNat]?=some (.int .u8 (w.toNat:Int)):=by
   rw[Int.toNat_natCast,List.getElem?_map,hy];rfl
  have hw8:w.toNat<256:=w.toNat_lt
  have hUw:=YR ws
  have ei:IntKind.i64.wrap ((i:Int)+1)=((i+1:Nat):Int):=by rw[IntWalk.i64_in _ (by omega)];omega
  have eu:IntKind.u64.wrap ((i+1:Nat):Int)=((i+1:Nat):Int):=IntWalk.u64_in _ (by omega)
  have ew:IntKind.u64.wrap (w.toNat:Int)=(w.toNat:Int):=IntWalk.u64_in _ (by omega)
  have en:IntKind.u64.wrap ((n:Int)+(w.toNat:Int))=((n+w.toNat:Nat):Int):=by rw[IntWalk.u64_in _ (by omega)];omega
  have hE:=HV (i:=i) (by omega)
  have hcase:=NA (self:=ME i) hw.right (Nat.le_add_right n w.toNat) (by omega) hE rfl
  have hV:=Id bi hw.ok (n:Int) ((n+w.toNat:Nat):Int)
  rw[Q7,Nz hw.right (Nat.le_add_right n w.toNat) (by omega)]at hV
  have hF:=Q3 bi 10 hw.ok.len (fun c hc=>Nat.le_trans (hw.ok.bl c hc).2 (by omega))
  have hfind:∃(h:BlkV) (is:Bool) (L N:Nat) (e0:Int),AP Tryz.prog 12 [.agg (bnC bi),.int .u64 10] (.tup [.agg (bkC h),.bool is]) []/\AP Tryz.prog 13 [.agg (bkC h)] (.tup [.int .u64 (L:Int),.int .u64 (N:Int),.int .i64 e0]) []/\((is=false/\WN bi=false)\/(is=true/\WN bi=decide ((N:Int) ≥ (L:Int)))):=by
   unfold WN
   cases hf10:bi.bl.find? (WO 10) with
   | none=>
    rw[hf10]at hF
    exact⟨bk0,false,_,_,_,hF,UR bk0 (by decide),.inl ⟨rfl,rfl⟩⟩
   | some c=>
    rw[hf10]at hF
    have hcm:=List.mem_of_find?_eq_some hf10
    refine⟨c,true,_,_,_,hF,UR c (Nat.le_trans (hw.ok.bl c hcm).2 (by omega)),.inr ⟨rfl,?_⟩⟩
    have hrc:=(Yi (Bool.and_eq_true_iff.1 hw.right).1).2 c hcm
    show(Wq c 10==0&&decide ((U8 c:Int) ≥ (Uu c:Int)))=_
    rw[Nu hrc (GU (List.find?_some hf10))]
    rfl
  obtain⟨h,is,L,N,e0,hF,hH,hsp⟩:=hfind
  have hO:=Nq bi hw.ok hw.len (ME i) (n:Int) ((n+w.toNat:Nat):Int)
  rcases hcase with⟨ho,hon⟩ | ⟨ho,hs,hon⟩ | ⟨ho,hs,hon|⟨out,hon⟩⟩
  ·rw[ho]at hV
   rw[hon]at hO
   replace hO:AP Tryz.prog 14 _ (.tup [.agg (bnC bn0),.int .i64 18]) []:=hO
   clear hsp hon ho hw hbw hway
   obtain⟨⟨ufl,usum,⟨udi,udn,uds,udh,udd⟩,⟨uri,urn,urs,urh,urd⟩,⟨uxi,uxn,uxs,uxh,uxd⟩,ut,uq,ulife⟩,ubl⟩:=bi
   obtain⟨hty,hnum,hfl,hsum,hdata⟩:=h
   cases is
   all_goals
    repeat'(first|rw[ei]|rw[eu]|rw[ew]|rw[en]|(apply Zb (hV);kernel_rfl;(iterate 4 exact Z))|(apply Zb (hF);kernel_rfl;(iterate 4 exact Z))|(apply Zb (hH);kernel_rfl;(iterate 4 exact Z))|(apply Zb (hO);kernel_rfl;(iterate 4 exact Z))|(apply Zb (hA);kernel_rfl;(iterate 4 exact Z))|(apply Zh Za;exact Z)|(apply Ze Za;exact Z)|(apply Zq Za;exact Z)|(apply Zg;(iterate 3 exact Z);(first|with_reducible assumption|decide +kernel|(solve|simp only[bn])))|(apply Zv;(iterate 3 exact Z);(first|with_reducible assumption|decide +kernel|(solve|simp only[bn])))|(apply Zp;(iterate 3 exact Z);(first|with_reducible assumption|decide +kernel|(solve|simp only[bn])))|refine XW Z Z Z ?_|(apply Zl;exact Z;(first|with_reducible assumption|decide +kernel|(solve|simp only[bn]));exact Z;exact Z)|(apply Zi;exact Z;(first|with_reducible assumption|decide +kernel|(solve|simp only[bn]));exact Z;exact Z)|(apply Zd;exact Z;(first|with_reducible assumption|decide +kernel|(solve|simp only[bn])))|(apply Zf;exact Z;(first|with_reducible assumption|decide +kernel|(solve|simp only[bn])))|refine Zm Za Z Z Z Z ?_|(apply Zu Za;(iterate 6 exact Z);(first|exact Qt|rotate_left);(first|with_reducible assumption|decide +kernel|exact Z);(first|exact Zj rfl|with_reducible assumption|decide +kernel|rotate_left)))
    all_goals exact Qe
  ·rw[ho]at hV
   rw[hon]at hO
   rw[hs]at hsp
   replace hO:AP Tryz.prog 14 _ (.tup [.agg (bnC bn0),.int .i64 19]) []:=hO
   clear hon ho hw hbw hway
   obtain⟨⟨ufl,usum,⟨udi,udn,uds,udh,udd⟩,⟨uri,urn,urs,urh,urd⟩,⟨uxi,uxn,uxs,uxh,uxd⟩,ut,uq,ulife⟩,ubl⟩:=bi
   obtain⟨hty,hnum,hfl,hsum,hdata⟩:=h
   rcases hsp with⟨_,h⟩ | ⟨rfl,hge⟩
   ·cases h
   replace hge:=hge.symm
   repeat'(first|rw[hge]|rw[ei]|rw[eu]|rw[ew]|rw[en]|(apply Zb (hV);kernel_rfl;(iterate 4 exact Z))|(apply Zb (hF);kernel_rfl;(iterate 4 exact Z))|(apply Zb (hH);kernel_rfl;(iterate 4 exact Z))|(apply Zb (hO);kernel_rfl;(iterate 4 exact Z))|(apply Zb (hA);kernel_rfl;(iterate 4 exact Z))|(apply Zh Za;exact Z)|(apply Ze Za;exact Z)|(apply Zq Za;exact Z)|(apply Zg;(iterate 3 exact Z);(first|with_reducible assumption|decide +kernel|(solve|simp only[bn])))|(apply Zp;(iterate 3 exact Z);(first|with_reducible assumption|decide +kernel|(solve|simp only[bn])))|(apply Zl;exact Z;(first|with_reducible assumption|decide +kernel|(solve|simp only[bn]));exact Z;exact Z)|(apply Zi;exact Z;(first|with_reducible assumption|decide +kernel|(solve|simp only[bn]));exact Z;exact Z)|(apply Zd;exact Z;(first|with_reducible assumption|decide +kernel|(solve|simp only[bn])))|(apply Zf;exact Z;(first|with_reducible assumption|decide +kernel|(solve|simp only[bn])))|refine Zm Za Z Z Z Z ?_|(apply Zu Za;(iterate 6 exact Z);(first|exact Qt|rotate_left);(first|with_reducible assumption|decide +kernel|exact Z);(first|exact Zj rfl|with_reducible assumption|decide +kernel|rotate_left)))
   all_goals exact Qe
  ·rw[ho]at hV
   rw[hon]at hO
   rw[hs]at hsp
   replace hO:AP Tryz.prog 14 _ (.tup [.agg (bnC bn0),.int .i64 3]) []:=hO
   clear hon ho hw hbw hway
   obtain⟨⟨ufl,usum,⟨udi,udn,uds,udh,udd⟩,⟨uri,urn,urs,urh,urd⟩,⟨uxi,uxn,uxs,uxh,uxd⟩,ut,uq,ulife⟩,ubl⟩:=bi
   obtain⟨hty,hnum,hfl,hsum,hdata⟩:=h
   rcases hsp with⟨rfl,_⟩ | ⟨rfl,hge⟩
   ·repeat'(first|rw[ei]|rw[eu]|rw[ew]|rw[en]|(apply Zb (hV);kernel_rfl;(iterate 4 exact Z))|(apply Zb (hF);kernel_rfl;(iterate 4 exact Z))|(apply Zb (hH);kernel_rfl;(iterate 4 exact Z))|(apply Zb (hO);kernel_rfl;(iterate 4 exact Z))|(apply Zb (hA);kernel_rfl;(iterate 4 exact Z))|(apply Zh Za;exact Z)|(apply Ze Za;exact Z)|(apply Zq Za;exact Z)|(apply Zg;(iterate 3 exact Z);(first|with_reducible assumption|decide +kernel|(solve|simp only[bn])))|(apply Zv;(iterate 3 exact Z);(first|with_reducible assumption|decide +kernel|(solve|simp only[bn])))|(apply Zl;exact Z;(first|with_reducible assumption|decide +kernel|(solve|simp only[bn]));exact Z;exact Z)|(apply Zi;exact Z;(first|with_reducible assumption|decide +kernel|(solve|simp only[bn]));exact Z;exact Z)|(apply Zd;exact Z;(first|with_reducible assumption|decide +kernel|(solve|simp only[bn])))|(apply Zf;exact Z;(first|with_reducible assumption|decide +kernel|(solve|simp only[bn])))|refine Zm Za Z Z Z Z ?_|(apply Zu Za;(iterate 6 exact Z);(first|exact Qt|rotate_left);(first|with_reducible assumption|decide +kernel|exact Z);(first|exact Zj rfl|with_reducible assumption|decide +kernel|rotate_left)))
    all_goals exact Qe
   ·replace hge:=hge.symm
    repeat'(first|rw[hge]|rw[ei]|rw[eu]|rw[ew]|rw[en]|(apply Zb (hV);kernel_rfl;(iterate 4 exact Z))|(apply Zb (hF);kernel_rfl;(iterate 4 exact Z))|(apply Zb (hH);kernel_rfl;(iterate 4 exact Z))|(apply Zb (hO);kernel_rfl;(iterate 4 exact Z))|(apply Zb (hA);kernel_rfl;(iterate 4 exact Z))|(apply Zh Za;exact Z)|(apply Ze Za;exact Z)|(apply Zq Za;exact Z)|(apply Zg;(iterate 3 exact Z);(first|with_reducible assumption|decide +kernel|(solve|simp only[bn])))|(apply Zl;exact Z;(first|with_reducible assumption|decide +kernel|(solve|simp only[bn]));exact Z;exact Z)|(apply Zi;exact Z;(first|with_reducible assumption|decide +kernel|(solve|simp only[bn]));exact Z;exact Z)|(apply Zd;exact Z;(first|with_reducible assumption|decide +kernel|(solve|simp only[bn])))|(apply Zf;exact Z;(first|with_reducible assumption|decide +kernel|(solve|simp only[bn])))|refine Zm Za Z Z Z Z ?_|(apply Zu Za;(iterate 6 exact Z);(first|exact Qt|rotate_left);(first|with_reducible assumption|decide +kernel|exact Z);(first|exact Zj rfl|with_reducible assumption|decide +kernel|rotate_left)))
    all_goals exact Qe
  ·rw[ho]at hV
   rw[hs]at hsp
   have hsent:=MA hon
   have hnx:=hw.next hsent
   rw[hon]at hO
   replace hO:AP Tryz.prog 14 _ (.tup [.agg (bnC out),.int .i64 0]) []:=hO
   have hWr:=Um out hnx.ok
   unfold V7 at hWr
   rw[hnx.right]at hWr
   replace hWr:AP Tryz.prog 15 [.agg (bnC out)] (.tup [byE (Y6 out),.int .i64 0]) []:=hWr
   have hRd:=KD (Y6 out) (Nat.le_trans (Xw hnx.right) (by decide))
   rw[Qi hnx.right (KA hnx.ok.fl hnx.ok.bl)]at hRd
   obtain⟨pc,hpc,ha6,hpv⟩:=HT hsent
   have hG:=Q3 out 6 hnx.ok.len (fun c hc=>Nat.le_trans (hnx.ok.bl c hc).2 (by omega))
   rw[hpc]at hG
   have hQ:=HM pc (Nat.le_trans (hnx.ok.bl pc (List.mem_of_find?_eq_some hpc)).2 (by omega))
   rw[ha6]at hQ
   replace hQ:AP Tryz.prog 17 [.agg (bkC pc)] (.tup [.agg (eC (V4 pc.data).1),.int .i64 0]) []:=hQ
   rw[hpv]at hQ
   replace hQ:AP Tryz.prog 17 [.agg (bkC pc)] (.tup [.agg [.bool true,.int .u64 ((i+1:Nat):Int),.int .u64 0,.str [],.str []],.int .i64 0]) []:=hQ
   replace hG:AP Tryz.prog 12 [.agg (bnC out),.int .u64 6] (.tup [.agg (bkC pc),.bool true]) []:=hG
   replace hRd:AP Tryz.prog 16 [byE (Y6 out)] (.tup [.agg (bnC out),.int .i64 0]) []:=hRd
   have hPy:=Nx out hnx.ok
   rw[hnx.pay]at hPy
   have hns:=hnx.src
   have hnt:=hnx.t
   have hnq:=hnx.q
   have y1:(!((true==true)&&((((i+1:Nat):Int)==((i+1:Nat):Int))&&(((0:Int)==0)&&((([]:List UInt8)==[])&&((([]:List UInt8)==[])&&true))))))=false:=by simp
   have y2:(P != P)=false:=by simp
   have y3:(!((xi==xi)&&(((xn:Int)==(xn:Int))&&(((xs:Int)==(xs:Int))&&((xh==xh)&&((xd==xd)&&(((t:Int)==(t:Int))&&(((q:Int)==(q:Int))&&true))))))))=false:=by simp
   clear hon ho hw hbw hway hsent hpv ha6 hpc
   generalize Y6 out=PB at *
   obtain⟨⟨ufl,usum,⟨udi,udn,uds,udh,udd⟩,⟨uri,urn,urs,urh,urd⟩,⟨uxi,uxn,uxs,uxh,uxd⟩,ut,uq,ulife⟩,ubl⟩:=bi
   obtain⟨⟨vfl,vsum,⟨vdi,vdn,vds,vdh,vdd⟩,⟨vri,vrn,vrs,vrh,vrd⟩,⟨vxi,vxn,vxs,vxh,vxd⟩,vt,vq,vlife⟩,vbl⟩:=out
   dsimp only at hns hnt hnq
   cases hns
   subst hnt
   subst hnq
   obtain⟨hty,hnum,hfl,hsum,hdata⟩:=h
   obtain⟨pty,pnum,pfl,psum,pdata⟩:=pc
   rcases hsp with⟨rfl,_⟩ | ⟨rfl,hge⟩
   ·repeat'(first|rw[ei]|rw[eu]|rw[ew]|rw[en]|(apply Zb (hV);kernel_rfl;(iterate 4 exact Z))|(apply Zb (hF);kernel_rfl;(iterate 4 exact Z))|(apply Zb (hH);kernel_rfl;(iterate 4 exact Z))|(apply Zb (hO);kernel_rfl;(iterate 4 exact Z))|(apply Zb (hWr);kernel_rfl;(iterate 4 exact Z))|(apply Zb (hRd);kernel_rfl;(iterate 4 exact Z))|(apply Zb (hG);kernel_rfl;(iterate 4 exact Z))|(apply Zb (hQ);kernel_rfl;(iterate 4 exact Z))|(apply Zb (hPy);kernel_rfl;(iterate 4 exact Z))|(apply Zh Za;exact Z)|(apply Ze Za;exact Z)|(apply Zq Za;exact Z)|(apply Zg;(iterate 3 exact Z);(first|with_reducible assumption|decide +kernel|(solve|simp only[bn])))|(apply Zv;(iterate 3 exact Z);(first|with_reducible assumption|decide +kernel|(solve|simp only[bn])))|(apply Zl;exact Z;(first|with_reducible assumption|decide +kernel|(solve|simp only[bn]));exact Z;exact Z)|(apply Zi;exact Z;(first|with_reducible assumption|decide +kernel|(solve|simp only[bn]));exact Z;exact Z)|(apply Zd;exact Z;(first|with_reducible assumption|decide +kernel|(solve|simp only[bn])))|(apply Zf;exact Z;(first|with_reducible assumption|decide +kernel|(solve|simp only[bn])))|refine Zm Za Z Z Z Z ?_|refine Wo Za Z Z Z Z Qk Qk Z Z Z ?_|(apply Zu Za;(iterate 6 exact Z);(first|exact Qt|rotate_left);(first|with_reducible assumption|decide +kernel|exact Z);(first|exact Zj rfl|with_reducible assumption|decide +kernel|rotate_left))|refine JT Za Z Z Z Z Z Z Z Z Z ?_)
    refine Lands.mk' (m:=f-1) (by omega) ⟨i+1,n+w.toNat,_,by omega,by omega,hnx,rfl,rfl,rfl⟩ ?_ rfl rfl rfl rfl rfl rfl
    exact .cons rfl (.cons rfl (.cons rfl (.cons rfl (.cons rfl (.cons rfl .nil)))))
   ·replace hge:=hge.symm
    repeat'(first|rw[hge]|rw[ei]|rw[eu]|rw[ew]|rw[en]|(apply Zb (hV);kernel_rfl;(iterate 4 exact Z))|(apply Zb (hF);kernel_rfl;(iterate 4 exact Z))|(apply Zb (hH);kernel_rfl;(iterate 4 exact Z))|(apply Zb (hO);kernel_rfl;(iterate 4 exact Z))|(apply Zb (hWr);kernel_rfl;(iterate 4 exact Z))|(apply Zb (hRd);kernel_rfl;(iterate 4 exact Z))|(apply Zb (hG);kernel_rfl;(iterate 4 exact Z))|(apply Zb (hQ);kernel_rfl;(iterate 4 exact Z))|(apply Zb (hPy);kernel_rfl;(iterate 4 exact Z))|(apply Zh Za;exact Z)|(apply Ze Za;exact Z)|(apply Zq Za;exact Z)|(apply Zg;(iterate 3 exact Z);(first|with_reducible assumption|decide +kernel|(solve|simp only[bn])))|(apply Zl;exact Z;(first|with_reducible assumption|decide +kernel|(solve|simp only[bn]));exact Z;exact Z)|(apply Zi;exact Z;(first|with_reducible assumption|decide +kernel|(solve|simp only[bn]));exact Z;exact Z)|(apply Zd;exact Z;(first|with_reducible assumption|decide +kernel|(solve|simp only[bn])))|(apply Zf;exact Z;(first|with_reducible assumption|decide +kernel|(solve|simp only[bn])))|refine Zm Za Z Z Z Z ?_|refine Wo Za Z Z Z Z Qk Qk Z Z Z ?_|(apply Zu Za;(iterate 6 exact Z);(first|exact Qt|rotate_left);(first|with_reducible assumption|decide +kernel|exact Z);(first|exact Zj rfl|with_reducible assumption|decide +kernel|rotate_left))|refine JT Za Z Z Z Z Z Z Z Z Z ?_)
    refine Lands.mk' (m:=f-1) (by omega) ⟨i+1,n+w.toNat,_,by omega,by omega,hnx,rfl,rfl,rfl⟩ ?_ rfl rfl rfl rfl rfl rfl
    exact .cons rfl (.cons rfl (.cons rfl (.cons rfl (.cons rfl (.cons rfl .nil)))))
 ·have hdl:decide ((i:Int)<((ws.map E.byte).length:Int))=false:=decide_eq_false (by omega)
  clear hw hbw hway
  obtain⟨⟨ufl,usum,⟨udi,udn,uds,udh,udd⟩,⟨uri,urn,urs,urh,urd⟩,⟨uxi,uxn,uxs,uxh,uxd⟩,ut,uq,ulife⟩,ubl⟩:=bi
  repeat'(first|(apply Zb (hA);kernel_rfl;(iterate 4 exact Z))|(apply Zh Za;exact Z)|(apply Ze Za;exact Z)|(apply Zq Za;exact Z)|(apply Zf;exact Z;(first|with_reducible assumption|decide +kernel|(solve|simp only[bn])))|refine Zm Za Z Z Z Z ?_)
  all_goals exact Qe
end Go.Proofs.YtmljabhmajehnaaGreatDoor
end
section
open Go.RowKit Go.Pl
namespace Go.Pl
def K6 {α:Type}(P:Program)(fs:Array Field)(i o:Nat)(R:Rep α):Prop:=
 ∀(H:Type) (enc:TypeId × Value->H) (W:World) (spare:Nat->Bool) (held:Bool) (n:Nat) (cs:List Value) (xs:List (DataW H × List MemPlace)),cs.length=o+R.n->xs.length=fs.size ->
  (∀(j:Nat) (f:Field),fs[j]?=some f->DataW.trod enc P W 0 spare held n f.type ((cs.drop f.offset).take (P.cellsOf f.type))=xs[j]?)->∃ x,R.ok W (· < W.heap.size) (cs.drop o) x
variable {P:Program} {t:TypeId} {fs:Array Field}
theorem KF {α:Type}{R:Rep α}{i o:Nat}{f:Field}(hf:fs[i]?=some f)(ho:f.offset=o)(hc:P.cellsOf f.type=R.n)(h:YC P f.type R){H:Type}{enc:TypeId × Value->H}{W:World}{spare:Nat->Bool}{held:Bool}{n:Nat}{cs:List Value}{xs:List (DataW H × List MemPlace)}(hl:xs.length=fs.size)
  (hg:∀(j:Nat) (f:Field),fs[j]?=some f->DataW.trod enc P W 0 spare held n f.type ((cs.drop f.offset).take (P.cellsOf f.type))=xs[j]?):∃ x,R.ok W (· < W.heap.size) ((cs.drop o).take R.n) x:=by
 have e:=hg i f hf
 rw[ho,hc]at e
 have hi:i<xs.length:=by
  rw[hl]
  exact(Array.getElem?_eq_some_iff.1 hf).1
 exact h H enc W spare held n _ _ (e.trans (List.getElem?_eq_getElem hi))
theorem Gb {α:Type}{R:Rep α}{i o:Nat}{f:Field}(hf:fs[i]?=some f)(ho:f.offset=o)(hc:P.cellsOf f.type=R.n)(h:YC P f.type R):K6 P fs i o R:=by
 intro H enc W spare held n cs xs hcl hl hg
 obtain⟨x,hx⟩:=KF hf ho hc h hl hg
 rw[List.take_of_length_le (by rw[List.length_drop];omega)]at hx
 exact⟨x,hx⟩
theorem Vb {α β:Type}{R:Rep α}{R':Rep β}{i o:Nat}{f:Field}(hf:fs[i]?=some f)(ho:f.offset=o)(hc:P.cellsOf f.type=R.n)(h:YC P f.type R)(h':K6 P fs (i+1) (o+R.n) R'):K6 P fs i o (R.prod R'):=by
 intro H enc W spare held n cs xs hcl hl hg
 obtain⟨x,hx⟩:=KF hf ho hc h hl hg
 have hn:(R.prod R').n=R.n+R'.n:=rfl
 obtain⟨x',hx'⟩:=h' H enc W spare held n cs xs (by rw[hn]at hcl;omega) hl hg
 refine⟨(x,x'),(cs.drop o).take R.n,(cs.drop o).drop R.n,(List.take_append_drop _ _).symm,hx,?_⟩
 rw[List.drop_drop]
 exact hx'
theorem K7 {α:Type}{R:Rep α}(hs:P.underlying t=some (.struct fs))(hc:P.cellsOf t=R.n)(h:K6 P fs 0 0 R):YC P t R:=by
 intro H enc W spare held fuel cs y hy
 obtain⟨xs,n,_,_,hl,hxl,hg⟩:=DataW.trod_struct hs hy
 exact h H enc W spare held n cs xs (by omega) hxl hg
end Go.Pl
end
section
open Go.RowKit Go.Pl Go.Av
namespace Go.Proofs.YtmljabhmajehnaaGreatDoor
set_option maxHeartbeats 4000000
abbrev RPr:Rep (Nat × Int × XE × XE × (XE × Nat × Nat) × Nat):=Rep.u64.prod (Rep.i64.prod (RE.prod (RE.prod (Go.Pl.RI.prod Rep.u64))))
theorem LA:YC Tryz.prog 28 RPr:=
 K7 Tryz.underlying28 (by kernel_rfl) (Vb rfl rfl (by kernel_rfl) (Wc Tryz.underlying22) (Vb rfl rfl (by kernel_rfl) (XP Tryz.underlying3)
  (Vb rfl rfl (by kernel_rfl) T6 (Vb rfl rfl (by kernel_rfl) T6 (Vb rfl rfl (by kernel_rfl) Ra (Gb rfl rfl (by kernel_rfl) (Wc Tryz.underlying22)))))))
abbrev XPr:=Nat × Int × XE × XE × (XE × Nat × Nat) × Nat
def XPr.v (x:XPr):PriV:=⟨x.1,x.2.1,x.2.2.1.v,x.2.2.2.1.v,x.2.2.2.2.1.1.v,x.2.2.2.2.1.2.1,x.2.2.2.2.1.2.2,x.2.2.2.2.2⟩
theorem MF {W:World}{v:Value}{b:List UInt8}(h:Sl Rep.byte W (· < W.heap.size) v b):V W (g0 W) [] (byE b) v:=.sl .ext _ _ (ToE.byte.sl (C:=(g0 W).C) (fun k hk o=>hk) h) trivial
abbrev RB:Rep (Nat × Nat × Nat × Int × List UInt8):=Rep.u64.prod (Rep.u64.prod (Rep.u64.prod (Rep.i64.prod (Rep.slice Rep.byte (by decide)))))
abbrev XB:=Nat × Nat × Nat × Int × List UInt8
def XB.v (x:XB):BlkV:=⟨x.1,x.2.1,x.2.2.1,x.2.2.2.1,x.2.2.2.2⟩
abbrev RBn:Rep ((Nat × Int × XE × XE × (XE × Nat × Nat) × Nat) × List XB):=RPr.prod (Rep.slice RB (by decide))
abbrev XBn:=(Nat × Int × XE × XE × (XE × Nat × Nat) × Nat) × List XB
def XBn.v (x:XBn):BunV:=⟨⟨x.1.1,x.1.2.1,x.1.2.2.1.v,x.1.2.2.2.1.v,x.1.2.2.2.2.1.1.v,x.1.2.2.2.2.1.2.1,x.1.2.2.2.2.1.2.2,x.1.2.2.2.2.2⟩,x.2.map XB.v⟩
theorem LB:ToE RB (fun x=>.agg [.int .u64 (x.1:Int),.int .u64 (x.2.1:Int),.int .u64 (x.2.2.1:Int),.int .i64 x.2.2.2.1,.sl (x.2.2.2.2.map E.byte)]):=ToE.u64.prod (ToE.u64.prod (ToE.u64.prod (ToE.i64.prod (ToE.byte.slice (by decide)))))
theorem RT [Known]{W:World}{cs:List Value}{x:XBn}(h:RBn.ok W (· < W.heap.size) cs x):V W (g0 W) [] (.agg (bnC x.v)) (.agg cs.toArray):=by
 obtain⟨⟨fl,sum,⟨di,dn,ds,dh,dd⟩,⟨ri,rn,rs,rh,rd⟩,⟨⟨xi,xn,xs,xh,xd⟩,t,q⟩,life⟩,bl⟩:=x
 have te:=(ToE.u64.prod (ToE.i64.prod (K3.prod (K3.prod ((K3.prod (ToE.u64.prod ToE.u64)).prod ToE.u64))))).prod (LB.slice (by decide))
 have h2:=ToE.agg te (l:=[.int .u64 (fl:Int),.int .i64 sum,.bool di,.int .u64 (dn:Int),.int .u64 (ds:Int),.str dh,.str dd,.bool ri,.int .u64 (rn:Int),.int .u64 (rs:Int),.str rh,.str rd,.bool xi,.int .u64 (xn:Int),.int .u64 (xs:Int),.str xh,.str xd,.int .u64 (t:Int),.int .u64 (q:Int),.int .u64 (life:Int),.sl (bl.map fun x=>.agg [.int .u64 (x.1:Int),.int .u64 (x.2.1:Int),.int .u64 (x.2.2.1:Int),.int .i64 x.2.2.2.1,.sl (x.2.2.2.2.map E.byte)])]) rfl h
 have e:ZU (bl.map XB.v)=bl.map fun x=>.agg [.int .u64 (x.1:Int),.int .u64 (x.2.1:Int),.int .u64 (x.2.2.1:Int),.int .i64 x.2.2.2.1,.sl (x.2.2.2.2.map E.byte)]:=List.map_map ..
 rw[<- e]at h2
 exact h2
theorem Ip {α:Type}{R:Rep α}{w:World}{S:Nat->Prop}:∀ {l:List α} {cs:List Value},Run R w S cs l->∀ x ∈ l,∃ c,R.ok w S c x
 | [],_,_,x,hx=>by simp at hx
 | y::l,cs,⟨c1,c2,_,h1,h2⟩,x,hx=>by
  rcases List.mem_cons.1 hx with rfl|hx
  ·exact⟨c1,h1⟩
  ·exact Ip h2 x hx
theorem LC {W:World}{S:Nat->Prop}{cs:List Value}{x:XB}(h:RB.ok W S cs x):x.v.fl<18446744073709551616:=by
 obtain⟨ty,num,fl,sum,data⟩:=x
 obtain⟨_,_,_,_,_,_,_,_,_,_,_,⟨_,h1⟩,_⟩:=h
 exact h1
theorem Rh {W:World}{cs:List Value}{x:XBn}(h:RBn.ok W (· < W.heap.size) cs x):x.v.p.fl<18446744073709551616/\∀ c ∈ x.v.bl,c.fl<18446744073709551616:=by
 obtain⟨⟨fl,r⟩,bl⟩:=x
 obtain⟨_,_,_,⟨_,_,_,⟨_,h1⟩,_⟩,⟨v,_,A,cap,_,_,_,c3,hr,_⟩⟩:=h
 refine⟨h1,fun c hc=>?_⟩
 obtain⟨y,hy,rfl⟩:=List.mem_map.1 hc
 obtain⟨c4,h4⟩:=Ip hr y hy
 exact LC h4
end Go.Proofs.YtmljabhmajehnaaGreatDoor
end
section
open Go.RowKit Go.Pl Go.Av
namespace Go.Proofs.YtmljabhmajehnaaGreatDoor
def RU {α β:Type}(R:Rep α)(f:β->α):Rep β where
 n:=R.n
 ok:=fun w S cs x=>R.ok w S cs (f x)
 len:=R.len
 one:=R.one
 frame:=R.frame
 mono:=R.mono
 lt:=R.lt
def Ri:Rep It where
 n:=4
 ok:=fun _ _ _ _=>False
 len:=fun h=>h.elim
 one:=fun h=>h.elim
 frame:=fun _ h=>h
 mono:=fun _ h=>h
 lt:=fun h=>h
def RI:Nat -> {R:Rep It // R.n=4}
 | 0=>⟨Ri,rfl⟩
 | m+1=>⟨RU (Rep.i64.prod (Rep.u64.prod ((Rep.slice Rep.byte (by decide)).prod (Rep.slice (RI m).1 (by rw[(RI m).2];decide))))) fun x=>(x.k,x.n,x.b,x.l),rfl⟩
variable {P:Program} {t:TypeId}
end Go.Proofs.YtmljabhmajehnaaGreatDoor
end
section
open Go.RowKit Go.Pl Go.Av
namespace Go.Proofs.YtmljabhmajehnaaGreatDoor
variable {P:Program} {t:TypeId}
theorem Qj {H:Type}{P:Program}{e:TypeId}:∀ {l:List (DataW H)} {d:DataW H},d ∈ l->∀ n ∈ d.weights P e,n ∈ DataW.weightsAll P e l
 | x::l,d,hd,n,hn=>by
  simp only[DataW.weightsAll,List.mem_append]
  rcases List.mem_cons.1 hd with rfl|hd
  ·exact .inl hn
  ·exact .inr (Qj hd n hn)
theorem KG {α:Type}{R:Rep α}(hR:0<R.n){e:TypeId}(ht:P.underlying t=some (.slice e)){H:Type}{enc:TypeId × Value->H}{W:World}{spare:Nat->Bool}{held:Bool}{fuel:Nat}{cs:List Value}{y:DataW H × List MemPlace}{l:List α}
  (h:DataW.trod enc P W 0 spare held fuel t cs=some y) (hok:(Rep.slice R hR).ok W (· < W.heap.size) cs l) (hs:∀ n ∈ y.1.weights P t,n<=reachBytes):l.length*P.bytesOf e<=reachBytes:=by
 obtain⟨v,rfl,A,cap,hv,_⟩:=hok
 rcases DataW.trod_slice ht h with⟨h1,_⟩ | ⟨a,len,cap',elems,rest,n,_,h1,rfl,_,_,_,hlen,_,_,_⟩
 ·rw[hv]at h1
  simp only[List.cons.injEq,Value.slice.injEq,and_true]at h1
  rw[h1.2.1];simp
 ·rw[hv]at h1
  simp only[List.cons.injEq,Value.slice.injEq,and_true]at h1
  have h2:=hs ((elems.length+rest.length)*P.bytesOf e) (by simp[DataW.weights,ht])
  rw[h1.2.1,<- hlen]
  exact Nat.le_trans (Nat.mul_le_mul_right _ (Nat.le_add_right _ _)) h2
theorem K8 {α:Type}{R:Rep α}{Q:α->Prop}{e:TypeId}(hR:0<R.n)(ht:P.underlying t=some (.slice e))(hc:P.cellsOf e=R.n){H:Type}{enc:TypeId × Value->H}{W:World}{spare:Nat->Bool}{held:Bool}{fuel:Nat}{cs:List Value}{y:DataW H × List MemPlace}(hsz:∀ n ∈ y.1.weights P t,n<=reachBytes)
  (he:∀(f:Nat) (cs:List Value) (y:DataW H × List MemPlace),f<fuel->DataW.trod enc P W 0 spare held f e cs=some y->(∀ n ∈ y.1.weights P e,n<=reachBytes)->∃ x,R.ok W (· < W.heap.size) cs x/\Q x) (h:DataW.trod enc P W 0 spare held fuel t cs=some y):∃ x,(Rep.slice R hR).ok W (· < W.heap.size) cs x/\(∀ a ∈ x,Q a)/\x.length*P.bytesOf e<=reachBytes:=by
 have h9:=h
 rcases DataW.trod_slice ht h with⟨rfl,_⟩ | ⟨a,len,cap,elems,rest,n,hn,rfl,rfl,_,hl,hm,hlen,hi,_,_⟩
 ·exact⟨[],⟨_,rfl,Sl.nil _ _ _⟩,by simp,by simp⟩
 ·rw[hc]at hi
  have hwe:∀ z ∈ elems,∀ n ∈ z.1.weights P e,n<=reachBytes:=fun z hz n hn=>hsz n (by
   simp only[DataW.weights,ht,List.mem_cons,List.mem_append]
   exact .inr (.inl (Qj (List.mem_map_of_mem hz) n hn)))
  have key:∀ k,k<=len->∃(l:List α) (cs:List Value),l.length=k/\Run R W (· < W.heap.size) cs l/\(∀ j,j<cs.length->W.cell? (a.add j)=cs[j]?)/\∀ a ∈ l,Q a:=by
   intro k
   induction k with
   | zero=>intro _;exact⟨[],[],rfl,rfl,fun j hj=>by simp at hj,by simp⟩
   | succ k ih=>
    intro hk
    obtain⟨l,cs,hll,hr,hcc,hq⟩:=ih (by omega)
    have hik:=hi k (by omega)
    rw[List.getElem?_eq_getElem (by omega)]at hik
    obtain⟨cs',hcs',ht'⟩:=Option.bind_eq_some_iff.1 hik
    obtain⟨x,hx,hqx⟩:=he n cs' _ (by omega) ht' (hwe _ (List.getElem_mem _))
    obtain⟨_,hcl,hat⟩:=World.cells?_some hcs'
    refine⟨l++[x],cs++cs',by simp[hll],hr.append (Run.single hx),fun j hj=>?_,fun b hb=>?_⟩
    ·have hlen:=hr.length
     rw[hll]at hlen
     rcases Nat.lt_or_ge j cs.length with h1|h1
     ·rw[List.getElem?_append_left h1];exact hcc j h1
     ·rw[List.getElem?_append_right h1]
      have h2:j-cs.length<R.n:=by rw[List.length_append,hcl]at hj;omega
      have:=hat (j-cs.length) h2
      rw[Go.Deep.add_add]at this
      rw[<- this]
      congr 2
      omega
    ·rcases List.mem_append.1 hb with hb|hb
     ·exact hq b hb
     ·rw[List.mem_singleton]at hb;subst hb;exact hqx
  obtain⟨l,cs,hll,hr,hcc,hq⟩:=key len (Nat.le_refl _)
  subst hll
  have hok:(Rep.slice R hR).ok W (· < W.heap.size) [.slice (some a) l.length cap] l:=by
   refine⟨_,rfl,some a,cap,rfl,hl,hm,cs,hr,fun hne=>?_⟩
   have hlen:=hr.length
   have hpos:0<cs.length:=by rw[hlen];exact Nat.mul_pos (List.length_pos_iff.2 hne) hR
   obtain⟨b,off,spot⟩:=a
   have h0:=(hcc 0 hpos).trans (List.getElem?_eq_getElem hpos)
   have hspot:spot=none:=by simpa[Addr.add]using World.cell?_spot h0
   subst hspot
   refine⟨b,off,rfl,World.block_lt_of_cell? W _ (by simpa[Addr.add]using h0),fun j hj=>?_⟩
   rw[<- hcc j hj]
   congr 1
   unfold Addr.add;split<;>simp_all
  exact⟨l,hok,hq,KG hR ht h9 hok hsz⟩
end Go.Proofs.YtmljabhmajehnaaGreatDoor
end
section
open Go.RowKit Go.Pl Go.Av
namespace Go.Proofs.YtmljabhmajehnaaGreatDoor
section
variable {P:Program} {t:TypeId}
theorem HX {fs:Array Field}{f0 f1 f2 f3 f4:Field}{eb:TypeId}(hs:P.underlying t=some (.struct fs))(hfs:fs = #[f0,f1,f2,f3,f4])(hc:P.cellsOf t=5)
  (h00:f0.offset=0) (h01:f1.offset=1) (h02:f2.offset=2) (h03:f3.offset=3) (h04:f4.offset=4) (hc0:P.cellsOf f0.type=1) (hc1:P.cellsOf f1.type=1) (hc2:P.cellsOf f2.type=1) (hc3:P.cellsOf f3.type=1) (hc4:P.cellsOf f4.type=1)
  (h0:YC P f0.type Rep.u64) (h1:YC P f1.type Rep.u64) (h2:YC P f2.type Rep.u64) (h3:YC P f3.type Rep.i64) (h4:YC P f4.type (Rep.slice Rep.byte (by decide))) (h4t:P.underlying f4.type=some (.slice eb)) (hb1:P.bytesOf eb=1)
  {H:Type} {enc:TypeId × Value->H} {W:World} {spare:Nat->Bool} {held:Bool} (fuel:Nat) (cs:List Value) (y:DataW H × List MemPlace) (h:DataW.trod enc P W 0 spare held fuel t cs=some y) (hsz:∀ n ∈ y.1.weights P t,n<=reachBytes) :
  ∃ x:XB,RB.ok W (· < W.heap.size) cs x/\x.2.2.2.2.length<=140737488351232:=by
 obtain⟨xs,n,hn,hy,hl,hxl,hg⟩:=DataW.trod_struct hs h
 subst hfs
 have e0:=hg 0 f0 rfl
 have e1:=hg 1 f1 rfl
 have e2:=hg 2 f2 rfl
 have e3:=hg 3 f3 rfl
 have e4:=hg 4 f4 rfl
 rw[hc]at hl
 match cs,hl with
 | [v0,v1,v2,v3,v4],_=>
 rw[h00,hc0]at e0
 rw[h01,hc1]at e1
 rw[h02,hc2]at e2
 rw[h03,hc3]at e3
 rw[h04,hc4]at e4
 have hn5:xs.length=5:=hxl
 have g4:=e4.trans (List.getElem?_eq_getElem (by omega))
 have hw:∀ m ∈ (xs[4]'(by omega)).1.weights P f4.type,m<=reachBytes:=fun m hm=>by
  refine hsz m ?_
  rw[hy]
  simp only[DataW.weights,hs]
  exact DataW.weights_mem_each (j:=4) (by rw[List.getElem?_map,Array.getElem?_toList];rfl) (by rw[List.getElem?_map,List.getElem?_eq_getElem (by omega)];rfl) m hm
 obtain⟨a,ha⟩:=h0 H enc W spare held n _ _ (e0.trans (List.getElem?_eq_getElem (by omega)))
 obtain⟨b,hb⟩:=h1 H enc W spare held n _ _ (e1.trans (List.getElem?_eq_getElem (by omega)))
 obtain⟨c,hc⟩:=h2 H enc W spare held n _ _ (e2.trans (List.getElem?_eq_getElem (by omega)))
 obtain⟨d,hd⟩:=h3 H enc W spare held n _ _ (e3.trans (List.getElem?_eq_getElem (by omega)))
 obtain⟨l,hll⟩:=h4 H enc W spare held n _ _ g4
 have hbl:=KG (by decide) h4t g4 hll hw
 rw[hb1]at hbl
 have hrb:reachBytes=140737488351232:=rfl
 rw[hrb]at hbl
 exact⟨(a,b,c,d,l),⟨[v0],[v1,v2,v3,v4],rfl,ha,[v1],[v2,v3,v4],rfl,hb,[v2],[v3,v4],rfl,hc,[v3],[v4],rfl,hd,hll⟩,by show l.length<=_;omega⟩
theorem HY {fs:Array Field}{f0 f1:Field}{e:TypeId}{p:Nat}(hs:P.underlying t=some (.struct fs))(hfs:fs = #[f0,f1])(hc:P.cellsOf t=p+1)
  (h00:f0.offset=0) (h01:f1.offset=p) (hc0:P.cellsOf f0.type=p) (hc1:P.cellsOf f1.type=1) (h0:YC P f0.type RPr) (h1:P.underlying f1.type=some (.slice e)) (hce:P.cellsOf e=RB.n)
  {H:Type} {enc:TypeId × Value->H} {W:World} {spare:Nat->Bool} {held:Bool} (he:∀(f:Nat) (cs:List Value) (y:DataW H × List MemPlace),DataW.trod enc P W 0 spare held f e cs=some y->(∀ n ∈ y.1.weights P e,n<=reachBytes)->∃ x:XB,RB.ok W (· < W.heap.size) cs x/\x.2.2.2.2.length<=140737488351232)
  (fuel:Nat) (cs:List Value) (y:DataW H × List MemPlace) (h:DataW.trod enc P W 0 spare held fuel t cs=some y) (hsz:∀ n ∈ y.1.weights P t,n<=reachBytes) :
  ∃ x:XBn,RBn.ok W (· < W.heap.size) cs x/\∀ c ∈ x.2,c.2.2.2.2.length<=140737488351232:=by
 obtain⟨xs,n,hn,hy,hl,hxl,hg⟩:=DataW.trod_struct hs h
 subst hfs
 have e0:=hg 0 f0 rfl
 have e1:=hg 1 f1 rfl
 rw[hc]at hl
 rw[h00,hc0]at e0
 rw[h01,hc1]at e1
 have hn2:xs.length=2:=hxl
 have g1:=e1.trans (List.getElem?_eq_getElem (by omega))
 have hw:∀ m ∈ (xs[1]'(by omega)).1.weights P f1.type,m<=reachBytes:=fun m hm=>by
  refine hsz m ?_
  rw[hy]
  simp only[DataW.weights,hs]
  exact DataW.weights_mem_each (j:=1) (by rw[List.getElem?_map,Array.getElem?_toList];rfl) (by rw[List.getElem?_map,List.getElem?_eq_getElem (by omega)];rfl) m hm
 obtain⟨a,ha⟩:=h0 H enc W spare held n _ _ (e0.trans (List.getElem?_eq_getElem (by omega)))
 obtain⟨l,hll,hq,_⟩:=K8 (R:=RB) (Q:=fun x:XB=>x.2.2.2.2.length<=140737488351232) (by decide) h1 hce hw (fun f cs y _ hy hz=>he f cs y hy hz) g1
 refine⟨(a,l),⟨(cs.drop 0).take p,(cs.drop p).take 1,?_,ha,hll⟩,hq⟩
 rw[List.drop_zero,List.take_of_length_le (l:=cs.drop p) (by rw[List.length_drop];omega),List.take_append_drop]
end
end Go.Proofs.YtmljabhmajehnaaGreatDoor
end
section
open Go.RowKit Go.Pl Go.Av
namespace Go.Proofs.YtmljabhmajehnaaGreatDoor
set_option maxHeartbeats 1000000
end Go.Proofs.YtmljabhmajehnaaGreatDoor
end

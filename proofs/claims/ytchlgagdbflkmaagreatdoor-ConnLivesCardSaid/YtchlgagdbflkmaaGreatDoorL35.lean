/- The document's connection: what comes, frame by frame. -/
import Derived.Test.YtchlgagdbflkmaaGreatDoorL24
import Derived.Test.YtchlgagdbflkmaaGreatDoorL34
set_option linter.unusedVariables false
set_option linter.unusedSimpArgs false
section
open Go.RowKit Go.Pl Go.Av
namespace Go.Proofs.YtchlgagdbflkmaaGreatDoor
set_option maxHeartbeats 4000000
def DfJ (fs0 fs:List (List UInt8))(w0:List RqV)(p o:List E)(n oc:Nat)(s:Int)(br:Nat)(k:Nat)(tm:List (Nat × D))(bx:List (List D))(fr:List Fr):Prop:=
 ∃(i:Nat) (w:List RqV),k+i=fs.length/\YJ w0 (fs.take i)=(w,0)/\tm=[(0,.ptr 0 0),(5,XA (fs0++fs)),(7,.int .i64 ((br:Nat):Int)),(8,.int .i64 ((fs0.length+i:Nat):Int))]/\bx=dvS p ((fs0.length:Nat):Int) (dvW (w.map rqE)) s o 0/\w.length<=8/\fr=dvF n w.length oc
theorem HL {α:Type}(a b:List α)(i:Nat):(a++b)[a.length+i]?=b[i]? := by
 rw[List.getElem?_append_right (by omega),Nat.add_sub_cancel_left]
theorem df0 [Known][KnownSc][KnownPow](b:List UInt8)(PL PB o:List E)(n nb oc:Nat)(s x:Int)(fs0 fs:List (List UInt8))(br:Nat)(w0:List RqV)(hw8:w0.length<=8)(hU:Uni 1 PL)(hn:n=PL.length)(hnl:n+b.length<=1000000)(hnf:fs0.length+fs.length<=1000000)(hsm:∀ f ∈ fs,f.length<=1000)
  (hap:(b=[]/\PB=PL/\nb=n)\/(b ≠ []/\PL++b.map E.byte=PB/\PL.length+(b.map E.byte).length=nb)) (hA:AP Tryz.prog 50 [.sl .ext PB] (.tup [XA (fs0++fs),.int .i64 x,.int .i64 (br:Int)]) [])
  (wq:D) (tq cq:Nat) (eq:Nat) (hr:((YJ w0 fs).2 ≠ 0/\eq=(YJ w0 fs).2/\tq=fs0.length/\wq=cvN)\/((YJ w0 fs).2=0/\br ≠ 0/\eq=br/\tq=fs0.length+fs.length/\wq=cvN)\/((YJ w0 fs).2=0/\br=0/\eq=0/\tq=fs0.length+fs.length/\wq=dvW ((YJ w0 fs).1.map rqE))) (hcq:cq=(YJ w0 fs).1.length) :
  AT Tryz.prog 10 [.ptr 0 0,byE b] (dvS PL ((fs0.length:Nat):Int) (dvW (w0.map rqE)) s o 0) (dvF n w0.length oc) (.int .i64 (eq:Int)) (dvS PB (tq:Int) wq s o (eq:Int)) (dvF nb cq oc):=by
 have hbl:(b.map E.byte).length=b.length:=List.length_map ..
 have hUb:=YD b
 have hfl:((fs0++fs).map E.bys).length=fs0.length+fs.length:=by rw[List.length_map,List.length_append]
 have hUf:=KL (fs0++fs)
 have g1:PL.length+(b.map E.byte).length<=maxLen:=by rw[hbl];unfold maxLen;omega
 have g2:(PL.length+(b.map E.byte).length)*1<=140737488355328:=by rw[hbl];omega
 refine Zp Tryz.func10 rfl Tryz.ntmps10 rfl rfl ?_
 rcases hap with⟨rfl,rfl,rfl⟩ | ⟨hb,hp1,hp2⟩
 all_goals
  try have hbn:b.map E.byte ≠ []:=fun h=>hb (List.map_eq_nil_iff.1 h)
  repeat'(first|(apply Zc (hA);kernel_rfl;(iterate 4 exact Z))|refine ZJ Zb Z Z Z Z Z Z hn Z Z hU hUb hbn g1 g2 Z Z ?_|rw[hp1]|rw[hp2]|(apply Zl Zb;exact Z)|(apply Zj Zb;exact Z)|(apply Zg;exact Z;(first|with_reducible assumption|decide +kernel|(solve|simp only[bn])))|refine ZN Zb Z Z Z Z Z Z ?_)
  refine Yr (DfJ fs0 fs w0 PB o nb oc s br) (fs.length+1) (Lands.mk' (m:=fs.length) (Nat.lt_succ_self _) ⟨0,w0,rfl,Jw _,rfl,rfl,hw8,rfl⟩ ?_ rfl rfl rfl rfl rfl rfl) ?_
  ·exact .cons rfl (.cons rfl (.cons rfl (.cons rfl .nil)))
  rintro k tm bx fr ⟨i,w,hk,ht,rfl,rfl,hwl,rfl⟩
  have hLl:(w.map rqE).length=w.length:=List.length_map ..
  have hUw:=Ib w
  rcases Nat.lt_or_ge i fs.length with hlt|hge
  ·have hd:decide (((fs0.length+i:Nat):Int)<(((fs0++fs).map E.bys).length:Int))=true:=decide_eq_true (by rw[hfl];omega)
   obtain⟨f,hx⟩:∃ f,fs[i]?=some f:=⟨_,List.getElem?_eq_getElem hlt⟩
   have hxe:((fs0++fs).map E.bys)[((fs0.length+i:Nat):Int).toNat]?=some (E.bys f):=by rw[Int.toNat_natCast,List.getElem?_map,HL,hx];rfl
   have hfs:=hsm f (List.mem_of_getElem? hx)
   have ei:IntKind.i64.wrap (((fs0.length+i:Nat):Int)+1)=((fs0.length+(i+1):Nat):Int):=by rw[IntWalk.i64_in _ (by omega)];omega
   have hlast:=Ic hx ht
   have hR:=IK f hfs
   cases ho:WI f with
   | true=>
    rw[Wu ho]at hR
    by_cases h8:8<=w.length
    ·have d8:decide (((w.map rqE).length:Int) ≥ 8)=true:=decide_eq_true (by rw[hLl];omega)
     rw[V5 _ ho h8]at hlast
     rw[hlast]at hr hcq
     dsimp only at hcq
     subst hcq
     have hk2:=dc 5 (by decide) PB (w.map rqE) o nb w.length oc ((fs0.length:Nat):Int) s
     rcases hr with⟨_,rfl,rfl,rfl⟩ | ⟨h,_⟩ | ⟨h,_⟩
     ·generalize (ZM f).1=q at *
      obtain⟨id,kd,⟨ei,en,es,eh,ed⟩,⟨di,dn,dq,dh,dd⟩,pol,num,tik,pay,life,tok,on⟩:=q
      repeat'(first|(apply Zc (hR);kernel_rfl;(iterate 4 exact Z))|(apply Zm [0] [0,1,2] (hk2);kernel_rfl;(iterate 10 exact Z))|(apply Zl Zb;exact Z)|(apply Zj Zb;exact Z)|(apply Zt Zb;exact Z)|(apply Zf;exact Z;(first|with_reducible assumption|decide +kernel|(solve|simp only[bn])))|(apply Zg;exact Z;(first|with_reducible assumption|decide +kernel|(solve|simp only[bn])))|refine Zz Zb Z Z Z Z ?_|(apply ZF Zb;(iterate 6 exact Z);(first|exact Qt|rotate_left);(first|with_reducible assumption|decide +kernel|exact Z);(first|exact Zk rfl|with_reducible assumption|decide +kernel|rotate_left)))
      all_goals(apply Yc [0] [0,1,2];(apply Zd Zb;exact Z);(iterate 7 exact Z))
      all_goals rfl
     ·cases h
     ·cases h
    ·have d8:decide (((w.map rqE).length:Int) ≥ 8)=false:=decide_eq_false (by rw[hLl];omega)
     have hst:=Ie hx ht ho h8
     clear hr hlast hcq
     generalize (ZM f).1=q at *
     have hw2:(w++[q]).map rqE=w.map rqE++[rqE q]:=by rw[List.map_append];rfl
     have hlen2:(w++[q]).length=(w.map rqE).length+1:=by rw[hLl,List.length_append,List.length_singleton]
     have hlen8:(w++[q]).length<=8:=by rw[List.length_append,List.length_singleton];omega
     have d2:(w.map rqE).length+1<=maxLen:=by rw[hLl];unfold maxLen;omega
     have d3:((w.map rqE).length+1)*240<=140737488355328:=by rw[hLl];omega
     obtain⟨id,kd,⟨ei1,en,es,eh,ed⟩,⟨di,dn,dq,dh,dd⟩,pol,num,tik,pay,life,tok,on⟩:=q
     repeat'(first|exact YC (t:=82) rfl rfl|(apply Zc (hR);kernel_rfl;(iterate 4 exact Z))|rw[ei]|(apply Zl Zb;exact Z)|(apply Zj Zb;exact Z)|(apply Zt Zb;exact Z)|(apply Zf;exact Z;(first|with_reducible assumption|decide +kernel|(solve|simp only[bn])))|(apply Zg;exact Z;(first|with_reducible assumption|decide +kernel|(solve|simp only[bn])))|refine Zz Zb Z Z Z Z ?_|refine Z8 Zb Z Z Z Z Z Z Z Z Z Z Z Z ?_|(apply Za 8 Ze;decide +kernel;kernel_rfl;kernel_rfl;kernel_rfl;exact Z;exact Z)|(apply Zv;(iterate 4 exact Z))|exact AE.nil _ _ _ _|(apply ZB;exact Z)|(apply Z1;exact Z)|(apply ZD;exact Z;exact Z;decide +kernel;exact Z)|(apply ZE;exact Z)|(apply Ye;exact Z)|exact AO.nil _ _ _|(apply Zu;(decide +kernel))|(apply ZP;(iterate 3 exact Z))|exact AOs.nil|exact ZR rfl rfl|exact YC rfl rfl|(apply ZJ Zb;(iterate 6 exact Z);(first|with_reducible assumption|decide +kernel|exact Z|rotate_left);exact Z;exact Z;(first|exact Zk rfl|with_reducible assumption|decide +kernel|rotate_left);(first|exact Zk rfl|with_reducible assumption|decide +kernel|rotate_left);(first|exact Qt|rotate_left);(first|exact Qt|rotate_left);(first|exact Qt|rotate_left);exact Z;exact Z)|(apply ZF Zb;(iterate 6 exact Z);(first|exact Qt|rotate_left);(first|with_reducible assumption|decide +kernel|exact Z);(first|exact Zk rfl|with_reducible assumption|decide +kernel|rotate_left)))
     all_goals first|exact hLl.symm|(show(w.map rqE).length+1<=maxLen;exact d2)|(show((w.map rqE).length+1)*200<=140737488355328;omega)|skip
     refine Lands.mk' (m:=k-1) (bx:=dvS PB ((fs0.length:Nat):Int) (dvW (w.map rqE++[rqE ⟨id,kd,⟨ei1,en,es,eh,ed⟩,⟨di,dn,dq,dh,dd⟩,pol,num,tik,pay,life,tok,on⟩])) s o 0) (fr:=dvF nb ((w.map rqE).length+1) oc) (by omega) ⟨i+1,w++[⟨id,kd,⟨ei1,en,es,eh,ed⟩,⟨di,dn,dq,dh,dd⟩,pol,num,tik,pay,life,tok,on⟩],by omega,hst,rfl,?_,hlen8,?_⟩ ?_ rfl rfl rfl rfl rfl rfl
     ·first|(rw[hw2];done)|(rw[hw2];rfl)
     ·first|(rw[hlen2];done)|(rw[hlen2];rfl)
     exact .cons rfl (.cons rfl (.cons rfl (.cons rfl .nil)))
   | false=>
    rw[ZV ho]at hR
    rw[UD _ ho]at hlast
    rw[hlast]at hr hcq
    dsimp only at hcq
    subst hcq
    have hk2:=dc 3 (by decide) PB (w.map rqE) o nb w.length oc ((fs0.length:Nat):Int) s
    rcases hr with⟨_,rfl,rfl,rfl⟩ | ⟨h,_⟩ | ⟨h,_⟩
    ·repeat'(first|(apply Zc (hR);kernel_rfl;(iterate 4 exact Z))|(apply Zm [0] [0,1,2] (hk2);kernel_rfl;(iterate 10 exact Z))|(apply Zl Zb;exact Z)|(apply Zj Zb;exact Z)|(apply Zt Zb;exact Z)|(apply Zf;exact Z;(first|with_reducible assumption|decide +kernel|(solve|simp only[bn])))|refine Zz Zb Z Z Z Z ?_|(apply ZF Zb;(iterate 6 exact Z);(first|exact Qt|rotate_left);(first|with_reducible assumption|decide +kernel|exact Z);(first|exact Zk rfl|with_reducible assumption|decide +kernel|rotate_left)))
     all_goals(apply Yc [0] [0,1,2];(apply Zd Zb;exact Z);(iterate 7 exact Z))
     all_goals rfl
    ·cases h
    ·cases h
  ·have hd:decide (((fs0.length+i:Nat):Int)<(((fs0++fs).map E.bys).length:Int))=false:=decide_eq_false (by rw[hfl];omega)
   rw[List.take_of_length_le hge]at ht
   rw[ht]at hr hcq
   dsimp only at hr hcq
   subst hcq
   have hd2:decide (((fs0.length+i:Nat):Int)<((fs0.length+fs.length:Nat):Int))=false:=decide_eq_false (by omega)
   have hfl2:((((fs0++fs).map E.bys).length:Nat):Int)=((fs0.length+fs.length:Nat):Int):=by rw[hfl]
   rcases hr with⟨h,_⟩ | ⟨_,hb0,rfl,rfl,rfl⟩ | ⟨_,rfl,rfl,rfl,rfl⟩
   ·exact(h rfl).elim
   ·have t0:((eq:Int) != 0)=true:=by simp;omega
    have hk2:=dc eq hb0 PB (w.map rqE) o nb w.length oc ((fs0.length+fs.length:Nat):Int) s
    repeat'(first|rw[hfl2]|(apply Zm [0] [0,1,2] (hk2);kernel_rfl;(iterate 10 exact Z))|(apply Zl Zb;exact Z)|(apply Zj Zb;exact Z)|(apply Zt Zb;exact Z)|(apply Zf;exact Z;(first|with_reducible assumption|decide +kernel|(solve|simp only[bn])))|(apply Zg;exact Z;(first|with_reducible assumption|decide +kernel|(solve|simp only[bn])))|refine Zz Zb Z Z Z Z ?_)
    all_goals(apply Yc [0] [0,1,2];(apply Zd Zb;exact Z);(iterate 7 exact Z))
    all_goals rfl
   ·have t0:(((0:Nat):Int) != 0)=false:=rfl
    repeat'(first|rw[hfl2]|(apply Zl Zb;exact Z)|(apply Zj Zb;exact Z)|(apply Zt Zb;exact Z)|(apply Zg;exact Z;(first|with_reducible assumption|decide +kernel|(solve|simp only[bn])))|refine Zz Zb Z Z Z Z ?_)
    all_goals(apply Yc [0] [0,1,2];(apply Zd Zb;exact Z);(iterate 7 exact Z))
    all_goals rfl
theorem dfO [Known][KnownSc][KnownPow](p b left:List UInt8)(tk:Nat)(w0:List RqV)(hw8:w0.length<=8)(hpl:p.length+b.length<=1000000)(h2:(ZS p).2.2=0)(hL:(ZS p).2.1=left)(hT:(ZS p).1.length=tk)(o:List E)(oc:Nat)(s:Int)(wq:D)(r:List UInt8 × List RqV × Nat × Nat)(hr:r=Ul left w0 b)(hq:(r.2.2.1 ≠ 0/\wq=cvN)\/(r.2.2.1=0/\wq=dvW (r.2.1.map rqE))) :
  ∃ tq:Nat,(r.2.2.1=0->tq=(ZS (p++b)).1.length)/\AT Tryz.prog 10 [.ptr 0 0,byE b] (dvS (p.map E.byte) (tk:Int) (dvW (w0.map rqE)) s o 0) (dvF p.length w0.length oc) (.int .i64 ((r.2.2.1:Nat):Int)) (dvS ((p++b).map E.byte) (tq:Int) wq s o ((r.2.2.1:Nat):Int)) (dvF (p++b).length r.2.1.length oc):=by
 obtain⟨fs0,hf0,hA⟩:=K0 (b:=b) h2 hL hT
 subst hf0
 obtain⟨fs,l',br,hTT⟩:∃ fs l' br,ZS (left++b)=(fs,l',br):=⟨_,_,_,rfl⟩
 have hcnt:=JH (p++b)
 have hsm:=JL (left++b)
 have hAl:=Tz (p++b) (by rw[List.length_append];omega)
 unfold Ul at hr
 rw[hTT]at hA hsm hr
 rw[hA]at hcnt hAl ⊢
 dsimp only at hcnt hAl hsm hr ⊢
 rw[List.length_append,List.length_append]at hcnt
 refine⟨if(YJ w0 fs).2=0 then fs0.length+fs.length else fs0.length,fun h=>?_,?_⟩
 ·rw[hr]at h
  dsimp only at h
  by_cases g:(YJ w0 fs).2=0
  ·rw[if_pos g,List.length_append]
  ·rw[if_neg g]at h
   exact(g h).elim
 ·refine df0 b (p.map E.byte) ((p++b).map E.byte) o p.length (p++b).length oc s _ fs0 fs br w0 hw8 (YD p) (List.length_map ..).symm (by omega) (by omega) hsm ?_ hAl wq _ r.2.1.length r.2.2.1 ?_ (by rw[hr])
  ·cases b with
   | nil=>exact .inl ⟨rfl,by rw[List.append_nil],by rw[List.append_nil]⟩
   | cons c b=>exact .inr ⟨List.cons_ne_nil _ _,by rw[List.map_append],by rw[List.length_map,List.length_map,List.length_append]⟩
  ·by_cases g:(YJ w0 fs).2=0
   ·have e1:r.2.2.1=br:=by rw[hr];exact if_pos g
    rcases hq with⟨h,rfl⟩ | ⟨h,rfl⟩
    ·exact .inr (.inl ⟨g,by rw[<- e1];exact h,e1,if_pos g,rfl⟩)
    ·exact .inr (.inr ⟨g,by rw[<- e1];exact h,h,if_pos g,by rw[hr]⟩)
   ·have e1:r.2.2.1=(YJ w0 fs).2:=by rw[hr];exact if_neg g
    rcases hq with⟨h,rfl⟩ | ⟨h,rfl⟩
    ·exact .inl ⟨g,e1,if_neg g,rfl⟩
    ·exact(g (by rw[<- e1];exact h)).elim
end Go.Proofs.YtchlgagdbflkmaaGreatDoor
end

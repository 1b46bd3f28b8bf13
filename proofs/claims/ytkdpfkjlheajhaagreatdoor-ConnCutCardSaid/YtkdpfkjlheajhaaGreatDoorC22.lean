/- A connection: whatever bytes come, fed. -/
import Derived.Test.YtkdpfkjlheajhaaGreatDoorC21
import Derived.Test.YtkdpfkjlheajhaaGreatDoorC07
set_option linter.unusedVariables false
set_option linter.unusedSimpArgs false
section
open Go.RowKit Go.Pl Go.Av
namespace Go.Proofs.YtkdpfkjlheajhaaGreatDoor
set_option maxHeartbeats 4000000
theorem kfX [Known](b:List UInt8)(e:Nat)(he:e ≠ 0)(l:List UInt8)(br:Int):AT Tryz.prog 10 [.ptr 1 0,byE b] (coV (.sl .nil []) (e:Int) l br) [] (.int .i64 (e:Int)) (coV (.sl .nil []) (e:Int) l br) []:=by
 have hC:=UU (e:Int) l br
 have d1:((e:Int) != 0)=true:=by simp;omega
 refine Zm Tryz.func10 rfl Tryz.ntmps10 rfl rfl ?_
 repeat'(first|(apply Zb [0,1] [] (hC);kernel_rfl;(iterate 10 exact Z))|(apply Zj Za;exact Z)|(apply Zg Za;exact Z)|(apply Zq Za;exact Z)|(apply Zf;exact Z;(first|with_reducible assumption|decide +kernel|(solve|simp only[bn]))))
 all_goals(apply ZX [0,1] [];(apply Zd Za;exact Z);(iterate 7 exact Z))
 all_goals rfl
def FdN (r:List UInt8 × List RqV × Nat × Nat)(w:D)(fr:List Fr):Prop:=
 (r.2.2.1 ≠ 0/\w=.sl .nil []/\fr=[])\/(r.2.2.1=0/\r.2.1=[]/\w=.sl .nil []/\fr=[])\/(r.2.2.1=0/\r.2.1 ≠ []/\w=.sl (.own 0) (r.2.1.map rqE)/\fr=cqF r.2.1.length)
def FdO (r:List UInt8 × List RqV × Nat × Nat)(w:D)(fr:List Fr):Prop:=
 (r.2.2.1 ≠ 0/\w=.sl .nil []/\fr=cqF r.2.1.length)\/(r.2.2.1=0/\w=.sl (.own 0) (r.2.1.map rqE)/\fr=cqF r.2.1.length)
theorem QO {α:Type}{l:List α}{i:Nat}{x:α}(h:l[i]?=some x):l=l.take i++x::l.drop (i+1):=by
 have hi:i<l.length:=by
  rcases Nat.lt_or_ge i l.length with h1|h1
  ·exact h1
  ·rw[List.getElem?_eq_none h1]at h;cases h
 rw[List.getElem?_eq_getElem hi]at h
 injection h with h
 rw[<- h,List.getElem_cons_drop,List.take_append_drop]
def FdJ (o:Bool)(fs:List (List UInt8))(w0:List RqV)(l':List UInt8)(br:Nat)(k:Nat)(tm:List (Nat × D))(bx:List (List D))(fr:List Fr):Prop:=
 ∃(i:Nat) (w:List RqV) (wd:D),k+i=fs.length/\Yj w0 (fs.take i)=(w,0)/\tm=[(0,.ptr 1 0),(7,.int .i64 ((br:Nat):Int)),(26,JP fs),(27,.int .i64 ((fs.length:Nat):Int)),(28,.int .i64 (i:Int))]/\bx=coV wd 0 l' (br:Int) /\
  ((o=false/\w=[]/\wd=.sl .nil []/\fr=[])\/(w ≠ []/\w.length<=8/\wd=.sl (.own 0) (w.map rqE)/\fr=cqF w.length))
theorem Xw {fs:List (List UInt8)}{w0 w:List RqV}{i:Nat}{f:List UInt8}(hx:fs[i]?=some f)(ht:Yj w0 (fs.take i)=(w,0)):Yj w0 fs=Yj w (f::fs.drop (i+1)):=by
 have h:=(Vd (fs.take i) (f::fs.drop (i+1)) w0).1 (by rw[ht])
 rw[<- QO hx,ht]at h
 exact h
theorem QP {fs:List (List UInt8)}{w0 w:List RqV}{i:Nat}{f:List UInt8}(hx:fs[i]?=some f)(ht:Yj w0 (fs.take i)=(w,0))(ho:YN f=true)(h8:¬ 8<=w.length):Yj w0 (fs.take (i+1))=(w++[(ZI f).1],0):=by
 have h:=(Vd (fs.take i) [f] w0).1 (by rw[ht])
 rw[List.take_add_one,hx]
 simp only[Option.toList]
 rw[h,ht,Wz [] ho h8,V6]
theorem Gl [Known][KnownSc][KnownPow](f:List UInt8)(hf:f.length<=1000)(h:YN f=true)(w:List RqV)(h8:¬ 8<=w.length)(l:List UInt8)(br:Int)(w2:List RqV)(hw2:w2=w++[(ZI f).1]):AT Tryz.prog 45 [.ptr 1 0,byE f] (coV (.sl (.own 0) (w.map rqE)) 0 l br) (cqF w.length) (.int .i64 0) (coV (.sl (.own 0) (w2.map rqE)) 0 l br) (cqF w2.length):=by
 have k:=tkO f hf h (w.map rqE) w.length (List.length_map _).symm (OT w) (by rw[List.length_map];omega) l br
 rw[hw2,List.map_append,List.length_append]
 rw[List.length_map]at k
 exact k
theorem kfN [Known][KnownSc][KnownPow](l b:List UInt8)(hl:l.length+b.length<=1099511627776)(wq:D)(fq:List Fr)(r:List UInt8 × List RqV × Nat × Nat)(hr:r=W3 l [] b)(hq:FdN r wq fq):AT Tryz.prog 10 [.ptr 1 0,byE b] (coV (.sl .nil []) 0 l 0) [] (.int .i64 ((r.2.2.1:Nat):Int)) (coV wq ((r.2.2.1:Nat):Int) r.1 ((r.2.2.2:Nat):Int)) fq:=by
 have hC:=UU 0 l 0
 have hF:=VU l b hl
 obtain⟨fs,l',br,hT⟩:∃ fs l' br,ZG (l++b)=(fs,l',br):=⟨_,_,_,rfl⟩
 have hsm:=Ul (l++b)
 have hfc:=Uh (l++b)
 rw[List.length_append]at hfc
 unfold W3 at hr
 rw[hT]at hF hr hsm hfc
 dsimp only at hF hr hsm hfc
 have hfl:(fs.map E.bys).length=fs.length:=List.length_map ..
 have hUf:=Xp fs
 refine Zm Tryz.func10 rfl Tryz.ntmps10 rfl rfl ?_
 repeat'(first|(apply Zh [0] (hF);kernel_rfl;(iterate 7 exact Z))|(apply Zb [0,1] [] (hC);kernel_rfl;(iterate 10 exact Z))|(apply Zj Za;exact Z)|(apply Zg Za;exact Z)|(apply Ze;exact Z;(first|with_reducible assumption|decide +kernel|(solve|simp only[bn])))|refine Zp Za Z Z Z Z ?_)
 refine Z4 (FdJ false fs [] l' br) (fs.length+1) (Lands.mk' (m:=fs.length) (Nat.lt_succ_self _) ⟨0,[],(.sl .nil []),rfl,V6 _,rfl,rfl,.inl ⟨rfl,rfl,rfl,rfl⟩⟩ ?_ rfl rfl rfl rfl rfl rfl) ?_
 ·exact .cons rfl (.cons rfl (.cons rfl (.cons (congrArg (fun n:Nat=>D.int .i64 (n:Int)) hfl) (.cons rfl .nil))))
 clear hF hC
 rintro k tm bx fr ⟨i,w,wd,hk,ht,rfl,rfl,hw⟩
 rcases Nat.lt_or_ge i fs.length with hlt|hge
 ·have hd:decide ((i:Int)<((fs.length:Nat):Int))=true:=decide_eq_true (by omega)
  obtain⟨f,hx⟩:∃ f,fs[i]?=some f:=⟨_,List.getElem?_eq_getElem hlt⟩
  have hxe:(fs.map E.bys)[((i:Nat):Int).toNat]?=some (E.bys f):=by rw[Int.toNat_natCast,List.getElem?_map,hx];rfl
  have hfs:=hsm f (List.mem_of_getElem? hx)
  have ei:IntKind.i64.wrap ((i:Int)+1)=((i+1:Nat):Int):=by rw[IntWalk.i64_in _ (by omega)];omega
  have hlast:=Xw hx ht
  rcases hw with⟨hof,rfl,rfl,rfl⟩ | ⟨hwn,hwl,rfl,rfl⟩
  ·have hq8:¬ 8<=([]:List RqV).length:=by simp
   cases ho:YN f with
   | true=>
    have hk1:=tkN f hfs ho l' (br:Int)
    have hst:=QP hx ht ho hq8
    clear hq hr hlast
    repeat'(first|(apply Zb [0,1] [] (hk1);kernel_rfl;(iterate 10 exact Z))|rw[ei]|(apply Zj Za;exact Z)|(apply Zg Za;exact Z)|(apply Zf;exact Z;(first|with_reducible assumption|decide +kernel|(solve|simp only[bn])))|(apply Ze;exact Z;(first|with_reducible assumption|decide +kernel|(solve|simp only[bn])))|(apply Zv Za;(iterate 6 exact Z);(first|exact Qt|rotate_left);(first|with_reducible assumption|decide +kernel|exact Z);(first|exact Zn rfl|with_reducible assumption|decide +kernel|rotate_left)))
    refine Lands.mk' (m:=k-1) (by omega) ⟨i+1,[(ZI f).1],_,by omega,hst,rfl,rfl,.inr ⟨by simp,by simp,rfl,rfl⟩⟩ ?_ rfl rfl rfl rfl rfl rfl
    exact .cons rfl (.cons rfl (.cons rfl (.cons rfl (.cons rfl .nil))))
   | false=>
    rw[YW _ ho]at hlast
    rw[hlast]at hr
    dsimp only at hr
    rw[if_neg (by decide)]at hr
    subst hr
    have hk1:=Hn f hfs ho l' (br:Int)
    have hk2:=kcN 3 (by decide) l' (br:Int)
    rcases hq with⟨_,rfl,rfl⟩ | ⟨h,_⟩ | ⟨h,_⟩
    ·repeat'(first|(apply Zb [0,1] [] (hk1);kernel_rfl;(iterate 10 exact Z))|(apply Zb [0,1] [] (hk2);kernel_rfl;(iterate 10 exact Z))|(apply Zj Za;exact Z)|(apply Zg Za;exact Z)|(apply Zf;exact Z;(first|with_reducible assumption|decide +kernel|(solve|simp only[bn])))|(apply Zv Za;(iterate 6 exact Z);(first|exact Qt|rotate_left);(first|with_reducible assumption|decide +kernel|exact Z);(first|exact Zn rfl|with_reducible assumption|decide +kernel|rotate_left)))
     all_goals(apply ZX [0,1] [];(apply Zd Za;exact Z);(iterate 7 exact Z))
     all_goals rfl
    ·cases h
    ·cases h
  ·cases ho:YN f with
   | true=>
    by_cases h8:8<=w.length
    ·rw[YX _ ho h8]at hlast
     rw[hlast]at hr
     dsimp only at hr
     rw[if_neg (by decide)]at hr
     subst hr
     have hk1:=Gh f hfs ho (w.map rqE) w.length (by rw[List.length_map];exact h8) l' (br:Int)
     have hk2:=kcO 5 (by decide) (w.map rqE) w.length l' (br:Int)
     rcases hq with⟨_,rfl,rfl⟩ | ⟨h,_⟩ | ⟨h,_⟩
     ·repeat'(first|(apply Zb [0,1] [0] (hk1);kernel_rfl;(iterate 10 exact Z))|(apply Zb [0,1] [0] (hk2);kernel_rfl;(iterate 10 exact Z))|(apply Zj Za;exact Z)|(apply Zg Za;exact Z)|(apply Zf;exact Z;(first|with_reducible assumption|decide +kernel|(solve|simp only[bn])))|(apply Zv Za;(iterate 6 exact Z);(first|exact Qt|rotate_left);(first|with_reducible assumption|decide +kernel|exact Z);(first|exact Zn rfl|with_reducible assumption|decide +kernel|rotate_left)))
      all_goals(apply ZX [0,1] [];(apply Zd Za;exact Z);(iterate 7 exact Z))
      all_goals rfl
     ·cases h
     ·cases h
    ·obtain⟨w2,hw2⟩:∃ w2,w2=w++[(ZI f).1]:=⟨_,rfl⟩
     have hk1:=Gl f hfs ho w h8 l' (br:Int) w2 hw2
     have hst:=QP hx ht ho h8
     rw[<- hw2]at hst
     have hn2:w2 ≠ []:=by rw[hw2];simp
     have hl2:w2.length<=8:=by rw[hw2,List.length_append];simp;omega
     clear hq hr hlast hw2
     repeat'(first|(apply Zb [0,1] [0] (hk1);kernel_rfl;(iterate 10 exact Z))|rw[ei]|(apply Zj Za;exact Z)|(apply Zg Za;exact Z)|(apply Zf;exact Z;(first|with_reducible assumption|decide +kernel|(solve|simp only[bn])))|(apply Ze;exact Z;(first|with_reducible assumption|decide +kernel|(solve|simp only[bn])))|(apply Zv Za;(iterate 6 exact Z);(first|exact Qt|rotate_left);(first|with_reducible assumption|decide +kernel|exact Z);(first|exact Zn rfl|with_reducible assumption|decide +kernel|rotate_left)))
     refine Lands.mk' (m:=k-1) (by omega) ⟨i+1,w2,_,by omega,hst,rfl,rfl,.inr ⟨hn2,hl2,rfl,rfl⟩⟩ ?_ rfl rfl rfl rfl rfl rfl
     exact .cons rfl (.cons rfl (.cons rfl (.cons rfl (.cons rfl .nil))))
   | false=>
    rw[YW _ ho]at hlast
    rw[hlast]at hr
    dsimp only at hr
    rw[if_neg (by decide)]at hr
    subst hr
    have hk1:=Gg f hfs ho (w.map rqE) w.length l' (br:Int)
    have hk2:=kcO 3 (by decide) (w.map rqE) w.length l' (br:Int)
    rcases hq with⟨_,rfl,rfl⟩ | ⟨h,_⟩ | ⟨h,_⟩
    ·repeat'(first|(apply Zb [0,1] [0] (hk1);kernel_rfl;(iterate 10 exact Z))|(apply Zb [0,1] [0] (hk2);kernel_rfl;(iterate 10 exact Z))|(apply Zj Za;exact Z)|(apply Zg Za;exact Z)|(apply Zf;exact Z;(first|with_reducible assumption|decide +kernel|(solve|simp only[bn])))|(apply Zv Za;(iterate 6 exact Z);(first|exact Qt|rotate_left);(first|with_reducible assumption|decide +kernel|exact Z);(first|exact Zn rfl|with_reducible assumption|decide +kernel|rotate_left)))
     all_goals(apply ZX [0,1] [];(apply Zd Za;exact Z);(iterate 7 exact Z))
     all_goals rfl
    ·cases h
    ·cases h
 ·have hd:decide ((i:Int)<((fs.length:Nat):Int))=false:=decide_eq_false (by omega)
  rw[List.take_of_length_le hge]at ht
  rw[ht]at hr
  dsimp only at hr
  rw[if_pos rfl]at hr
  subst hr
  by_cases hbr:br=0
  ·subst hbr
   have t0:(((0:Nat):Int) != 0)=false:=rfl
   rcases hw with⟨hof,rfl,rfl,rfl⟩ | ⟨hwn,hwl,rfl,rfl⟩
   ·rcases hq with⟨h,_⟩ | ⟨_,_,rfl,rfl⟩ | ⟨_,h,_⟩
    ·exact(h rfl).elim
    ·repeat'(first|(apply Zg Za;exact Z)|(apply Ze;exact Z;(first|with_reducible assumption|decide +kernel|(solve|simp only[bn]))))
     all_goals(apply ZX [0,1] [];(apply Zd Za;exact Z);(iterate 7 exact Z))
     all_goals rfl
    ·exact(h rfl).elim
   ·rcases hq with⟨h,_⟩ | ⟨_,h,_⟩ | ⟨_,_,rfl,rfl⟩
    ·exact(h rfl).elim
    ·exact(hwn h).elim
    ·repeat'(first|(apply Zg Za;exact Z)|(apply Ze;exact Z;(first|with_reducible assumption|decide +kernel|(solve|simp only[bn]))))
     all_goals(apply ZX [0,1] [0];(apply Zd Za;exact Z);(iterate 7 exact Z))
     all_goals rfl
  ·have t0:((br:Int) != 0)=true:=by simp;omega
   rcases hq with⟨_,rfl,rfl⟩ | ⟨h,_⟩ | ⟨h,_⟩
   ·rcases hw with⟨hof,rfl,rfl,rfl⟩ | ⟨hwn,hwl,rfl,rfl⟩
    ·have hk2:=kcN br hbr l' (br:Int)
     repeat'(first|(apply Zb [0,1] [] (hk2);kernel_rfl;(iterate 10 exact Z))|(apply Zj Za;exact Z)|(apply Zg Za;exact Z)|(apply Zf;exact Z;(first|with_reducible assumption|decide +kernel|(solve|simp only[bn])))|(apply Ze;exact Z;(first|with_reducible assumption|decide +kernel|(solve|simp only[bn]))))
     all_goals(apply ZX [0,1] [];(apply Zd Za;exact Z);(iterate 7 exact Z))
     all_goals rfl
    ·have hk2:=kcO br hbr (w.map rqE) w.length l' (br:Int)
     repeat'(first|(apply Zb [0,1] [0] (hk2);kernel_rfl;(iterate 10 exact Z))|(apply Zj Za;exact Z)|(apply Zg Za;exact Z)|(apply Zf;exact Z;(first|with_reducible assumption|decide +kernel|(solve|simp only[bn])))|(apply Ze;exact Z;(first|with_reducible assumption|decide +kernel|(solve|simp only[bn]))))
     all_goals(apply ZX [0,1] [];(apply Zd Za;exact Z);(iterate 7 exact Z))
     all_goals rfl
   ·exact(hbr h).elim
   ·exact(hbr h).elim
theorem kfO [Known][KnownSc][KnownPow](l b:List UInt8)(w0:List RqV)(hw0:w0 ≠ [])(hw8:w0.length<=8)(hl:l.length+b.length<=1099511627776)(wq:D)(fq:List Fr)(r:List UInt8 × List RqV × Nat × Nat)(hr:r=W3 l w0 b)(hq:FdO r wq fq):AT Tryz.prog 10 [.ptr 1 0,byE b] (coV (.sl (.own 0) (w0.map rqE)) 0 l 0) (cqF w0.length) (.int .i64 ((r.2.2.1:Nat):Int)) (coV wq ((r.2.2.1:Nat):Int) r.1 ((r.2.2.2:Nat):Int)) fq:=by
 have hC:=OH (w0.map rqE) w0.length 0 l 0
 have hF:=VU l b hl
 obtain⟨fs,l',br,hT⟩:∃ fs l' br,ZG (l++b)=(fs,l',br):=⟨_,_,_,rfl⟩
 have hsm:=Ul (l++b)
 have hfc:=Uh (l++b)
 rw[List.length_append]at hfc
 unfold W3 at hr
 rw[hT]at hF hr hsm hfc
 dsimp only at hF hr hsm hfc
 have hfl:(fs.map E.bys).length=fs.length:=List.length_map ..
 have hUf:=Xp fs
 refine Zm Tryz.func10 rfl Tryz.ntmps10 rfl rfl ?_
 repeat'(first|(apply Zh [0] (hF);kernel_rfl;(iterate 7 exact Z))|(apply Zb [0,1] [0] (hC);kernel_rfl;(iterate 10 exact Z))|(apply Zj Za;exact Z)|(apply Zg Za;exact Z)|(apply Ze;exact Z;(first|with_reducible assumption|decide +kernel|(solve|simp only[bn])))|refine Zp Za Z Z Z Z ?_)
 refine Z4 (FdJ true fs w0 l' br) (fs.length+1) (Lands.mk' (m:=fs.length) (Nat.lt_succ_self _) ⟨0,w0,(.sl (.own 0) (w0.map rqE)),rfl,V6 _,rfl,rfl,.inr ⟨hw0,hw8,rfl,rfl⟩⟩ ?_ rfl rfl rfl rfl rfl rfl) ?_
 ·exact .cons rfl (.cons rfl (.cons rfl (.cons (congrArg (fun n:Nat=>D.int .i64 (n:Int)) hfl) (.cons rfl .nil))))
 clear hF hC
 rintro k tm bx fr ⟨i,w,wd,hk,ht,rfl,rfl,hw⟩
 rcases Nat.lt_or_ge i fs.length with hlt|hge
 ·have hd:decide ((i:Int)<((fs.length:Nat):Int))=true:=decide_eq_true (by omega)
  obtain⟨f,hx⟩:∃ f,fs[i]?=some f:=⟨_,List.getElem?_eq_getElem hlt⟩
  have hxe:(fs.map E.bys)[((i:Nat):Int).toNat]?=some (E.bys f):=by rw[Int.toNat_natCast,List.getElem?_map,hx];rfl
  have hfs:=hsm f (List.mem_of_getElem? hx)
  have ei:IntKind.i64.wrap ((i:Int)+1)=((i+1:Nat):Int):=by rw[IntWalk.i64_in _ (by omega)];omega
  have hlast:=Xw hx ht
  rcases hw with⟨hof,rfl,rfl,rfl⟩ | ⟨hwn,hwl,rfl,rfl⟩
  ·cases hof
  ·cases ho:YN f with
   | true=>
    by_cases h8:8<=w.length
    ·rw[YX _ ho h8]at hlast
     rw[hlast]at hr
     dsimp only at hr
     rw[if_neg (by decide)]at hr
     subst hr
     have hk1:=Gh f hfs ho (w.map rqE) w.length (by rw[List.length_map];exact h8) l' (br:Int)
     have hk2:=kcO 5 (by decide) (w.map rqE) w.length l' (br:Int)
     rcases hq with⟨_,rfl,rfl⟩ | ⟨h,_⟩
     ·repeat'(first|(apply Zb [0,1] [0] (hk1);kernel_rfl;(iterate 10 exact Z))|(apply Zb [0,1] [0] (hk2);kernel_rfl;(iterate 10 exact Z))|(apply Zj Za;exact Z)|(apply Zg Za;exact Z)|(apply Zf;exact Z;(first|with_reducible assumption|decide +kernel|(solve|simp only[bn])))|(apply Zv Za;(iterate 6 exact Z);(first|exact Qt|rotate_left);(first|with_reducible assumption|decide +kernel|exact Z);(first|exact Zn rfl|with_reducible assumption|decide +kernel|rotate_left)))
      all_goals(apply ZX [0,1] [0];(apply Zd Za;exact Z);(iterate 7 exact Z))
      all_goals rfl
     ·cases h
    ·obtain⟨w2,hw2⟩:∃ w2,w2=w++[(ZI f).1]:=⟨_,rfl⟩
     have hk1:=Gl f hfs ho w h8 l' (br:Int) w2 hw2
     have hst:=QP hx ht ho h8
     rw[<- hw2]at hst
     have hn2:w2 ≠ []:=by rw[hw2];simp
     have hl2:w2.length<=8:=by rw[hw2,List.length_append];simp;omega
     clear hq hr hlast hw2
     repeat'(first|(apply Zb [0,1] [0] (hk1);kernel_rfl;(iterate 10 exact Z))|rw[ei]|(apply Zj Za;exact Z)|(apply Zg Za;exact Z)|(apply Zf;exact Z;(first|with_reducible assumption|decide +kernel|(solve|simp only[bn])))|(apply Ze;exact Z;(first|with_reducible assumption|decide +kernel|(solve|simp only[bn])))|(apply Zv Za;(iterate 6 exact Z);(first|exact Qt|rotate_left);(first|with_reducible assumption|decide +kernel|exact Z);(first|exact Zn rfl|with_reducible assumption|decide +kernel|rotate_left)))
     refine Lands.mk' (m:=k-1) (by omega) ⟨i+1,w2,_,by omega,hst,rfl,rfl,.inr ⟨hn2,hl2,rfl,rfl⟩⟩ ?_ rfl rfl rfl rfl rfl rfl
     exact .cons rfl (.cons rfl (.cons rfl (.cons rfl (.cons rfl .nil))))
   | false=>
    rw[YW _ ho]at hlast
    rw[hlast]at hr
    dsimp only at hr
    rw[if_neg (by decide)]at hr
    subst hr
    have hk1:=Gg f hfs ho (w.map rqE) w.length l' (br:Int)
    have hk2:=kcO 3 (by decide) (w.map rqE) w.length l' (br:Int)
    rcases hq with⟨_,rfl,rfl⟩ | ⟨h,_⟩
    ·repeat'(first|(apply Zb [0,1] [0] (hk1);kernel_rfl;(iterate 10 exact Z))|(apply Zb [0,1] [0] (hk2);kernel_rfl;(iterate 10 exact Z))|(apply Zj Za;exact Z)|(apply Zg Za;exact Z)|(apply Zf;exact Z;(first|with_reducible assumption|decide +kernel|(solve|simp only[bn])))|(apply Zv Za;(iterate 6 exact Z);(first|exact Qt|rotate_left);(first|with_reducible assumption|decide +kernel|exact Z);(first|exact Zn rfl|with_reducible assumption|decide +kernel|rotate_left)))
     all_goals(apply ZX [0,1] [0];(apply Zd Za;exact Z);(iterate 7 exact Z))
     all_goals rfl
    ·cases h
 ·have hd:decide ((i:Int)<((fs.length:Nat):Int))=false:=decide_eq_false (by omega)
  rw[List.take_of_length_le hge]at ht
  rw[ht]at hr
  dsimp only at hr
  rw[if_pos rfl]at hr
  subst hr
  by_cases hbr:br=0
  ·subst hbr
   have t0:(((0:Nat):Int) != 0)=false:=rfl
   rcases hw with⟨hof,rfl,rfl,rfl⟩ | ⟨hwn,hwl,rfl,rfl⟩
   ·cases hof
   ·rcases hq with⟨h,_⟩ | ⟨_,rfl,rfl⟩
    ·exact(h rfl).elim
    ·repeat'(first|(apply Zg Za;exact Z)|(apply Ze;exact Z;(first|with_reducible assumption|decide +kernel|(solve|simp only[bn]))))
     all_goals(apply ZX [0,1] [0];(apply Zd Za;exact Z);(iterate 7 exact Z))
     all_goals rfl
  ·have t0:((br:Int) != 0)=true:=by simp;omega
   rcases hw with⟨hof,rfl,rfl,rfl⟩ | ⟨hwn,hwl,rfl,rfl⟩
   ·cases hof
   ·rcases hq with⟨_,rfl,rfl⟩ | ⟨h,_⟩
    ·have hk2:=kcO br hbr (w.map rqE) w.length l' (br:Int)
     repeat'(first|(apply Zb [0,1] [0] (hk2);kernel_rfl;(iterate 10 exact Z))|(apply Zj Za;exact Z)|(apply Zg Za;exact Z)|(apply Zf;exact Z;(first|with_reducible assumption|decide +kernel|(solve|simp only[bn])))|(apply Ze;exact Z;(first|with_reducible assumption|decide +kernel|(solve|simp only[bn]))))
     all_goals(apply ZX [0,1] [0];(apply Zd Za;exact Z);(iterate 7 exact Z))
     all_goals rfl
    ·exact(hbr h).elim
end Go.Proofs.YtkdpfkjlheajhaaGreatDoor
end
section
open Go.RowKit Go.Pl
namespace Go.Av
def Xx:Code->Bool
 | .loop _=>true
 | .seq a b=>Xx a||Xx b
 | .block _ c=>Xx c
 | _=>false
def Yv:Code->Code
 | .loop c=>c
 | .seq a b=>match Xx a with
  | true=>Yv a
  | false=>Yv b
 | .block _ c=>Yv c
 | c=>c
end Go.Av
end
section
open Go.RowKit Go.Pl Go.Av
namespace Go.Proofs.YtkdpfkjlheajhaaGreatDoor
set_option maxHeartbeats 4000000
theorem Jv (x:RqV):Vv x x=true:=by
 unfold Vv eqE
 simp
theorem KX (l:List (List UInt8)):∀ w,w ≠ []->(Yj w l).1 ≠ []:=by
 induction l with
 | nil=>intro w h;exact h
 | cons f fs ih=>
  intro w hw
  cases h:YN f with
  | false=>rw[YW fs h];exact hw
  | true=>
   by_cases h8:8<=w.length
   ·rw[YX fs h h8];exact hw
   ·rw[Wz fs h h8]
    exact ih _ (by simp)
theorem Jw (l:List UInt8)(w:List RqV)(b:List UInt8)(h:w ≠ []):(W3 l w b).2.1 ≠ []:=KX _ _ h
theorem Z7 (rest:List UInt8)(m:Nat)(h:m<=rest.length):((m:Nat):Int).toNat<=(rest.map E.byte).length/\(((rest.map E.byte).take ((m:Nat):Int).toNat).drop 0)=(rest.take m).map E.byte/\(((rest.map E.byte).take (rest.map E.byte).length).drop ((m:Nat):Int).toNat)=(rest.drop m).map E.byte:=
 ⟨by rw[List.length_map];omega,by rw[List.drop_zero,Int.toNat_natCast,List.map_take],by rw[List.take_length,Int.toNat_natCast,List.map_drop]⟩
def VB (base:List Fr)(t0:Nat)(p:List UInt8)(wd:D)(tl:List UInt8)(te:Nat)(tb:Int)(fr:List Fr):Prop:=
 (te ≠ 0/\te=(Zy p).2.2.1/\wd=.sl .nil []/\fr=base) \/
 (te=0/\(Zy p).2.2.1=0/\tl=(Zy p).1/\tb=0/\(Zy p).2.1=[]/\wd=.sl .nil []/\fr=base) \/
 (te=0/\(Zy p).2.2.1=0/\tl=(Zy p).1/\tb=0/\(Zy p).2.1 ≠ []/\wd=.sl (.own t0) ((Zy p).2.1.map rqE)/\fr=base++cqF (Zy p).2.1.length)
abbrev cpB (oD:D)(eb:Nat)(lb:List UInt8)(bb:Int)(wd:D)(te:Nat)(tl:List UInt8)(tb:Int):List (List D):=
 [[.bool true,.sl .ext (lb.map E.byte),.int .i64 bb],[.ptr 0 0,oD,.int .i64 0,.sl .nil [],.int .i64 (eb:Int)],[.bool true,.sl .ext (tl.map E.byte),.int .i64 tb],[.ptr 2 0,wd,.int .i64 0,.sl .nil [],.int .i64 (te:Int)]]
abbrev cpT (cuts rest:List UInt8)(eb te:Nat)(iz:Int):List (Nat × D):=[(1,byE cuts),(5,.ptr 1 0),(6,.ptr 3 0),(7,.int .i64 (eb:Int)),(8,.int .i64 (te:Int)),(9,.sl .ext (rest.map E.byte)),(10,.int .i64 iz)]
def W4 (b cuts:List UInt8)(oD:D)(eb:Nat)(lb:List UInt8)(bb:Int)(base:List Fr)(t0:Nat)(k:Nat)(tm:List (Nat × D))(bx:List (List D))(fr:List Fr):Prop:=
 ∃(p rest:List UInt8) (i:Nat) (iz:Int) (wd:D) (tl:List UInt8) (te:Nat) (tb:Int),k=rest.length+(cuts.length-i)/\(rest=[]\/(iz=(i:Int)/\i<=cuts.length))/\b=p++rest/\VB base t0 p wd tl te tb fr/\tm=cpT cuts rest eb te iz/\bx=cpB oD eb lb bb wd te tl tb
end Go.Proofs.YtkdpfkjlheajhaaGreatDoor
end

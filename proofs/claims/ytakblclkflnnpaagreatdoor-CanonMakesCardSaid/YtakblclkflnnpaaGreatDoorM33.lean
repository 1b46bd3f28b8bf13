/- The document's answers for names: the name of an item. -/
import Derived.Test.YtakblclkflnnpaaGreatDoorM32
import Derived.Test.YtakblclkflnnpaaGreatDoorM30
import Derived.Test.YtakblclkflnnpaaGreatDoorM23
import Derived.Test.YtakblclkflnnpaaGreatDoorM24
set_option linter.unusedVariables false
set_option linter.unusedSimpArgs false
section
open Go.RowKit Go.Pl Go.Av
namespace Go.Proofs.YtakblclkflnnpaaGreatDoor
set_option maxHeartbeats 4000000
theorem Zfv {x:It}{c:EidV}(hc:(Zbc x).2=true->c=(Zbc x).1){i:Bool}{n q:Nat}{h d:List UInt8}(ec:c=⟨i,n,q,h,d⟩):Zh3 (decide (Zb7 c<0)) (!(It.beq (Zbu c) x)) i n q h d=Zh6 x:=by
 have hk:=Zgq c
 cases hr:ZaP c with
 | false=>
  have e:decide (Zb7 c<0)=true:=decide_eq_true (by have:=of_decide_eq_false (hk.trans hr);omega)
  rw[e,Zea (Zp7 hc hr)]
  cases !(It.beq (Zbu c) x)<;>rfl
 | true=>
  have e:decide (Zb7 c<0)=false:=decide_eq_false (by have:=of_decide_eq_true (hk.trans hr);omega)
  rw[e]
  cases hs:It.beq (Zbu c) x with
  | false=>rw[Zea (Zp8 hc hs)];rfl
  | true=>rw[Zk1 (Zp9 hr hs),ec];rfl
theorem Zfw {c:EidV}(h:decide (Zb7 c<0)=false):ZaP c=true:=by
 rw[<- Zgq]
 exact decide_eq_true (by have:=of_decide_eq_false h;omega)
theorem Zdx {c:EidV}(h:ZaP c=true):decide (Zb7 c<0)=false:=decide_eq_false (by have:=of_decide_eq_true ((Zgq c).trans h);omega)
theorem Zh7 [Known](x:It)(hw:wfI x)(hb:∀ y ∈ x.l,y.b.length<=1099511627000):AP Tryz.prog 90 [itD x] (Zh6 x) []:=by
 obtain⟨k,n,b,l⟩:=x
 by_cases hk:k=4
 case neg=>rw[Zea (ZoN (.inl hk))];exact ZpQ k n b l (.inl hk)
 by_cases hl:l.length=2
 case neg=>rw[Zea (ZoN (.inr hl))];exact ZpQ k n b l (.inr hl)
 subst hk
 obtain⟨s,z,rfl⟩:∃ s z,l=[s,z]:=by
  match l,hl with
  | [s,z],_=>exact⟨s,z,rfl⟩
 have hbz:=hb z (by simp[It.l])
 clear hl hb
 have kZ:=Zcz Zdv ⟨by decide,by decide⟩
 have wZ:=ZcJ Zdv (by decide)
 have sZ:=Zdq (Zbu Zdv) (Zd9 (by decide)) _ hw
 obtain⟨kz,nz,bz,lz⟩:=z
 simp only[It.b]at hbz
 by_cases h3:kz=3
 ·subst h3
  have hP:=Zh4 (ZfF++bz) (by simp[ZfF];omega)
  have hml:[(100:UInt8),116,110,58].length+bz.length<=maxLen:=by simp;unfold maxLen;omega
  cases hp:(Za8 (ZfF++bz)).2 with
  | false=>
   rw[Zdk hp]at hP
   rw[Zea (Zk3 hp)]
   exact Zqd s n b nz bz lz hml hP
  | true=>
   obtain⟨hr,_⟩:=Zcp hp
   unfold Zft at hP
   rw[hp]at hP
   have hc:(Zbc (.mk 4 n b [s,.mk 3 nz bz lz])).2=true->(Za8 (ZfF++bz)).1=(Zbc (.mk 4 n b [s,.mk 3 nz bz lz])).1:=
    Zk2 (fun e=>by cases e) (fun p q e=>by cases e) (fun t e _=>by cases e;rfl)
   generalize (Za8 (ZfF++bz)).1=c at *
   rw[<- Zfv hc (show c=⟨c.i,c.n,c.s,c.h,c.d⟩ from rfl),Zdx hr]
   exact Zqc s n b nz bz lz c.i c.n c.s c.h c.d (Zb7 c) (Zbu c) _ hml hP (Zcz c (Zd8 hr)) (Zdx hr) (ZcJ c hr) (Zdq (Zbu c) (Zd9 hr) _ hw)
 ·by_cases h4:kz=4/\lz.length=2
  ·obtain⟨rfl,hl2⟩:=h4
   obtain⟨⟨kp,np,bp,lp⟩,⟨kq,nq,bq,lq⟩,rfl⟩:∃ p q,lz=[p,q]:=by
    match lz,hl2 with
    | [p,q],_=>exact⟨p,q,rfl⟩
   have hc:(Zbc (.mk 4 n b [s,.mk 4 nz bz [.mk kp np bp lp,.mk kq nq bq lq]])).2=true->(⟨true,np,nq,[],[]⟩:EidV)=(Zbc (.mk 4 n b [s,.mk 4 nz bz [.mk kp np bp lp,.mk kq nq bq lq]])).1:=
    Zk2 (fun e=>by cases e) (fun p q e=>by cases e;rfl) (fun t e _=>by cases e)
   rw[<- Zfv hc rfl]
   exact Zqa s _ n b nz bz kp np bp lp kq nq bq lq rfl (Zb7 ⟨true,np,nq,[],[]⟩) (Zbu ⟨true,np,nq,[],[]⟩) _ _ (Zcz ⟨true,np,nq,[],[]⟩ ⟨Nat.zero_le _,Nat.zero_le _⟩) rfl (fun h=>ZcJ ⟨true,np,nq,[],[]⟩ (Zfw h)) (fun h=>Zdq (Zbu ⟨true,np,nq,[],[]⟩) (Zd9 (Zfw h)) _ hw)
  ·have hc:(Zbc (.mk 4 n b [s,.mk kz nz bz lz])).2=true->Zdv=(Zbc (.mk 4 n b [s,.mk kz nz bz lz])).1:=
    Zk2 (fun e=>rfl) (fun p q e=>by cases e;exact absurd ⟨rfl,rfl⟩ h4) (fun t e _=>by cases e;exact absurd rfl h3)
   rw[<- Zfv hc rfl]
   exact Zqb s n b kz nz bz lz (by
    by_cases h5:kz=4
    ·exact .inl ⟨h5,fun e=>h4 ⟨h5,e⟩⟩
    ·exact .inr ⟨h5,h3⟩) (Zbu Zdv) _ kZ wZ sZ
theorem Zi8:∀ {l:List It} {y:It},y ∈ l->(Za6 y).length<=(Zbd l).length
 | x::l,y,h=>by
  rw[Zbd,List.length_append]
  rcases List.mem_cons.1 h with rfl|h
  ·omega
  ·have:=Zi8 h;omega
theorem Zqe (y:It):y.b.length<=(Za6 y).length:=by
 obtain⟨k,n,b,l⟩:=y
 rw[Za6,List.length_append,List.length_append]
 show b.length<=_
 omega
theorem Zpx (k:Int)(n:Nat)(b:List UInt8)(l:List It):(Zbd l).length<=(Za6 (.mk k n b l)).length:=by
 rw[Za6,List.length_append,List.length_append]
 omega
theorem Zmi (d:List UInt8)(hd:d.length<=100000){y:It}{n:Nat}(h:Zbn d 0=(y,n,0)):Zb3 d=(((n:Int)==(d.length:Int))&&(Za6 y==d)):=by
 have e:Zbn d 0=match ZaU 6 256 d with
   | .error e=>(.mk 0 0 [] [],0,e)
   | .ok (x,r,_)=>(x,d.length-r.length,0):=by rw[Zbn,if_neg (by omega)];rfl
 unfold Zb3
 rw[e]at h
 cases hx:ZaU 6 256 d with
 | error c=>
  rw[hx]at h
  injection h with _ h
  injection h with _ h
  exact absurd h (ZcY _ _ _ _ hx)
 | ok z=>
  obtain⟨z,r,m1⟩:=z
  obtain⟨_,_,pre,hpre,hpos,_⟩:=Zem 6 (Nat.le_refl _) _ _ _ _ _ hx (by omega)
  rw[hx]at h
  injection h with h1 h2
  injection h2 with h2 _
  subst h1 h2
  have hpl:=congrArg List.length hpre
  rw[List.length_append]at hpl
  have e1:r.isEmpty=(((d.length-r.length:Nat):Int)==(d.length:Int)):=by
   cases r with
   | nil=>simp
   | cons c r=>
    have:¬ ((d.length-(c::r).length:Nat):Int)=(d.length:Int):=by simp only[List.length_cons]at hpl ⊢;omega
    simpa using this
  dsimp only
  rw[e1]
def Zhu (d:List UInt8):It:=match Zb3 d with
 | true=>(Zbn d 0).1
 | false=>.mk 0 0 [] []
theorem Zgu [Known][KnownU8](d:List UInt8)(hd:d.length<=100000):AP Tryz.prog 106 [byE d] (.tup [itD (Zhu d),.bool (Zb3 d)]) []:=by
 have hR:=ZlS d 0 (by omega)
 unfold Zhu
 rcases Zdi d (by omega) with⟨e,he,h,hs⟩ | ⟨y,m,h,hw,hr,hl,hm⟩
 ·rw[h]at hR
  rw[hs]
  replace hR:AP Tryz.prog _ _ (.tup [.agg [.int .i64 0,.int .u64 0,.sl .ext [],.sl .ext []],.int .i64 0,.int .i64 (e:Int)]) []:=hR
  have t1:((e:Int) != 0)=true:=by simpa using he
  refine AP.ofA ?_
  refine Zan Tryz.func106 rfl Tryz.ntmps106 rfl rfl ?_
  repeat'(first|(apply Zaa (hR);kernel_rfl;(iterate 4 exact Z))|(apply Zai Zab;exact Z)|(apply Zah Zab;exact Z)|(apply Zaw Zab;exact Z)|(apply Zal;(iterate 3 exact Z);exact Go.Zqy)|(apply Zaj;exact Z;exact Go.Zqy;exact Z;exact Z)|(apply Zac;exact Z;exact Go.Zqy)|(apply Zam 14 ZaK;decide +kernel;kernel_rfl;kernel_rfl;kernel_rfl;exact Z;exact Z)|(apply Zaq;(iterate 4 exact Z))|exact AE.nil _ _ _ _|(apply Zat;exact Z)|(apply Zax;exact Z;exact Z;decide +kernel;exact Z)|(apply Zay;exact Z)|exact AO.nil _ _ _|(apply Zap;(decide +kernel))|exact AOs.nil|exact ZaE rfl rfl)
  all_goals(apply Zaz [];(apply Zad Zab;exact Z);(iterate 4 exact Z))
  all_goals rfl
 ·have hf:ZdC y=true:=by
   have:=hr
   rw[Zhc]at this
   simp only[Bool.and_eq_true]at this
   exact this.2.2
  have hW:=Zht y hw hf (by omega)
  have hsh:=Zmi d hd h
  have hdl:(d.map E.byte).length=d.length:=List.length_map ..
  rw[h]at hR
  rw[hsh,h]
  dsimp only
  generalize Za6 y=P at *
  obtain⟨k,n,b,l⟩:=y
  replace hR:AP Tryz.prog _ _ (.tup [.agg (itC k n b l),.int .i64 (m:Int),.int .i64 0]) []:=hR
  cases t1:((m:Int)==(d.length:Int)) with
  | false=>
   have t1':((m:Int) != ((d.map E.byte).length:Int))=true:=by rw[hdl,bne,t1];rfl
   refine AP.ofA ?_
   refine Zan Tryz.func106 rfl Tryz.ntmps106 rfl rfl ?_
   repeat'(first|(apply Zaa (hR);kernel_rfl;(iterate 4 exact Z))|(apply Zai Zab;exact Z)|(apply Zah Zab;exact Z)|(apply Zaw Zab;exact Z)|(apply Zae;(iterate 3 exact Z);exact Go.Zqy)|(apply Zal;(iterate 3 exact Z);exact Go.Zqy)|(apply Zaj;exact Z;exact Go.Zqy;exact Z;exact Z)|(apply Zag;exact Z;exact Go.Zqy;exact Z;exact Z)|(apply Zac;exact Z;exact Go.Zqy)|(apply Zao Zab;(iterate 4 exact Z))|(apply Zam 14 ZaK;decide +kernel;kernel_rfl;kernel_rfl;kernel_rfl;exact Z;exact Z)|(apply Zaq;(iterate 4 exact Z))|exact AE.nil _ _ _ _|(apply Zat;exact Z)|(apply Zax;exact Z;exact Z;decide +kernel;exact Z)|(apply Zay;exact Z)|exact AO.nil _ _ _|(apply Zap;(decide +kernel))|exact AOs.nil|exact ZaE rfl rfl)
   all_goals(apply Zaz [];(apply Zad Zab;exact Z);(iterate 4 exact Z))
   all_goals rfl
  | true=>
   have t1':((m:Int) != ((d.map E.byte).length:Int))=false:=by rw[hdl,bne,t1];rfl
   cases t2:(P==d) with
   | false=>
    have t2':(P != d)=true:=by rw[bne,t2];rfl
    refine AP.ofA ?_
    refine Zan Tryz.func106 rfl Tryz.ntmps106 rfl rfl ?_
    repeat'(first|(apply Zaa (hR);kernel_rfl;(iterate 4 exact Z))|(apply Zaa (hW);kernel_rfl;(iterate 4 exact Z))|(apply Zai Zab;exact Z)|(apply Zah Zab;exact Z)|(apply Zaw Zab;exact Z)|(apply Zae;(iterate 3 exact Z);exact Go.Zqy)|(apply Zag;exact Z;exact Go.Zqy;exact Z;exact Z)|(apply Zac;exact Z;exact Go.Zqy)|(apply Zao Zab;(iterate 4 exact Z))|(apply Zam 14 ZaK;decide +kernel;kernel_rfl;kernel_rfl;kernel_rfl;exact Z;exact Z)|(apply Zaq;(iterate 4 exact Z))|exact AE.nil _ _ _ _|(apply Zat;exact Z)|(apply Zax;exact Z;exact Z;decide +kernel;exact Z)|(apply Zay;exact Z)|exact AO.nil _ _ _|(apply Zap;(decide +kernel))|exact AOs.nil|exact ZaE rfl rfl|(apply Zcg Zab;(iterate 9 exact Z)))
    all_goals(apply Zaz [];(apply Zad Zab;exact Z);(iterate 4 exact Z))
    all_goals rfl
   | true=>
    have t2':(P != d)=false:=by rw[bne,t2];rfl
    refine AP.ofA ?_
    refine Zan Tryz.func106 rfl Tryz.ntmps106 rfl rfl ?_
    repeat'(first|(apply Zaa (hR);kernel_rfl;(iterate 4 exact Z))|(apply Zaa (hW);kernel_rfl;(iterate 4 exact Z))|(apply Zai Zab;exact Z)|(apply Zah Zab;exact Z)|(apply Zaw Zab;exact Z)|(apply Zae;(iterate 3 exact Z);exact Go.Zqy)|(apply Zag;exact Z;exact Go.Zqy;exact Z;exact Z)|(apply Zaf;exact Z;exact Go.Zqy)|(apply Zao Zab;(iterate 4 exact Z))|(apply Zam 14 ZaK;decide +kernel;kernel_rfl;kernel_rfl;kernel_rfl;exact Z;exact Z)|(apply Zaq;(iterate 4 exact Z))|exact AE.nil _ _ _ _|(apply Zat;exact Z)|(apply Zax;exact Z;exact Z;decide +kernel;exact Z)|(apply Zay;exact Z)|exact AO.nil _ _ _|(apply Zap;(decide +kernel))|exact AOs.nil|exact ZaE rfl rfl|(apply Zcg Zab;(iterate 9 exact Z)))
    all_goals(apply Zaz [];(apply Zad Zab;exact Z);(iterate 4 exact Z))
    all_goals rfl
theorem Zqf [Known](Zar n m:Nat)(sum:Int)(xi:Bool)(xn xs:Nat)(xh xd:List UInt8)(hA:AP Tryz.prog 24 [] (.bool true) [])(t0:decide (IntKind.i64.wrap ((xh.length:Int)+(xd.length:Int))>300)=true) :
  AP Tryz.prog 6 [.int .u64 (Zar:Int),.int .i64 sum,.agg [.bool xi,.int .u64 (xn:Int),.int .u64 (xs:Int),.str xh,.str xd],.int .u64 (n:Int),.int .u64 (m:Int)] (.bool true) []:=by
 refine AP.ofA ?_
 refine Zan Tryz.func6 rfl Tryz.ntmps6 rfl rfl ?_
 repeat'(first|(apply Zaa (hA);kernel_rfl;(iterate 4 exact Z))|(apply Zai Zab;exact Z)|(apply Zah Zab;exact Z)|(apply Zaw Zab;exact Z)|(apply Zac;exact Z;exact Go.Zqy)|(apply ZaV Zab;(iterate 4 exact Z)))
 all_goals(apply Zaz [];(apply Zad Zab;exact Z);(iterate 4 exact Z))
 all_goals rfl
theorem ZnC [Known](Zar n m:Nat)(sum:Int)(xi:Bool)(xn xs:Nat)(xh xd:List UInt8)(κ:Int)(yk:Int)(yn:Nat)(yb:List UInt8)(yl:List It)(pty pnum pfl qty qnum qfl sty snum sfl:Nat)(psum qsum ssum:Int)(pd qd sd:List UInt8)
  (hA:AP Tryz.prog 24 [] (.bool true) [])
  (t0:decide (IntKind.i64.wrap ((xh.length:Int)+(xd.length:Int))>300)=false)
  (hE:AP Tryz.prog 41 [.agg [.bool xi,.int .u64 (xn:Int),.int .u64 (xs:Int),.str xh,.str xd]] (.agg [.bool xi,.int .u64 (xn:Int),.int .u64 (xs:Int),.str xh,.str xd]) [])
  (hP:AP Tryz.prog 42 [.int .u64 (Zar:Int),.int .i64 sum,.agg [.bool xi,.int .u64 (xn:Int),.int .u64 (xs:Int),.str xh,.str xd]] (.tup [.agg [.int .u64 (pty:Int),.int .u64 (pnum:Int),.int .u64 (pfl:Int),.int .i64 psum,byE pd],.int .i64 0]) [])
  (hQ:AP Tryz.prog 43 [.int .u64 (Zar:Int),.int .i64 sum,.int .u64 (n:Int)] (.tup [.agg [.int .u64 (qty:Int),.int .u64 (qnum:Int),.int .u64 (qfl:Int),.int .i64 qsum,byE qd],.int .i64 0]) [])
  (hH:AP Tryz.prog 44 [.int .u64 (Zar:Int),.int .i64 sum,.int .u64 (n:Int),.int .u64 (m:Int)] (.tup [.agg [.int .u64 (sty:Int),.int .u64 (snum:Int),.int .u64 (sfl:Int),.int .i64 ssum,byE sd],.int .i64 0]) [])
  (hK:AP Tryz.prog 45 [.agg [.bool xi,.int .u64 (xn:Int),.int .u64 (xs:Int),.str xh,.str xd]] (.int .i64 κ) [])
  (tk:decide (κ ≥ 0)=true)
  (hO7:AP Tryz.prog 46 [.int .u64 7,.int .u64 (Zar:Int),.int .i64 sum,.agg [.int .i64 0,.int .u64 (n:Int),.sl .ext [],.sl .ext []]] (.tup [.agg [.int .u64 (qty:Int),.int .u64 (qnum:Int),.int .u64 (qfl:Int),.int .i64 qsum,byE qd],.bool true]) [])
  (hO10:AP Tryz.prog 46 [.int .u64 10,.int .u64 (Zar:Int),.int .i64 sum,.agg [.int .i64 4,.int .u64 0,.sl .ext [],.sl .ext [.agg [.int .i64 0,.int .u64 (n:Int),.sl [],.sl []],.agg [.int .i64 0,.int .u64 (m:Int),.sl [],.sl []]]]] (.tup [.agg [.int .u64 (sty:Int),.int .u64 (snum:Int),.int .u64 (sfl:Int),.int .i64 ssum,byE sd],.bool true]) [])
  (hSp:AP Tryz.prog 25 [.agg [.int .u64 (pty:Int),.int .u64 (pnum:Int),.int .u64 (pfl:Int),.int .i64 psum,byE pd]] (.agg [.int .u64 (pty:Int),.int .u64 (pnum:Int),.int .u64 (pfl:Int),.int .i64 psum,byE pd]) [])
  (hSq:AP Tryz.prog 25 [.agg [.int .u64 (qty:Int),.int .u64 (qnum:Int),.int .u64 (qfl:Int),.int .i64 qsum,byE qd]] (.agg [.int .u64 (qty:Int),.int .u64 (qnum:Int),.int .u64 (qfl:Int),.int .i64 qsum,byE qd]) [])
  (hSs:AP Tryz.prog 25 [.agg [.int .u64 (sty:Int),.int .u64 (snum:Int),.int .u64 (sfl:Int),.int .i64 ssum,byE sd]] (.agg [.int .u64 (sty:Int),.int .u64 (snum:Int),.int .u64 (sfl:Int),.int .i64 ssum,byE sd]) [])
  (hM6:AP Tryz.prog 31 [.agg [.int .u64 (pty:Int),.int .u64 (pnum:Int),.int .u64 (pfl:Int),.int .i64 psum,byE pd],.agg [.int .u64 (pty:Int),.int .u64 (pnum:Int),.int .u64 (pfl:Int),.int .i64 psum,byE pd]] (.bool true) [])
  (hM7:AP Tryz.prog 31 [.agg [.int .u64 (qty:Int),.int .u64 (qnum:Int),.int .u64 (qfl:Int),.int .i64 qsum,byE qd],.agg [.int .u64 (qty:Int),.int .u64 (qnum:Int),.int .u64 (qfl:Int),.int .i64 qsum,byE qd]] (.bool true) [])
  (hM10:AP Tryz.prog 31 [.agg [.int .u64 (sty:Int),.int .u64 (snum:Int),.int .u64 (sfl:Int),.int .i64 ssum,byE sd],.agg [.int .u64 (sty:Int),.int .u64 (snum:Int),.int .u64 (sfl:Int),.int .i64 ssum,byE sd]] (.bool true) [])
  (hWi:AP Tryz.prog 47 [.agg [.bool xi,.int .u64 (xn:Int),.int .u64 (xs:Int),.str xh,.str xd]] (.agg (itC yk yn yb yl)) [])
  (hO6:AP Tryz.prog 46 [.int .u64 6,.int .u64 (Zar:Int),.int .i64 sum,.agg (itC yk yn yb yl)] (.tup [.agg [.int .u64 (pty:Int),.int .u64 (pnum:Int),.int .u64 (pfl:Int),.int .i64 psum,byE pd],.bool true]) []) :
  AP Tryz.prog 6 [.int .u64 (Zar:Int),.int .i64 sum,.agg [.bool xi,.int .u64 (xn:Int),.int .u64 (xs:Int),.str xh,.str xd],.int .u64 (n:Int),.int .u64 (m:Int)] (.bool true) []:=by
 refine AP.ofA ?_
 refine Zan Tryz.func6 rfl Tryz.ntmps6 rfl rfl ?_
 repeat'(first|(apply Zaa (hA);kernel_rfl;(iterate 4 exact Z))|(apply Zaa (hE);kernel_rfl;(iterate 4 exact Z))|(apply Zaa (hK);kernel_rfl;(iterate 4 exact Z))|(apply Zaa (hP);kernel_rfl;(iterate 4 exact Z))|(apply Zaa (hQ);kernel_rfl;(iterate 4 exact Z))|(apply Zaa (hH);kernel_rfl;(iterate 4 exact Z))|(apply Zaa (hSp);kernel_rfl;(iterate 4 exact Z))|(apply Zaa (hSq);kernel_rfl;(iterate 4 exact Z))|(apply Zaa (hSs);kernel_rfl;(iterate 4 exact Z))|(apply Zaa (hWi);kernel_rfl;(iterate 4 exact Z))|(apply Zaa (hO6);kernel_rfl;(iterate 4 exact Z))|(apply Zaa (hO7);kernel_rfl;(iterate 4 exact Z))|(apply Zaa (hO10);kernel_rfl;(iterate 4 exact Z))|(apply Zaa (hM6);kernel_rfl;(iterate 4 exact Z))|(apply Zaa (hM7);kernel_rfl;(iterate 4 exact Z))|(apply Zaa (hM10);kernel_rfl;(iterate 4 exact Z))|(apply Zai Zab;exact Z)|(apply Zah Zab;exact Z)|(apply Zaw Zab;exact Z)|(apply Zae;(iterate 3 exact Z);exact Go.Zqy)|(apply Zal;(iterate 3 exact Z);exact Go.Zqy)|(apply Zaj;exact Z;exact Go.Zqy;exact Z;exact Z)|(apply Zac;exact Z;exact Go.Zqy)|(apply Zaf;exact Z;exact Go.Zqy)|(apply ZaV Zab;(iterate 4 exact Z))|(apply ZaR Zab;(iterate 12 exact Z))|(apply Zam 35 ZaK;decide +kernel;kernel_rfl;kernel_rfl;kernel_rfl;exact Z;exact Z)|(apply Zaq;(iterate 4 exact Z))|exact AE.nil _ _ _ _|(apply Zat;exact Z)|(apply Zax;exact Z;exact Z;decide +kernel;exact Z)|(apply Zay;exact Z)|exact AO.nil _ _ _|(apply Zap;(decide +kernel))|exact AOs.nil|exact ZaE rfl rfl)
 all_goals(apply Zaz [];(apply Zad Zab;exact Z);(iterate 4 exact Z))
 all_goals rfl
theorem ZnD [Known](Zar n m:Nat)(sum:Int)(xi:Bool)(xn xs:Nat)(xh xd:List UInt8)(κ:Int)(yk:Int)(yn:Nat)(yb:List UInt8)(yl:List It)(pty pnum pfl qty qnum qfl sty snum sfl:Nat)(psum qsum ssum:Int)(pd qd sd:List UInt8)
  (hA:AP Tryz.prog 24 [] (.bool true) [])
  (t0:decide (IntKind.i64.wrap ((xh.length:Int)+(xd.length:Int))>300)=false)
  (hE:AP Tryz.prog 41 [.agg [.bool xi,.int .u64 (xn:Int),.int .u64 (xs:Int),.str xh,.str xd]] (.agg [.bool xi,.int .u64 (xn:Int),.int .u64 (xs:Int),.str xh,.str xd]) [])
  (hP:AP Tryz.prog 42 [.int .u64 (Zar:Int),.int .i64 sum,.agg [.bool xi,.int .u64 (xn:Int),.int .u64 (xs:Int),.str xh,.str xd]] (.tup [.agg [.int .u64 (pty:Int),.int .u64 (pnum:Int),.int .u64 (pfl:Int),.int .i64 psum,byE pd],.int .i64 0]) [])
  (hQ:AP Tryz.prog 43 [.int .u64 (Zar:Int),.int .i64 sum,.int .u64 (n:Int)] (.tup [.agg [.int .u64 (qty:Int),.int .u64 (qnum:Int),.int .u64 (qfl:Int),.int .i64 qsum,byE qd],.int .i64 0]) [])
  (hH:AP Tryz.prog 44 [.int .u64 (Zar:Int),.int .i64 sum,.int .u64 (n:Int),.int .u64 (m:Int)] (.tup [.agg [.int .u64 (sty:Int),.int .u64 (snum:Int),.int .u64 (sfl:Int),.int .i64 ssum,byE sd],.int .i64 3]) [])
  (hK:AP Tryz.prog 45 [.agg [.bool xi,.int .u64 (xn:Int),.int .u64 (xs:Int),.str xh,.str xd]] (.int .i64 κ) [])
  (tk:decide (κ ≥ 0)=true)
  (hO7:AP Tryz.prog 46 [.int .u64 7,.int .u64 (Zar:Int),.int .i64 sum,.agg [.int .i64 0,.int .u64 (n:Int),.sl .ext [],.sl .ext []]] (.tup [.agg [.int .u64 (qty:Int),.int .u64 (qnum:Int),.int .u64 (qfl:Int),.int .i64 qsum,byE qd],.bool true]) [])
  (hO10:AP Tryz.prog 46 [.int .u64 10,.int .u64 (Zar:Int),.int .i64 sum,.agg [.int .i64 4,.int .u64 0,.sl .ext [],.sl .ext [.agg [.int .i64 0,.int .u64 (n:Int),.sl [],.sl []],.agg [.int .i64 0,.int .u64 (m:Int),.sl [],.sl []]]]] (.tup [.agg [.int .u64 (sty:Int),.int .u64 (snum:Int),.int .u64 (sfl:Int),.int .i64 ssum,byE sd],.bool false]) [])
  (hSp:AP Tryz.prog 25 [.agg [.int .u64 (pty:Int),.int .u64 (pnum:Int),.int .u64 (pfl:Int),.int .i64 psum,byE pd]] (.agg [.int .u64 (pty:Int),.int .u64 (pnum:Int),.int .u64 (pfl:Int),.int .i64 psum,byE pd]) [])
  (hSq:AP Tryz.prog 25 [.agg [.int .u64 (qty:Int),.int .u64 (qnum:Int),.int .u64 (qfl:Int),.int .i64 qsum,byE qd]] (.agg [.int .u64 (qty:Int),.int .u64 (qnum:Int),.int .u64 (qfl:Int),.int .i64 qsum,byE qd]) [])
  (hSs:AP Tryz.prog 25 [.agg [.int .u64 (sty:Int),.int .u64 (snum:Int),.int .u64 (sfl:Int),.int .i64 ssum,byE sd]] (.agg [.int .u64 (sty:Int),.int .u64 (snum:Int),.int .u64 (sfl:Int),.int .i64 ssum,byE sd]) [])
  (hM6:AP Tryz.prog 31 [.agg [.int .u64 (pty:Int),.int .u64 (pnum:Int),.int .u64 (pfl:Int),.int .i64 psum,byE pd],.agg [.int .u64 (pty:Int),.int .u64 (pnum:Int),.int .u64 (pfl:Int),.int .i64 psum,byE pd]] (.bool true) [])
  (hM7:AP Tryz.prog 31 [.agg [.int .u64 (qty:Int),.int .u64 (qnum:Int),.int .u64 (qfl:Int),.int .i64 qsum,byE qd],.agg [.int .u64 (qty:Int),.int .u64 (qnum:Int),.int .u64 (qfl:Int),.int .i64 qsum,byE qd]] (.bool true) [])
  (hM10:AP Tryz.prog 31 [.agg [.int .u64 (sty:Int),.int .u64 (snum:Int),.int .u64 (sfl:Int),.int .i64 ssum,byE sd],.agg [.int .u64 (sty:Int),.int .u64 (snum:Int),.int .u64 (sfl:Int),.int .i64 ssum,byE sd]] (.bool true) [])
  (hWi:AP Tryz.prog 47 [.agg [.bool xi,.int .u64 (xn:Int),.int .u64 (xs:Int),.str xh,.str xd]] (.agg (itC yk yn yb yl)) [])
  (hO6:AP Tryz.prog 46 [.int .u64 6,.int .u64 (Zar:Int),.int .i64 sum,.agg (itC yk yn yb yl)] (.tup [.agg [.int .u64 (pty:Int),.int .u64 (pnum:Int),.int .u64 (pfl:Int),.int .i64 psum,byE pd],.bool true]) []) :
  AP Tryz.prog 6 [.int .u64 (Zar:Int),.int .i64 sum,.agg [.bool xi,.int .u64 (xn:Int),.int .u64 (xs:Int),.str xh,.str xd],.int .u64 (n:Int),.int .u64 (m:Int)] (.bool true) []:=by
 refine AP.ofA ?_
 refine Zan Tryz.func6 rfl Tryz.ntmps6 rfl rfl ?_
 repeat'(first|(apply Zaa (hA);kernel_rfl;(iterate 4 exact Z))|(apply Zaa (hE);kernel_rfl;(iterate 4 exact Z))|(apply Zaa (hK);kernel_rfl;(iterate 4 exact Z))|(apply Zaa (hP);kernel_rfl;(iterate 4 exact Z))|(apply Zaa (hQ);kernel_rfl;(iterate 4 exact Z))|(apply Zaa (hH);kernel_rfl;(iterate 4 exact Z))|(apply Zaa (hSp);kernel_rfl;(iterate 4 exact Z))|(apply Zaa (hSq);kernel_rfl;(iterate 4 exact Z))|(apply Zaa (hSs);kernel_rfl;(iterate 4 exact Z))|(apply Zaa (hWi);kernel_rfl;(iterate 4 exact Z))|(apply Zaa (hO6);kernel_rfl;(iterate 4 exact Z))|(apply Zaa (hO7);kernel_rfl;(iterate 4 exact Z))|(apply Zaa (hO10);kernel_rfl;(iterate 4 exact Z))|(apply Zaa (hM6);kernel_rfl;(iterate 4 exact Z))|(apply Zaa (hM7);kernel_rfl;(iterate 4 exact Z))|(apply Zaa (hM10);kernel_rfl;(iterate 4 exact Z))|(apply Zai Zab;exact Z)|(apply Zah Zab;exact Z)|(apply Zaw Zab;exact Z)|(apply Zae;(iterate 3 exact Z);exact Go.Zqy)|(apply Zal;(iterate 3 exact Z);exact Go.Zqy)|(apply Zaj;exact Z;exact Go.Zqy;exact Z;exact Z)|(apply Zag;exact Z;exact Go.Zqy;exact Z;exact Z)|(apply Zac;exact Z;exact Go.Zqy)|(apply Zaf;exact Z;exact Go.Zqy)|(apply ZaV Zab;(iterate 4 exact Z))|(apply ZaR Zab;(iterate 12 exact Z))|(apply Zam 35 ZaK;decide +kernel;kernel_rfl;kernel_rfl;kernel_rfl;exact Z;exact Z)|(apply Zaq;(iterate 4 exact Z))|exact AE.nil _ _ _ _|(apply Zat;exact Z)|(apply Zax;exact Z;exact Z;decide +kernel;exact Z)|(apply Zay;exact Z)|exact AO.nil _ _ _|(apply Zap;(decide +kernel))|exact AOs.nil|exact ZaE rfl rfl)
 all_goals(apply Zaz [];(apply Zad Zab;exact Z);(iterate 4 exact Z))
 all_goals rfl
theorem ZnE [Known](Zar n m:Nat)(sum:Int)(xi:Bool)(xn xs:Nat)(xh xd:List UInt8)(κ:Int)(yk:Int)(yn:Nat)(yb:List UInt8)(yl:List It)(pty pnum pfl qty qnum qfl sty snum sfl:Nat)(psum qsum ssum:Int)(pd qd sd:List UInt8)
  (hA:AP Tryz.prog 24 [] (.bool true) [])
  (t0:decide (IntKind.i64.wrap ((xh.length:Int)+(xd.length:Int))>300)=false)
  (hE:AP Tryz.prog 41 [.agg [.bool xi,.int .u64 (xn:Int),.int .u64 (xs:Int),.str xh,.str xd]] (.agg [.bool xi,.int .u64 (xn:Int),.int .u64 (xs:Int),.str xh,.str xd]) [])
  (hP:AP Tryz.prog 42 [.int .u64 (Zar:Int),.int .i64 sum,.agg [.bool xi,.int .u64 (xn:Int),.int .u64 (xs:Int),.str xh,.str xd]] (.tup [.agg [.int .u64 (pty:Int),.int .u64 (pnum:Int),.int .u64 (pfl:Int),.int .i64 psum,byE pd],.int .i64 0]) [])
  (hQ:AP Tryz.prog 43 [.int .u64 (Zar:Int),.int .i64 sum,.int .u64 (n:Int)] (.tup [.agg [.int .u64 (qty:Int),.int .u64 (qnum:Int),.int .u64 (qfl:Int),.int .i64 qsum,byE qd],.int .i64 3]) [])
  (hH:AP Tryz.prog 44 [.int .u64 (Zar:Int),.int .i64 sum,.int .u64 (n:Int),.int .u64 (m:Int)] (.tup [.agg [.int .u64 (sty:Int),.int .u64 (snum:Int),.int .u64 (sfl:Int),.int .i64 ssum,byE sd],.int .i64 0]) [])
  (hK:AP Tryz.prog 45 [.agg [.bool xi,.int .u64 (xn:Int),.int .u64 (xs:Int),.str xh,.str xd]] (.int .i64 κ) [])
  (tk:decide (κ ≥ 0)=true)
  (hO7:AP Tryz.prog 46 [.int .u64 7,.int .u64 (Zar:Int),.int .i64 sum,.agg [.int .i64 0,.int .u64 (n:Int),.sl .ext [],.sl .ext []]] (.tup [.agg [.int .u64 (qty:Int),.int .u64 (qnum:Int),.int .u64 (qfl:Int),.int .i64 qsum,byE qd],.bool false]) [])
  (hO10:AP Tryz.prog 46 [.int .u64 10,.int .u64 (Zar:Int),.int .i64 sum,.agg [.int .i64 4,.int .u64 0,.sl .ext [],.sl .ext [.agg [.int .i64 0,.int .u64 (n:Int),.sl [],.sl []],.agg [.int .i64 0,.int .u64 (m:Int),.sl [],.sl []]]]] (.tup [.agg [.int .u64 (sty:Int),.int .u64 (snum:Int),.int .u64 (sfl:Int),.int .i64 ssum,byE sd],.bool true]) [])
  (hSp:AP Tryz.prog 25 [.agg [.int .u64 (pty:Int),.int .u64 (pnum:Int),.int .u64 (pfl:Int),.int .i64 psum,byE pd]] (.agg [.int .u64 (pty:Int),.int .u64 (pnum:Int),.int .u64 (pfl:Int),.int .i64 psum,byE pd]) [])
  (hSq:AP Tryz.prog 25 [.agg [.int .u64 (qty:Int),.int .u64 (qnum:Int),.int .u64 (qfl:Int),.int .i64 qsum,byE qd]] (.agg [.int .u64 (qty:Int),.int .u64 (qnum:Int),.int .u64 (qfl:Int),.int .i64 qsum,byE qd]) [])
  (hSs:AP Tryz.prog 25 [.agg [.int .u64 (sty:Int),.int .u64 (snum:Int),.int .u64 (sfl:Int),.int .i64 ssum,byE sd]] (.agg [.int .u64 (sty:Int),.int .u64 (snum:Int),.int .u64 (sfl:Int),.int .i64 ssum,byE sd]) [])
  (hM6:AP Tryz.prog 31 [.agg [.int .u64 (pty:Int),.int .u64 (pnum:Int),.int .u64 (pfl:Int),.int .i64 psum,byE pd],.agg [.int .u64 (pty:Int),.int .u64 (pnum:Int),.int .u64 (pfl:Int),.int .i64 psum,byE pd]] (.bool true) [])
  (hM7:AP Tryz.prog 31 [.agg [.int .u64 (qty:Int),.int .u64 (qnum:Int),.int .u64 (qfl:Int),.int .i64 qsum,byE qd],.agg [.int .u64 (qty:Int),.int .u64 (qnum:Int),.int .u64 (qfl:Int),.int .i64 qsum,byE qd]] (.bool true) [])
  (hM10:AP Tryz.prog 31 [.agg [.int .u64 (sty:Int),.int .u64 (snum:Int),.int .u64 (sfl:Int),.int .i64 ssum,byE sd],.agg [.int .u64 (sty:Int),.int .u64 (snum:Int),.int .u64 (sfl:Int),.int .i64 ssum,byE sd]] (.bool true) [])
  (hWi:AP Tryz.prog 47 [.agg [.bool xi,.int .u64 (xn:Int),.int .u64 (xs:Int),.str xh,.str xd]] (.agg (itC yk yn yb yl)) [])
  (hO6:AP Tryz.prog 46 [.int .u64 6,.int .u64 (Zar:Int),.int .i64 sum,.agg (itC yk yn yb yl)] (.tup [.agg [.int .u64 (pty:Int),.int .u64 (pnum:Int),.int .u64 (pfl:Int),.int .i64 psum,byE pd],.bool true]) []) :
  AP Tryz.prog 6 [.int .u64 (Zar:Int),.int .i64 sum,.agg [.bool xi,.int .u64 (xn:Int),.int .u64 (xs:Int),.str xh,.str xd],.int .u64 (n:Int),.int .u64 (m:Int)] (.bool true) []:=by
 refine AP.ofA ?_
 refine Zan Tryz.func6 rfl Tryz.ntmps6 rfl rfl ?_
 repeat'(first|(apply Zaa (hA);kernel_rfl;(iterate 4 exact Z))|(apply Zaa (hE);kernel_rfl;(iterate 4 exact Z))|(apply Zaa (hK);kernel_rfl;(iterate 4 exact Z))|(apply Zaa (hP);kernel_rfl;(iterate 4 exact Z))|(apply Zaa (hQ);kernel_rfl;(iterate 4 exact Z))|(apply Zaa (hH);kernel_rfl;(iterate 4 exact Z))|(apply Zaa (hSp);kernel_rfl;(iterate 4 exact Z))|(apply Zaa (hSq);kernel_rfl;(iterate 4 exact Z))|(apply Zaa (hSs);kernel_rfl;(iterate 4 exact Z))|(apply Zaa (hWi);kernel_rfl;(iterate 4 exact Z))|(apply Zaa (hO6);kernel_rfl;(iterate 4 exact Z))|(apply Zaa (hO7);kernel_rfl;(iterate 4 exact Z))|(apply Zaa (hO10);kernel_rfl;(iterate 4 exact Z))|(apply Zaa (hM6);kernel_rfl;(iterate 4 exact Z))|(apply Zaa (hM7);kernel_rfl;(iterate 4 exact Z))|(apply Zaa (hM10);kernel_rfl;(iterate 4 exact Z))|(apply Zai Zab;exact Z)|(apply Zah Zab;exact Z)|(apply Zaw Zab;exact Z)|(apply Zae;(iterate 3 exact Z);exact Go.Zqy)|(apply Zal;(iterate 3 exact Z);exact Go.Zqy)|(apply Zaj;exact Z;exact Go.Zqy;exact Z;exact Z)|(apply Zag;exact Z;exact Go.Zqy;exact Z;exact Z)|(apply Zac;exact Z;exact Go.Zqy)|(apply Zaf;exact Z;exact Go.Zqy)|(apply ZaV Zab;(iterate 4 exact Z))|(apply ZaR Zab;(iterate 12 exact Z))|(apply Zam 35 ZaK;decide +kernel;kernel_rfl;kernel_rfl;kernel_rfl;exact Z;exact Z)|(apply Zaq;(iterate 4 exact Z))|exact AE.nil _ _ _ _|(apply Zat;exact Z)|(apply Zax;exact Z;exact Z;decide +kernel;exact Z)|(apply Zay;exact Z)|exact AO.nil _ _ _|(apply Zap;(decide +kernel))|exact AOs.nil|exact ZaE rfl rfl)
 all_goals(apply Zaz [];(apply Zad Zab;exact Z);(iterate 4 exact Z))
 all_goals rfl
theorem ZnF [Known](Zar n m:Nat)(sum:Int)(xi:Bool)(xn xs:Nat)(xh xd:List UInt8)(κ:Int)(yk:Int)(yn:Nat)(yb:List UInt8)(yl:List It)(pty pnum pfl qty qnum qfl sty snum sfl:Nat)(psum qsum ssum:Int)(pd qd sd:List UInt8)
  (hA:AP Tryz.prog 24 [] (.bool true) [])
  (t0:decide (IntKind.i64.wrap ((xh.length:Int)+(xd.length:Int))>300)=false)
  (hE:AP Tryz.prog 41 [.agg [.bool xi,.int .u64 (xn:Int),.int .u64 (xs:Int),.str xh,.str xd]] (.agg [.bool xi,.int .u64 (xn:Int),.int .u64 (xs:Int),.str xh,.str xd]) [])
  (hP:AP Tryz.prog 42 [.int .u64 (Zar:Int),.int .i64 sum,.agg [.bool xi,.int .u64 (xn:Int),.int .u64 (xs:Int),.str xh,.str xd]] (.tup [.agg [.int .u64 (pty:Int),.int .u64 (pnum:Int),.int .u64 (pfl:Int),.int .i64 psum,byE pd],.int .i64 0]) [])
  (hQ:AP Tryz.prog 43 [.int .u64 (Zar:Int),.int .i64 sum,.int .u64 (n:Int)] (.tup [.agg [.int .u64 (qty:Int),.int .u64 (qnum:Int),.int .u64 (qfl:Int),.int .i64 qsum,byE qd],.int .i64 3]) [])
  (hH:AP Tryz.prog 44 [.int .u64 (Zar:Int),.int .i64 sum,.int .u64 (n:Int),.int .u64 (m:Int)] (.tup [.agg [.int .u64 (sty:Int),.int .u64 (snum:Int),.int .u64 (sfl:Int),.int .i64 ssum,byE sd],.int .i64 3]) [])
  (hK:AP Tryz.prog 45 [.agg [.bool xi,.int .u64 (xn:Int),.int .u64 (xs:Int),.str xh,.str xd]] (.int .i64 κ) [])
  (tk:decide (κ ≥ 0)=true)
  (hO7:AP Tryz.prog 46 [.int .u64 7,.int .u64 (Zar:Int),.int .i64 sum,.agg [.int .i64 0,.int .u64 (n:Int),.sl .ext [],.sl .ext []]] (.tup [.agg [.int .u64 (qty:Int),.int .u64 (qnum:Int),.int .u64 (qfl:Int),.int .i64 qsum,byE qd],.bool false]) [])
  (hO10:AP Tryz.prog 46 [.int .u64 10,.int .u64 (Zar:Int),.int .i64 sum,.agg [.int .i64 4,.int .u64 0,.sl .ext [],.sl .ext [.agg [.int .i64 0,.int .u64 (n:Int),.sl [],.sl []],.agg [.int .i64 0,.int .u64 (m:Int),.sl [],.sl []]]]] (.tup [.agg [.int .u64 (sty:Int),.int .u64 (snum:Int),.int .u64 (sfl:Int),.int .i64 ssum,byE sd],.bool false]) [])
  (hSp:AP Tryz.prog 25 [.agg [.int .u64 (pty:Int),.int .u64 (pnum:Int),.int .u64 (pfl:Int),.int .i64 psum,byE pd]] (.agg [.int .u64 (pty:Int),.int .u64 (pnum:Int),.int .u64 (pfl:Int),.int .i64 psum,byE pd]) [])
  (hSq:AP Tryz.prog 25 [.agg [.int .u64 (qty:Int),.int .u64 (qnum:Int),.int .u64 (qfl:Int),.int .i64 qsum,byE qd]] (.agg [.int .u64 (qty:Int),.int .u64 (qnum:Int),.int .u64 (qfl:Int),.int .i64 qsum,byE qd]) [])
  (hSs:AP Tryz.prog 25 [.agg [.int .u64 (sty:Int),.int .u64 (snum:Int),.int .u64 (sfl:Int),.int .i64 ssum,byE sd]] (.agg [.int .u64 (sty:Int),.int .u64 (snum:Int),.int .u64 (sfl:Int),.int .i64 ssum,byE sd]) [])
  (hM6:AP Tryz.prog 31 [.agg [.int .u64 (pty:Int),.int .u64 (pnum:Int),.int .u64 (pfl:Int),.int .i64 psum,byE pd],.agg [.int .u64 (pty:Int),.int .u64 (pnum:Int),.int .u64 (pfl:Int),.int .i64 psum,byE pd]] (.bool true) [])
  (hM7:AP Tryz.prog 31 [.agg [.int .u64 (qty:Int),.int .u64 (qnum:Int),.int .u64 (qfl:Int),.int .i64 qsum,byE qd],.agg [.int .u64 (qty:Int),.int .u64 (qnum:Int),.int .u64 (qfl:Int),.int .i64 qsum,byE qd]] (.bool true) [])
  (hM10:AP Tryz.prog 31 [.agg [.int .u64 (sty:Int),.int .u64 (snum:Int),.int .u64 (sfl:Int),.int .i64 ssum,byE sd],.agg [.int .u64 (sty:Int),.int .u64 (snum:Int),.int .u64 (sfl:Int),.int .i64 ssum,byE sd]] (.bool true) [])
  (hWi:AP Tryz.prog 47 [.agg [.bool xi,.int .u64 (xn:Int),.int .u64 (xs:Int),.str xh,.str xd]] (.agg (itC yk yn yb yl)) [])
  (hO6:AP Tryz.prog 46 [.int .u64 6,.int .u64 (Zar:Int),.int .i64 sum,.agg (itC yk yn yb yl)] (.tup [.agg [.int .u64 (pty:Int),.int .u64 (pnum:Int),.int .u64 (pfl:Int),.int .i64 psum,byE pd],.bool true]) []) :
  AP Tryz.prog 6 [.int .u64 (Zar:Int),.int .i64 sum,.agg [.bool xi,.int .u64 (xn:Int),.int .u64 (xs:Int),.str xh,.str xd],.int .u64 (n:Int),.int .u64 (m:Int)] (.bool true) []:=by
 refine AP.ofA ?_
 refine Zan Tryz.func6 rfl Tryz.ntmps6 rfl rfl ?_
 repeat'(first|(apply Zaa (hA);kernel_rfl;(iterate 4 exact Z))|(apply Zaa (hE);kernel_rfl;(iterate 4 exact Z))|(apply Zaa (hK);kernel_rfl;(iterate 4 exact Z))|(apply Zaa (hP);kernel_rfl;(iterate 4 exact Z))|(apply Zaa (hQ);kernel_rfl;(iterate 4 exact Z))|(apply Zaa (hH);kernel_rfl;(iterate 4 exact Z))|(apply Zaa (hSp);kernel_rfl;(iterate 4 exact Z))|(apply Zaa (hSq);kernel_rfl;(iterate 4 exact Z))|(apply Zaa (hSs);kernel_rfl;(iterate 4 exact Z))|(apply Zaa (hWi);kernel_rfl;(iterate 4 exact Z))|(apply Zaa (hO6);kernel_rfl;(iterate 4 exact Z))|(apply Zaa (hO7);kernel_rfl;(iterate 4 exact Z))|(apply Zaa (hO10);kernel_rfl;(iterate 4 exact Z))|(apply Zaa (hM6);kernel_rfl;(iterate 4 exact Z))|(apply Zaa (hM7);kernel_rfl;(iterate 4 exact Z))|(apply Zaa (hM10);kernel_rfl;(iterate 4 exact Z))|(apply Zai Zab;exact Z)|(apply Zah Zab;exact Z)|(apply Zaw Zab;exact Z)|(apply Zae;(iterate 3 exact Z);exact Go.Zqy)|(apply Zal;(iterate 3 exact Z);exact Go.Zqy)|(apply Zaj;exact Z;exact Go.Zqy;exact Z;exact Z)|(apply Zag;exact Z;exact Go.Zqy;exact Z;exact Z)|(apply Zac;exact Z;exact Go.Zqy)|(apply Zaf;exact Z;exact Go.Zqy)|(apply ZaV Zab;(iterate 4 exact Z))|(apply ZaR Zab;(iterate 12 exact Z))|(apply Zam 35 ZaK;decide +kernel;kernel_rfl;kernel_rfl;kernel_rfl;exact Z;exact Z)|(apply Zaq;(iterate 4 exact Z))|exact AE.nil _ _ _ _|(apply Zat;exact Z)|(apply Zax;exact Z;exact Z;decide +kernel;exact Z)|(apply Zay;exact Z)|exact AO.nil _ _ _|(apply Zap;(decide +kernel))|exact AOs.nil|exact ZaE rfl rfl)
 all_goals(apply Zaz [];(apply Zad Zab;exact Z);(iterate 4 exact Z))
 all_goals rfl
end Go.Proofs.YtakblclkflnnpaaGreatDoor
end

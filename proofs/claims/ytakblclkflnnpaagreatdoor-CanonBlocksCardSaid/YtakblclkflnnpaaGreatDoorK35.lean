/- The document's sealing: items sealed. -/
import Derived.Test.YtakblclkflnnpaaGreatDoorK34
import Derived.Test.YtakblclkflnnpaaGreatDoorK26
import Derived.Test.YtakblclkflnnpaaGreatDoorK27
import Derived.Test.YtakblclkflnnpaaGreatDoorK09
set_option linter.unusedVariables false
set_option linter.unusedSimpArgs false
section
open Go.RowKit Go.Pl Go.Av
namespace Go.Proofs.YtakblclkflnnpaaGreatDoor
set_option maxHeartbeats 4000000
def ZbE (l:List It)(s:Nat):It × Bool:=match s with
 | 0=>(.mk 4 0 [] l,ZaC (.mk 4 0 [] l))
 | s+1=>match ZaC (ZaR (s+1) l) with
  | true=>(Zfc (s+1) l,true)
  | false=>(z0,false)
theorem Zgx (z:Nat):IntKind.u8.wrap (((z:Nat):Int).tmod 256)=((z % 256:Nat):Int):=by
 rw[Int.tmod_eq_emod_of_nonneg (Int.natCast_nonneg _),IntKind.wrap_u8];omega
theorem Zgy (z:Nat)(h:z<4294967296):IntKind.u32.wrap (((z:Nat):Int).tdiv 256)=((z/256:Nat):Int):=by
 rw[Int.tdiv_eq_ediv_of_nonneg (Int.natCast_nonneg _),IntKind.wrap_u32];omega
theorem ZoN (b:List UInt8):∃ z:Nat,z<65536/\Zek b=(z:Int)/\[E.int .u8 ((z/256 % 256:Nat):Int),E.int .u8 ((z % 256:Nat):Int)]=(Ze3 1 b).map E.byte:=by
 obtain⟨h1,h2⟩:=ZhY b
 generalize (65535 ^^^ ruN 33800 65535 (b.map UInt8.toNat))=z at *
 refine⟨z,h2,h1,?_⟩
 rw[ZlK]
 unfold Zp5 shU
 rw[if_pos rfl,h1,show min (8:Int).toNat IntKind.u16.bits=8 from rfl,Int.fdiv_eq_ediv_of_nonneg _ (by decide),IntKind.wrap_u8,IntKind.wrap_u8]
 have e1:((z/256 % 256:Nat):Int)=(z:Int)/2 ^ 8 % 256:=by omega
 have e2:((z % 256:Nat):Int)=(z:Int) % 256:=by omega
 rw[e1,e2]
theorem ZoO (b:List UInt8):∃ z:Nat,z<4294967296/\ZeG b=(z:Int)/\[E.int .u8 ((z/256/256/256 % 256:Nat):Int),E.int .u8 ((z/256/256 % 256:Nat):Int),E.int .u8 ((z/256 % 256:Nat):Int),E.int .u8 ((z % 256:Nat):Int)]=(Ze3 2 b).map E.byte:=by
 obtain⟨h1,h2⟩:=ZjV b
 generalize (4294967295 ^^^ ruN 2197175160 4294967295 (b.map UInt8.toNat))=z at *
 refine⟨z,h2,h1,?_⟩
 rw[ZlK]
 unfold Zp5 shU
 rw[if_neg (by decide),h1,show min (24:Int).toNat IntKind.u32.bits=24 from rfl,show min (16:Int).toNat IntKind.u32.bits=16 from rfl,show min (8:Int).toNat IntKind.u32.bits=8 from rfl,Int.fdiv_eq_ediv_of_nonneg _ (by decide),Int.fdiv_eq_ediv_of_nonneg _ (by decide),Int.fdiv_eq_ediv_of_nonneg _ (by decide),IntKind.wrap_u8,IntKind.wrap_u8,IntKind.wrap_u8,IntKind.wrap_u8]
 have e1:((z/256/256/256 % 256:Nat):Int)=(z:Int)/2 ^ 24 % 256:=by omega
 have e2:((z/256/256 % 256:Nat):Int)=(z:Int)/2 ^ 16 % 256:=by omega
 have e3:((z/256 % 256:Nat):Int)=(z:Int)/2 ^ 8 % 256:=by omega
 have e4:((z % 256:Nat):Int)=(z:Int) % 256:=by omega
 rw[e1,e2,e3,e4]
theorem Zgz [Known][KnownU8](l:List It)(s:Nat)(hs:s<=2)(hws:wfs l)(hl:l.length<=1000000)(hsz:Zbg l<=900)(hlim:(Za9 (ZaR s l)).length<=1000000000) :
  AP Tryz.prog 95 [.sl .ext (Zax l),.int .i64 (s:Int)] (.tup [itD (ZbE l s).1,.bool (ZbE l s).2]) []:=by
 have hlen:=Zar l
 have hL:=ZhZ (Zax l)
 unfold ZbE
 match s,hs with
 | 0,_=>
  have hw:wfI (.mk 4 0 [] l):=⟨by decide,by simp,by omega,hws⟩
  have hR:=ZdB (.mk 4 0 [] l) hw (by rw[ZbL];omega)
  dsimp only
  generalize ZaC (.mk 4 0 [] l)=R at *
  replace hR:AP Tryz.prog 147 [.agg [.int .i64 4,.int .u64 0,.sl .ext [],.sl .ext (Zax l)]] (.bool R) []:=hR
  show AP Tryz.prog _ _ (.tup [.agg [.int .i64 4,.int .u64 0,.sl .ext [],.sl .ext (Zax l)],.bool R]) []
  refine AP.ofA ?_
  refine Zan Tryz.func95 rfl Tryz.ntmps95 rfl rfl ?_
  repeat'(first|(apply Zaa (hL);kernel_rfl;(iterate 4 exact Z))|(apply Zaa (hR);kernel_rfl;(iterate 4 exact Z))|(apply Zaj Zab;exact Z)|(apply Zah Zab;exact Z)|(apply Zac;exact Z;exact Go.ZrJ))
  all_goals(apply Zaw [];(apply Zad Zab;exact Z);(iterate 4 exact Z))
  all_goals rfl
 | s+1,hs=>
  have hs':s+1=1\/s+1=2:=by omega
  have hwz:=ZlL hs' hws hl
  have hszz:ZbL (ZaR (s+1) l)<=1000:=by
   have h:∀(l r:List It),Zbg (l++r)=Zbg l+Zbg r:=fun l r=>by
    induction l with
    | nil=>simp[Zbg]
    | cons x l ih=>rw[List.cons_append,Zbg,ih,Zbg];omega
   unfold ZaR
   simp only[ZbL,h,Zbg]
   omega
  have hR:=ZdB (ZaR (s+1) l) hwz hszz
  have hW1:=ZjX l (by omega) (List.replicate (2*(s+1)) (.int .u8 0))
  have eZ:itD (ZaR (s+1) l)=.agg [.int .i64 4,.int .u64 0,.sl .ext [],.sl .ext (Zax l++[.agg [.int .i64 2,.int .u64 0,.sl (List.replicate (2*(s+1)) (.int .u8 0)),.sl []]])]:=by
   unfold ZaR
   show D.agg [.int .i64 4,.int .u64 0,.sl .ext [],.sl .ext (Zax (l++[.mk 2 0 (List.replicate (2*(s+1)) 0) []]))]=_
   rw[Zb4]
   have:(List.replicate (2*(s+1)) (0:UInt8)).map E.byte=List.replicate (2*(s+1)) (.int .u8 0):=by rw[List.map_replicate];rfl
   show D.agg [.int .i64 4,.int .u64 0,.sl .ext [],.sl .ext (Zax l++[.agg [.int .i64 2,.int .u64 0,.sl ((List.replicate (2*(s+1)) (0:UInt8)).map E.byte),.sl []]])]=_
   rw[this]
  rw[eZ]at hR
  dsimp only
  cases hr:ZaC (ZaR (s+1) l) with
  | false=>
   rw[hr]at hR
   clear hszz hwz hlim eZ hr
   generalize Zax l=L at *
   obtain rfl|rfl:s=0\/s=1:=by omega
   all_goals
    refine AP.ofA ?_
    refine Zan Tryz.func95 rfl Tryz.ntmps95 rfl rfl ?_
    repeat'(first|(apply ZcR Zab (l:=2);(iterate 12 exact Z))|(apply ZcR Zab (l:=4);(iterate 12 exact Z))|(apply Zaa (hW1);kernel_rfl;(iterate 4 exact Z))|(apply Zaa (hR);kernel_rfl;(iterate 4 exact Z))|(apply Zaj Zab;exact Z)|(apply Zah Zab;exact Z)|(apply Zav Zab;exact Z)|(apply Zac;exact Z;exact Go.ZrJ)|(apply Zaf;exact Z;exact Go.ZrJ))
    all_goals(apply Zaw [];(apply Zad Zab;exact Z);(iterate 4 exact Z))
    all_goals rfl
  | true=>
   rw[hr]at hR
   have hf:ZbQ (ZaR (s+1) l)=true:=by
    have:=hr
    rw[Zb2]at this
    simp only[Bool.and_eq_true]at this
    exact this.2.2
   have hP:=ZhN (ZaR (s+1) l) hwz hf (by omega)
   rw[eZ]at hP
   have hSh:=Zl5 (Za9 (ZaR (s+1) l)) (by omega)
   have hLo:=Znm (Za9 (ZaR (s+1) l)) (by omega)
   have eO:itD (Zfc (s+1) l)=.agg [.int .i64 4,.int .u64 0,.sl .ext [],.sl .ext (Zax l++[.agg [.int .i64 2,.int .u64 0,.sl ((Ze3 (s+1) (Za9 (ZaR (s+1) l))).map E.byte),.sl []]])]:=by
    unfold Zfc
    show D.agg [.int .i64 4,.int .u64 0,.sl .ext [],.sl .ext (Zax (l++[.mk 2 0 (Ze3 (s+1) (Za9 (ZaR (s+1) l))) []]))]=_
    rw[Zb4]
    rfl
   dsimp only
   rw[eO]
   have hW2:=ZjX l (by omega) ((Ze3 (s+1) (Za9 (ZaR (s+1) l))).map E.byte)
   generalize Za9 (ZaR (s+1) l)=P at *
   clear hszz hwz hlim eZ hr hf eO
   obtain⟨z1,hz1,es1,ec1⟩:=ZoN P
   obtain⟨z2,hz2,es2,ec2⟩:=ZoO P
   rw[es1]at hSh
   rw[es2]at hLo
   have w1:IntKind.u32.wrap (z1:Int)=(z1:Int):=IntWalk.u32_in _ (by omega)
   generalize Zax l=L at *
   obtain rfl|rfl:s=0\/s=1:=by omega
   ·rw[show(0+1:Nat)=1 from rfl,<- ec1]at hW2 ⊢
    have r0:=Zgx z1
    have q0:=Zgy z1 (by omega)
    have r1:=Zgx (z1/256)
    have q1:=Zgy (z1/256) (by omega)
    refine AP.ofA ?_
    refine Zan Tryz.func95 rfl Tryz.ntmps95 rfl rfl ?_
    repeat'(first|(apply ZcR Zab (l:=2);(iterate 12 exact Z))|(apply Zaa (hW1);kernel_rfl;(iterate 4 exact Z))|(apply Zaa (hW2);kernel_rfl;(iterate 4 exact Z))|(apply Zaa (hR);kernel_rfl;(iterate 4 exact Z))|(apply Zaa (hP);kernel_rfl;(iterate 4 exact Z))|(apply Zaa (hSh);kernel_rfl;(iterate 4 exact Z))|rw[w1]|rw[r0]|rw[q0]|rw[r1]|rw[q1]|refine Zbf 20 ?_|refine Zbs ?_|(apply ZbI Zab;(iterate 11 exact Z);exact Zai rfl;exact Zai rfl;exact List.cons_ne_nil _ _;decide +kernel;decide +kernel;exact Z;exact Z)|(apply Zaj Zab;exact Z)|(apply Zah Zab;exact Z)|(apply Zav Zab;exact Z)|(apply Zac;exact Z;exact Go.ZrJ)|(apply Zaf;exact Z;exact Go.ZrJ)|(apply ZaX Zab;(iterate 12 exact Z))|(apply ZaG Zab;(iterate 6 exact Z))|(apply Zd2;exact Z;exact Z;(first|exact Go.ZrJ|rotate_left);exact Z)|(apply Zd3;exact Z;exact Z;(first|exact Go.ZrJ|rotate_left);exact Z))
    all_goals(apply Zaw [];(apply Zad Zab;exact Z);(iterate 4 exact Z))
    all_goals rfl
   ·rw[show(1+1:Nat)=2 from rfl,<- ec2]at hW2 ⊢
    have r0:=Zgx z2
    have q0:=Zgy z2 (by omega)
    have r1:=Zgx (z2/256)
    have q1:=Zgy (z2/256) (by omega)
    have r2:=Zgx (z2/256/256)
    have q2:=Zgy (z2/256/256) (by omega)
    have r3:=Zgx (z2/256/256/256)
    have q3:=Zgy (z2/256/256/256) (by omega)
    refine AP.ofA ?_
    refine Zan Tryz.func95 rfl Tryz.ntmps95 rfl rfl ?_
    repeat'(first|(apply ZcR Zab (l:=4);(iterate 12 exact Z))|(apply Zaa (hW1);kernel_rfl;(iterate 4 exact Z))|(apply Zaa (hW2);kernel_rfl;(iterate 4 exact Z))|(apply Zaa (hR);kernel_rfl;(iterate 4 exact Z))|(apply Zaa (hP);kernel_rfl;(iterate 4 exact Z))|(apply Zaa (hSh);kernel_rfl;(iterate 4 exact Z))|(apply Zaa (hLo);kernel_rfl;(iterate 4 exact Z))|rw[w1]|rw[r0]|rw[q0]|rw[r1]|rw[q1]|rw[r2]|rw[q2]|rw[r3]|rw[q3]|refine Zbf 20 ?_|refine Zbs ?_|(apply ZbI Zab;(iterate 11 exact Z);exact Zai rfl;exact Zai rfl;exact List.cons_ne_nil _ _;decide +kernel;decide +kernel;exact Z;exact Z)|(apply Zaj Zab;exact Z)|(apply Zah Zab;exact Z)|(apply Zav Zab;exact Z)|(apply Zac;exact Z;exact Go.ZrJ)|(apply Zaf;exact Z;exact Go.ZrJ)|(apply ZaX Zab;(iterate 12 exact Z))|(apply ZaG Zab;(iterate 6 exact Z))|(apply Zd2;exact Z;exact Z;(first|exact Go.ZrJ|rotate_left);exact Z)|(apply Zd3;exact Z;exact Z;(first|exact Go.ZrJ|rotate_left);exact Z))
    all_goals(apply Zaw [];(apply Zad Zab;exact Z);(iterate 4 exact Z))
    all_goals rfl
theorem Zet:∀(l r:List It),Zbg (l++r)=Zbg l+Zbg r
 | [],r=>by simp[Zbg]
 | x::l,r=>by rw[List.cons_append,Zbg,Zet l r,Zbg];omega
theorem ZdH:∀(l r:List It) (d:Nat),Zb1 (l++r) d=(Zb1 l d&&Zb1 r d)
 | [],r,d=>by simp[Zb1]
 | x::l,r,d=>by rw[List.cons_append,Zb1,ZdH l r d,Zb1,Bool.and_assoc]
theorem Zeu:∀(l r:List It),Zco (l++r)=(Zco l&&Zco r)
 | [],r=>by simp[Zco]
 | x::l,r=>by rw[List.cons_append,Zco,Zeu l r,Zco,Bool.and_assoc]
theorem ZeO (l:List It)(b c:List UInt8):ZaC (.mk 4 0 [] (l++[.mk 2 0 b []]))=ZaC (.mk 4 0 [] (l++[.mk 2 0 c []])):=by
 rw[Zb2,Zb2]
 have o:∀ x:List UInt8,Zc2 4 0 [] (l++[.mk 2 0 x []])=true:=fun x=>by simp[Zc2]
 have h1:ZbK (.mk 4 0 [] (l++[.mk 2 0 b []])) 6=ZbK (.mk 4 0 [] (l++[.mk 2 0 c []])) 6:=by
  rw[ZbK,ZbK,ZdH,ZdH];rfl
 have h2:ZbL (.mk 4 0 [] (l++[.mk 2 0 b []]))=ZbL (.mk 4 0 [] (l++[.mk 2 0 c []])):=by
  rw[ZbL,ZbL,Zet,Zet];rfl
 have h3:ZbQ (.mk 4 0 [] (l++[.mk 2 0 b []]))=ZbQ (.mk 4 0 [] (l++[.mk 2 0 c []])):=by
  rw[ZbQ,ZbQ,o,o,Zeu,Zeu];rfl
 rw[h1,h2,h3]
theorem ZfW {n:Nat}{b:List UInt8}{l:List It}(h:ZaC (.mk 4 n b l)=true):l.all ZaC=true:=by
 rw[Zb2]at h
 simp only[Bool.and_eq_true,decide_eq_true_eq]at h
 obtain⟨h1,h2,h3⟩:=h
 rw[ZbK]at h1
 rw[ZbL]at h2
 rw[ZbQ,Bool.and_eq_true]at h3
 refine List.all_eq_true.2 fun y hy=>?_
 rw[Zb2]
 simp only[Bool.and_eq_true,decide_eq_true_eq]
 have:=ZfL y hy
 exact⟨ZeF y 5 6 (ZdC h1 y hy) (by omega),by omega,ZfM h3.2 y hy⟩
theorem ZgA {l:List It}{b:List UInt8}(h:ZaC (.mk 4 0 [] (l++[.mk 2 0 b []]))=true):l.all ZaC=true:=by
 have:=ZfW h
 rw[List.all_append,Bool.and_eq_true]at this
 exact this.1
def ZoP (l:List It)(a:Int):It × Int:=match decide (a<0)||decide (a ≥ (l.length:Int)) with
 | true=>(z0,1)
 | false=>match decide (ZaQ l a ≥ 0) with
  | false=>(z0,3)
  | true=>match(ZbE l (ZaQ l a).toNat).2 with
   | true=>((ZbE l (ZaQ l a).toNat).1,0)
   | false=>(z0,3)
theorem Zkv {l:List It}{s:Nat}(hs:s=1\/s=2):ZbE l s=match ZaC (ZaR s l) with|true=>(Zfc s l,true)|false=>(z0,false):=by
 rcases hs with rfl|rfl<;>rfl
theorem dS1 (l:List It):ZbE l 1=match ZaC (ZaR 1 l) with|true=>(Zfc 1 l,true)|false=>(z0,false):=rfl
theorem dS2 (l:List It):ZbE l 2=match ZaC (ZaR 2 l) with|true=>(Zfc 2 l,true)|false=>(z0,false):=rfl
theorem ZoQ (l:List It)(a:Int):Zf4 l a=ZoP l a:=by
 unfold Zf4 ZoP
 cases decide (a<0)||decide (a ≥ (l.length:Int)) with
 | true=>rfl
 | false=>
 dsimp only
 rcases Zb5 l a with h|⟨h,_⟩
 ·rw[h,show decide ((-1:Int) ≥ 0)=false from rfl,Bool.and_false]
 rcases h with h|h|h
 ·rw[h,show decide ((0:Int) ≥ 0)=true from rfl,Bool.and_true,show decide ((0:Int)>0)=false from rfl]
  dsimp only[ZbE,Int.toNat_zero]
  cases hr:ZaC (.mk 4 0 [] l) with
  | true=>rw[ZfW hr];first|done|rfl
  | false=>cases l.all ZaC<;>simp[ZbE,hr]
 ·rw[h,show decide ((1:Int) ≥ 0)=true from rfl,Bool.and_true,show decide ((1:Int)>0)=true from rfl]
  show(match l.all ZaC with|false=>(z0,(3:Int))|true=>(match ZaC (ZaR 1 l) with|false=>(z0,3)|true=>match ZaC (Zfc 1 l) with|false=>(z0,3)|true=>(Zfc 1 l,0)))=match(ZbE l 1).2 with|true=>((ZbE l 1).1,0)|false=>(z0,3)
  have ho:ZaC (Zfc 1 l)=ZaC (ZaR 1 l):=ZeO l _ _
  rw[ho,dS1]
  cases hr:ZaC (ZaR 1 l) with
  | true=>rw[show l.all ZaC=true from ZgA hr]
  | false=>cases l.all ZaC<;>rfl
 ·rw[h,show decide ((2:Int) ≥ 0)=true from rfl,Bool.and_true,show decide ((2:Int)>0)=true from rfl]
  show(match l.all ZaC with|false=>(z0,(3:Int))|true=>(match ZaC (ZaR 2 l) with|false=>(z0,3)|true=>match ZaC (Zfc 2 l) with|false=>(z0,3)|true=>(Zfc 2 l,0)))=match(ZbE l 2).2 with|true=>((ZbE l 2).1,0)|false=>(z0,3)
  have ho:ZaC (Zfc 2 l)=ZaC (ZaR 2 l):=ZeO l _ _
  rw[ho,dS2]
  cases hr:ZaC (ZaR 2 l) with
  | true=>rw[show l.all ZaC=true from ZgA hr]
  | false=>cases l.all ZaC<;>rfl
def Zkw (x:It)(a:Int):List It × Int:=match x with
 | .mk k n b l=>match ZaC (.mk k n b l)&&(k==4&&decide (ZaQ l a ≥ 0)) with
  | false=>([],3)
  | true=>match ZaQ l a==0 with
   | true=>(l,0)
   | false=>match l[l.length-1]? with
    | none=>([],3)
    | some (.mk k1 n1 b1 l1)=>match decide (((l.length-1:Nat):Int)<=a)||(k1 != 2||((b1.length:Int) != ((2*(ZaQ l a).toNat:Nat):Int))) with
     | true=>([],3)
     | false=>match(ZbE (l.take (l.length-1)) (ZaQ l a).toNat).2&&It.beq (.mk k n b l) (ZbE (l.take (l.length-1)) (ZaQ l a).toNat).1 with
      | false=>([],10)
      | true=>(l.take (l.length-1),0)
theorem Znp {n:Nat}{b:List UInt8}{l:List It}(h:ZaC (.mk 4 n b l)=true):n=0/\b=[]:=by
 rw[Zb2]at h
 simp only[Bool.and_eq_true,decide_eq_true_eq]at h
 have h3:=h.2.2
 rw[ZbQ,Bool.and_eq_true]at h3
 simpa[Zc2]using h3.1
theorem Zh0 {n:Nat}{b:List UInt8}{l:List It}(h:ZaC (.mk 2 n b l)=true):n=0/\l=[]:=by
 rw[Zb2]at h
 simp only[Bool.and_eq_true,decide_eq_true_eq]at h
 have h3:=h.2.2
 rw[ZbQ,Bool.and_eq_true]at h3
 simpa[Zc2]using h3.1
theorem Zl6 (x:It)(a:Int):ZdX x a=Zkw x a:=by
 obtain⟨k,n,b,l⟩:=x
 unfold ZdX Zkw
 dsimp only
 cases hr:ZaC (.mk k n b l) with
 | false=>simp
 | true=>
 cases hk:(k==4) with
 | false=>simp
 | true=>
 have hk4:k=4:=by simpa using hk
 subst hk4
 obtain⟨rfl,rfl⟩:=Znp hr
 simp only[Bool.and_self,Bool.true_and]
 rcases Zb5 l a with h|⟨h,h0,hal⟩
 ·have hge:decide (ZaQ l a ≥ 0)=false:=decide_eq_false (by omega)
  have hlt:decide (ZaQ l a<0)=true:=decide_eq_true (by omega)
  rw[hge,hlt]
 have hge:decide (ZaQ l a ≥ 0)=true:=decide_eq_true (by omega)
 have hlt:decide (ZaQ l a<0)=false:=decide_eq_false (by omega)
 rw[hge,hlt]
 dsimp only
 cases ht:(ZaQ l a==0) with
 | true=>rfl
 | false=>
 have hs:(ZaQ l a).toNat=1\/(ZaQ l a).toNat=2:=by
  have:ZaQ l a ≠ 0:=by simpa using ht
  omega
 dsimp only
 cases hlast:l[l.length-1]? with
 | none=>rfl
 | some y=>
 obtain⟨k1,n1,b1,l1⟩:=y
 dsimp only
 have hmem:=List.mem_of_getElem? hlast
 have hall:=ZfW hr
 have hry:=List.all_eq_true.1 hall _ hmem
 have hkk:(!(It.beq (.mk k1 n1 b1 l1) (.mk 2 0 b1 [])))=(k1 != 2):=by
  cases h2:(k1 != 2) with
  | true=>
   have h2:k1 ≠ 2:=by simpa using h2
   cases hb:It.beq (.mk k1 n1 b1 l1) (.mk 2 0 b1 []) with
   | false=>rfl
   | true=>
    have:=It.beq_iff.1 hb
    injection this with e
    exact absurd e h2
  | false=>
   have h2:k1=2:=by simpa using h2
   subst h2
   obtain⟨rfl,rfl⟩:=Zh0 hry
   rw[It.beq_iff.2 rfl]
   rfl
 rw[hkk]
 cases hc:(decide (((l.length-1:Nat):Int)<=a)||(k1 != 2||((b1.length:Int) != ((2*(ZaQ l a).toNat:Nat):Int)))) with
 | true=>rfl
 | false=>
 dsimp only
 simp only[Bool.or_eq_false_iff]at hc
 have h2:k1=2:=by simpa using hc.2.1
 subst h2
 obtain⟨rfl,rfl⟩:=Zh0 hry
 have hl:l=l.take (l.length-1)++[.mk 2 0 b1 []]:=by
  have hlt:=(List.getElem?_eq_some_iff.1 hlast).1
  have he:=(List.getElem?_eq_some_iff.1 hlast).2
  rw[<- he]
  have:=List.take_append_getElem (i:=l.length-1) hlt
  rw[show l.length-1+1=l.length from by omega,List.take_length]at this
  exact this.symm
 have hz:ZaC (ZaR (ZaQ l a).toNat (l.take (l.length-1)))=true:=by
  have:=hr
  rw[hl]at this
  exact(ZeO (l.take (l.length-1)) _ _).trans this
 rw[Zkv hs,hz]
 dsimp only
 have hb:(Ze3 (ZaQ l a).toNat (Za9 (ZaR (ZaQ l a).toNat (l.take (l.length-1))))==b1)=It.beq (.mk 4 0 [] l) (Zfc (ZaQ l a).toNat (l.take (l.length-1))):=by
  rw[Bool.eq_iff_iff,beq_iff_eq,It.beq_iff]
  unfold Zfc
  constructor
  ·intro h
   rw[h,<- hl]
  ·intro h
   injection h with _ _ _ h
   rw[hl]at h
   rw[<- hl]at h
   have h3:=(List.append_inj' (hl.symm.trans h) rfl).2
   injection h3 with h3
   injection h3 with _ _ h3
   exact h3.symm
 rw[hb,Bool.true_and]
 cases It.beq (.mk 4 0 [] l) (Zfc (ZaQ l a).toNat (l.take (l.length-1)))<;>rfl
end Go.Proofs.YtakblclkflnnpaaGreatDoor
end
section
open Go.RowKit Go.Pl
namespace Go.Av
section
variable {P:Program} {Q:X->St->Prop} {n:Nat} {ee:Nat × Nat} {tm:List (Nat × D)} {bx bx':List (List D)} {fr fr':List Fr} {b0:Bs} {g:G} {w:World} {a:Act} {T:Tab}
variable {ops:Array Oper} {rest:List Oper} {t ty:Nat} {pos:String} {after:Array Edge}
end
end Go.Av
end
section
open Go.RowKit Go.Pl Go.Av
namespace Go.Proofs.YtakblclkflnnpaaGreatDoor
set_option maxHeartbeats 4000000
theorem ZgB:∀(l:List It) (m:Nat),Zbg (l.take m)<=Zbg l
 | _,0=>by simp[Zbg]
 | [],m+1=>by simp[Zbg]
 | x::l,m+1=>by rw[List.take_succ_cons,Zbg,Zbg];have:=ZgB l m;omega
theorem ZjY {l:List It}{s:Nat}(hs:s<=2)(hws:wfs l)(hl:l.length<=1000000):wfI (ZbE l s).1:=by
 match s,hs with
 | 0,_=>exact⟨by show(0:Nat)<_;decide,by show([]:List UInt8).length<=_;simp,by show l.length<=_;omega,hws⟩
 | s+1,hs=>
  unfold ZbE
  dsimp only
  cases ZaC (ZaR (s+1) l) with
  | false=>exact⟨by decide,by simp,by simp,trivial⟩
  | true=>exact ZnJ (by omega) hws hl
theorem Zl7 [Known][KnownU8](x:It)(a:Int)(hw:wfI x)(hxl:x.l.length<=1000000)(hsz:Zbg x.l<=900)(hlim:∀ s m,s<=2->(Za9 (ZaR s (x.l.take m))).length<=1000000000):AP Tryz.prog 89 [itD x,.int .i64 a] (ZpB (Zkw x a)) []:=by
 obtain⟨k,n,b,l⟩:=x
 dsimp only[It.l]at hxl hsz hlim
 have hws:wfs l:=hw.2.2.2
 have hR:=ZdB (.mk k n b l) hw (by rw[ZbL];omega)
 have hK:=Zno l hws (by omega) a
 have hlen:=Zar l
 have hU:=Zb8 l
 unfold Zkw
 dsimp only
 cases hr:ZaC (.mk k n b l) with
 | false=>
  rw[hr]at hR
  refine AP.ofA ?_
  refine Zan Tryz.func89 rfl Tryz.ntmps89 rfl rfl ?_
  repeat'(first|(apply Zaa (hR);kernel_rfl;(iterate 4 exact Z))|(apply Zaj Zab;exact Z)|(apply Zah Zab;exact Z)|(apply Zav Zab;exact Z)|(apply Zal;(iterate 3 exact Z);exact Go.ZrJ)|(apply Zak;exact Z;exact Go.ZrJ;exact Z;exact Z)|(apply Zac;exact Z;exact Go.ZrJ))
  all_goals(apply Zaw [];(apply Zad Zab;exact Z);(iterate 4 exact Z))
  all_goals rfl
 | true=>
 rw[hr]at hR
 cases tk:(k==4) with
 | false=>
  have tk':(k != 4)=true:=by rw[bne,tk];rfl
  refine AP.ofA ?_
  refine Zan Tryz.func89 rfl Tryz.ntmps89 rfl rfl ?_
  repeat'(first|(apply Zaa (hR);kernel_rfl;(iterate 4 exact Z))|(apply Zaj Zab;exact Z)|(apply Zah Zab;exact Z)|(apply Zav Zab;exact Z)|(apply Zae;(iterate 3 exact Z);exact Go.ZrJ)|(apply Zal;(iterate 3 exact Z);exact Go.ZrJ)|(apply Zak;exact Z;exact Go.ZrJ;exact Z;exact Z)|(apply Zag;exact Z;exact Go.ZrJ;exact Z;exact Z)|(apply Zac;exact Z;exact Go.ZrJ))
  all_goals(apply Zaw [];(apply Zad Zab;exact Z);(iterate 4 exact Z))
  all_goals rfl
 | true=>
 have tk':(k != 4)=false:=by rw[bne,tk];rfl
 cases t1:decide (ZaQ l a ≥ 0) with
 | false=>
  have t1':decide (ZaQ l a<0)=true:=decide_eq_true (by have:=of_decide_eq_false t1;omega)
  generalize ZaQ l a=T at *
  refine AP.ofA ?_
  refine Zan Tryz.func89 rfl Tryz.ntmps89 rfl rfl ?_
  repeat'(first|(apply Zaa (hR);kernel_rfl;(iterate 4 exact Z))|(apply Zaa (hK);kernel_rfl;(iterate 4 exact Z))|(apply Zaj Zab;exact Z)|(apply Zah Zab;exact Z)|(apply Zav Zab;exact Z)|(apply Zae;(iterate 3 exact Z);exact Go.ZrJ)|(apply Zag;exact Z;exact Go.ZrJ;exact Z;exact Z)|(apply Zac;exact Z;exact Go.ZrJ))
  all_goals(apply Zaw [];(apply Zad Zab;exact Z);(iterate 4 exact Z))
  all_goals rfl
 | true=>
 have t1':decide (ZaQ l a<0)=false:=decide_eq_false (by have:=of_decide_eq_true t1;omega)
 cases t2:(ZaQ l a==0) with
 | true=>
  generalize ZaQ l a=T at *
  refine AP.ofA ?_
  refine Zan Tryz.func89 rfl Tryz.ntmps89 rfl rfl ?_
  repeat'(first|(apply Zaa (hR);kernel_rfl;(iterate 4 exact Z))|(apply Zaa (hK);kernel_rfl;(iterate 4 exact Z))|(apply Zaj Zab;exact Z)|(apply Zah Zab;exact Z)|(apply Zav Zab;exact Z)|(apply Zae;(iterate 3 exact Z);exact Go.ZrJ)|(apply Zag;exact Z;exact Go.ZrJ;exact Z;exact Z)|(apply Zac;exact Z;exact Go.ZrJ)|(apply Zaf;exact Z;exact Go.ZrJ))
  all_goals(apply Zaw [];(apply Zad Zab;exact Z);(iterate 4 exact Z))
  all_goals rfl
 | false=>
 have hT:=Zb5 l a
 have hs:∃ s:Nat,ZaQ l a=(s:Int)/\s<=2/\0<=a/\a<(l.length:Int):=by
  have h0:=of_decide_eq_true t1
  rcases hT with h|⟨h,h1,h2⟩
  ·omega
  ·exact⟨(ZaQ l a).toNat,by omega,by omega,h1,h2⟩
 obtain⟨s,es,hs2,h0,hal⟩:=hs
 rw[es]at hK t1' t2 ⊢
 rw[Int.toNat_natCast]
 clear hT t1 es
 have e1:IntKind.i64.wrap (((Zax l).length:Int)-1)=((l.length-1:Nat):Int):=by rw[IntWalk.i64_in _ (by omega)];omega
 have e2:IntKind.i64.wrap (2*(s:Int))=((2*s:Nat):Int):=by rw[IntWalk.i64_in _ (by omega)];omega
 obtain⟨y,hy⟩:∃ y,l[l.length-1]?=some y:=⟨_,List.getElem?_eq_getElem (by omega)⟩
 rw[hy]
 obtain⟨k1,n1,b1,l1⟩:=y
 have hv:(Zax l)[((l.length-1:Nat):Int).toNat]?=some (.agg [.int .i64 k1,.int .u64 (n1:Int),.sl (b1.map E.byte),.sl (Zax l1)]):=by
  rw[Int.toNat_natCast,ZaI,List.getElem?_map,hy]
  rfl
 have hp0:(0:Int)<=((l.length-1:Nat):Int):=Int.natCast_nonneg _
 dsimp only
 have hbl:(b1.length:Int)=((b1.map E.byte).length:Int):=by rw[List.length_map]
 rw[hbl]
 cases t3:decide (((l.length-1:Nat):Int)<=a) with
 | true=>
  refine AP.ofA ?_
  refine Zan Tryz.func89 rfl Tryz.ntmps89 rfl rfl ?_
  repeat'(first|(apply Zaa (hR);kernel_rfl;(iterate 4 exact Z))|(apply Zaa (hK);kernel_rfl;(iterate 4 exact Z))|rw[e1]|(apply Zaj Zab;exact Z)|(apply Zah Zab;exact Z)|(apply Zav Zab;exact Z)|(apply Zae;(iterate 3 exact Z);exact Go.ZrJ)|(apply Zal;(iterate 3 exact Z);exact Go.ZrJ)|(apply Zak;exact Z;exact Go.ZrJ;exact Z;exact Z)|(apply Zag;exact Z;exact Go.ZrJ;exact Z;exact Z)|(apply Zac;exact Z;exact Go.ZrJ)|(apply Zaf;exact Z;exact Go.ZrJ)|(apply Zam Zab;(iterate 4 exact Z)))
  all_goals(apply Zaw [];(apply Zad Zab;exact Z);(iterate 4 exact Z))
  all_goals rfl
 | false=>
 cases t4:(k1 != 2) with
 | true=>
  refine AP.ofA ?_
  refine Zan Tryz.func89 rfl Tryz.ntmps89 rfl rfl ?_
  repeat'(first|(apply Zaa (hR);kernel_rfl;(iterate 4 exact Z))|(apply Zaa (hK);kernel_rfl;(iterate 4 exact Z))|rw[e1]|(apply Zaj Zab;exact Z)|(apply Zah Zab;exact Z)|(apply Zav Zab;exact Z)|(apply Zae;(iterate 3 exact Z);exact Go.ZrJ)|(apply Zal;(iterate 3 exact Z);exact Go.ZrJ)|(apply Zak;exact Z;exact Go.ZrJ;exact Z;exact Z)|(apply Zag;exact Z;exact Go.ZrJ;exact Z;exact Z)|(apply Zac;exact Z;exact Go.ZrJ)|(apply Zaf;exact Z;exact Go.ZrJ)|(apply Zam Zab;(iterate 4 exact Z))|(apply Zau Zab;(iterate 6 exact Z);(first|exact Go.ZrJ|rotate_left);(first|with_reducible assumption|decide +kernel|exact Z);(first|exact Zai rfl|with_reducible assumption|decide +kernel|rotate_left)))
  all_goals(apply Zaw [];(apply Zad Zab;exact Z);(iterate 4 exact Z))
  all_goals rfl
 | false=>
 cases t5:(((b1.map E.byte).length:Int) != ((2*s:Nat):Int)) with
 | true=>
  refine AP.ofA ?_
  refine Zan Tryz.func89 rfl Tryz.ntmps89 rfl rfl ?_
  repeat'(first|(apply Zaa (hR);kernel_rfl;(iterate 4 exact Z))|(apply Zaa (hK);kernel_rfl;(iterate 4 exact Z))|rw[e1]|rw[e2]|(apply Zaj Zab;exact Z)|(apply Zah Zab;exact Z)|(apply Zav Zab;exact Z)|(apply Zae;(iterate 3 exact Z);exact Go.ZrJ)|(apply Zag;exact Z;exact Go.ZrJ;exact Z;exact Z)|(apply Zac;exact Z;exact Go.ZrJ)|(apply Zaf;exact Z;exact Go.ZrJ)|(apply Zam Zab;(iterate 4 exact Z))|(apply Zau Zab;(iterate 6 exact Z);(first|exact Go.ZrJ|rotate_left);(first|with_reducible assumption|decide +kernel|exact Z);(first|exact Zai rfl|with_reducible assumption|decide +kernel|rotate_left)))
  all_goals(apply Zaw [];(apply Zad Zab;exact Z);(iterate 4 exact Z))
  all_goals rfl
 | false=>
 have hS:=Zgz (l.take (l.length-1)) s hs2 (Zel _ hws) (by rw[List.length_take];omega) (by have:=ZgB l (l.length-1);omega) (hlim s (l.length-1) hs2)
 have hwS:wfI (ZbE (l.take (l.length-1)) s).1:=ZjY hs2 (Zel _ hws) (by rw[List.length_take];omega)
 have hM:=ZbJ (.mk k n b l) hw _ hwS
 have hI:(Zax l).take ((l.length-1:Nat):Int).toNat=Zax (l.take (l.length-1)):=by rw[Int.toNat_natCast,ZaI,ZaI,List.map_take]
 have hle:((l.length-1:Nat):Int).toNat<=(Zax l).length:=by rw[Int.toNat_natCast];omega
 generalize ZbE (l.take (l.length-1)) s=S at *
 obtain⟨⟨k3,n3,b3,l3⟩,ok⟩:=S
 dsimp only at hS hM ⊢
 cases ok with
 | false=>
  refine AP.ofA ?_
  refine Zan Tryz.func89 rfl Tryz.ntmps89 rfl rfl ?_
  repeat'(first|(apply Zaa (hR);kernel_rfl;(iterate 4 exact Z))|(apply Zaa (hK);kernel_rfl;(iterate 4 exact Z))|(apply Zaa (hS);kernel_rfl;(iterate 4 exact Z))|rw[e1]|rw[e2]|(apply ZdL Zab;(iterate 6 exact Z);exact hU;exact Int.natCast_nonneg _;exact hle;exact hI)|(apply Zaj Zab;exact Z)|(apply Zah Zab;exact Z)|(apply Zav Zab;exact Z)|(apply Zae;(iterate 3 exact Z);exact Go.ZrJ)|(apply Zal;(iterate 3 exact Z);exact Go.ZrJ)|(apply Zak;exact Z;exact Go.ZrJ;exact Z;exact Z)|(apply Zag;exact Z;exact Go.ZrJ;exact Z;exact Z)|(apply Zac;exact Z;exact Go.ZrJ)|(apply Zaf;exact Z;exact Go.ZrJ)|(apply Zam Zab;(iterate 4 exact Z))|(apply Zau Zab;(iterate 6 exact Z);(first|exact Go.ZrJ|rotate_left);(first|with_reducible assumption|decide +kernel|exact Z);(first|exact Zai rfl|with_reducible assumption|decide +kernel|rotate_left)))
  all_goals(apply Zaw [];(apply Zad Zab;exact Z);(iterate 4 exact Z))
  all_goals rfl
 | true=>
 cases t6:It.beq (.mk k n b l) (.mk k3 n3 b3 l3) with
 | false=>
  rw[t6]at hM
  refine AP.ofA ?_
  refine Zan Tryz.func89 rfl Tryz.ntmps89 rfl rfl ?_
  repeat'(first|(apply Zaa (hR);kernel_rfl;(iterate 4 exact Z))|(apply Zaa (hK);kernel_rfl;(iterate 4 exact Z))|(apply Zaa (hS);kernel_rfl;(iterate 4 exact Z))|(apply Zaa (hM);kernel_rfl;(iterate 4 exact Z))|rw[e1]|rw[e2]|(apply ZdL Zab;(iterate 6 exact Z);exact hU;exact Int.natCast_nonneg _;exact hle;exact hI)|(apply Zaj Zab;exact Z)|(apply Zah Zab;exact Z)|(apply Zav Zab;exact Z)|(apply Zae;(iterate 3 exact Z);exact Go.ZrJ)|(apply Zag;exact Z;exact Go.ZrJ;exact Z;exact Z)|(apply Zac;exact Z;exact Go.ZrJ)|(apply Zaf;exact Z;exact Go.ZrJ)|(apply Zam Zab;(iterate 4 exact Z))|(apply Zau Zab;(iterate 6 exact Z);(first|exact Go.ZrJ|rotate_left);(first|with_reducible assumption|decide +kernel|exact Z);(first|exact Zai rfl|with_reducible assumption|decide +kernel|rotate_left)))
  all_goals(apply Zaw [];(apply Zad Zab;exact Z);(iterate 4 exact Z))
  all_goals rfl
 | true=>
  rw[t6]at hM
  refine AP.ofA ?_
  refine Zan Tryz.func89 rfl Tryz.ntmps89 rfl rfl ?_
  repeat'(first|(apply Zaa (hR);kernel_rfl;(iterate 4 exact Z))|(apply Zaa (hK);kernel_rfl;(iterate 4 exact Z))|(apply Zaa (hS);kernel_rfl;(iterate 4 exact Z))|(apply Zaa (hM);kernel_rfl;(iterate 4 exact Z))|rw[e1]|rw[e2]|(apply ZdL Zab;(iterate 6 exact Z);exact hU;exact Int.natCast_nonneg _;exact hle;exact hI)|(apply Zaj Zab;exact Z)|(apply Zah Zab;exact Z)|(apply Zav Zab;exact Z)|(apply Zae;(iterate 3 exact Z);exact Go.ZrJ)|(apply Zag;exact Z;exact Go.ZrJ;exact Z;exact Z)|(apply Zaf;exact Z;exact Go.ZrJ)|(apply Zam Zab;(iterate 4 exact Z))|(apply Zau Zab;(iterate 6 exact Z);(first|exact Go.ZrJ|rotate_left);(first|with_reducible assumption|decide +kernel|exact Z);(first|exact Zai rfl|with_reducible assumption|decide +kernel|rotate_left)))
  all_goals(apply Zaw [];(apply Zad Zab;exact Z);(iterate 4 exact Z))
  all_goals rfl
theorem Zl8 {k:Int}{n:Nat}{b:List UInt8}{l:List It}(h:ZaC (.mk k n b l)=true):(k==0)=It.beq (.mk k n b l) (.mk 0 n [] []):=by
 unfold ZaC at h
 cases hw:Zcj (.mk k n b l) 1 256 with
 | none=>rw[hw]at h;cases h
 | some m=>
  obtain⟨h1,h2,h3,h4⟩:=Zcn hw
  cases hk:(k==0) with
  | false=>
   cases hb:It.beq (.mk k n b l) (.mk 0 n [] []) with
   | false=>rfl
   | true=>
    have:=It.beq_iff.1 hb
    injection this with e
    subst e
    simp at hk
  | true=>
   have hk:k=0:=by simpa using hk
   subst hk
   have:b=[]/\l=[]:=by simpa[Zc2]using h3
   rw[this.1,this.2]
   exact(It.beq_iff.2 rfl).symm
def ZqX (d:List UInt8):Nat:=match(ZiA d).2 with
 | true=>(ZiA d).1
 | false=>0
theorem ZeP (d:List UInt8)(hd:d.length<=100000):(Zcf d=false/\ZhX d=.mk 0 0 [] [])\/(Zcf d=true/\ZhX d=(Zbu d 0).1/\ZaC (Zbu d 0).1=true/\wfI (Zbu d 0).1):=by
 unfold ZhX
 rcases ZdD d (by omega) with⟨e,he,h,hs⟩ | ⟨y,m,h,hw,hr,_⟩
 ·rw[hs];exact .inl ⟨rfl,rfl⟩
 ·rw[h]
  cases Zcf d with
  | false=>exact .inl ⟨rfl,rfl⟩
  | true=>exact .inr ⟨rfl,rfl,hr,hw⟩
theorem ZoR [Known][KnownU8](d:List UInt8)(hd:d.length<=100000):AP Tryz.prog 39 [byE d] (.tup [.int .u64 (ZqX d:Int),.bool (ZiA d).2]) []:=by
 have hI:=Zg2 d hd
 unfold ZqX ZiA
 rcases ZeP d hd with⟨hs,hi⟩ | ⟨hs,hi,hr,hw⟩
 ·rw[hs,hi]at hI
  rw[hs]
  replace hI:AP Tryz.prog _ _ (.tup [.agg [.int .i64 0,.int .u64 0,.sl .ext [],.sl .ext []],.bool false]) []:=hI
  refine AP.ofA ?_
  refine Zan Tryz.func39 rfl Tryz.ntmps39 rfl rfl ?_
  repeat'(first|(apply Zaa (hI);kernel_rfl;(iterate 4 exact Z))|(apply Zaj Zab;exact Z)|(apply Zah Zab;exact Z)|(apply Zav Zab;exact Z)|(apply Zal;(iterate 3 exact Z);exact Go.ZrJ)|(apply Zak;exact Z;exact Go.ZrJ;exact Z;exact Z)|(apply Zac;exact Z;exact Go.ZrJ))
  all_goals(apply Zaw [];(apply Zad Zab;exact Z);(iterate 4 exact Z))
  all_goals rfl
 ·rw[hs,hi]at hI
  rw[hs]
  generalize (Zbu d 0).1=y at *
  obtain⟨k,n,b,l⟩:=y
  dsimp only
  rw[show(It.mk k n b l).n=n from rfl,<- Zl8 hr]
  replace hI:AP Tryz.prog _ _ (.tup [.agg (itC k n b l),.bool true]) []:=hI
  cases t1:(k==0) with
  | false=>
   have t1':(k != 0)=true:=by rw[bne,t1];rfl
   refine AP.ofA ?_
   refine Zan Tryz.func39 rfl Tryz.ntmps39 rfl rfl ?_
   repeat'(first|(apply Zaa (hI);kernel_rfl;(iterate 4 exact Z))|(apply Zaj Zab;exact Z)|(apply Zah Zab;exact Z)|(apply Zav Zab;exact Z)|(apply Zae;(iterate 3 exact Z);exact Go.ZrJ)|(apply Zal;(iterate 3 exact Z);exact Go.ZrJ)|(apply Zak;exact Z;exact Go.ZrJ;exact Z;exact Z)|(apply Zag;exact Z;exact Go.ZrJ;exact Z;exact Z)|(apply Zac;exact Z;exact Go.ZrJ))
   all_goals(apply Zaw [];(apply Zad Zab;exact Z);(iterate 4 exact Z))
   all_goals rfl
  | true=>
   have t1':(k != 0)=false:=by rw[bne,t1];rfl
   rcases Nat.lt_or_ge 1099511627776 n with h|h
   ·have t2:decide ((n:Int)<=1099511627776)=false:=decide_eq_false (by omega)
    have t3:decide ((n:Int)>1099511627776)=true:=decide_eq_true (by omega)
    rw[t2]
    refine AP.ofA ?_
    refine Zan Tryz.func39 rfl Tryz.ntmps39 rfl rfl ?_
    repeat'(first|(apply Zaa (hI);kernel_rfl;(iterate 4 exact Z))|(apply Zaj Zab;exact Z)|(apply Zah Zab;exact Z)|(apply Zav Zab;exact Z)|(apply Zae;(iterate 3 exact Z);exact Go.ZrJ)|(apply Zag;exact Z;exact Go.ZrJ;exact Z;exact Z)|(apply Zac;exact Z;exact Go.ZrJ))
    all_goals(apply Zaw [];(apply Zad Zab;exact Z);(iterate 4 exact Z))
    all_goals rfl
   ·have t2:decide ((n:Int)<=1099511627776)=true:=decide_eq_true (by omega)
    have t3:decide ((n:Int)>1099511627776)=false:=decide_eq_false (by omega)
    rw[t2]
    refine AP.ofA ?_
    refine Zan Tryz.func39 rfl Tryz.ntmps39 rfl rfl ?_
    repeat'(first|(apply Zaa (hI);kernel_rfl;(iterate 4 exact Z))|(apply Zaj Zab;exact Z)|(apply Zah Zab;exact Z)|(apply Zav Zab;exact Z)|(apply Zae;(iterate 3 exact Z);exact Go.ZrJ)|(apply Zag;exact Z;exact Go.ZrJ;exact Z;exact Z)|(apply Zaf;exact Z;exact Go.ZrJ))
    all_goals(apply Zaw [];(apply Zad Zab;exact Z);(iterate 4 exact Z))
    all_goals rfl
theorem Znq [Known](n m:Nat):AP Tryz.prog 107 [.int .u64 (n:Int),.int .u64 (m:Int)] (itD (.mk 4 0 [] [.mk 0 n [] [],.mk 0 m [] []])) []:=by
 refine AP.ofA ?_
 refine Zan Tryz.func107 rfl Tryz.ntmps107 rfl rfl ?_
 repeat'(first|(apply Zaj Zab;exact Z)|(apply Zah Zab;exact Z)|(apply ZaX Zab;(iterate 12 exact Z)))
 all_goals(apply Zaw [];(apply Zad Zab;exact Z);(iterate 4 exact Z))
 all_goals rfl
def ZoS (d:List UInt8):EidV:=match(Zf6 d).2 with
 | true=>(Zf6 d).1
 | false=>ZdR
theorem Znr [Known][KnownU8](d:List UInt8)(hd:d.length<=100000):AP Tryz.prog 38 [byE d] (.tup [.agg (eC (ZoS d)),.bool (Zf6 d).2]) []:=by
 have hI:=Zg2 d hd
 unfold ZoS Zf6
 rcases ZeP d hd with⟨hs,hi⟩ | ⟨hs,hi,hr,hw⟩
 ·rw[hs,hi]at hI
  rw[hs]
  replace hI:AP Tryz.prog _ _ (.tup [.agg [.int .i64 0,.int .u64 0,.sl .ext [],.sl .ext []],.bool false]) []:=hI
  refine AP.ofA ?_
  refine Zan Tryz.func38 rfl Tryz.ntmps38 rfl rfl ?_
  repeat'(first|(apply Zaa (hI);kernel_rfl;(iterate 4 exact Z))|(apply Zaj Zab;exact Z)|(apply Zah Zab;exact Z)|(apply Zav Zab;exact Z)|(apply Zac;exact Z;exact Go.ZrJ))
  all_goals(apply Zaw [];(apply Zad Zab;exact Z);(iterate 4 exact Z))
  all_goals rfl
 ·rw[hs,hi]at hI
  rw[hs]
  have hlen:∀ y ∈ (Zbu d 0).1.l,y.b.length<=1099511627000:=by
   rcases ZdD d (by omega) with⟨e,he,h,_⟩ | ⟨y,m,h,_,_,h3,h4⟩
   ·rw[h];simp[It.l]
   ·rw[h]
    obtain⟨k,n,b,l⟩:=y
    intro y hy
    have h1:=ZjT (l:=l) hy
    have h2:=Zqy k n b l
    have h5:=Zrk y
    omega
  have hRR:=ZiM (Zbu d 0).1 hw hlen
  have hRR':AP Tryz.prog 90 [itD (Zbu d 0).1] (.tup [.agg (eC (match(Zbe (Zbu d 0).1).2 with|true=>(Zbe (Zbu d 0).1).1|false=>ZdR)),.bool (Zbe (Zbu d 0).1).2]) []:=by
   unfold ZiL at hRR
   cases h:(Zbe (Zbu d 0).1).2 with
   | true=>rw[h]at hRR;exact hRR
   | false=>rw[h]at hRR;exact hRR
  clear hRR hlen
  rw[Bool.true_and]
  dsimp only
  generalize Zbe (Zbu d 0).1=rv at *
  obtain⟨⟨zi,zn,zs,zh,zd⟩,ok⟩:=rv
  generalize (Zbu d 0).1=y at *
  obtain⟨k,n,b,l⟩:=y
  replace hI:AP Tryz.prog _ _ (.tup [.agg (itC k n b l),.bool true]) []:=hI
  cases ok with
  | false=>
   replace hRR':AP Tryz.prog 90 [.agg (itC k n b l)] (.tup [.agg [.bool false,.int .u64 0,.int .u64 0,.str [],.str []],.bool false]) []:=hRR'
   refine AP.ofA ?_
   refine Zan Tryz.func38 rfl Tryz.ntmps38 rfl rfl ?_
   repeat'(first|(apply Zaa (hI);kernel_rfl;(iterate 4 exact Z))|(apply Zaa (hRR');kernel_rfl;(iterate 4 exact Z))|(apply Zaj Zab;exact Z)|(apply Zah Zab;exact Z)|(apply Zaf;exact Z;exact Go.ZrJ))
   all_goals(apply Zaw [];(apply Zad Zab;exact Z);(iterate 4 exact Z))
   all_goals rfl
  | true=>
   replace hRR':AP Tryz.prog 90 [.agg (itC k n b l)] (.tup [.agg [.bool zi,.int .u64 (zn:Int),.int .u64 (zs:Int),.str zh,.str zd],.bool true]) []:=hRR'
   refine AP.ofA ?_
   refine Zan Tryz.func38 rfl Tryz.ntmps38 rfl rfl ?_
   repeat'(first|(apply Zaa (hI);kernel_rfl;(iterate 4 exact Z))|(apply Zaa (hRR');kernel_rfl;(iterate 4 exact Z))|(apply Zaj Zab;exact Z)|(apply Zah Zab;exact Z)|(apply Zaf;exact Z;exact Go.ZrJ))
   all_goals(apply Zaw [];(apply Zad Zab;exact Z);(iterate 4 exact Z))
   all_goals rfl
end Go.Proofs.YtakblclkflnnpaaGreatDoor
end

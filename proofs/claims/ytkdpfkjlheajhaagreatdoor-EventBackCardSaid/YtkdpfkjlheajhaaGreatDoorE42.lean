/- Package event: an event, read (vegen2.py). -/
import Derived.Test.YtkdpfkjlheajhaaGreatDoorE37
import Derived.Test.YtkdpfkjlheajhaaGreatDoorE38
import Derived.Test.YtkdpfkjlheajhaaGreatDoorE41
import Derived.Test.YtkdpfkjlheajhaaGreatDoorE09
set_option linter.unusedVariables false
set_option linter.unusedSimpArgs false
section
open Go.RowKit Go.Pl Go.Av
namespace Go.Proofs.YtkdpfkjlheajhaaGreatDoor
set_option maxHeartbeats 4000000
def GS:EvV:=⟨0,0,0,0,rq0,[]⟩
abbrev Uo (b:List UInt8):D:=.tup [.agg (evC (match Vu b with|true=>(Yy b).1|false=>GS)),.int .i64 (match Vu b with|true=>0|false=>3)]
theorem YA {b:List UInt8}(h:Vu b=false):Uo b=.tup [.agg (evC GS),.int .i64 3]:=by unfold Uo;rw[h]
theorem Wk {b:List UInt8}(h:Vu b=true):Uo b=.tup [.agg (evC (Yy b).1),.int .i64 0]:=by unfold Uo;rw[h]
theorem DQ {b:List UInt8}{x:EvV}{c:Bool}{s:Rd}(hg:Yy b=(x,c,s))(h:c=false):Vu b=false:=by unfold Vu;rw[hg,h];rfl
theorem IE {b:List UInt8}{x:EvV}{c:Bool}{s:Rd}(hg:Yy b=(x,c,s))(h:(WI s==0)=false):Vu b=false:=by unfold Vu;rw[hg,h];simp
theorem IF {b:List UInt8}{x:EvV}{c:Bool}{s:Rd}(hg:Yy b=(x,c,s))(h:ZY x=false):Vu b=false:=by unfold Vu;rw[hg,h];simp
theorem IG {b:List UInt8}{x:EvV}{s:Rd}(hg:Yy b=(x,true,s))(h1:(WI s==0)=true)(h2:ZY x=true):Vu b=true:=by unfold Vu;rw[hg,h1,h2];rfl
theorem GT {k n:Nat}(h:(((k:Nat):Int)==((n:Nat):Int))=false):(k==n)=false:=by
 rw[beq_eq_false_iff_ne]at h ⊢
 omega
theorem DR [Known][KnownSc][KnownPow][KnownU8](b:List UInt8)(hb:b.length<=3000)(hk:(ZP (ZE (0,b)).2).1=1):AP Tryz.prog 41 [byE b] (Uo b) []:=by
 rcases ha:ZE (0,b) with⟨now,s1⟩
 rw[ha]at hk
 dsimp only at hk
 rcases hk2:ZP s1 with⟨k,s2⟩
 rw[hk2]at hk
 dsimp only at hk
 subst hk
 have h0:=Yq (0,b) (by dsimp only;omega)
 have m0:=Z9 (0,b)
 rw[ha]at h0 m0
 dsimp only at h0 m0
 have h1:=Yk s1 (by omega)
 have m1:=Z3 s1
 have hk3:Yv 1099511627776 s1=(1,s2):=hk2
 rw[hk3]at h1
 rw[hk2]at m1
 dsimp only at h1 m1
 rcases hc0:ZE s2 with⟨tok,s3⟩
 have g0:=Yq s2 (by omega)
 have n0:=Z9 s2
 rw[hc0]at g0 n0
 dsimp only at g0 n0
 have hg:Yy b=((⟨now,1,tok,0,rq0,[]⟩:EvV),true,s3):=by unfold Yy Wj;rw[ha];dsimp only;rw[hk2];dsimp only;simp only[Nat.reduceBEq,Bool.true_or,Bool.or_true,Bool.or_self,Bool.or_false,Bool.false_or,if_true,if_false,Bool.false_eq_true,hc0];rfl
 have hE:=YD s3
 have hdl:((⟨now,1,tok,0,rq0,[]⟩:EvV)).data.length<=3000:=by dsimp only;simp
 have hRt:=Y3 (⟨now,1,tok,0,rq0,[]⟩:EvV) hdl
 cases he:(WI s3==0) with
 | false=>
  rw[YA (IE hg he)]
  exact(Xh b now tok 0 0 0 false 0 0 [] [] false 0 0 [] [] 0 0 0 [] 0 0 false [] [] 0 s1.1 s2.1 s3.1 0 _ b s1.2 s2.2 s3.2 (ZU b (by omega)) h0 h1 g0 hE).1 (Zz he)
 | true=>
  cases hr:ZY (⟨now,1,tok,0,rq0,[]⟩:EvV) with
  | false=>
   rw[hr]at hRt
   rw[YA (IF hg hr)]
   exact(Xh b now tok 0 0 0 false 0 0 [] [] false 0 0 [] [] 0 0 0 [] 0 0 false [] [] 0 s1.1 s2.1 s3.1 0 _ b s1.2 s2.2 s3.2 (ZU b (by omega)) h0 h1 g0 hE).2.1 (Zz he) hRt
  | true=>
   rw[hr]at hRt
   rw[Wk (IG hg he hr),hg]
   exact(Xh b now tok 0 0 0 false 0 0 [] [] false 0 0 [] [] 0 0 0 [] 0 0 false [] [] 0 s1.1 s2.1 s3.1 0 _ b s1.2 s2.2 s3.2 (ZU b (by omega)) h0 h1 g0 hE).2.2 (Zz he) hRt
theorem DS [Known][KnownSc][KnownPow][KnownU8](b:List UInt8)(hb:b.length<=3000)(hk:(ZP (ZE (0,b)).2).1=2):AP Tryz.prog 41 [byE b] (Uo b) []:=by
 rcases ha:ZE (0,b) with⟨now,s1⟩
 rw[ha]at hk
 dsimp only at hk
 rcases hk2:ZP s1 with⟨k,s2⟩
 rw[hk2]at hk
 dsimp only at hk
 subst hk
 have h0:=Yq (0,b) (by dsimp only;omega)
 have m0:=Z9 (0,b)
 rw[ha]at h0 m0
 dsimp only at h0 m0
 have h1:=Yk s1 (by omega)
 have m1:=Z3 s1
 have hk3:Yv 1099511627776 s1=(2,s2):=hk2
 rw[hk3]at h1
 rw[hk2]at m1
 dsimp only at h1 m1
 rcases hc0:ZE s2 with⟨tok,s3⟩
 have g0:=Yq s2 (by omega)
 have n0:=Z9 s2
 rw[hc0]at g0 n0
 dsimp only at g0 n0
 have hg:Yy b=((⟨now,2,tok,0,rq0,[]⟩:EvV),true,s3):=by unfold Yy Wj;rw[ha];dsimp only;rw[hk2];dsimp only;simp only[Nat.reduceBEq,Bool.true_or,Bool.or_true,Bool.or_self,Bool.or_false,Bool.false_or,if_true,if_false,Bool.false_eq_true,hc0];rfl
 have hE:=YD s3
 have hdl:((⟨now,2,tok,0,rq0,[]⟩:EvV)).data.length<=3000:=by dsimp only;simp
 have hRt:=Y3 (⟨now,2,tok,0,rq0,[]⟩:EvV) hdl
 cases he:(WI s3==0) with
 | false=>
  rw[YA (IE hg he)]
  exact(Xi b now tok 0 0 0 false 0 0 [] [] false 0 0 [] [] 0 0 0 [] 0 0 false [] [] 0 s1.1 s2.1 s3.1 0 _ b s1.2 s2.2 s3.2 (ZU b (by omega)) h0 h1 g0 hE).1 (Zz he)
 | true=>
  cases hr:ZY (⟨now,2,tok,0,rq0,[]⟩:EvV) with
  | false=>
   rw[hr]at hRt
   rw[YA (IF hg hr)]
   exact(Xi b now tok 0 0 0 false 0 0 [] [] false 0 0 [] [] 0 0 0 [] 0 0 false [] [] 0 s1.1 s2.1 s3.1 0 _ b s1.2 s2.2 s3.2 (ZU b (by omega)) h0 h1 g0 hE).2.1 (Zz he) hRt
  | true=>
   rw[hr]at hRt
   rw[Wk (IG hg he hr),hg]
   exact(Xi b now tok 0 0 0 false 0 0 [] [] false 0 0 [] [] 0 0 0 [] 0 0 false [] [] 0 s1.1 s2.1 s3.1 0 _ b s1.2 s2.2 s3.2 (ZU b (by omega)) h0 h1 g0 hE).2.2 (Zz he) hRt
theorem DT [Known][KnownSc][KnownPow][KnownU8](b:List UInt8)(hb:b.length<=3000)(hk:(ZP (ZE (0,b)).2).1=3):AP Tryz.prog 41 [byE b] (Uo b) []:=by
 rcases ha:ZE (0,b) with⟨now,s1⟩
 rw[ha]at hk
 dsimp only at hk
 rcases hk2:ZP s1 with⟨k,s2⟩
 rw[hk2]at hk
 dsimp only at hk
 subst hk
 have h0:=Yq (0,b) (by dsimp only;omega)
 have m0:=Z9 (0,b)
 rw[ha]at h0 m0
 dsimp only at h0 m0
 have h1:=Yk s1 (by omega)
 have m1:=Z3 s1
 have hk3:Yv 1099511627776 s1=(3,s2):=hk2
 rw[hk3]at h1
 rw[hk2]at m1
 dsimp only at h1 m1
 rcases hc0:ZP s2 with⟨ses,s3⟩
 have g0:=Yk s2 (by omega)
 have n0:=Z3 s2
 have hi0:Yv 1099511627776 s2=(ses,s3):=hc0
 rw[hi0]at g0
 rw[hc0]at n0
 dsimp only at g0 n0
 have hg:Yy b=((⟨now,3,0,(ses:Int),rq0,[]⟩:EvV),true,s3):=by unfold Yy Wj;rw[ha];dsimp only;rw[hk2];dsimp only;simp only[Nat.reduceBEq,Bool.true_or,Bool.or_true,Bool.or_self,Bool.or_false,Bool.false_or,if_true,if_false,Bool.false_eq_true,hc0];rfl
 have hE:=YD s3
 have hdl:((⟨now,3,0,(ses:Int),rq0,[]⟩:EvV)).data.length<=3000:=by dsimp only;simp
 have hRt:=Y3 (⟨now,3,0,(ses:Int),rq0,[]⟩:EvV) hdl
 cases he:(WI s3==0) with
 | false=>
  rw[YA (IE hg he)]
  exact(Xj b now 0 (ses:Int) 0 0 false 0 0 [] [] false 0 0 [] [] 0 0 0 [] 0 0 false [] [] 0 s1.1 s2.1 s3.1 0 _ b s1.2 s2.2 s3.2 (ZU b (by omega)) h0 h1 g0 hE).1 (Zz he)
 | true=>
  cases hr:ZY (⟨now,3,0,(ses:Int),rq0,[]⟩:EvV) with
  | false=>
   rw[hr]at hRt
   rw[YA (IF hg hr)]
   exact(Xj b now 0 (ses:Int) 0 0 false 0 0 [] [] false 0 0 [] [] 0 0 0 [] 0 0 false [] [] 0 s1.1 s2.1 s3.1 0 _ b s1.2 s2.2 s3.2 (ZU b (by omega)) h0 h1 g0 hE).2.1 (Zz he) hRt
  | true=>
   rw[hr]at hRt
   rw[Wk (IG hg he hr),hg]
   exact(Xj b now 0 (ses:Int) 0 0 false 0 0 [] [] false 0 0 [] [] 0 0 0 [] 0 0 false [] [] 0 s1.1 s2.1 s3.1 0 _ b s1.2 s2.2 s3.2 (ZU b (by omega)) h0 h1 g0 hE).2.2 (Zz he) hRt
theorem DU [Known][KnownSc][KnownPow][KnownU8](b:List UInt8)(hb:b.length<=3000)(hk:(ZP (ZE (0,b)).2).1=4):AP Tryz.prog 41 [byE b] (Uo b) []:=by
 rcases ha:ZE (0,b) with⟨now,s1⟩
 rw[ha]at hk
 dsimp only at hk
 rcases hk2:ZP s1 with⟨k,s2⟩
 rw[hk2]at hk
 dsimp only at hk
 subst hk
 have h0:=Yq (0,b) (by dsimp only;omega)
 have m0:=Z9 (0,b)
 rw[ha]at h0 m0
 dsimp only at h0 m0
 have h1:=Yk s1 (by omega)
 have m1:=Z3 s1
 have hk3:Yv 1099511627776 s1=(4,s2):=hk2
 rw[hk3]at h1
 rw[hk2]at m1
 dsimp only at h1 m1
 rcases hc0:ZP s2 with⟨ses,s3⟩
 have g0:=Yk s2 (by omega)
 have n0:=Z3 s2
 have hi0:Yv 1099511627776 s2=(ses,s3):=hc0
 rw[hi0]at g0
 rw[hc0]at n0
 dsimp only at g0 n0
 rcases hc1:Vc s3 with⟨t,s4⟩
 have g1:=JQ s3 (by omega)
 have n1:=Qz s3
 rw[hc1]at g1 n1
 dsimp only at g1 n1
 have hQ:=HK t (by omega)
 have hg:Yy b=((⟨now,4,0,(ses:Int),(match Uc t with|true=>(Yn t).1|false=>rq0),[]⟩:EvV),Uc t,s4):=by unfold Yy Wj;rw[ha];dsimp only;rw[hk2];dsimp only;simp only[Nat.reduceBEq,Bool.true_or,Bool.or_true,Bool.or_self,Bool.or_false,Bool.false_or,if_true,if_false,Bool.false_eq_true,hc0,hc1];rfl
 have hE:=YD s4
 have hdl:((⟨now,4,0,(ses:Int),(match Uc t with|true=>(Yn t).1|false=>rq0),[]⟩:EvV)).data.length<=3000:=by dsimp only;simp
 have hRt:=Y3 (⟨now,4,0,(ses:Int),(match Uc t with|true=>(Yn t).1|false=>rq0),[]⟩:EvV) hdl
 cases hq:Uc t with
 | false=>
  rw[YA (DQ hg hq)]
  rw[ZW hq]at hQ
  exact(QM b now 0 (ses:Int) 0 0 false 0 0 [] [] false 0 0 [] [] 0 0 0 [] 0 0 false [] t 0 s1.1 s2.1 s3.1 s4.1 3 0 b s1.2 s2.2 s3.2 s4.2 (ZU b (by omega)) h0 h1 g0 g1 hQ).1 rfl
 | true=>
  rw[Wb hq]at hQ
  rw[hq]at hg hRt
  dsimp only at hg hRt
  generalize (Yn t).1=r at *
  obtain⟨id,rk,⟨ei,en,es,eh,ed⟩,⟨di,dn,dq,dh,dd⟩,pol,num,tik,pay,life,rt,on⟩:=r
  cases he:(WI s4==0) with
  | false=>
   rw[YA (IE hg he)]
   exact(QM b now 0 (ses:Int) id rk ei en es eh ed di dn dq dh dd pol num tik pay life rt on [] t 0 s1.1 s2.1 s3.1 s4.1 0 _ b s1.2 s2.2 s3.2 s4.2 (ZU b (by omega)) h0 h1 g0 g1 hQ).2.1 rfl hE (Zz he)
  | true=>
   cases hr:ZY (⟨now,4,0,(ses:Int),⟨id,rk,⟨ei,en,es,eh,ed⟩,⟨di,dn,dq,dh,dd⟩,pol,num,tik,pay,life,rt,on⟩,[]⟩:EvV) with
   | false=>
    rw[hr]at hRt
    rw[YA (IF hg hr)]
    exact(QM b now 0 (ses:Int) id rk ei en es eh ed di dn dq dh dd pol num tik pay life rt on [] t 0 s1.1 s2.1 s3.1 s4.1 0 _ b s1.2 s2.2 s3.2 s4.2 (ZU b (by omega)) h0 h1 g0 g1 hQ).2.2.1 rfl hE (Zz he) hRt
   | true=>
    rw[hr]at hRt
    rw[Wk (IG hg he hr),hg]
    exact(QM b now 0 (ses:Int) id rk ei en es eh ed di dn dq dh dd pol num tik pay life rt on [] t 0 s1.1 s2.1 s3.1 s4.1 0 _ b s1.2 s2.2 s3.2 s4.2 (ZU b (by omega)) h0 h1 g0 g1 hQ).2.2.2 rfl hE (Zz he) hRt
theorem DV [Known][KnownSc][KnownPow][KnownU8](b:List UInt8)(hb:b.length<=3000)(hk:(ZP (ZE (0,b)).2).1=5):AP Tryz.prog 41 [byE b] (Uo b) []:=by
 rcases ha:ZE (0,b) with⟨now,s1⟩
 rw[ha]at hk
 dsimp only at hk
 rcases hk2:ZP s1 with⟨k,s2⟩
 rw[hk2]at hk
 dsimp only at hk
 subst hk
 have h0:=Yq (0,b) (by dsimp only;omega)
 have m0:=Z9 (0,b)
 rw[ha]at h0 m0
 dsimp only at h0 m0
 have h1:=Yk s1 (by omega)
 have m1:=Z3 s1
 have hk3:Yv 1099511627776 s1=(5,s2):=hk2
 rw[hk3]at h1
 rw[hk2]at m1
 dsimp only at h1 m1
 rcases hc0:Vc s2 with⟨t,s3⟩
 have g0:=JQ s2 (by omega)
 have n0:=Qz s2
 rw[hc0]at g0 n0
 dsimp only at g0 n0
 have hg:Yy b=((⟨now,5,0,0,rq0,t⟩:EvV),true,s3):=by unfold Yy Wj;rw[ha];dsimp only;rw[hk2];dsimp only;simp only[Nat.reduceBEq,Bool.true_or,Bool.or_true,Bool.or_self,Bool.or_false,Bool.false_or,if_true,if_false,Bool.false_eq_true,hc0];rfl
 have hE:=YD s3
 have hdl:((⟨now,5,0,0,rq0,t⟩:EvV)).data.length<=3000:=by dsimp only;omega
 have hRt:=Y3 (⟨now,5,0,0,rq0,t⟩:EvV) hdl
 cases he:(WI s3==0) with
 | false=>
  rw[YA (IE hg he)]
  exact(Xk b now 0 0 0 0 false 0 0 [] [] false 0 0 [] [] 0 0 0 [] 0 0 false t [] 0 s1.1 s2.1 s3.1 0 _ b s1.2 s2.2 s3.2 (ZU b (by omega)) h0 h1 g0 hE).1 (Zz he)
 | true=>
  cases hr:ZY (⟨now,5,0,0,rq0,t⟩:EvV) with
  | false=>
   rw[hr]at hRt
   rw[YA (IF hg hr)]
   exact(Xk b now 0 0 0 0 false 0 0 [] [] false 0 0 [] [] 0 0 0 [] 0 0 false t [] 0 s1.1 s2.1 s3.1 0 _ b s1.2 s2.2 s3.2 (ZU b (by omega)) h0 h1 g0 hE).2.1 (Zz he) hRt
  | true=>
   rw[hr]at hRt
   rw[Wk (IG hg he hr),hg]
   exact(Xk b now 0 0 0 0 false 0 0 [] [] false 0 0 [] [] 0 0 0 [] 0 0 false t [] 0 s1.1 s2.1 s3.1 0 _ b s1.2 s2.2 s3.2 (ZU b (by omega)) h0 h1 g0 hE).2.2 (Zz he) hRt
theorem DW [Known][KnownSc][KnownPow][KnownU8](b:List UInt8)(hb:b.length<=3000)(hk:(ZP (ZE (0,b)).2).1=6):AP Tryz.prog 41 [byE b] (Uo b) []:=by
 rcases ha:ZE (0,b) with⟨now,s1⟩
 rw[ha]at hk
 dsimp only at hk
 rcases hk2:ZP s1 with⟨k,s2⟩
 rw[hk2]at hk
 dsimp only at hk
 subst hk
 have h0:=Yq (0,b) (by dsimp only;omega)
 have m0:=Z9 (0,b)
 rw[ha]at h0 m0
 dsimp only at h0 m0
 have h1:=Yk s1 (by omega)
 have m1:=Z3 s1
 have hk3:Yv 1099511627776 s1=(6,s2):=hk2
 rw[hk3]at h1
 rw[hk2]at m1
 dsimp only at h1 m1
 have hg:Yy b=((⟨now,6,0,0,rq0,[]⟩:EvV),true,s2):=by unfold Yy Wj;rw[ha];dsimp only;rw[hk2];dsimp only;simp only[Nat.reduceBEq,Bool.true_or,Bool.or_true,Bool.or_self,Bool.or_false,Bool.false_or,if_true,if_false,Bool.false_eq_true];rfl
 have hE:=YD s2
 have hdl:((⟨now,6,0,0,rq0,[]⟩:EvV)).data.length<=3000:=by dsimp only;simp
 have hRt:=Y3 (⟨now,6,0,0,rq0,[]⟩:EvV) hdl
 cases he:(WI s2==0) with
 | false=>
  rw[YA (IE hg he)]
  exact(Xl b now 0 0 0 0 false 0 0 [] [] false 0 0 [] [] 0 0 0 [] 0 0 false [] [] 0 s1.1 s2.1 0 _ b s1.2 s2.2 (ZU b (by omega)) h0 h1 hE).1 (Zz he)
 | true=>
  cases hr:ZY (⟨now,6,0,0,rq0,[]⟩:EvV) with
  | false=>
   rw[hr]at hRt
   rw[YA (IF hg hr)]
   exact(Xl b now 0 0 0 0 false 0 0 [] [] false 0 0 [] [] 0 0 0 [] 0 0 false [] [] 0 s1.1 s2.1 0 _ b s1.2 s2.2 (ZU b (by omega)) h0 h1 hE).2.1 (Zz he) hRt
  | true=>
   rw[hr]at hRt
   rw[Wk (IG hg he hr),hg]
   exact(Xl b now 0 0 0 0 false 0 0 [] [] false 0 0 [] [] 0 0 0 [] 0 0 false [] [] 0 s1.1 s2.1 0 _ b s1.2 s2.2 (ZU b (by omega)) h0 h1 hE).2.2 (Zz he) hRt
theorem DX [Known][KnownSc][KnownPow][KnownU8](b:List UInt8)(hb:b.length<=3000)(hk:(ZP (ZE (0,b)).2).1=7):AP Tryz.prog 41 [byE b] (Uo b) []:=by
 rcases ha:ZE (0,b) with⟨now,s1⟩
 rw[ha]at hk
 dsimp only at hk
 rcases hk2:ZP s1 with⟨k,s2⟩
 rw[hk2]at hk
 dsimp only at hk
 subst hk
 have h0:=Yq (0,b) (by dsimp only;omega)
 have m0:=Z9 (0,b)
 rw[ha]at h0 m0
 dsimp only at h0 m0
 have h1:=Yk s1 (by omega)
 have m1:=Z3 s1
 have hk3:Yv 1099511627776 s1=(7,s2):=hk2
 rw[hk3]at h1
 rw[hk2]at m1
 dsimp only at h1 m1
 have hg:Yy b=((⟨now,7,0,0,rq0,[]⟩:EvV),true,s2):=by unfold Yy Wj;rw[ha];dsimp only;rw[hk2];dsimp only;simp only[Nat.reduceBEq,Bool.true_or,Bool.or_true,Bool.or_self,Bool.or_false,Bool.false_or,if_true,if_false,Bool.false_eq_true];rfl
 have hE:=YD s2
 have hdl:((⟨now,7,0,0,rq0,[]⟩:EvV)).data.length<=3000:=by dsimp only;simp
 have hRt:=Y3 (⟨now,7,0,0,rq0,[]⟩:EvV) hdl
 cases he:(WI s2==0) with
 | false=>
  rw[YA (IE hg he)]
  exact(Xm b now 0 0 0 0 false 0 0 [] [] false 0 0 [] [] 0 0 0 [] 0 0 false [] [] 0 s1.1 s2.1 0 _ b s1.2 s2.2 (ZU b (by omega)) h0 h1 hE).1 (Zz he)
 | true=>
  cases hr:ZY (⟨now,7,0,0,rq0,[]⟩:EvV) with
  | false=>
   rw[hr]at hRt
   rw[YA (IF hg hr)]
   exact(Xm b now 0 0 0 0 false 0 0 [] [] false 0 0 [] [] 0 0 0 [] 0 0 false [] [] 0 s1.1 s2.1 0 _ b s1.2 s2.2 (ZU b (by omega)) h0 h1 hE).2.1 (Zz he) hRt
  | true=>
   rw[hr]at hRt
   rw[Wk (IG hg he hr),hg]
   exact(Xm b now 0 0 0 0 false 0 0 [] [] false 0 0 [] [] 0 0 0 [] 0 0 false [] [] 0 s1.1 s2.1 0 _ b s1.2 s2.2 (ZU b (by omega)) h0 h1 hE).2.2 (Zz he) hRt
theorem DY [Known][KnownSc][KnownPow][KnownU8](b:List UInt8)(hb:b.length<=3000)(hk:(ZP (ZE (0,b)).2).1=8):AP Tryz.prog 41 [byE b] (Uo b) []:=by
 rcases ha:ZE (0,b) with⟨now,s1⟩
 rw[ha]at hk
 dsimp only at hk
 rcases hk2:ZP s1 with⟨k,s2⟩
 rw[hk2]at hk
 dsimp only at hk
 subst hk
 have h0:=Yq (0,b) (by dsimp only;omega)
 have m0:=Z9 (0,b)
 rw[ha]at h0 m0
 dsimp only at h0 m0
 have h1:=Yk s1 (by omega)
 have m1:=Z3 s1
 have hk3:Yv 1099511627776 s1=(8,s2):=hk2
 rw[hk3]at h1
 rw[hk2]at m1
 dsimp only at h1 m1
 have hg:Yy b=((⟨now,8,0,0,rq0,[]⟩:EvV),true,s2):=by unfold Yy Wj;rw[ha];dsimp only;rw[hk2];dsimp only;simp only[Nat.reduceBEq,Bool.true_or,Bool.or_true,Bool.or_self,Bool.or_false,Bool.false_or,if_true,if_false,Bool.false_eq_true];rfl
 have hE:=YD s2
 have hdl:((⟨now,8,0,0,rq0,[]⟩:EvV)).data.length<=3000:=by dsimp only;simp
 have hRt:=Y3 (⟨now,8,0,0,rq0,[]⟩:EvV) hdl
 cases he:(WI s2==0) with
 | false=>
  rw[YA (IE hg he)]
  exact(Xn b now 0 0 0 0 false 0 0 [] [] false 0 0 [] [] 0 0 0 [] 0 0 false [] [] 0 s1.1 s2.1 0 _ b s1.2 s2.2 (ZU b (by omega)) h0 h1 hE).1 (Zz he)
 | true=>
  cases hr:ZY (⟨now,8,0,0,rq0,[]⟩:EvV) with
  | false=>
   rw[hr]at hRt
   rw[YA (IF hg hr)]
   exact(Xn b now 0 0 0 0 false 0 0 [] [] false 0 0 [] [] 0 0 0 [] 0 0 false [] [] 0 s1.1 s2.1 0 _ b s1.2 s2.2 (ZU b (by omega)) h0 h1 hE).2.1 (Zz he) hRt
  | true=>
   rw[hr]at hRt
   rw[Wk (IG hg he hr),hg]
   exact(Xn b now 0 0 0 0 false 0 0 [] [] false 0 0 [] [] 0 0 0 [] 0 0 false [] [] 0 s1.1 s2.1 0 _ b s1.2 s2.2 (ZU b (by omega)) h0 h1 hE).2.2 (Zz he) hRt
theorem DZ [Known][KnownSc][KnownPow][KnownU8](b:List UInt8)(hb:b.length<=3000)(k1:((((ZP (ZE (0,b)).2).1:Nat):Int)==1)=false)(k2:((((ZP (ZE (0,b)).2).1:Nat):Int)==2)=false)(k3:((((ZP (ZE (0,b)).2).1:Nat):Int)==3)=false)(k4:((((ZP (ZE (0,b)).2).1:Nat):Int)==4)=false)(k5:((((ZP (ZE (0,b)).2).1:Nat):Int)==5)=false):AP Tryz.prog 41 [byE b] (Uo b) []:=by
 rcases ha:ZE (0,b) with⟨now,s1⟩
 rw[ha]at k1 k2 k3 k4 k5
 dsimp only at k1 k2 k3 k4 k5
 rcases hk2:ZP s1 with⟨k,s2⟩
 rw[hk2]at k1 k2 k3 k4 k5
 dsimp only at k1 k2 k3 k4 k5
 have h0:=Yq (0,b) (by dsimp only;omega)
 have m0:=Z9 (0,b)
 rw[ha]at h0 m0
 dsimp only at h0 m0
 have h1:=Yk s1 (by omega)
 have m1:=Z3 s1
 have hk3:Yv 1099511627776 s1=(k,s2):=hk2
 rw[hk3]at h1
 rw[hk2]at m1
 dsimp only at h1 m1
 have hg:Yy b=((⟨now,(k:Int),0,0,rq0,[]⟩:EvV),true,s2):=by unfold Yy Wj;rw[ha];dsimp only;rw[hk2];dsimp only;rw[GT k1,GT k2,GT k3,GT k4,GT k5];rfl
 have hE:=YD s2
 have hdl:((⟨now,(k:Int),0,0,rq0,[]⟩:EvV)).data.length<=3000:=by dsimp only;simp
 have hRt:=Y3 (⟨now,(k:Int),0,0,rq0,[]⟩:EvV) hdl
 cases he:(WI s2==0) with
 | false=>
  rw[YA (IE hg he)]
  exact(Xo b (k:Int) now 0 0 0 0 false 0 0 [] [] false 0 0 [] [] 0 0 0 [] 0 0 false [] [] 0 s1.1 s2.1 0 _ b s1.2 s2.2 k1 k2 k3 k4 k5 (ZU b (by omega)) h0 h1 hE).1 (Zz he)
 | true=>
  cases hr:ZY (⟨now,(k:Int),0,0,rq0,[]⟩:EvV) with
  | false=>
   rw[hr]at hRt
   rw[YA (IF hg hr)]
   exact(Xo b (k:Int) now 0 0 0 0 false 0 0 [] [] false 0 0 [] [] 0 0 0 [] 0 0 false [] [] 0 s1.1 s2.1 0 _ b s1.2 s2.2 k1 k2 k3 k4 k5 (ZU b (by omega)) h0 h1 hE).2.1 (Zz he) hRt
  | true=>
   rw[hr]at hRt
   rw[Wk (IG hg he hr),hg]
   exact(Xo b (k:Int) now 0 0 0 0 false 0 0 [] [] false 0 0 [] [] 0 0 0 [] 0 0 false [] [] 0 s1.1 s2.1 0 _ b s1.2 s2.2 k1 k2 k3 k4 k5 (ZU b (by omega)) h0 h1 hE).2.2 (Zz he) hRt
theorem Xt [Known][KnownSc][KnownPow][KnownU8](b:List UInt8)(hb:b.length<=3000):AP Tryz.prog 41 [byE b] (Uo b) []:=by
 rcases Ty (((ZP (ZE (0,b)).2).1:Nat):Int) with h|h|h|h|h|h|h|h|⟨k1,k2,k3,k4,k5,_,_,_⟩
 ·exact DR b hb (by omega)
 ·exact DS b hb (by omega)
 ·exact DT b hb (by omega)
 ·exact DU b hb (by omega)
 ·exact DV b hb (by omega)
 ·exact DW b hb (by omega)
 ·exact DX b hb (by omega)
 ·exact DY b hb (by omega)
 ·exact DZ b hb k1 k2 k3 k4 k5
theorem HM {x:RqV}(h:Yj x=true):(ZQ x).length<=600:=by
 have hk:=X5 h
 obtain⟨hid,hp,_⟩:=JR h
 obtain⟨id,kd,ep,ds,pol,num,tik,pay,life,tok,on⟩:=x
 dsimp only at hk hid
 unfold Vx at hp
 unfold ZQ WL
 have v0:=ZR id
 have vk:=ZR kd.toNat
 have v1:=ZR (ZO ep).length
 have v2:=ZR pol.toNat
 have v3:=ZR (ZO ds).length
 have v4:=ZR pay.length
 have v5:=ZR life
 have v6:=ZR on.toNat
 have v7:=ZR num.toNat
 have v8:=ZR tik.toNat
 have v9:=ZR tok
 rcases hk with rfl|rfl|rfl|rfl|rfl|rfl|rfl|rfl|rfl|rfl|rfl|rfl
 all_goals
  simp only[Int.reduceBEq,Bool.true_or,Bool.or_true,Bool.or_self,Bool.or_false,Bool.false_or,if_true,if_false,Bool.false_eq_true,Bool.and_eq_true,decide_eq_true_eq]at hp
  try have t1:=Y4 (Yo hp.1)
  try have t2:=Y4 (Yo hp.2.1)
  try have t3:=Y4 (Yo hp)
  simp only[Int.reduceBEq,Bool.true_or,Bool.or_true,Bool.or_self,Bool.or_false,Bool.false_or,if_true,if_false,Bool.false_eq_true,List.length_append,List.length_nil]
  omega
theorem Xu {x:EvV}(h:ZY x=true):(ZZ x).length<=700+x.data.length:=by
 obtain⟨hn,hp,_⟩:=QC h
 have hk:=X7 hp
 obtain⟨now,kd,tok,ses,rq,data⟩:=x
 dsimp only at hk hn
 unfold Vy at hp
 unfold ZZ Wr
 have v0:=ZR now
 have v1:=ZR kd.toNat
 have v2:=ZR tok
 have v3:=ZR ses.toNat
 have v4:=ZR (ZQ rq).length
 have v5:=ZR data.length
 rcases hk with rfl|rfl|rfl|rfl|rfl|rfl|rfl|rfl
 all_goals
  simp only[Int.reduceBEq,Bool.true_or,Bool.or_true,Bool.or_self,Bool.or_false,Bool.false_or,if_true,if_false,Bool.false_eq_true,Bool.and_eq_true,decide_eq_true_eq]at hp
  try have t1:=HM hp.2.1
  simp only[Int.reduceBEq,Bool.true_or,Bool.or_true,Bool.or_self,Bool.or_false,Bool.false_or,if_true,if_false,Bool.false_eq_true,List.length_append,List.length_nil]
  omega
theorem HO {x:EvV}(h:ZY x=true):x.data.length<=(ZZ x).length:=by
 by_cases h5:x.kd=5
 ·exact X8 h5
 ·obtain⟨_,_,hs⟩:=QC h
  have hs:=congrArg EvV.data (KW hs)
  have h5':(x.kd==5)=false:=by rw[beq_eq_false_iff_ne];exact h5
  unfold JM at hs
  rw[h5']at hs
  have h0:x.data=[]:=by
   revert hs
   repeat' split
   all_goals first|exact fun h=>h|(intro h;contradiction)
  rw[h0]
  simp
theorem WE (x:EvV):UX x x=true:=by
 unfold UX Us eqE
 simp
theorem WF [Known][KnownSc][KnownPow][KnownU8](x:EvV)(h:ZY x=true)(hd:x.data.length<=2000):AP Tryz.prog 41 [byE (ZZ x)] (.tup [.agg (evC x),.int .i64 0]) []:=by
 have hl:=Xu h
 have hR:=Xt (ZZ x) (by omega)
 obtain⟨h1,h2⟩:=Ns h (by omega)
 rw[Wk h1,h2]at hR
 exact hR
theorem WT [Known][KnownSc][KnownPow][KnownU8](b:List UInt8)(hb:b.length<=3000)(h:Vu b=false):AP Tryz.prog 41 [byE b] (.tup [.agg (evC GS),.int .i64 3]) []:=by
 have hR:=Xt b hb
 rw[YA h]at hR
 exact hR
theorem Y0 [Known][KnownSc][KnownPow][KnownU8]:AP Tryz.prog 39 [] (.bool true) []:=by
 have e1:ZY (⟨9,7,0,0,rq0,[]⟩:EvV)=true:=by decide +kernel
 have e2:ZY (⟨300,4,0,2,⟨5,10,ZN,ZN,0,0,0,[],0,0,false⟩,[]⟩:EvV)=true:=by decide +kernel
 have e3:ZY (⟨0,4,0,2,⟨5,11,ZN,ZN,0,0,0,[],0,0,false⟩,[]⟩:EvV)=false:=by decide +kernel
 have e4:Vu []=false:=by decide +kernel
 have w1:=UZ (⟨9,7,0,0,rq0,[]⟩:EvV) (by decide) e1
 rw[show ZZ (⟨9,7,0,0,rq0,[]⟩:EvV)=[9,7] by decide +kernel]at w1
 replace w1:AP Tryz.prog 40 [.agg [.int .u64 9,.int .i64 7,.int .u64 0,.int .i64 0,.int .u64 0,.int .i64 0,.bool false,.int .u64 0,.int .u64 0,.str [],.str [],.bool false,.int .u64 0,.int .u64 0,.str [],.str [],.int .i64 0,.int .i64 0,.int .i64 0,.sl .ext [],.int .u64 0,.int .u64 0,.bool false,.sl .ext []]] (.tup [.sl .ext [.int .u8 9,.int .u8 7],.int .i64 0]) []:=w1
 have hp:ZZ (⟨300,4,0,2,⟨5,10,ZN,ZN,0,0,0,[],0,0,false⟩,[]⟩:EvV)=[172,2,4,2,3,5,10,0]:=by decide +kernel
 have w2:=UZ (⟨300,4,0,2,⟨5,10,ZN,ZN,0,0,0,[],0,0,false⟩,[]⟩:EvV) (by decide) e2
 rw[hp]at w2
 replace w2:AP Tryz.prog 40 [.agg [.int .u64 300,.int .i64 4,.int .u64 0,.int .i64 2,.int .u64 5,.int .i64 10,.bool false,.int .u64 0,.int .u64 0,.str [],.str [],.bool false,.int .u64 0,.int .u64 0,.str [],.str [],.int .i64 0,.int .i64 0,.int .i64 0,.sl .ext [],.int .u64 0,.int .u64 0,.bool false,.sl .ext []]] (.tup [.sl .ext [.int .u8 172,.int .u8 2,.int .u8 4,.int .u8 2,.int .u8 3,.int .u8 5,.int .u8 10,.int .u8 0],.int .i64 0]) []:=w2
 have r2:=WF (⟨300,4,0,2,⟨5,10,ZN,ZN,0,0,0,[],0,0,false⟩,[]⟩:EvV) e2 (by decide)
 rw[hp]at r2
 replace r2:AP Tryz.prog 41 [.sl .ext [.int .u8 172,.int .u8 2,.int .u8 4,.int .u8 2,.int .u8 3,.int .u8 5,.int .u8 10,.int .u8 0]] (.tup [.agg [.int .u64 300,.int .i64 4,.int .u64 0,.int .i64 2,.int .u64 5,.int .i64 10,.bool false,.int .u64 0,.int .u64 0,.str [],.str [],.bool false,.int .u64 0,.int .u64 0,.str [],.str [],.int .i64 0,.int .i64 0,.int .i64 0,.sl .ext [],.int .u64 0,.int .u64 0,.bool false,.sl .ext []],.int .i64 0]) []:=r2
 have s2:=WW (⟨300,4,0,2,⟨5,10,ZN,ZN,0,0,0,[],0,0,false⟩,[]⟩:EvV) (⟨300,4,0,2,⟨5,10,ZN,ZN,0,0,0,[],0,0,false⟩,[]⟩:EvV)
 rw[WE]at s2
 replace s2:AP Tryz.prog 42 [.agg [.int .u64 300,.int .i64 4,.int .u64 0,.int .i64 2,.int .u64 5,.int .i64 10,.bool false,.int .u64 0,.int .u64 0,.str [],.str [],.bool false,.int .u64 0,.int .u64 0,.str [],.str [],.int .i64 0,.int .i64 0,.int .i64 0,.sl .ext [],.int .u64 0,.int .u64 0,.bool false,.sl .ext []],.agg [.int .u64 300,.int .i64 4,.int .u64 0,.int .i64 2,.int .u64 5,.int .i64 10,.bool false,.int .u64 0,.int .u64 0,.str [],.str [],.bool false,.int .u64 0,.int .u64 0,.str [],.str [],.int .i64 0,.int .i64 0,.int .i64 0,.sl .ext [],.int .u64 0,.int .u64 0,.bool false,.sl .ext []]] (.bool true) []:=s2
 have w3:=KY (⟨0,4,0,2,⟨5,11,ZN,ZN,0,0,0,[],0,0,false⟩,[]⟩:EvV) (by decide) e3
 replace w3:AP Tryz.prog 40 [.agg [.int .u64 0,.int .i64 4,.int .u64 0,.int .i64 2,.int .u64 5,.int .i64 11,.bool false,.int .u64 0,.int .u64 0,.str [],.str [],.bool false,.int .u64 0,.int .u64 0,.str [],.str [],.int .i64 0,.int .i64 0,.int .i64 0,.sl .ext [],.int .u64 0,.int .u64 0,.bool false,.sl .ext []]] (.tup [.sl .ext [],.int .i64 3]) []:=w3
 have r0:=WT [] (by decide) e4
 replace r0:AP Tryz.prog 41 [.sl .ext []] (.tup [.agg [.int .u64 0,.int .i64 0,.int .u64 0,.int .i64 0,.int .u64 0,.int .i64 0,.bool false,.int .u64 0,.int .u64 0,.str [],.str [],.bool false,.int .u64 0,.int .u64 0,.str [],.str [],.int .i64 0,.int .i64 0,.int .i64 0,.sl .ext [],.int .u64 0,.int .u64 0,.bool false,.sl .ext []],.int .i64 3]) []:=r0
 refine AP.ofA (Zl Tryz.func39 Z Tryz.ntmps39 Z Z ?_)
 repeat'(first|refine Lp Za Z Z Z Z Z Z Z Z Z ?_|(apply Zb (w1);kernel_rfl;(iterate 4 exact Z))|(apply Zb (w2);kernel_rfl;(iterate 4 exact Z))|(apply Zb (r2);kernel_rfl;(iterate 4 exact Z))|(apply Zb (s2);kernel_rfl;(iterate 4 exact Z))|(apply Zb (w3);kernel_rfl;(iterate 4 exact Z))|(apply Zb (r0);kernel_rfl;(iterate 4 exact Z))|(apply Zi Za;exact Z)|(apply Zg Za;exact Z)|(apply Ze;(iterate 3 exact Z);(first|with_reducible assumption|decide +kernel|(solve|simp only[bn])))|(apply Zk;exact Z;(first|with_reducible assumption|decide +kernel|(solve|simp only[bn]));exact Z;exact Z))
 all_goals exact Qe
def YY (x:EvV):Bool:=XU x.rq||decide (((x.data.map E.byte).length:Int)>1300)
theorem We [Known](x:EvV):AP Tryz.prog 29 [.agg (evC x)] (.bool (YY x)) []:=by
 have hR:=Hh x.rq
 unfold YY
 generalize XU x.rq=g at *
 obtain⟨now,kd,tok,ses,⟨id,rk,⟨ei,en,es,eh,ed⟩,⟨di,dn,dq,dh,dd⟩,pol,num,tik,pay,life,rt,on⟩,data⟩:=x
 dsimp only at *
 cases g
 all_goals
  refine AP.ofA (Zl Tryz.func29 Z Tryz.ntmps29 Z Z ?_)
  repeat'(first|(apply Zb (hR);kernel_rfl;(iterate 4 exact Z))|(apply Zi Za;exact Z)|(apply Zg Za;exact Z)|(apply Ze;(iterate 3 exact Z);(first|with_reducible assumption|decide +kernel|(solve|simp only[bn])))|(apply Zp;(iterate 3 exact Z);(first|with_reducible assumption|decide +kernel|(solve|simp only[bn])))|(apply Zk;exact Z;(first|with_reducible assumption|decide +kernel|(solve|simp only[bn]));exact Z;exact Z)|(apply Zj;exact Z;(first|with_reducible assumption|decide +kernel|(solve|simp only[bn]));exact Z;exact Z)|refine Zt Za Z Z Z Z ?_)
  all_goals exact Qe
theorem JT:ZY GS=false:=by decide +kernel
theorem M4 (c:List UInt8)(n:Nat)(h:n<c.length):((n:Nat):Int).toNat<=(c.map E.byte).length/\(((c.map E.byte).take ((n:Nat):Int).toNat).drop 0)=(c.take n).map E.byte:=
 ⟨by rw[List.length_map];omega,by rw[List.drop_zero,Int.toNat_natCast,List.map_take]⟩
end Go.Proofs.YtkdpfkjlheajhaaGreatDoor
end

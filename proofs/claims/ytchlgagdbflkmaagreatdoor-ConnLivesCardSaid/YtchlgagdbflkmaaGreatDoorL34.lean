/- The document's answers for requests: Read, joined. -/
import Derived.Test.YtchlgagdbflkmaaGreatDoorL30
import Derived.Test.YtchlgagdbflkmaaGreatDoorL31
import Derived.Test.YtchlgagdbflkmaaGreatDoorL32
import Derived.Test.YtchlgagdbflkmaaGreatDoorL33
set_option linter.unusedVariables false
set_option linter.unusedSimpArgs false
section
open Go.RowKit Go.Pl Go.Av
namespace Go.Proofs.YtchlgagdbflkmaaGreatDoor
set_option maxHeartbeats 4000000
def ND:RqV:=⟨0,0,Zx,Zx,0,0,0,[],0,0,false⟩
abbrev Qm (b:List UInt8):D:=.tup [.agg (rqC (match WI b with|true=>(ZM b).1|false=>ND)),.bool (WI b)]
theorem ZV {b:List UInt8}(h:WI b=false):Qm b=.tup [.agg (rqC ND),.bool false]:=by unfold Qm;rw[h]
theorem Wu {b:List UInt8}(h:WI b=true):Qm b=.tup [.agg (rqC (ZM b).1),.bool true]:=by unfold Qm;rw[h]
theorem JE {b:List UInt8}(h:ZI (ZM b).1=false):WI b=false:=by unfold WI;rw[h];rfl
theorem JR {b:List UInt8}{x:RqV}{e:Nat}{q:List UInt8}(hg:ZM b=(x,(e,q)))(h:((e:Int) != 0)=true):WI b=false:=by
 have h1:(Up (ZM b).2==0)=false:=by
  rw[hg]
  unfold Up
  have h2:((e:Int)==0)=false:=by simpa[bne]using h
  dsimp only
  rw[h2]
  simp at h2 ⊢
  exact h2
 unfold WI
 rw[h1]
 simp
theorem JS {b:List UInt8}(h:(ZQ (ZM b).1==b)=false):WI b=false:=by unfold WI;rw[h];simp
theorem JT {b:List UInt8}(h1:ZI (ZM b).1=true)(h3:(ZQ (ZM b).1==b)=true):WI b=true:=by
 have h:=(Tu h1).1
 rwa [beq_iff_eq.1 h3]at h
theorem Ud (s:List UInt8):∃ ep ok,Q0 s=.tup [.agg (eC ep),.bool ok]/\(if(ZW s).2 then(ZW s).1 else Zx)=ep/\Fit ep:=by
 cases h:(ZW s).2 with
 | false=>exact⟨Zx,false,UF h,by simp,by decide,by decide⟩
 | true=>exact⟨(ZW s).1,true,Q1 (by rw[<- h]),by simp,X8 (VI h).1⟩
theorem Vt:Fit Zx:=⟨by decide,by decide⟩
theorem MT [Known](b:List UInt8)(hb:b.length<=1000)(hk:(ZO (ZA (0,b)).2).1=1):AP Tryz.prog 51 [byE b] (Qm b) []:=by
 have hs0:Suf b (0,b):=⟨Nat.le_refl _,by simp⟩
 have h0:=WS b (0,b) hs0 (by omega)
 have hs1:=Yt hs0
 rcases ha:ZA (0,b) with⟨id,s1⟩
 rw[ha]at h0 hs1
 have h1:=Yb b 1099511627776 s1 hs1 (by omega)
 have hs2:=Yj (t:=1099511627776) hs1
 have wk:=Yn 1099511627776 s1
 rcases hk2:Z2 1099511627776 s1 with⟨kn,s2⟩
 have hk3:ZO s1=(kn,s2):=hk2
 rw[hk2]at h1 hs2 wk
 rw[ha]at hk
 dsimp only at hk
 rw[hk3]at hk
 dsimp only at hk
 subst hk
 have h2:=VN b s2 hs2 (by omega)
 have hs3:=Um hs2
 have l0:=(Vb s2).2
 have m0:=hs2.1
 dsimp only at m0
 rcases ht0:Vj s2 with⟨te,s3⟩
 rw[ht0]at h2 hs3 l0
 dsimp only at l0
 have ge:=WT te (by omega)
 obtain⟨ep,oe,pe,pn,fe⟩:=Ud te
 rw[pe]at ge
 have hn0:nmS s2=(ep,s3):=by unfold nmS;rw[ht0];dsimp only;rw[pn]
 have h3:=Yb b 1099511627776 s3 hs3 (by omega)
 have hs4:=Yj (t:=1099511627776) hs3
 have wp:=Yn 1099511627776 s3
 rcases ht1:Z2 1099511627776 s3 with⟨pol,s4⟩
 have hn1:ZO s3=(pol,s4):=ht1
 rw[ht1]at h3 hs4 wp
 dsimp only at wp
 have wp2:IntKind.i64.wrap (pol:Int)=(pol:Int):=IntWalk.i64_in _ (by omega)
 have hg:ZM b=((⟨id,1,ep,Zx,(pol:Int),0,0,[],0,0,false⟩:RqV),s4):=by
  unfold ZM
  rw[ha]
  dsimp only
  rw[hk3]
  dsimp only
  simp only[WR,Nat.reduceBEq,Bool.or_self,Bool.or_true,Bool.true_or,Bool.or_false,Bool.false_or,Bool.false_eq_true,if_false,if_true,hn0,hn1]
  rfl
 have hR:=YB (⟨id,1,ep,Zx,(pol:Int),0,0,[],0,0,false⟩:RqV) fe Vt
 have hP:AP Tryz.prog 93 [.int .i64 1] (.str [101,112]) []:=WD 1
 clear ha hk2 hk3 ht0 ht1 hn0 hn1
 obtain⟨a1,q1⟩:=s1
 obtain⟨a2,q2⟩:=s2
 obtain⟨a3,q3⟩:=s3
 obtain⟨a4,q4⟩:=s4
 obtain⟨ei,en,es,eh,ed⟩:=ep
 dsimp only[rfS,rfD]at h0 h1 h2 h3
 simp only[Nat.sub_self]at h0
 cases hr:ZI (⟨id,1,⟨ei,en,es,eh,ed⟩,Zx,(pol:Int),0,0,[],0,0,false⟩:RqV) with
 | false=>
  rw[ZV (JE (by rw[hg];exact hr))]
  rw[hr]at hR
  cases he:((a4:Int) != 0) with
  | true=>exact(UG b id ei en es eh ed false 0 0 [] [] pol 0 0 [] 0 0 0 te [] oe false _ _ _ _ _ _ _ _ [] h0 h1 hP h2 ge h3 wp2).2.1 he
  | false=>exact(UG b id ei en es eh ed false 0 0 [] [] pol 0 0 [] 0 0 0 te [] oe false _ _ _ _ _ _ _ _ [] h0 h1 hP h2 ge h3 wp2).1 he hR
 | true=>
  have hW:=YM (⟨id,1,⟨ei,en,es,eh,ed⟩,Zx,(pol:Int),0,0,[],0,0,false⟩:RqV) hr
  rw[hr]at hR
  cases he:((a4:Int) != 0) with
  | true=>
   rw[ZV (JR hg he)]
   exact(UG b id ei en es eh ed false 0 0 [] [] pol 0 0 [] 0 0 0 te [] oe false _ _ _ _ _ _ _ _ [] h0 h1 hP h2 ge h3 wp2).2.1 he
  | false=>
   cases hz:(ZQ (⟨id,1,⟨ei,en,es,eh,ed⟩,Zx,(pol:Int),0,0,[],0,0,false⟩:RqV)==b) with
   | false=>
    rw[ZV (JS (by rw[hg];exact hz))]
    exact(UG b id ei en es eh ed false 0 0 [] [] pol 0 0 [] 0 0 0 te [] oe false _ _ _ _ _ _ _ _ _ h0 h1 hP h2 ge h3 wp2).2.2.1 he hR hW (by rw[bne,hz];rfl)
   | true=>
    rw[Wu (JT (by rw[hg];exact hr) (by rw[hg];exact hz)),hg]
    exact(UG b id ei en es eh ed false 0 0 [] [] pol 0 0 [] 0 0 0 te [] oe false _ _ _ _ _ _ _ _ _ h0 h1 hP h2 ge h3 wp2).2.2.2 he hR hW (by rw[bne,hz];rfl)
theorem MU [Known](b:List UInt8)(hb:b.length<=1000)(hk:(ZO (ZA (0,b)).2).1=2):AP Tryz.prog 51 [byE b] (Qm b) []:=by
 have hs0:Suf b (0,b):=⟨Nat.le_refl _,by simp⟩
 have h0:=WS b (0,b) hs0 (by omega)
 have hs1:=Yt hs0
 rcases ha:ZA (0,b) with⟨id,s1⟩
 rw[ha]at h0 hs1
 have h1:=Yb b 1099511627776 s1 hs1 (by omega)
 have hs2:=Yj (t:=1099511627776) hs1
 have wk:=Yn 1099511627776 s1
 rcases hk2:Z2 1099511627776 s1 with⟨kn,s2⟩
 have hk3:ZO s1=(kn,s2):=hk2
 rw[hk2]at h1 hs2 wk
 rw[ha]at hk
 dsimp only at hk
 rw[hk3]at hk
 dsimp only at hk
 subst hk
 have h2:=VN b s2 hs2 (by omega)
 have hs3:=Um hs2
 have l0:=(Vb s2).2
 have m0:=hs2.1
 dsimp only at m0
 rcases ht0:Vj s2 with⟨te,s3⟩
 rw[ht0]at h2 hs3 l0
 dsimp only at l0
 have ge:=WT te (by omega)
 obtain⟨ep,oe,pe,pn,fe⟩:=Ud te
 rw[pe]at ge
 have hn0:nmS s2=(ep,s3):=by unfold nmS;rw[ht0];dsimp only;rw[pn]
 have hg:ZM b=((⟨id,2,ep,Zx,0,0,0,[],0,0,false⟩:RqV),s3):=by
  unfold ZM
  rw[ha]
  dsimp only
  rw[hk3]
  dsimp only
  simp only[WR,Nat.reduceBEq,Bool.or_self,Bool.or_true,Bool.true_or,Bool.or_false,Bool.false_or,Bool.false_eq_true,if_false,if_true,hn0]
  rfl
 have hR:=YB (⟨id,2,ep,Zx,0,0,0,[],0,0,false⟩:RqV) fe Vt
 have hP:AP Tryz.prog 93 [.int .i64 2] (.str [101]) []:=WD 2
 clear ha hk2 hk3 ht0 hn0
 obtain⟨a1,q1⟩:=s1
 obtain⟨a2,q2⟩:=s2
 obtain⟨a3,q3⟩:=s3
 obtain⟨ei,en,es,eh,ed⟩:=ep
 dsimp only[rfS,rfD]at h0 h1 h2
 simp only[Nat.sub_self]at h0
 cases hr:ZI (⟨id,2,⟨ei,en,es,eh,ed⟩,Zx,0,0,0,[],0,0,false⟩:RqV) with
 | false=>
  rw[ZV (JE (by rw[hg];exact hr))]
  rw[hr]at hR
  cases he:((a3:Int) != 0) with
  | true=>exact(UH b id ei en es eh ed false 0 0 [] [] 0 0 0 [] 0 0 0 te [] oe false _ _ _ _ _ _ [] h0 h1 hP h2 ge).2.1 he
  | false=>exact(UH b id ei en es eh ed false 0 0 [] [] 0 0 0 [] 0 0 0 te [] oe false _ _ _ _ _ _ [] h0 h1 hP h2 ge).1 he hR
 | true=>
  have hW:=YM (⟨id,2,⟨ei,en,es,eh,ed⟩,Zx,0,0,0,[],0,0,false⟩:RqV) hr
  rw[hr]at hR
  cases he:((a3:Int) != 0) with
  | true=>
   rw[ZV (JR hg he)]
   exact(UH b id ei en es eh ed false 0 0 [] [] 0 0 0 [] 0 0 0 te [] oe false _ _ _ _ _ _ [] h0 h1 hP h2 ge).2.1 he
  | false=>
   cases hz:(ZQ (⟨id,2,⟨ei,en,es,eh,ed⟩,Zx,0,0,0,[],0,0,false⟩:RqV)==b) with
   | false=>
    rw[ZV (JS (by rw[hg];exact hz))]
    exact(UH b id ei en es eh ed false 0 0 [] [] 0 0 0 [] 0 0 0 te [] oe false _ _ _ _ _ _ _ h0 h1 hP h2 ge).2.2.1 he hR hW (by rw[bne,hz];rfl)
   | true=>
    rw[Wu (JT (by rw[hg];exact hr) (by rw[hg];exact hz)),hg]
    exact(UH b id ei en es eh ed false 0 0 [] [] 0 0 0 [] 0 0 0 te [] oe false _ _ _ _ _ _ _ h0 h1 hP h2 ge).2.2.2 he hR hW (by rw[bne,hz];rfl)
theorem MV [Known](b:List UInt8)(hb:b.length<=1000)(hk:(ZO (ZA (0,b)).2).1=3):AP Tryz.prog 51 [byE b] (Qm b) []:=by
 have hs0:Suf b (0,b):=⟨Nat.le_refl _,by simp⟩
 have h0:=WS b (0,b) hs0 (by omega)
 have hs1:=Yt hs0
 rcases ha:ZA (0,b) with⟨id,s1⟩
 rw[ha]at h0 hs1
 have h1:=Yb b 1099511627776 s1 hs1 (by omega)
 have hs2:=Yj (t:=1099511627776) hs1
 have wk:=Yn 1099511627776 s1
 rcases hk2:Z2 1099511627776 s1 with⟨kn,s2⟩
 have hk3:ZO s1=(kn,s2):=hk2
 rw[hk2]at h1 hs2 wk
 rw[ha]at hk
 dsimp only at hk
 rw[hk3]at hk
 dsimp only at hk
 subst hk
 have h2:=VN b s2 hs2 (by omega)
 have hs3:=Um hs2
 have l0:=(Vb s2).2
 have m0:=hs2.1
 dsimp only at m0
 rcases ht0:Vj s2 with⟨te,s3⟩
 rw[ht0]at h2 hs3 l0
 dsimp only at l0
 have ge:=WT te (by omega)
 obtain⟨ep,oe,pe,pn,fe⟩:=Ud te
 rw[pe]at ge
 have hn0:nmS s2=(ep,s3):=by unfold nmS;rw[ht0];dsimp only;rw[pn]
 have h3:=Yb b 1099511627776 s3 hs3 (by omega)
 have hs4:=Yj (t:=1099511627776) hs3
 have wp:=Yn 1099511627776 s3
 rcases ht1:Z2 1099511627776 s3 with⟨pol,s4⟩
 have hn1:ZO s3=(pol,s4):=ht1
 rw[ht1]at h3 hs4 wp
 dsimp only at wp
 have wp2:IntKind.i64.wrap (pol:Int)=(pol:Int):=IntWalk.i64_in _ (by omega)
 have hg:ZM b=((⟨id,3,ep,Zx,(pol:Int),0,0,[],0,0,false⟩:RqV),s4):=by
  unfold ZM
  rw[ha]
  dsimp only
  rw[hk3]
  dsimp only
  simp only[WR,Nat.reduceBEq,Bool.or_self,Bool.or_true,Bool.true_or,Bool.or_false,Bool.false_or,Bool.false_eq_true,if_false,if_true,hn0,hn1]
  rfl
 have hR:=YB (⟨id,3,ep,Zx,(pol:Int),0,0,[],0,0,false⟩:RqV) fe Vt
 have hP:AP Tryz.prog 93 [.int .i64 3] (.str [101,112]) []:=WD 3
 clear ha hk2 hk3 ht0 ht1 hn0 hn1
 obtain⟨a1,q1⟩:=s1
 obtain⟨a2,q2⟩:=s2
 obtain⟨a3,q3⟩:=s3
 obtain⟨a4,q4⟩:=s4
 obtain⟨ei,en,es,eh,ed⟩:=ep
 dsimp only[rfS,rfD]at h0 h1 h2 h3
 simp only[Nat.sub_self]at h0
 cases hr:ZI (⟨id,3,⟨ei,en,es,eh,ed⟩,Zx,(pol:Int),0,0,[],0,0,false⟩:RqV) with
 | false=>
  rw[ZV (JE (by rw[hg];exact hr))]
  rw[hr]at hR
  cases he:((a4:Int) != 0) with
  | true=>exact(UI b id ei en es eh ed false 0 0 [] [] pol 0 0 [] 0 0 0 te [] oe false _ _ _ _ _ _ _ _ [] h0 h1 hP h2 ge h3 wp2).2.1 he
  | false=>exact(UI b id ei en es eh ed false 0 0 [] [] pol 0 0 [] 0 0 0 te [] oe false _ _ _ _ _ _ _ _ [] h0 h1 hP h2 ge h3 wp2).1 he hR
 | true=>
  have hW:=YM (⟨id,3,⟨ei,en,es,eh,ed⟩,Zx,(pol:Int),0,0,[],0,0,false⟩:RqV) hr
  rw[hr]at hR
  cases he:((a4:Int) != 0) with
  | true=>
   rw[ZV (JR hg he)]
   exact(UI b id ei en es eh ed false 0 0 [] [] pol 0 0 [] 0 0 0 te [] oe false _ _ _ _ _ _ _ _ [] h0 h1 hP h2 ge h3 wp2).2.1 he
  | false=>
   cases hz:(ZQ (⟨id,3,⟨ei,en,es,eh,ed⟩,Zx,(pol:Int),0,0,[],0,0,false⟩:RqV)==b) with
   | false=>
    rw[ZV (JS (by rw[hg];exact hz))]
    exact(UI b id ei en es eh ed false 0 0 [] [] pol 0 0 [] 0 0 0 te [] oe false _ _ _ _ _ _ _ _ _ h0 h1 hP h2 ge h3 wp2).2.2.1 he hR hW (by rw[bne,hz];rfl)
   | true=>
    rw[Wu (JT (by rw[hg];exact hr) (by rw[hg];exact hz)),hg]
    exact(UI b id ei en es eh ed false 0 0 [] [] pol 0 0 [] 0 0 0 te [] oe false _ _ _ _ _ _ _ _ _ h0 h1 hP h2 ge h3 wp2).2.2.2 he hR hW (by rw[bne,hz];rfl)
theorem MW [Known](b:List UInt8)(hb:b.length<=1000)(hk:(ZO (ZA (0,b)).2).1=4):AP Tryz.prog 51 [byE b] (Qm b) []:=by
 have hs0:Suf b (0,b):=⟨Nat.le_refl _,by simp⟩
 have h0:=WS b (0,b) hs0 (by omega)
 have hs1:=Yt hs0
 rcases ha:ZA (0,b) with⟨id,s1⟩
 rw[ha]at h0 hs1
 have h1:=Yb b 1099511627776 s1 hs1 (by omega)
 have hs2:=Yj (t:=1099511627776) hs1
 have wk:=Yn 1099511627776 s1
 rcases hk2:Z2 1099511627776 s1 with⟨kn,s2⟩
 have hk3:ZO s1=(kn,s2):=hk2
 rw[hk2]at h1 hs2 wk
 rw[ha]at hk
 dsimp only at hk
 rw[hk3]at hk
 dsimp only at hk
 subst hk
 have h2:=VN b s2 hs2 (by omega)
 have hs3:=Um hs2
 have l0:=(Vb s2).2
 have m0:=hs2.1
 dsimp only at m0
 rcases ht0:Vj s2 with⟨te,s3⟩
 rw[ht0]at h2 hs3 l0
 dsimp only at l0
 have ge:=WT te (by omega)
 obtain⟨ep,oe,pe,pn,fe⟩:=Ud te
 rw[pe]at ge
 have hn0:nmS s2=(ep,s3):=by unfold nmS;rw[ht0];dsimp only;rw[pn]
 have h3:=VN b s3 hs3 (by omega)
 have hs4:=Um hs3
 have l1:=(Vb s3).2
 have m1:=hs3.1
 dsimp only at m1
 rcases ht1:Vj s3 with⟨td,s4⟩
 rw[ht1]at h3 hs4 l1
 dsimp only at l1
 have gd:=WT td (by omega)
 obtain⟨ds,od,pe,pn,fd⟩:=Ud td
 rw[pe]at gd
 have hn1:nmS s3=(ds,s4):=by unfold nmS;rw[ht1];dsimp only;rw[pn]
 have h4:=VN b s4 hs4 (by omega)
 have hs5:=Um hs4
 rcases ht2:Vj s4 with⟨pay,s5⟩
 rw[ht2]at h4 hs5
 have h5:=WS b s5 hs5 (by omega)
 have hs6:=Yt hs5
 rcases ht3:ZA s5 with⟨life,s6⟩
 rw[ht3]at h5 hs6
 have h6:=Yb b 1 s6 hs6 (by omega)
 have hs7:=Yj (t:=1) hs6
 rcases ht4:Z2 1 s6 with⟨on,s7⟩
 have hn4:JQ s6=(((on:Int)==1),s7):=by unfold JQ;rw[ht4]
 rw[ht4]at h6 hs7
 have hg:ZM b=((⟨id,4,ep,ds,0,0,0,pay,life,0,((on:Int)==1)⟩:RqV),s7):=by
  unfold ZM
  rw[ha]
  dsimp only
  rw[hk3]
  dsimp only
  simp only[WR,Nat.reduceBEq,Bool.or_self,Bool.or_true,Bool.true_or,Bool.or_false,Bool.false_or,Bool.false_eq_true,if_false,if_true,hn0,hn1,ht2,ht3,hn4]
  rfl
 have hR:=YB (⟨id,4,ep,ds,0,0,0,pay,life,0,((on:Int)==1)⟩:RqV) fe fd
 have hP:AP Tryz.prog 93 [.int .i64 4] (.str [101,100,98,108,111]) []:=WD 4
 clear ha hk2 hk3 ht0 ht1 ht2 ht3 ht4 hn0 hn1 hn4
 obtain⟨a1,q1⟩:=s1
 obtain⟨a2,q2⟩:=s2
 obtain⟨a3,q3⟩:=s3
 obtain⟨a4,q4⟩:=s4
 obtain⟨a5,q5⟩:=s5
 obtain⟨a6,q6⟩:=s6
 obtain⟨a7,q7⟩:=s7
 obtain⟨ei,en,es,eh,ed⟩:=ep
 obtain⟨di,dn,dq,dh,dd⟩:=ds
 dsimp only[rfS,rfD]at h0 h1 h2 h3 h4 h5 h6
 simp only[Nat.sub_self]at h0
 cases hr:ZI (⟨id,4,⟨ei,en,es,eh,ed⟩,⟨di,dn,dq,dh,dd⟩,0,0,0,pay,life,0,((on:Int)==1)⟩:RqV) with
 | false=>
  rw[ZV (JE (by rw[hg];exact hr))]
  rw[hr]at hR
  cases he:((a7:Int) != 0) with
  | true=>exact(UJ b id ei en es eh ed di dn dq dh dd 0 0 0 pay life 0 on te td oe od _ _ _ _ _ _ _ _ _ _ _ _ _ _ [] h0 h1 hP h2 ge h3 gd h4 h5 h6).2.1 he
  | false=>exact(UJ b id ei en es eh ed di dn dq dh dd 0 0 0 pay life 0 on te td oe od _ _ _ _ _ _ _ _ _ _ _ _ _ _ [] h0 h1 hP h2 ge h3 gd h4 h5 h6).1 he hR
 | true=>
  have hW:=YM (⟨id,4,⟨ei,en,es,eh,ed⟩,⟨di,dn,dq,dh,dd⟩,0,0,0,pay,life,0,((on:Int)==1)⟩:RqV) hr
  rw[hr]at hR
  cases he:((a7:Int) != 0) with
  | true=>
   rw[ZV (JR hg he)]
   exact(UJ b id ei en es eh ed di dn dq dh dd 0 0 0 pay life 0 on te td oe od _ _ _ _ _ _ _ _ _ _ _ _ _ _ [] h0 h1 hP h2 ge h3 gd h4 h5 h6).2.1 he
  | false=>
   cases hz:(ZQ (⟨id,4,⟨ei,en,es,eh,ed⟩,⟨di,dn,dq,dh,dd⟩,0,0,0,pay,life,0,((on:Int)==1)⟩:RqV)==b) with
   | false=>
    rw[ZV (JS (by rw[hg];exact hz))]
    exact(UJ b id ei en es eh ed di dn dq dh dd 0 0 0 pay life 0 on te td oe od _ _ _ _ _ _ _ _ _ _ _ _ _ _ _ h0 h1 hP h2 ge h3 gd h4 h5 h6).2.2.1 he hR hW (by rw[bne,hz];rfl)
   | true=>
    rw[Wu (JT (by rw[hg];exact hr) (by rw[hg];exact hz)),hg]
    exact(UJ b id ei en es eh ed di dn dq dh dd 0 0 0 pay life 0 on te td oe od _ _ _ _ _ _ _ _ _ _ _ _ _ _ _ h0 h1 hP h2 ge h3 gd h4 h5 h6).2.2.2 he hR hW (by rw[bne,hz];rfl)
theorem MX [Known](b:List UInt8)(hb:b.length<=1000)(hk:(ZO (ZA (0,b)).2).1=5):AP Tryz.prog 51 [byE b] (Qm b) []:=by
 have hs0:Suf b (0,b):=⟨Nat.le_refl _,by simp⟩
 have h0:=WS b (0,b) hs0 (by omega)
 have hs1:=Yt hs0
 rcases ha:ZA (0,b) with⟨id,s1⟩
 rw[ha]at h0 hs1
 have h1:=Yb b 1099511627776 s1 hs1 (by omega)
 have hs2:=Yj (t:=1099511627776) hs1
 have wk:=Yn 1099511627776 s1
 rcases hk2:Z2 1099511627776 s1 with⟨kn,s2⟩
 have hk3:ZO s1=(kn,s2):=hk2
 rw[hk2]at h1 hs2 wk
 rw[ha]at hk
 dsimp only at hk
 rw[hk3]at hk
 dsimp only at hk
 subst hk
 have h2:=Yb b 1099511627776 s2 hs2 (by omega)
 have hs3:=Yj (t:=1099511627776) hs2
 have wn:=Yn 1099511627776 s2
 rcases ht0:Z2 1099511627776 s2 with⟨num,s3⟩
 have hn0:ZO s2=(num,s3):=ht0
 rw[ht0]at h2 hs3 wn
 dsimp only at wn
 have wn2:IntKind.i64.wrap (num:Int)=(num:Int):=IntWalk.i64_in _ (by omega)
 have hg:ZM b=((⟨id,5,Zx,Zx,0,(num:Int),0,[],0,0,false⟩:RqV),s3):=by
  unfold ZM
  rw[ha]
  dsimp only
  rw[hk3]
  dsimp only
  simp only[WR,Nat.reduceBEq,Bool.or_self,Bool.or_true,Bool.true_or,Bool.or_false,Bool.false_or,Bool.false_eq_true,if_false,if_true,hn0]
  rfl
 have hR:=YB (⟨id,5,Zx,Zx,0,(num:Int),0,[],0,0,false⟩:RqV) Vt Vt
 have hP:AP Tryz.prog 93 [.int .i64 5] (.str [110]) []:=WD 5
 clear ha hk2 hk3 ht0 hn0
 obtain⟨a1,q1⟩:=s1
 obtain⟨a2,q2⟩:=s2
 obtain⟨a3,q3⟩:=s3
 dsimp only[rfS,rfD]at h0 h1 h2
 simp only[Nat.sub_self]at h0
 cases hr:ZI (⟨id,5,Zx,Zx,0,(num:Int),0,[],0,0,false⟩:RqV) with
 | false=>
  rw[ZV (JE (by rw[hg];exact hr))]
  rw[hr]at hR
  cases he:((a3:Int) != 0) with
  | true=>exact(UK b id false 0 0 [] [] false 0 0 [] [] 0 num 0 [] 0 0 0 [] [] false false _ _ _ _ _ _ [] h0 h1 hP h2 wn2).2.1 he
  | false=>exact(UK b id false 0 0 [] [] false 0 0 [] [] 0 num 0 [] 0 0 0 [] [] false false _ _ _ _ _ _ [] h0 h1 hP h2 wn2).1 he hR
 | true=>
  have hW:=YM (⟨id,5,Zx,Zx,0,(num:Int),0,[],0,0,false⟩:RqV) hr
  rw[hr]at hR
  cases he:((a3:Int) != 0) with
  | true=>
   rw[ZV (JR hg he)]
   exact(UK b id false 0 0 [] [] false 0 0 [] [] 0 num 0 [] 0 0 0 [] [] false false _ _ _ _ _ _ [] h0 h1 hP h2 wn2).2.1 he
  | false=>
   cases hz:(ZQ (⟨id,5,Zx,Zx,0,(num:Int),0,[],0,0,false⟩:RqV)==b) with
   | false=>
    rw[ZV (JS (by rw[hg];exact hz))]
    exact(UK b id false 0 0 [] [] false 0 0 [] [] 0 num 0 [] 0 0 0 [] [] false false _ _ _ _ _ _ _ h0 h1 hP h2 wn2).2.2.1 he hR hW (by rw[bne,hz];rfl)
   | true=>
    rw[Wu (JT (by rw[hg];exact hr) (by rw[hg];exact hz)),hg]
    exact(UK b id false 0 0 [] [] false 0 0 [] [] 0 num 0 [] 0 0 0 [] [] false false _ _ _ _ _ _ _ h0 h1 hP h2 wn2).2.2.2 he hR hW (by rw[bne,hz];rfl)
theorem MY [Known](b:List UInt8)(hb:b.length<=1000)(hk:(ZO (ZA (0,b)).2).1=6):AP Tryz.prog 51 [byE b] (Qm b) []:=by
 have hs0:Suf b (0,b):=⟨Nat.le_refl _,by simp⟩
 have h0:=WS b (0,b) hs0 (by omega)
 have hs1:=Yt hs0
 rcases ha:ZA (0,b) with⟨id,s1⟩
 rw[ha]at h0 hs1
 have h1:=Yb b 1099511627776 s1 hs1 (by omega)
 have hs2:=Yj (t:=1099511627776) hs1
 have wk:=Yn 1099511627776 s1
 rcases hk2:Z2 1099511627776 s1 with⟨kn,s2⟩
 have hk3:ZO s1=(kn,s2):=hk2
 rw[hk2]at h1 hs2 wk
 rw[ha]at hk
 dsimp only at hk
 rw[hk3]at hk
 dsimp only at hk
 subst hk
 have h2:=VN b s2 hs2 (by omega)
 have hs3:=Um hs2
 have l0:=(Vb s2).2
 have m0:=hs2.1
 dsimp only at m0
 rcases ht0:Vj s2 with⟨te,s3⟩
 rw[ht0]at h2 hs3 l0
 dsimp only at l0
 have ge:=WT te (by omega)
 obtain⟨ep,oe,pe,pn,fe⟩:=Ud te
 rw[pe]at ge
 have hn0:nmS s2=(ep,s3):=by unfold nmS;rw[ht0];dsimp only;rw[pn]
 have hg:ZM b=((⟨id,6,ep,Zx,0,0,0,[],0,0,false⟩:RqV),s3):=by
  unfold ZM
  rw[ha]
  dsimp only
  rw[hk3]
  dsimp only
  simp only[WR,Nat.reduceBEq,Bool.or_self,Bool.or_true,Bool.true_or,Bool.or_false,Bool.false_or,Bool.false_eq_true,if_false,if_true,hn0]
  rfl
 have hR:=YB (⟨id,6,ep,Zx,0,0,0,[],0,0,false⟩:RqV) fe Vt
 have hP:AP Tryz.prog 93 [.int .i64 6] (.str [101]) []:=WD 6
 clear ha hk2 hk3 ht0 hn0
 obtain⟨a1,q1⟩:=s1
 obtain⟨a2,q2⟩:=s2
 obtain⟨a3,q3⟩:=s3
 obtain⟨ei,en,es,eh,ed⟩:=ep
 dsimp only[rfS,rfD]at h0 h1 h2
 simp only[Nat.sub_self]at h0
 cases hr:ZI (⟨id,6,⟨ei,en,es,eh,ed⟩,Zx,0,0,0,[],0,0,false⟩:RqV) with
 | false=>
  rw[ZV (JE (by rw[hg];exact hr))]
  rw[hr]at hR
  cases he:((a3:Int) != 0) with
  | true=>exact(UL b id ei en es eh ed false 0 0 [] [] 0 0 0 [] 0 0 0 te [] oe false _ _ _ _ _ _ [] h0 h1 hP h2 ge).2.1 he
  | false=>exact(UL b id ei en es eh ed false 0 0 [] [] 0 0 0 [] 0 0 0 te [] oe false _ _ _ _ _ _ [] h0 h1 hP h2 ge).1 he hR
 | true=>
  have hW:=YM (⟨id,6,⟨ei,en,es,eh,ed⟩,Zx,0,0,0,[],0,0,false⟩:RqV) hr
  rw[hr]at hR
  cases he:((a3:Int) != 0) with
  | true=>
   rw[ZV (JR hg he)]
   exact(UL b id ei en es eh ed false 0 0 [] [] 0 0 0 [] 0 0 0 te [] oe false _ _ _ _ _ _ [] h0 h1 hP h2 ge).2.1 he
  | false=>
   cases hz:(ZQ (⟨id,6,⟨ei,en,es,eh,ed⟩,Zx,0,0,0,[],0,0,false⟩:RqV)==b) with
   | false=>
    rw[ZV (JS (by rw[hg];exact hz))]
    exact(UL b id ei en es eh ed false 0 0 [] [] 0 0 0 [] 0 0 0 te [] oe false _ _ _ _ _ _ _ h0 h1 hP h2 ge).2.2.1 he hR hW (by rw[bne,hz];rfl)
   | true=>
    rw[Wu (JT (by rw[hg];exact hr) (by rw[hg];exact hz)),hg]
    exact(UL b id ei en es eh ed false 0 0 [] [] 0 0 0 [] 0 0 0 te [] oe false _ _ _ _ _ _ _ h0 h1 hP h2 ge).2.2.2 he hR hW (by rw[bne,hz];rfl)
theorem MZ [Known](b:List UInt8)(hb:b.length<=1000)(hk:(ZO (ZA (0,b)).2).1=7):AP Tryz.prog 51 [byE b] (Qm b) []:=by
 have hs0:Suf b (0,b):=⟨Nat.le_refl _,by simp⟩
 have h0:=WS b (0,b) hs0 (by omega)
 have hs1:=Yt hs0
 rcases ha:ZA (0,b) with⟨id,s1⟩
 rw[ha]at h0 hs1
 have h1:=Yb b 1099511627776 s1 hs1 (by omega)
 have hs2:=Yj (t:=1099511627776) hs1
 have wk:=Yn 1099511627776 s1
 rcases hk2:Z2 1099511627776 s1 with⟨kn,s2⟩
 have hk3:ZO s1=(kn,s2):=hk2
 rw[hk2]at h1 hs2 wk
 rw[ha]at hk
 dsimp only at hk
 rw[hk3]at hk
 dsimp only at hk
 subst hk
 have h2:=VN b s2 hs2 (by omega)
 have hs3:=Um hs2
 have l0:=(Vb s2).2
 have m0:=hs2.1
 dsimp only at m0
 rcases ht0:Vj s2 with⟨te,s3⟩
 rw[ht0]at h2 hs3 l0
 dsimp only at l0
 have ge:=WT te (by omega)
 obtain⟨ep,oe,pe,pn,fe⟩:=Ud te
 rw[pe]at ge
 have hn0:nmS s2=(ep,s3):=by unfold nmS;rw[ht0];dsimp only;rw[pn]
 have h3:=Yb b 1099511627776 s3 hs3 (by omega)
 have hs4:=Yj (t:=1099511627776) hs3
 have wt:=Yn 1099511627776 s3
 rcases ht1:Z2 1099511627776 s3 with⟨tik,s4⟩
 have hn1:ZO s3=(tik,s4):=ht1
 rw[ht1]at h3 hs4 wt
 dsimp only at wt
 have wt2:IntKind.i64.wrap (tik:Int)=(tik:Int):=IntWalk.i64_in _ (by omega)
 have hg:ZM b=((⟨id,7,ep,Zx,0,0,(tik:Int),[],0,0,false⟩:RqV),s4):=by
  unfold ZM
  rw[ha]
  dsimp only
  rw[hk3]
  dsimp only
  simp only[WR,Nat.reduceBEq,Bool.or_self,Bool.or_true,Bool.true_or,Bool.or_false,Bool.false_or,Bool.false_eq_true,if_false,if_true,hn0,hn1]
  rfl
 have hR:=YB (⟨id,7,ep,Zx,0,0,(tik:Int),[],0,0,false⟩:RqV) fe Vt
 have hP:AP Tryz.prog 93 [.int .i64 7] (.str [101,116]) []:=WD 7
 clear ha hk2 hk3 ht0 ht1 hn0 hn1
 obtain⟨a1,q1⟩:=s1
 obtain⟨a2,q2⟩:=s2
 obtain⟨a3,q3⟩:=s3
 obtain⟨a4,q4⟩:=s4
 obtain⟨ei,en,es,eh,ed⟩:=ep
 dsimp only[rfS,rfD]at h0 h1 h2 h3
 simp only[Nat.sub_self]at h0
 cases hr:ZI (⟨id,7,⟨ei,en,es,eh,ed⟩,Zx,0,0,(tik:Int),[],0,0,false⟩:RqV) with
 | false=>
  rw[ZV (JE (by rw[hg];exact hr))]
  rw[hr]at hR
  cases he:((a4:Int) != 0) with
  | true=>exact(UM b id ei en es eh ed false 0 0 [] [] 0 0 tik [] 0 0 0 te [] oe false _ _ _ _ _ _ _ _ [] h0 h1 hP h2 ge h3 wt2).2.1 he
  | false=>exact(UM b id ei en es eh ed false 0 0 [] [] 0 0 tik [] 0 0 0 te [] oe false _ _ _ _ _ _ _ _ [] h0 h1 hP h2 ge h3 wt2).1 he hR
 | true=>
  have hW:=YM (⟨id,7,⟨ei,en,es,eh,ed⟩,Zx,0,0,(tik:Int),[],0,0,false⟩:RqV) hr
  rw[hr]at hR
  cases he:((a4:Int) != 0) with
  | true=>
   rw[ZV (JR hg he)]
   exact(UM b id ei en es eh ed false 0 0 [] [] 0 0 tik [] 0 0 0 te [] oe false _ _ _ _ _ _ _ _ [] h0 h1 hP h2 ge h3 wt2).2.1 he
  | false=>
   cases hz:(ZQ (⟨id,7,⟨ei,en,es,eh,ed⟩,Zx,0,0,(tik:Int),[],0,0,false⟩:RqV)==b) with
   | false=>
    rw[ZV (JS (by rw[hg];exact hz))]
    exact(UM b id ei en es eh ed false 0 0 [] [] 0 0 tik [] 0 0 0 te [] oe false _ _ _ _ _ _ _ _ _ h0 h1 hP h2 ge h3 wt2).2.2.1 he hR hW (by rw[bne,hz];rfl)
   | true=>
    rw[Wu (JT (by rw[hg];exact hr) (by rw[hg];exact hz)),hg]
    exact(UM b id ei en es eh ed false 0 0 [] [] 0 0 tik [] 0 0 0 te [] oe false _ _ _ _ _ _ _ _ _ h0 h1 hP h2 ge h3 wt2).2.2.2 he hR hW (by rw[bne,hz];rfl)
theorem M0 [Known](b:List UInt8)(hb:b.length<=1000)(hk:(ZO (ZA (0,b)).2).1=8):AP Tryz.prog 51 [byE b] (Qm b) []:=by
 have hs0:Suf b (0,b):=⟨Nat.le_refl _,by simp⟩
 have h0:=WS b (0,b) hs0 (by omega)
 have hs1:=Yt hs0
 rcases ha:ZA (0,b) with⟨id,s1⟩
 rw[ha]at h0 hs1
 have h1:=Yb b 1099511627776 s1 hs1 (by omega)
 have hs2:=Yj (t:=1099511627776) hs1
 have wk:=Yn 1099511627776 s1
 rcases hk2:Z2 1099511627776 s1 with⟨kn,s2⟩
 have hk3:ZO s1=(kn,s2):=hk2
 rw[hk2]at h1 hs2 wk
 rw[ha]at hk
 dsimp only at hk
 rw[hk3]at hk
 dsimp only at hk
 subst hk
 have h2:=Yb b 1099511627776 s2 hs2 (by omega)
 have hs3:=Yj (t:=1099511627776) hs2
 have wn:=Yn 1099511627776 s2
 rcases ht0:Z2 1099511627776 s2 with⟨num,s3⟩
 have hn0:ZO s2=(num,s3):=ht0
 rw[ht0]at h2 hs3 wn
 dsimp only at wn
 have wn2:IntKind.i64.wrap (num:Int)=(num:Int):=IntWalk.i64_in _ (by omega)
 have hg:ZM b=((⟨id,8,Zx,Zx,0,(num:Int),0,[],0,0,false⟩:RqV),s3):=by
  unfold ZM
  rw[ha]
  dsimp only
  rw[hk3]
  dsimp only
  simp only[WR,Nat.reduceBEq,Bool.or_self,Bool.or_true,Bool.true_or,Bool.or_false,Bool.false_or,Bool.false_eq_true,if_false,if_true,hn0]
  rfl
 have hR:=YB (⟨id,8,Zx,Zx,0,(num:Int),0,[],0,0,false⟩:RqV) Vt Vt
 have hP:AP Tryz.prog 93 [.int .i64 8] (.str [110]) []:=WD 8
 clear ha hk2 hk3 ht0 hn0
 obtain⟨a1,q1⟩:=s1
 obtain⟨a2,q2⟩:=s2
 obtain⟨a3,q3⟩:=s3
 dsimp only[rfS,rfD]at h0 h1 h2
 simp only[Nat.sub_self]at h0
 cases hr:ZI (⟨id,8,Zx,Zx,0,(num:Int),0,[],0,0,false⟩:RqV) with
 | false=>
  rw[ZV (JE (by rw[hg];exact hr))]
  rw[hr]at hR
  cases he:((a3:Int) != 0) with
  | true=>exact(UN b id false 0 0 [] [] false 0 0 [] [] 0 num 0 [] 0 0 0 [] [] false false _ _ _ _ _ _ [] h0 h1 hP h2 wn2).2.1 he
  | false=>exact(UN b id false 0 0 [] [] false 0 0 [] [] 0 num 0 [] 0 0 0 [] [] false false _ _ _ _ _ _ [] h0 h1 hP h2 wn2).1 he hR
 | true=>
  have hW:=YM (⟨id,8,Zx,Zx,0,(num:Int),0,[],0,0,false⟩:RqV) hr
  rw[hr]at hR
  cases he:((a3:Int) != 0) with
  | true=>
   rw[ZV (JR hg he)]
   exact(UN b id false 0 0 [] [] false 0 0 [] [] 0 num 0 [] 0 0 0 [] [] false false _ _ _ _ _ _ [] h0 h1 hP h2 wn2).2.1 he
  | false=>
   cases hz:(ZQ (⟨id,8,Zx,Zx,0,(num:Int),0,[],0,0,false⟩:RqV)==b) with
   | false=>
    rw[ZV (JS (by rw[hg];exact hz))]
    exact(UN b id false 0 0 [] [] false 0 0 [] [] 0 num 0 [] 0 0 0 [] [] false false _ _ _ _ _ _ _ h0 h1 hP h2 wn2).2.2.1 he hR hW (by rw[bne,hz];rfl)
   | true=>
    rw[Wu (JT (by rw[hg];exact hr) (by rw[hg];exact hz)),hg]
    exact(UN b id false 0 0 [] [] false 0 0 [] [] 0 num 0 [] 0 0 0 [] [] false false _ _ _ _ _ _ _ h0 h1 hP h2 wn2).2.2.2 he hR hW (by rw[bne,hz];rfl)
theorem M1 [Known](b:List UInt8)(hb:b.length<=1000)(hk:(ZO (ZA (0,b)).2).1=9):AP Tryz.prog 51 [byE b] (Qm b) []:=by
 have hs0:Suf b (0,b):=⟨Nat.le_refl _,by simp⟩
 have h0:=WS b (0,b) hs0 (by omega)
 have hs1:=Yt hs0
 rcases ha:ZA (0,b) with⟨id,s1⟩
 rw[ha]at h0 hs1
 have h1:=Yb b 1099511627776 s1 hs1 (by omega)
 have hs2:=Yj (t:=1099511627776) hs1
 have wk:=Yn 1099511627776 s1
 rcases hk2:Z2 1099511627776 s1 with⟨kn,s2⟩
 have hk3:ZO s1=(kn,s2):=hk2
 rw[hk2]at h1 hs2 wk
 rw[ha]at hk
 dsimp only at hk
 rw[hk3]at hk
 dsimp only at hk
 subst hk
 have h2:=Yb b 1099511627776 s2 hs2 (by omega)
 have hs3:=Yj (t:=1099511627776) hs2
 have wn:=Yn 1099511627776 s2
 rcases ht0:Z2 1099511627776 s2 with⟨num,s3⟩
 have hn0:ZO s2=(num,s3):=ht0
 rw[ht0]at h2 hs3 wn
 dsimp only at wn
 have wn2:IntKind.i64.wrap (num:Int)=(num:Int):=IntWalk.i64_in _ (by omega)
 have hg:ZM b=((⟨id,9,Zx,Zx,0,(num:Int),0,[],0,0,false⟩:RqV),s3):=by
  unfold ZM
  rw[ha]
  dsimp only
  rw[hk3]
  dsimp only
  simp only[WR,Nat.reduceBEq,Bool.or_self,Bool.or_true,Bool.true_or,Bool.or_false,Bool.false_or,Bool.false_eq_true,if_false,if_true,hn0]
  rfl
 have hR:=YB (⟨id,9,Zx,Zx,0,(num:Int),0,[],0,0,false⟩:RqV) Vt Vt
 have hP:AP Tryz.prog 93 [.int .i64 9] (.str [110]) []:=WD 9
 clear ha hk2 hk3 ht0 hn0
 obtain⟨a1,q1⟩:=s1
 obtain⟨a2,q2⟩:=s2
 obtain⟨a3,q3⟩:=s3
 dsimp only[rfS,rfD]at h0 h1 h2
 simp only[Nat.sub_self]at h0
 cases hr:ZI (⟨id,9,Zx,Zx,0,(num:Int),0,[],0,0,false⟩:RqV) with
 | false=>
  rw[ZV (JE (by rw[hg];exact hr))]
  rw[hr]at hR
  cases he:((a3:Int) != 0) with
  | true=>exact(UO b id false 0 0 [] [] false 0 0 [] [] 0 num 0 [] 0 0 0 [] [] false false _ _ _ _ _ _ [] h0 h1 hP h2 wn2).2.1 he
  | false=>exact(UO b id false 0 0 [] [] false 0 0 [] [] 0 num 0 [] 0 0 0 [] [] false false _ _ _ _ _ _ [] h0 h1 hP h2 wn2).1 he hR
 | true=>
  have hW:=YM (⟨id,9,Zx,Zx,0,(num:Int),0,[],0,0,false⟩:RqV) hr
  rw[hr]at hR
  cases he:((a3:Int) != 0) with
  | true=>
   rw[ZV (JR hg he)]
   exact(UO b id false 0 0 [] [] false 0 0 [] [] 0 num 0 [] 0 0 0 [] [] false false _ _ _ _ _ _ [] h0 h1 hP h2 wn2).2.1 he
  | false=>
   cases hz:(ZQ (⟨id,9,Zx,Zx,0,(num:Int),0,[],0,0,false⟩:RqV)==b) with
   | false=>
    rw[ZV (JS (by rw[hg];exact hz))]
    exact(UO b id false 0 0 [] [] false 0 0 [] [] 0 num 0 [] 0 0 0 [] [] false false _ _ _ _ _ _ _ h0 h1 hP h2 wn2).2.2.1 he hR hW (by rw[bne,hz];rfl)
   | true=>
    rw[Wu (JT (by rw[hg];exact hr) (by rw[hg];exact hz)),hg]
    exact(UO b id false 0 0 [] [] false 0 0 [] [] 0 num 0 [] 0 0 0 [] [] false false _ _ _ _ _ _ _ h0 h1 hP h2 wn2).2.2.2 he hR hW (by rw[bne,hz];rfl)
theorem NE [Known](b:List UInt8)(hb:b.length<=1000)(hk:(ZO (ZA (0,b)).2).1=10):AP Tryz.prog 51 [byE b] (Qm b) []:=by
 have hs0:Suf b (0,b):=⟨Nat.le_refl _,by simp⟩
 have h0:=WS b (0,b) hs0 (by omega)
 have hs1:=Yt hs0
 rcases ha:ZA (0,b) with⟨id,s1⟩
 rw[ha]at h0 hs1
 have h1:=Yb b 1099511627776 s1 hs1 (by omega)
 have hs2:=Yj (t:=1099511627776) hs1
 have wk:=Yn 1099511627776 s1
 rcases hk2:Z2 1099511627776 s1 with⟨kn,s2⟩
 have hk3:ZO s1=(kn,s2):=hk2
 rw[hk2]at h1 hs2 wk
 rw[ha]at hk
 dsimp only at hk
 rw[hk3]at hk
 dsimp only at hk
 subst hk
 have h2:=Yb b 1 s2 hs2 (by omega)
 have hs3:=Yj (t:=1) hs2
 rcases ht0:Z2 1 s2 with⟨on,s3⟩
 have hn0:JQ s2=(((on:Int)==1),s3):=by unfold JQ;rw[ht0]
 rw[ht0]at h2 hs3
 have hg:ZM b=((⟨id,10,Zx,Zx,0,0,0,[],0,0,((on:Int)==1)⟩:RqV),s3):=by
  unfold ZM
  rw[ha]
  dsimp only
  rw[hk3]
  dsimp only
  simp only[WR,Nat.reduceBEq,Bool.or_self,Bool.or_true,Bool.true_or,Bool.or_false,Bool.false_or,Bool.false_eq_true,if_false,if_true,hn0]
  rfl
 have hR:=YB (⟨id,10,Zx,Zx,0,0,0,[],0,0,((on:Int)==1)⟩:RqV) Vt Vt
 have hP:AP Tryz.prog 93 [.int .i64 10] (.str [111]) []:=WD 10
 clear ha hk2 hk3 ht0 hn0
 obtain⟨a1,q1⟩:=s1
 obtain⟨a2,q2⟩:=s2
 obtain⟨a3,q3⟩:=s3
 dsimp only[rfS,rfD]at h0 h1 h2
 simp only[Nat.sub_self]at h0
 cases hr:ZI (⟨id,10,Zx,Zx,0,0,0,[],0,0,((on:Int)==1)⟩:RqV) with
 | false=>
  rw[ZV (JE (by rw[hg];exact hr))]
  rw[hr]at hR
  cases he:((a3:Int) != 0) with
  | true=>exact(Ua b id false 0 0 [] [] false 0 0 [] [] 0 0 0 [] 0 0 on [] [] false false _ _ _ _ _ _ [] h0 h1 hP h2).2.1 he
  | false=>exact(Ua b id false 0 0 [] [] false 0 0 [] [] 0 0 0 [] 0 0 on [] [] false false _ _ _ _ _ _ [] h0 h1 hP h2).1 he hR
 | true=>
  have hW:=YM (⟨id,10,Zx,Zx,0,0,0,[],0,0,((on:Int)==1)⟩:RqV) hr
  rw[hr]at hR
  cases he:((a3:Int) != 0) with
  | true=>
   rw[ZV (JR hg he)]
   exact(Ua b id false 0 0 [] [] false 0 0 [] [] 0 0 0 [] 0 0 on [] [] false false _ _ _ _ _ _ [] h0 h1 hP h2).2.1 he
  | false=>
   cases hz:(ZQ (⟨id,10,Zx,Zx,0,0,0,[],0,0,((on:Int)==1)⟩:RqV)==b) with
   | false=>
    rw[ZV (JS (by rw[hg];exact hz))]
    exact(Ua b id false 0 0 [] [] false 0 0 [] [] 0 0 0 [] 0 0 on [] [] false false _ _ _ _ _ _ _ h0 h1 hP h2).2.2.1 he hR hW (by rw[bne,hz];rfl)
   | true=>
    rw[Wu (JT (by rw[hg];exact hr) (by rw[hg];exact hz)),hg]
    exact(Ua b id false 0 0 [] [] false 0 0 [] [] 0 0 0 [] 0 0 on [] [] false false _ _ _ _ _ _ _ h0 h1 hP h2).2.2.2 he hR hW (by rw[bne,hz];rfl)
theorem NF [Known](b:List UInt8)(hb:b.length<=1000)(hk:(ZO (ZA (0,b)).2).1=11):AP Tryz.prog 51 [byE b] (Qm b) []:=by
 have hs0:Suf b (0,b):=⟨Nat.le_refl _,by simp⟩
 have h0:=WS b (0,b) hs0 (by omega)
 have hs1:=Yt hs0
 rcases ha:ZA (0,b) with⟨id,s1⟩
 rw[ha]at h0 hs1
 have h1:=Yb b 1099511627776 s1 hs1 (by omega)
 have hs2:=Yj (t:=1099511627776) hs1
 have wk:=Yn 1099511627776 s1
 rcases hk2:Z2 1099511627776 s1 with⟨kn,s2⟩
 have hk3:ZO s1=(kn,s2):=hk2
 rw[hk2]at h1 hs2 wk
 rw[ha]at hk
 dsimp only at hk
 rw[hk3]at hk
 dsimp only at hk
 subst hk
 have hg:ZM b=((⟨id,11,Zx,Zx,0,0,0,[],0,0,false⟩:RqV),s2):=by
  unfold ZM
  rw[ha]
  dsimp only
  rw[hk3]
  dsimp only
  simp only[WR,Nat.reduceBEq,Bool.or_self,Bool.or_true,Bool.true_or,Bool.or_false,Bool.false_or,Bool.false_eq_true,if_false,if_true]
  rfl
 have hR:=YB (⟨id,11,Zx,Zx,0,0,0,[],0,0,false⟩:RqV) Vt Vt
 have hP:AP Tryz.prog 93 [.int .i64 11] (.str []) []:=WD 11
 clear ha hk2 hk3 
 obtain⟨a1,q1⟩:=s1
 obtain⟨a2,q2⟩:=s2
 dsimp only[rfS,rfD]at h0 h1
 simp only[Nat.sub_self]at h0
 cases hr:ZI (⟨id,11,Zx,Zx,0,0,0,[],0,0,false⟩:RqV) with
 | false=>
  rw[ZV (JE (by rw[hg];exact hr))]
  rw[hr]at hR
  cases he:((a2:Int) != 0) with
  | true=>exact(Ub b id false 0 0 [] [] false 0 0 [] [] 0 0 0 [] 0 0 0 [] [] false false _ _ _ _ [] h0 h1 hP).2.1  he
  | false=>exact(Ub b id false 0 0 [] [] false 0 0 [] [] 0 0 0 [] 0 0 0 [] [] false false _ _ _ _ [] h0 h1 hP).1  he hR
 | true=>
  have hW:=YM (⟨id,11,Zx,Zx,0,0,0,[],0,0,false⟩:RqV) hr
  rw[hr]at hR
  cases he:((a2:Int) != 0) with
  | true=>
   rw[ZV (JR hg he)]
   exact(Ub b id false 0 0 [] [] false 0 0 [] [] 0 0 0 [] 0 0 0 [] [] false false _ _ _ _ [] h0 h1 hP).2.1  he
  | false=>
   cases hz:(ZQ (⟨id,11,Zx,Zx,0,0,0,[],0,0,false⟩:RqV)==b) with
   | false=>
    rw[ZV (JS (by rw[hg];exact hz))]
    exact(Ub b id false 0 0 [] [] false 0 0 [] [] 0 0 0 [] 0 0 0 [] [] false false _ _ _ _ _ h0 h1 hP).2.2.1  he hR hW (by rw[bne,hz];rfl)
   | true=>
    rw[Wu (JT (by rw[hg];exact hr) (by rw[hg];exact hz)),hg]
    exact(Ub b id false 0 0 [] [] false 0 0 [] [] 0 0 0 [] 0 0 0 [] [] false false _ _ _ _ _ h0 h1 hP).2.2.2  he hR hW (by rw[bne,hz];rfl)
theorem NG [Known](b:List UInt8)(hb:b.length<=1000)(hk:(ZO (ZA (0,b)).2).1=12):AP Tryz.prog 51 [byE b] (Qm b) []:=by
 have hs0:Suf b (0,b):=⟨Nat.le_refl _,by simp⟩
 have h0:=WS b (0,b) hs0 (by omega)
 have hs1:=Yt hs0
 rcases ha:ZA (0,b) with⟨id,s1⟩
 rw[ha]at h0 hs1
 have h1:=Yb b 1099511627776 s1 hs1 (by omega)
 have hs2:=Yj (t:=1099511627776) hs1
 have wk:=Yn 1099511627776 s1
 rcases hk2:Z2 1099511627776 s1 with⟨kn,s2⟩
 have hk3:ZO s1=(kn,s2):=hk2
 rw[hk2]at h1 hs2 wk
 rw[ha]at hk
 dsimp only at hk
 rw[hk3]at hk
 dsimp only at hk
 subst hk
 have h2:=WS b s2 hs2 (by omega)
 have hs3:=Yt hs2
 rcases ht0:ZA s2 with⟨tok,s3⟩
 rw[ht0]at h2 hs3
 have hg:ZM b=((⟨id,12,Zx,Zx,0,0,0,[],0,tok,false⟩:RqV),s3):=by
  unfold ZM
  rw[ha]
  dsimp only
  rw[hk3]
  dsimp only
  simp only[WR,Nat.reduceBEq,Bool.or_self,Bool.or_true,Bool.true_or,Bool.or_false,Bool.false_or,Bool.false_eq_true,if_false,if_true,ht0]
  rfl
 have hR:=YB (⟨id,12,Zx,Zx,0,0,0,[],0,tok,false⟩:RqV) Vt Vt
 have hP:AP Tryz.prog 93 [.int .i64 12] (.str [107]) []:=WD 12
 clear ha hk2 hk3 ht0
 obtain⟨a1,q1⟩:=s1
 obtain⟨a2,q2⟩:=s2
 obtain⟨a3,q3⟩:=s3
 dsimp only[rfS,rfD]at h0 h1 h2
 simp only[Nat.sub_self]at h0
 cases hr:ZI (⟨id,12,Zx,Zx,0,0,0,[],0,tok,false⟩:RqV) with
 | false=>
  rw[ZV (JE (by rw[hg];exact hr))]
  rw[hr]at hR
  cases he:((a3:Int) != 0) with
  | true=>exact(Uc b id false 0 0 [] [] false 0 0 [] [] 0 0 0 [] 0 tok 0 [] [] false false _ _ _ _ _ _ [] h0 h1 hP h2).2.1 he
  | false=>exact(Uc b id false 0 0 [] [] false 0 0 [] [] 0 0 0 [] 0 tok 0 [] [] false false _ _ _ _ _ _ [] h0 h1 hP h2).1 he hR
 | true=>
  have hW:=YM (⟨id,12,Zx,Zx,0,0,0,[],0,tok,false⟩:RqV) hr
  rw[hr]at hR
  cases he:((a3:Int) != 0) with
  | true=>
   rw[ZV (JR hg he)]
   exact(Uc b id false 0 0 [] [] false 0 0 [] [] 0 0 0 [] 0 tok 0 [] [] false false _ _ _ _ _ _ [] h0 h1 hP h2).2.1 he
  | false=>
   cases hz:(ZQ (⟨id,12,Zx,Zx,0,0,0,[],0,tok,false⟩:RqV)==b) with
   | false=>
    rw[ZV (JS (by rw[hg];exact hz))]
    exact(Uc b id false 0 0 [] [] false 0 0 [] [] 0 0 0 [] 0 tok 0 [] [] false false _ _ _ _ _ _ _ h0 h1 hP h2).2.2.1 he hR hW (by rw[bne,hz];rfl)
   | true=>
    rw[Wu (JT (by rw[hg];exact hr) (by rw[hg];exact hz)),hg]
    exact(Uc b id false 0 0 [] [] false 0 0 [] [] 0 0 0 [] 0 tok 0 [] [] false false _ _ _ _ _ _ _ h0 h1 hP h2).2.2.2 he hR hW (by rw[bne,hz];rfl)
theorem M2 [Known](b:List UInt8)(hb:b.length<=1000)(k1:(((ZO (ZA (0,b)).2).1:Int)==1)=false)(k2:(((ZO (ZA (0,b)).2).1:Int)==2)=false)(k3:(((ZO (ZA (0,b)).2).1:Int)==3)=false)(k4:(((ZO (ZA (0,b)).2).1:Int)==4)=false)(k5:(((ZO (ZA (0,b)).2).1:Int)==5)=false)(k6:(((ZO (ZA (0,b)).2).1:Int)==6)=false)(k7:(((ZO (ZA (0,b)).2).1:Int)==7)=false)(k8:(((ZO (ZA (0,b)).2).1:Int)==8)=false)(k9:(((ZO (ZA (0,b)).2).1:Int)==9)=false)(k10:(((ZO (ZA (0,b)).2).1:Int)==10)=false)(k11:(((ZO (ZA (0,b)).2).1:Int)==11)=false)(k12:(((ZO (ZA (0,b)).2).1:Int)==12)=false):AP Tryz.prog 51 [byE b] (Qm b) []:=by
 have hs0:Suf b (0,b):=⟨Nat.le_refl _,by simp⟩
 have h0:=WS b (0,b) hs0 (by omega)
 have hs1:=Yt hs0
 rcases ha:ZA (0,b) with⟨id,s1⟩
 rw[ha]at h0 hs1
 have h1:=Yb b 1099511627776 s1 hs1 (by omega)
 have hs2:=Yj (t:=1099511627776) hs1
 have wk:=Yn 1099511627776 s1
 rcases hk2:Z2 1099511627776 s1 with⟨kn,s2⟩
 have hk3:ZO s1=(kn,s2):=hk2
 rw[hk2]at h1 hs2 wk
 rw[ha]at k1
 dsimp only at k1
 rw[hk3]at k1
 dsimp only at k1
 rw[ha]at k2
 dsimp only at k2
 rw[hk3]at k2
 dsimp only at k2
 rw[ha]at k3
 dsimp only at k3
 rw[hk3]at k3
 dsimp only at k3
 rw[ha]at k4
 dsimp only at k4
 rw[hk3]at k4
 dsimp only at k4
 rw[ha]at k5
 dsimp only at k5
 rw[hk3]at k5
 dsimp only at k5
 rw[ha]at k6
 dsimp only at k6
 rw[hk3]at k6
 dsimp only at k6
 rw[ha]at k7
 dsimp only at k7
 rw[hk3]at k7
 dsimp only at k7
 rw[ha]at k8
 dsimp only at k8
 rw[hk3]at k8
 dsimp only at k8
 rw[ha]at k9
 dsimp only at k9
 rw[hk3]at k9
 dsimp only at k9
 rw[ha]at k10
 dsimp only at k10
 rw[hk3]at k10
 dsimp only at k10
 rw[ha]at k11
 dsimp only at k11
 rw[hk3]at k11
 dsimp only at k11
 rw[ha]at k12
 dsimp only at k12
 rw[hk3]at k12
 dsimp only at k12
 have hg:ZM b=((⟨id,(kn:Int),Zx,Zx,0,0,0,[],0,0,false⟩:RqV),s2):=by
  unfold ZM
  rw[ha]
  dsimp only
  rw[hk3]
  dsimp only
  have kk:∀ i:Nat,((kn:Int)==(i:Int))=(kn==i):=fun i=>by rw[Bool.eq_iff_iff,beq_iff_eq,beq_iff_eq];omega
  unfold WR
  rw[show(kn==1)=false from(kk 1).symm.trans k1,show(kn==2)=false from(kk 2).symm.trans k2,show(kn==3)=false from(kk 3).symm.trans k3,show(kn==4)=false from(kk 4).symm.trans k4,show(kn==5)=false from(kk 5).symm.trans k5,show(kn==6)=false from(kk 6).symm.trans k6,show(kn==7)=false from(kk 7).symm.trans k7,show(kn==8)=false from(kk 8).symm.trans k8,show(kn==9)=false from(kk 9).symm.trans k9,show(kn==10)=false from(kk 10).symm.trans k10,show(kn==12)=false from(kk 12).symm.trans k12]
  rfl
 have hP:=WD (kn:Int)
 have ep:VM (kn:Int)=[63]:=by
  unfold VM
  simp only[k1,k2,k3,k4,k5,k6,k7,k8,k9,k10,k11,k12,Bool.or_self,Bool.false_eq_true,if_false]
 rw[ep]at hP
 have wk2:IntKind.i64.wrap (kn:Int)=(kn:Int):=IntWalk.i64_in _ (by dsimp only at wk;omega)
 have hR:=YB (⟨id,(kn:Int),Zx,Zx,0,0,0,[],0,0,false⟩:RqV) Vt Vt
 clear ha hk2 hk3 
 obtain⟨a1,q1⟩:=s1
 obtain⟨a2,q2⟩:=s2
 dsimp only[rfS,rfD]at h0 h1
 simp only[Nat.sub_self]at h0
 have hr:ZI (⟨id,(kn:Int),Zx,Zx,0,0,0,[],0,0,false⟩:RqV)=false:=by
  cases h:ZI (⟨id,(kn:Int),Zx,Zx,0,0,0,[],0,0,false⟩:RqV) with
  | false=>rfl
  | true=>rcases Uk h with h|h|h|h|h|h|h|h|h|h|h|h<;>(dsimp only at h;first|exact absurd h (beq_eq_false_iff_ne.1 k1)|exact absurd h (beq_eq_false_iff_ne.1 k2)|exact absurd h (beq_eq_false_iff_ne.1 k3)|exact absurd h (beq_eq_false_iff_ne.1 k4)|exact absurd h (beq_eq_false_iff_ne.1 k5)|exact absurd h (beq_eq_false_iff_ne.1 k6)|exact absurd h (beq_eq_false_iff_ne.1 k7)|exact absurd h (beq_eq_false_iff_ne.1 k8)|exact absurd h (beq_eq_false_iff_ne.1 k9)|exact absurd h (beq_eq_false_iff_ne.1 k10)|exact absurd h (beq_eq_false_iff_ne.1 k11)|exact absurd h (beq_eq_false_iff_ne.1 k12))
 rw[ZV (JE (by rw[hg];exact hr))]
 rw[hr]at hR
 cases he:((a2:Int) != 0) with
 | true=>exact(Ka b id false 0 0 [] [] false 0 0 [] [] 0 0 0 [] 0 0 0 [] [] false false kn wk2 hP _ _ _ _ [] h0 h1).1  he
 | false=>exact(Ka b id false 0 0 [] [] false 0 0 [] [] 0 0 0 [] 0 0 0 [] [] false false kn wk2 hP _ _ _ _ [] h0 h1).2  he hR
theorem IK [Known](b:List UInt8)(hb:b.length<=1000):AP Tryz.prog 51 [byE b] (Qm b) []:=by
 rcases Xe (((ZO (ZA (0,b)).2).1:Nat):Int) with h|h|h|h|h|h|h|h|h|h|h|h|⟨k1,k2,k3,k4,k5,k6,k7,k8,k9,k10,k11,k12⟩
 ·exact MT b hb (by omega)
 ·exact MU b hb (by omega)
 ·exact MV b hb (by omega)
 ·exact MW b hb (by omega)
 ·exact MX b hb (by omega)
 ·exact MY b hb (by omega)
 ·exact MZ b hb (by omega)
 ·exact M0 b hb (by omega)
 ·exact M1 b hb (by omega)
 ·exact NE b hb (by omega)
 ·exact NF b hb (by omega)
 ·exact NG b hb (by omega)
 ·exact M2 b hb k1 k2 k3 k4 k5 k6 k7 k8 k9 k10 k11 k12
end Go.Proofs.YtchlgagdbflkmaaGreatDoor
end

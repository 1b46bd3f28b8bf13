/- Events as bytes, plain: there and back (draft: its first half, the reader's way back, is checked; not built at a seat). -/
import Derived.Test.YtkdpfkjlheajhaaGreatDoorE31
import Derived.Test.YtkdpfkjlheajhaaGreatDoorE34
import Derived.Test.YtkdpfkjlheajhaaGreatDoorE12
set_option linter.unusedVariables false
set_option linter.unusedSimpArgs false
section
open Go.RowKit Go.Pl Go.Av
namespace Go.Proofs.YtkdpfkjlheajhaaGreatDoor
set_option maxHeartbeats 4000000
theorem O4:∀(b:List UInt8) (i a n:Nat) (r:List UInt8),i<=9->rnF b i a=(n,0,r)->∃ m,n=a+m*2 ^ (7*i)/\b=vnF (9-i) m++r/\(i>0->m>0)
 | [],i,a,n,r,_,h=>by rw[rnF]at h;simp at h
 | c::t,i,a,n,r,hi,h=>by
  rw[rnF]at h
  split at h
  ·simp at h
  ·rename_i h1
   split at h
   ·rename_i h2
    simp only[Prod.mk.injEq,true_and]at h
    obtain⟨rfl,rfl⟩:=h
    have hc:UInt8.ofNat c.toNat=c:=UInt8.ofNat_toNat
    refine⟨c.toNat,by rw[Nat.mod_eq_of_lt h2],?_,fun hi=>by omega⟩
    cases hf:9-i with
    | zero=>rw[vnF,hc];rfl
    | succ f=>rw[vnF,if_neg (by omega),hc];rfl
   ·rename_i h2
    obtain⟨m,hm,hb,hp⟩:=O4 t (i+1) _ n r (by omega) h
    have hlt:=c.toNat_lt
    have hm0:=hp (by omega)
    refine⟨c.toNat % 128+128*m,?_,?_,fun _=>by omega⟩
    ·rw[hm,show 7*(i+1)=7+7*i by omega,Nat.pow_add,Nat.add_mul,Nat.add_assoc,show(2:Nat) ^ 7=128 from rfl,<- Nat.mul_assoc,Nat.mul_comm m 128]
    ·have e1:(c.toNat % 128+128*m) % 128+128=c.toNat:=by omega
     have e2:(c.toNat % 128+128*m)/128=m:=by omega
     rw[hb,show 9-i=(9-(i+1))+1 by omega,vnF,if_pos (by omega),e1,e2,UInt8.ofNat_toNat]
     rfl
theorem QB {s:Nat × List UInt8}{n:Nat}{r:List UInt8}(h:ZE s=(n,0,r)):s.1=0/\s.2=vn n++r:=by
 unfold ZE at h
 split at h
 ·rename_i h0
  have h0 : s.1 = 0 := by have : (s.1 : Int) = 0 := by simpa using h0
                          omega
  obtain⟨m,hm,hb,_⟩:=O4 _ _ _ _ _ (by omega) h
  refine⟨h0,?_⟩
  rw[hb,hm]
  simp[vn]
 ·rename_i h0
  have e:s=(0,r):=(Prod.mk.inj h).2
  rw[e]at h0
  simp at h0
theorem TD {f:Nat}(hf:f ≠ 0)(s:Nat × List UInt8):(U6 f s).1 ≠ 0:=by
 unfold U6
 split
 ·exact hf
 ·rename_i h;intro e;rw[e]at h;simp at h
theorem Xg {top:Nat}{s:Nat × List UInt8}{n:Nat}{r:List UInt8}(h:Yv top s=(n,0,r)):s.1=0/\s.2=vn n++r/\n<=top:=by
 unfold Yv at h
 split at h
 ·have e:=(Prod.mk.inj h).2
  exact absurd (congrArg Prod.fst e) (TD (by decide) _)
 ·rename_i ht
  rw[h]at ht
  have ht:=of_decide_eq_false ht
  obtain⟨h1,h2⟩:=QB h
  exact⟨h1,h2,by dsimp only at ht;omega⟩
theorem GQ {s:Nat × List UInt8}{t r:List UInt8}(h:Vc s=(t,0,r)):s.1=0/\s.2=vn t.length++(t++r):=by
 unfold Vc at h
 split at h
 ·rename_i h0
  have e:=(Prod.mk.inj h).2
  rw[e]at h0
  simp at h0
 ·split at h
  ·have e:=(Prod.mk.inj h).2
   exact absurd (congrArg Prod.fst e) (TD (by decide) _)
  ·rename_i h0 ht
   have ht:=of_decide_eq_false ht
   simp only[Prod.mk.injEq]at h
   obtain⟨e1,e2,e3⟩:=h
   have hn:ZE s=((ZE s).1,0,(ZE s).2.2):=by rw[<- e2]
   obtain⟨h1,h2⟩:=QB hn
   refine⟨h1,?_⟩
   have hl:t.length=(ZE s).1:=by rw[<- e1,List.length_take];omega
   rw[h2,hl,<- e1,<- e3,List.take_append_drop]
theorem MY {s:Nat × List UInt8}(h:WI s=0):s.1=0/\s.2=[]:=by
 unfold WI at h
 split at h
 ·rename_i h0;rw[h]at h0;simp at h0
 ·rename_i h0
  split at h
  ·cases h
  ·rename_i ht
   have ht:=of_decide_eq_false ht
   exact ⟨by have : (s.1 : Int) = 0 := by simpa using h0
             omega,List.eq_nil_of_length_eq_zero (by omega)⟩
def Wr (x:EvV):List UInt8:=
 if x.kd==1||x.kd==2 then vn x.tok
 else if x.kd==3 then vn x.ses.toNat
 else if x.kd==4 then vn x.ses.toNat++(vn (ZQ x.rq).length++ZQ x.rq)
 else if x.kd==5 then vn x.data.length++x.data
 else []
def ZZ (x:EvV):List UInt8:=vn x.now++(vn x.kd.toNat++Wr x)
def Wj (k:Nat)(z:EvV)(s:Rd):EvV × Bool × Rd:=
 if k==1||k==2 then({ z with tok:=(ZE s).1 },true,(ZE s).2)
 else if k==3 then({ z with ses:=((ZP s).1:Int) },true,(ZP s).2)
 else if k==4 then({ z with ses:=((ZP s).1:Int),rq:=(match Uc (Vc (ZP s).2).1 with|true=>(Yn (Vc (ZP s).2).1).1|false=>rq0) },Uc (Vc (ZP s).2).1,(Vc (ZP s).2).2)
 else if k==5 then({ z with data:=(Vc s).1 },true,(Vc s).2)
 else(z,true,s)
abbrev Bq (now k:Nat):EvV:=⟨now,(k:Int),0,0,rq0,[]⟩
def Yy (b:List UInt8):EvV × Bool × Rd:=Wj (ZP (ZE (0,b)).2).1 (Bq (ZE (0,b)).1 (ZP (ZE (0,b)).2).1) (ZP (ZE (0,b)).2).2
def Vu (b:List UInt8):Bool:=(Yy b).2.1&&((WI (Yy b).2.2==0)&&ZY (Yy b).1)
theorem QC {x:EvV}(h:ZY x=true):x.now<=1099511627776/\Vy x=true/\UX x (JM x)=true:=by
 unfold ZY at h
 simp only[Bool.and_eq_true,decide_eq_true_eq]at h
 exact⟨by omega,h.2.2,h.2.1⟩
theorem KW {a b:EvV}(h:UX a b=true):a=b:=by
 unfold UX at h
 simp only[Bool.and_eq_true,beq_iff_eq]at h
 obtain⟨h1,h2,h3,h4,h5,h6⟩:=h
 have:=TC h5
 obtain⟨now,kd,tok,ses,rq,data⟩:=a
 obtain⟨now2,kd2,tok2,ses2,rq2,data2⟩:=b
 dsimp only at h1 h2 h3 h4 h6 this
 have e1:now=now2:=by omega
 have e3:tok=tok2:=by omega
 subst e1 h2 e3 h4 h6 this
 rfl
theorem X7 {x:EvV}(h:Vy x=true):x.kd=1\/x.kd=2\/x.kd=3\/x.kd=4\/x.kd=5\/x.kd=6\/x.kd=7\/x.kd=8:=by
 rcases Ty x.kd with h|h|h|h|h|h|h|h|⟨n1,n2,n3,n4,n5,n6,n7,n8⟩
 all_goals first|(simp[h];done)|skip
 unfold Vy at h
 simp[n1,n2,n3,n4,n5,n6,n7,n8]at h
theorem MZ (n:Nat)(r:List UInt8)(hn:n<=1099511627776):ZP (0,vn n++r)=(n,0,r):=IA (by omega) hn r
theorem Jg {x:EvV}(h:ZY x=true)(hl:x.kd=4->(ZQ x.rq).length<18446744073709551616)(hd:x.kd=5->x.data.length<18446744073709551616)(r:List UInt8):Yy (ZZ x++r)=(x,true,0,r):=by
 obtain⟨hn,hp,hs⟩:=QC h
 have hs:=KW hs
 have hk:=X7 hp
 obtain⟨now,kd,tok,ses,rq,data⟩:=x
 dsimp only at hk hn hl hd
 unfold Vy at hp
 unfold JM at hs
 unfold Yy ZZ
 dsimp only
 rw[List.append_assoc,QA (by omega)]
 dsimp only
 rw[List.append_assoc,MZ _ _ (by omega)]
 dsimp only
 rcases hk with rfl|rfl|rfl|rfl|rfl|rfl|rfl|rfl
 all_goals
  simp only[Int.reduceBEq,Bool.true_or,Bool.or_true,Bool.or_self,Bool.or_false,Bool.false_or,if_true,if_false,Bool.false_eq_true,Bool.and_eq_true,decide_eq_true_eq]at hp hs
  simp only[EvV.mk.injEq,true_and]at hs
  simp only[Wj,Wr,Int.reduceToNat,Nat.reduceBEq,Int.reduceBEq,Bool.true_or,Bool.or_true,Bool.or_self,Bool.or_false,Bool.false_or,if_true,if_false,Bool.false_eq_true,List.append_assoc,List.nil_append]
 ·rw[QA (by omega)];simp only[hs];rfl
 ·rw[QA (by omega)];simp only[hs];rfl
 ·unfold JN at hp
  simp only[Bool.and_eq_true,decide_eq_true_eq]at hp
  rw[MZ _ _ (by omega)]
  simp only[hs,Prod.mk.injEq,EvV.mk.injEq,true_and,and_true];omega
 ·unfold JN at hp
  simp only[Bool.and_eq_true,decide_eq_true_eq]at hp
  have h3:=SN hp.2.1
  rw[MZ _ _ (by omega)]
  dsimp only
  rw[IB (hl rfl)]
  dsimp only
  rw[h3.1,h3.2]
  simp only[hs,Prod.mk.injEq,EvV.mk.injEq,true_and,and_true];omega
 ·rw[IB (hd rfl)];simp only[hs];rfl
 ·simp only[hs];rfl
 ·simp only[hs];rfl
 ·simp only[hs];rfl
theorem HI (b:List UInt8):(Yy b).1.now=(ZE (0,b)).1:=by
 unfold Yy Wj
 repeat' split
 all_goals rfl
theorem O5 (b:List UInt8):(Yy b).1.kd=(((ZP (ZE (0,b)).2).1:Nat):Int):=by
 unfold Yy Wj
 repeat' split
 all_goals rfl
theorem KX {b:List UInt8}(h:Vu b=true):ZZ (Yy b).1=b:=by
 unfold Vu at h
 simp only[Bool.and_eq_true,beq_iff_eq]at h
 obtain⟨h1,h2,h3⟩:=h
 have h2:=MY h2
 have hk:=X7 (QC h3).2.1
 rw[O5]at hk
 clear h3
 unfold ZZ
 rw[HI,O5]
 rcases ha:ZE (0,b) with⟨now,s1⟩
 rcases hb:ZP s1 with⟨k,s2⟩
 have hg:Yy b=Wj k (Bq now k) s2:=by unfold Yy;rw[ha];dsimp only;rw[hb]
 rw[ha]at hk
 dsimp only at hk
 rw[hb]at hk
 dsimp only at hk ⊢
 have key:∀ r:List UInt8,s2=(0,r)->b=vn now++(vn k++r):=fun r hr=>by
  rw[hr]at hb
  obtain⟨q1,q2,_⟩:=Xg hb
  have hs1:s1=(0,s1.2):=Prod.ext q1 rfl
  rw[hs1]at ha
  obtain⟨_,q3⟩:=QB ha
  rw[q2]at q3
  exact q3
 rw[hg]at h1 h2 ⊢
 rw[Int.toNat_natCast]
 clear hg ha hb
 have hk2:k=1\/k=2\/k=3\/k=4\/k=5\/k=6\/k=7\/k=8:=by omega
 rcases hk2 with rfl|rfl|rfl|rfl|rfl|rfl|rfl|rfl
 ·rcases hc:ZE s2 with⟨tok,s3⟩
  simp only[Wj,Wr,Nat.reduceBEq,Bool.true_or,if_true,hc]at h1 h2 ⊢
  have e3:s3=(0,[]):=Prod.ext h2.1 h2.2
  rw[e3]at hc
  obtain⟨q1,q2⟩:=QB hc
  rw[key (vn tok) (Prod.ext q1 (by simpa using q2))]
  rfl
 ·rcases hc:ZE s2 with⟨tok,s3⟩
  simp only[Wj,Wr,Nat.reduceBEq,Bool.true_or,Bool.or_true,Bool.false_or,if_true,hc]at h1 h2 ⊢
  have e3:s3=(0,[]):=Prod.ext h2.1 h2.2
  rw[e3]at hc
  obtain⟨q1,q2⟩:=QB hc
  rw[key (vn tok) (Prod.ext q1 (by simpa using q2))]
  rfl
 ·rcases hc:ZP s2 with⟨ses,s3⟩
  simp only[Wj,Wr,Nat.reduceBEq,Bool.or_self,Bool.false_eq_true,if_false,if_true,hc]at h1 h2 ⊢
  have e3:s3=(0,[]):=Prod.ext h2.1 h2.2
  rw[e3]at hc
  obtain⟨q1,q2,_⟩:=Xg hc
  rw[key (vn ses) (Prod.ext q1 (by simpa using q2))]
  rfl
 ·rcases hc:ZP s2 with⟨ses,s3⟩
  rcases hd:Vc s3 with⟨t,s4⟩
  simp only[Wj,Wr,Nat.reduceBEq,Bool.or_self,Bool.false_eq_true,if_false,if_true,hc,hd]at h1 h2 ⊢
  have e4:s4=(0,[]):=Prod.ext h2.1 h2.2
  rw[e4]at hd
  obtain⟨q1,q2⟩:=GQ hd
  have e3:s3=(0,s3.2):=Prod.ext q1 rfl
  rw[e3]at hc
  obtain⟨q3,q4,_⟩:=Xg hc
  rw[h1]
  have hp:ZQ (Yn t).1=t:=by
   unfold Uc at h1
   simp only[Bool.and_eq_true,beq_iff_eq]at h1
   exact h1.2.2
  rw[key (vn ses++(vn t.length++t)) (Prod.ext q3 (by rw[q4,q2,List.append_nil]))]
  show _++(_++(vn ((ses:Nat):Int).toNat++(vn (ZQ (Yn t).1).length++ZQ (Yn t).1)))=_
  rw[hp]
  rfl
 ·rcases hc:Vc s2 with⟨t,s3⟩
  simp only[Wj,Wr,Nat.reduceBEq,Bool.or_self,Bool.false_eq_true,if_false,if_true,hc]at h1 h2 ⊢
  have e3:s3=(0,[]):=Prod.ext h2.1 h2.2
  rw[e3]at hc
  obtain⟨q1,q2⟩:=GQ hc
  rw[key (vn t.length++t) (Prod.ext q1 (by simpa using q2))]
  rfl
 all_goals
  simp only[Wj,Wr,Nat.reduceBEq,Bool.or_self,Bool.false_eq_true,if_false]at h1 h2 ⊢
  rw[key [] (Prod.ext h2.1 h2.2)]
  rfl
theorem IC {x:EvV}(h:x.kd=4):(ZQ x.rq).length<=(ZZ x).length:=by
 unfold ZZ Wr
 rw[h]
 simp
 omega
theorem X8 {x:EvV}(h:x.kd=5):x.data.length<=(ZZ x).length:=by
 unfold ZZ Wr
 rw[h]
 simp
 omega
theorem M0 {x:EvV}(h:ZY x=true)(hb:(ZZ x).length<18446744073709551616){c:Nat}(hc:c<(ZZ x).length):Vu ((ZZ x).take c)=false:=by
 cases ho:Vu ((ZZ x).take c) with
 | false=>rfl
 | true=>
  exfalso
  have hpg:=KX ho
  have hr:=ho
  unfold Vu at hr
  simp only[Bool.and_eq_true]at hr
  have hlen:(ZZ (Yy ((ZZ x).take c)).1).length<18446744073709551616:=by rw[hpg,List.length_take];omega
  have g1:=Jg hr.2.2 (fun e=>by have:=IC e;omega) (fun e=>by have:=X8 e;omega) ((ZZ x).drop c)
  rw[hpg,List.take_append_drop]at g1
  have g2:=Jg h (fun e=>by have:=IC e;omega) (fun e=>by have:=X8 e;omega) []
  rw[List.append_nil,g1]at g2
  have e:=congrArg (fun p=>p.2.2.2) g2
  have:=congrArg List.length e
  simp at this
  omega
theorem Ns {x:EvV}(h:ZY x=true)(hb:(ZZ x).length<18446744073709551616):Vu (ZZ x)=true/\(Yy (ZZ x)).1=x:=by
 have g:=Jg h (fun e=>by have:=IC e;omega) (fun e=>by have:=X8 e;omega) []
 rw[List.append_nil]at g
 unfold Vu
 rw[g]
 exact⟨by simp[h,WI],rfl⟩
abbrev wrC (L:List UInt8):List (List D):=[[.bool true,.sl (.own 0) (L.map E.byte)]]
abbrev wrF (L:List UInt8):List Fr:=[⟨L.length,1,5⟩]
theorem HJ (n:Nat):E.int .u8 (bits .or .u8 (IntKind.u8.wrap (n:Int)) 128)=E.byte (UInt8.ofNat (n % 128+128)):=congrArg (E.int .u8) (Rm n)
theorem ID (n:Nat)(h:n<256):E.int .u8 (IntKind.u8.wrap (n:Int))=E.byte (UInt8.ofNat n):=congrArg (E.int .u8) (by rw[RR,UInt8.toNat_ofNat'])
theorem X9 (M:List UInt8)(c:UInt8):M.map E.byte++[E.byte c]=(M++[c]).map E.byte:=by simp
theorem Un [Known](L:List UInt8)(n:Nat)(hn:n<18446744073709551616)(hL:L.length<=1099511627776):AT Tryz.prog 63 [.ptr 0 0,.int .u64 (n:Int)] (wrC L) (wrF L) (.ptr 0 0) (wrC (L++vn n)) (wrF (L++vn n)):=by
 refine Zl Tryz.func63 rfl Tryz.ntmps63 rfl rfl ?_
 have hl0:(L.map E.byte).length=L.length:=List.length_map ..
 repeat'(first|(apply Zi Za;exact Z)|(apply Zg Za;exact Z)|(apply Zu Za;exact Z)|refine Ze Z Z Z Qt ?_|refine Zj Z Qt Z Z ?_|refine Zf Z Qt ?_)
 refine Yb (fun k tm bx fr=>∃(m c:Nat) (M:List UInt8) (K:List E),K=M.map E.byte/\c=K.length/\m<18446744073709551616/\k<=9/\m<128 ^ (k+1)/\M++vnF k m=L++vn n/\tm=[(0,.ptr 0 0),(1,.int .u64 (m:Int)),(4,.nilp)]/\bx=[[.bool true,.sl (.own 0) K]]/\fr=[⟨c,1,5⟩]) 10 (Lands.mk' (m:=9) (by omega) ⟨n,L.length,L,L.map E.byte,rfl,by simp,hn,Nat.le_refl _,Nat.lt_of_lt_of_le hn (by decide),rfl,rfl,rfl,rfl⟩ ?_ rfl rfl rfl rfl rfl rfl) ?_
 ·exact .cons rfl (.cons rfl (.cons rfl .nil))
 rintro k tm bx fr ⟨m,c,M,K,hK,hc,hm,hk,hmk,hM,rfl,rfl,rfl⟩
 have hU:Uni 1 K:=hK ▸ YH M
 have hKl:K.length=M.length:=by rw[hK,List.length_map]
 have hMl:M.length<=1099511627800:=by
  have:=congrArg List.length hM
  have h1:=JP 9 n
  rw[List.length_append,List.length_append,vn]at this
  omega
 subst hc
 have ho:=HJ m
 rcases Nat.lt_or_ge 127 m with hgt|hle
 ·have t1:decide ((m:Int)>127)=true:=decide_eq_true (by omega)
  cases k with
  | zero=>exfalso;simp at hmk;omega
  | succ k=>
   rw[vnF,if_pos hgt]at hM
   repeat'(first|rw[Rm]|(apply YB;exact Z;exact Z;rotate_left;exact Z)|rw[SM]|(apply Zi Za;exact Z)|(apply Zg Za;exact Z)|(apply Zu Za;exact Z)|refine Zd Z Qt ?_|refine YJ ?_|refine Z7 Za Z Z Z Z Z Z Z Z Z Z Z Z ?_|(apply Z4 Za;(iterate 6 exact Z);(first|with_reducible assumption|decide +kernel|exact Z|rotate_left);exact Z;exact Z;(first|exact Zm rfl|with_reducible assumption|decide +kernel|rotate_left);(first|exact Zm rfl|with_reducible assumption|decide +kernel|rotate_left);(first|exact Qt|rotate_left);(first|exact Qt|rotate_left);(first|exact Qt|rotate_left);exact Z;exact Z))
   ·refine Lands.mk' (m:=k) (by omega) ⟨m/128,K.length+1,M++[UInt8.ofNat (m % 128+128)],K++[E.byte (UInt8.ofNat (m % 128+128))],by rw[hK,X9],by simp,by omega,by omega,by rw[Nat.pow_succ]at hmk;omega,by rw[List.append_assoc];exact hM,rfl,rfl,rfl⟩ ?_ rfl rfl rfl rfl rfl rfl
    exact .cons rfl (.cons rfl (.cons rfl .nil))
   all_goals first|decide|(first|rfl|(simp only[List.length_append,List.length_cons,List.length_nil,List.length_map];done)|(simp only[List.length_append,List.length_cons,List.length_nil,List.length_map]at *;(try unfold maxLen);(try simp only[Nat.add_mul]);omega))
 ·have t1:decide ((m:Int)>127)=false:=decide_eq_false (by omega)
  have hv:vnF k m=[UInt8.ofNat m]:=by
   cases k with
   | zero=>rfl
   | succ k=>rw[vnF,if_neg (by omega)]
  have hF:K++[E.int .u8 (IntKind.u8.wrap (m:Int))]=(L++vn n).map E.byte:=by
   rw[ID m (by omega),hK,X9,<- hv,hM]
  have hFl:K.length+1=(L++vn n).length:=by
   have:=congrArg List.length hF
   simpa using this
  repeat'(first|(apply Zi Za;exact Z)|(apply Zg Za;exact Z)|refine Zf Z Qt ?_|refine Z7 Za Z Z Z Z Z Z Z Z Z Z Z Z ?_|(apply Z4 Za;(iterate 6 exact Z);(first|with_reducible assumption|decide +kernel|exact Z|rotate_left);exact Z;exact Z;(first|exact Zm rfl|with_reducible assumption|decide +kernel|rotate_left);(first|exact Zm rfl|with_reducible assumption|decide +kernel|rotate_left);(first|exact Qt|rotate_left);(first|exact Qt|rotate_left);(first|exact Qt|rotate_left);exact Z;exact Z))
  all_goals first|(apply U7 [0] [0];(apply Zc Za;exact Z);(iterate 7 exact Z))|(first|rfl|(simp only[List.length_append,List.length_cons,List.length_nil,List.length_map];done)|(simp only[List.length_append,List.length_cons,List.length_nil,List.length_map]at *;(try unfold maxLen);(try simp only[Nat.add_mul]);omega))
  all_goals first|rfl|exact congrArg (fun l=>[[D.bool true,D.sl (.own 0) l]]) hF|exact congrArg (fun c=>[(⟨c,1,5⟩:Fr)]) hFl
theorem Yz [Known](n:Nat)(hn:n<18446744073709551616):AT Tryz.prog 63 [.ptr 0 0,.int .u64 (n:Int)] [[.bool true,.sl .nil []]] [] (.ptr 0 0) (wrC (vn n)) (wrF (vn n)):=by
 refine Zl Tryz.func63 rfl Tryz.ntmps63 rfl rfl ?_
 repeat'(first|(apply Zi Za;exact Z)|(apply Zg Za;exact Z)|(apply Zu Za;exact Z)|refine Ze Z Z Z Qt ?_|refine Zj Z Qt Z Z ?_|refine Zf Z Qt ?_)
 refine Yb (fun k tm bx fr=>∃(m c:Nat) (M:List UInt8) (K:List E),K=M.map E.byte/\c=K.length/\m<18446744073709551616/\k<=9/\m<128 ^ (k+1)/\M++vnF k m=vn n/\tm=[(0,.ptr 0 0),(1,.int .u64 (m:Int)),(4,.nilp)]/\((M=[]/\bx=[[.bool true,.sl .nil []]]/\fr=[])\/(bx=[[.bool true,.sl (.own 1) K]]/\fr=[⟨1,1,5⟩,⟨c,1,5⟩]))) 10 (Lands.mk' (m:=9) (by omega) ⟨n,0,[],[],rfl,rfl,hn,Nat.le_refl _,Nat.lt_of_lt_of_le hn (by decide),rfl,rfl,.inl ⟨rfl,rfl,rfl⟩⟩ ?_ rfl rfl rfl rfl rfl rfl) ?_
 ·exact .cons rfl (.cons rfl (.cons rfl .nil))
 rintro k tm bx fr ⟨m,c,M,K,hK,hc,hm,hk,hmk,hM,rfl,⟨rfl,rfl,rfl⟩ | ⟨rfl,rfl⟩⟩
 ·have hU:Uni 1 K:=hK ▸ YH []
  have hKl:K=[]:=hK
  subst hc
  have ho:=HJ m
  rcases Nat.lt_or_ge 127 m with hgt|hle
  ·have t1:decide ((m:Int)>127)=true:=decide_eq_true (by omega)
   cases k with
   | zero=>exfalso;simp at hmk;omega
   | succ k=>
    rw[vnF,if_pos hgt]at hM
    repeat'(first|rw[Rm]|(apply YB;exact Z;exact Z;rotate_left;exact Z)|rw[SM]|refine Yg Za Z Z Z Z Z Z (Zm rfl) (List.cons_ne_nil _ _) Z Qd Qd Z Z Z ?_|(apply Zi Za;exact Z)|(apply Zg Za;exact Z)|(apply Zu Za;exact Z)|refine Zd Z Qt ?_|refine YJ ?_|refine Z7 Za Z Z Z Z Z Z Z Z Z Z Z Z ?_)
    ·refine Lands.mk' (m:=k) (by omega) ⟨m/128,1,[UInt8.ofNat (m % 128+128)],[E.byte (UInt8.ofNat (m % 128+128))],rfl,rfl,by omega,by omega,by rw[Nat.pow_succ]at hmk;omega,by rw[List.nil_append]at hM;exact hM,rfl,.inr ⟨rfl,rfl⟩⟩ ?_ rfl rfl rfl rfl rfl rfl
     exact .cons rfl (.cons rfl (.cons rfl .nil))
    all_goals first|decide|(first|rfl|(simp only[List.length_append,List.length_cons,List.length_nil,List.length_map];done)|(simp only[List.length_append,List.length_cons,List.length_nil,List.length_map]at *;(try unfold maxLen);(try simp only[Nat.add_mul]);omega))
  ·have t1:decide ((m:Int)>127)=false:=decide_eq_false (by omega)
   have hv:vnF k m=[UInt8.ofNat m]:=by
    cases k with
    | zero=>rfl
    | succ k=>rw[vnF,if_neg (by omega)]
   have hF:[E.int .u8 (IntKind.u8.wrap (m:Int))]=(vn n).map E.byte:=by
    rw[ID m (by omega),<- hM,hv];rfl
   have hFl:1=(vn n).length:=by
    have:=congrArg List.length hF
    simpa using this
   repeat'(first|refine Yg Za Z Z Z Z Z Z (Zm rfl) (List.cons_ne_nil _ _) Z Qd Qd Z Z Z ?_|(apply Zi Za;exact Z)|(apply Zg Za;exact Z)|refine Zf Z Qt ?_|refine Z7 Za Z Z Z Z Z Z Z Z Z Z Z Z ?_)
   all_goals first|(apply U7 [0] [1];(apply Zc Za;exact Z);(iterate 7 exact Z))|(first|rfl|(simp only[List.length_append,List.length_cons,List.length_nil,List.length_map];done)|(simp only[List.length_append,List.length_cons,List.length_nil,List.length_map]at *;(try unfold maxLen);(try simp only[Nat.add_mul]);omega))
   all_goals first|rfl|exact congrArg (fun l=>[[D.bool true,D.sl (.own 0) l]]) hF|exact congrArg (fun c=>[(⟨c,1,5⟩:Fr)]) hFl

 ·have hU:Uni 1 K:=hK ▸ YH M
  have hKl:K.length=M.length:=by rw[hK,List.length_map]
  have hMl:M.length<=1099511627800:=by
   have:=congrArg List.length hM
   have h1:=JP 9 n
   rw[List.length_append,vn]at this
   omega
  subst hc
  have ho:=HJ m
  rcases Nat.lt_or_ge 127 m with hgt|hle
  ·have t1:decide ((m:Int)>127)=true:=decide_eq_true (by omega)
   cases k with
   | zero=>exfalso;simp at hmk;omega
   | succ k=>
    rw[vnF,if_pos hgt]at hM
    repeat'(first|rw[Rm]|(apply YB;exact Z;exact Z;rotate_left;exact Z)|rw[SM]|(apply Zi Za;exact Z)|(apply Zg Za;exact Z)|(apply Zu Za;exact Z)|refine Zd Z Qt ?_|refine YJ ?_|refine Z7 Za Z Z Z Z Z Z Z Z Z Z Z Z ?_|(apply Z4 Za;(iterate 6 exact Z);(first|with_reducible assumption|decide +kernel|exact Z|rotate_left);exact Z;exact Z;(first|exact Zm rfl|with_reducible assumption|decide +kernel|rotate_left);(first|exact Zm rfl|with_reducible assumption|decide +kernel|rotate_left);(first|exact Qt|rotate_left);(first|exact Qt|rotate_left);(first|exact Qt|rotate_left);exact Z;exact Z))
    ·refine Lands.mk' (m:=k) (by omega) ⟨m/128,K.length+1,M++[UInt8.ofNat (m % 128+128)],K++[E.byte (UInt8.ofNat (m % 128+128))],by rw[hK,X9],by simp,by omega,by omega,by rw[Nat.pow_succ]at hmk;omega,by rw[List.append_assoc];exact hM,rfl,.inr ⟨rfl,rfl⟩⟩ ?_ rfl rfl rfl rfl rfl rfl
     exact .cons rfl (.cons rfl (.cons rfl .nil))
    all_goals first|decide|(first|rfl|(simp only[List.length_append,List.length_cons,List.length_nil,List.length_map];done)|(simp only[List.length_append,List.length_cons,List.length_nil,List.length_map]at *;(try unfold maxLen);(try simp only[Nat.add_mul]);omega))
  ·have t1:decide ((m:Int)>127)=false:=decide_eq_false (by omega)
   have hv:vnF k m=[UInt8.ofNat m]:=by
    cases k with
    | zero=>rfl
    | succ k=>rw[vnF,if_neg (by omega)]
   have hF:K++[E.int .u8 (IntKind.u8.wrap (m:Int))]=(vn n).map E.byte:=by
    rw[ID m (by omega),hK,X9,<- hv,hM]
   have hFl:K.length+1=(vn n).length:=by
    have:=congrArg List.length hF
    simpa using this
   repeat'(first|(apply Zi Za;exact Z)|(apply Zg Za;exact Z)|refine Zf Z Qt ?_|refine Z7 Za Z Z Z Z Z Z Z Z Z Z Z Z ?_|(apply Z4 Za;(iterate 6 exact Z);(first|with_reducible assumption|decide +kernel|exact Z|rotate_left);exact Z;exact Z;(first|exact Zm rfl|with_reducible assumption|decide +kernel|rotate_left);(first|exact Zm rfl|with_reducible assumption|decide +kernel|rotate_left);(first|exact Qt|rotate_left);(first|exact Qt|rotate_left);(first|exact Qt|rotate_left);exact Z;exact Z))
   all_goals first|(apply U7 [0] [1];(apply Zc Za;exact Z);(iterate 7 exact Z))|(first|rfl|(simp only[List.length_append,List.length_cons,List.length_nil,List.length_map];done)|(simp only[List.length_append,List.length_cons,List.length_nil,List.length_map]at *;(try unfold maxLen);(try simp only[Nat.add_mul]);omega))
   all_goals first|rfl|exact congrArg (fun l=>[[D.bool true,D.sl (.own 0) l]]) hF|exact congrArg (fun c=>[(⟨c,1,5⟩:Fr)]) hFl
theorem YN [Known]:AT Tryz.prog 62 [] [] [] (.ptr 0 0) [[.bool true,.sl .nil []]] []:=by
 refine Zl Tryz.func62 rfl Tryz.ntmps62 rfl rfl ?_
 repeat'(first|(apply Zg Za;exact Z))
 all_goals(apply U7 [0] [];(apply Zc Za;exact Z);(iterate 7 exact Z))
 all_goals rfl
theorem Yr [Known](L:List UInt8)(n:Nat)(hn:n<9223372036854775808)(hL:L.length<=1099511627776):AT Tryz.prog 64 [.ptr 0 0,.int .i64 (n:Int)] (wrC L) (wrF L) (.ptr 0 0) (wrC (L++vn n)) (wrF (L++vn n)):=by
 have hN:=Un L n (by omega) hL
 have e1:(if(0:Int)>(n:Int) then(0:Int) else(n:Int))=(n:Int):=if_neg (by omega)
 have e2:IntKind.u64.wrap (n:Int)=(n:Int):=IntWalk.u64_in _ (by omega)
 refine Zl Tryz.func64 rfl Tryz.ntmps64 rfl rfl ?_
 repeat'(first|refine Sa Z Z Z ?_|rw[e1]|rw[e2]|(apply Zo [0] [0] (hN);kernel_rfl;(iterate 10 exact Z))|(apply Zi Za;exact Z)|(apply Zg Za;exact Z))
 all_goals(apply U7 [0] [0];(apply Zc Za;exact Z);(iterate 7 exact Z))
 all_goals rfl
theorem GR [Known](L:List UInt8)(b:Bool)(hL:L.length<=1099511627776):AT Tryz.prog 95 [.ptr 0 0,.bool b] (wrC L) (wrF L) (.ptr 0 0) (wrC (L++vn b.toNat)) (wrF (L++vn b.toNat)):=by
 have h1:=Un L 1 (by omega) hL
 have h0:=Un L 0 (by omega) hL
 cases b
 all_goals
  refine Zl Tryz.func95 rfl Tryz.ntmps95 rfl rfl ?_
  repeat'(first|(apply Zo [0] [0] (h1);kernel_rfl;(iterate 10 exact Z))|(apply Zo [0] [0] (h0);kernel_rfl;(iterate 10 exact Z))|(apply Zi Za;exact Z)|(apply Zg Za;exact Z)|refine Zd Z Qt ?_|refine Zf Z Qt ?_)
  all_goals(apply U7 [0] [0];(apply Zc Za;exact Z);(iterate 7 exact Z))
  all_goals rfl
theorem JS [Known](L b:List UInt8)(hb:b.length<=1000000)(hL:L.length<=1000000):AT Tryz.prog 66 [.ptr 0 0,byE b] (wrC L) (wrF L) (.ptr 0 0) (wrC (L++vn b.length++b)) (wrF (L++vn b.length++b)):=by
 have hbl:(b.map E.byte).length=b.length:=List.length_map ..
 have hN:=Un L b.length (by omega) (by omega)
 have e2:IntKind.u64.wrap (((b.map E.byte).length:Nat):Int)=(b.length:Int):=by rw[hbl];exact IntWalk.u64_in _ (by omega)
 have hvl:=JP 9 b.length
 have hMl:(L++vn b.length).length<=1000010:=by rw[List.length_append,vn];omega
 generalize L++vn b.length=M at *
 have hU1:=YH b
 have hU2:=YH M
 have hMm:(M.map E.byte).length=M.length:=List.length_map ..
 cases b with
 | nil=>
  rw[List.append_nil]
  refine Zl Tryz.func66 rfl Tryz.ntmps66 rfl rfl ?_
  repeat'(first|rw[e2]|(apply Zo [0] [0] (hN);kernel_rfl;(iterate 10 exact Z))|(apply Zi Za;exact Z)|(apply Zg Za;exact Z)|(apply Zu Za;exact Z)|refine Ze Z Z Z Qt ?_|refine Zk Z Qt Z Z ?_|refine Zd Z Qt ?_|refine Zt Za Z Z Z Z ?_|refine Wg Za Z Z Z Z Z Z ?_)
  all_goals(apply U7 [0] [0];(apply Zc Za;exact Z);(iterate 7 exact Z))
  all_goals rfl
 | cons c b=>
  have hne:(c::b).map E.byte ≠ []:=List.cons_ne_nil _ _
  have hf1:M.length=(M.map E.byte).length:=hMm.symm
  have hF:M.map E.byte++(c::b).map E.byte=(M++c::b).map E.byte:=by simp
  have hFl:(M.map E.byte).length+((c::b).map E.byte).length=(M++c::b).length:=by simp
  refine Zl Tryz.func66 rfl Tryz.ntmps66 rfl rfl ?_
  repeat'(first|rw[e2]|(apply Zo [0] [0] (hN);kernel_rfl;(iterate 10 exact Z))|(apply Zi Za;exact Z)|(apply Zg Za;exact Z)|(apply Zu Za;exact Z)|refine Ze Z Z Z Qt ?_|refine Zk Z Qt Z Z ?_|refine Zd Z Qt ?_|refine Zt Za Z Z Z Z ?_|(apply Z4 Za;(iterate 6 exact Z);(first|with_reducible assumption|decide +kernel|exact Z|rotate_left);exact Z;exact Z;(first|exact Zm rfl|with_reducible assumption|decide +kernel|rotate_left);(first|exact Zm rfl|with_reducible assumption|decide +kernel|rotate_left);(first|exact Qt|rotate_left);(first|exact Qt|rotate_left);(first|exact Qt|rotate_left);exact Z;exact Z))
  all_goals first|(apply U7 [0] [0];(apply Zc Za;exact Z);(iterate 7 exact Z))|exact hne|exact hf1|exact hU1|exact hU2|(rw[hMm,hbl];unfold maxLen;omega)|(rw[hMm,hbl];show(_+_)*1<=_;omega)
  all_goals first|rfl|exact congrArg (fun l=>[[D.bool true,D.sl (.own 0) l]]) hF|exact congrArg (fun c=>[(⟨c,1,5⟩:Fr)]) hFl
theorem Yp [Known](L:List UInt8)(hL:L.length<=1099511627776):AT Tryz.prog 67 [.ptr 0 0] (wrC L) (wrF L) (byE L) (wrC L) (wrF L):=by
 have hC:=Vp L (by omega)
 refine Zl Tryz.func67 rfl Tryz.ntmps67 rfl rfl ?_
 repeat'(first|(apply Zb (hC);kernel_rfl;(iterate 4 exact Z))|(apply Zi Za;exact Z)|(apply Zg Za;exact Z)|refine Zf Z Qt ?_)
 all_goals(apply U7 [0] [0];(apply Zc Za;exact Z);(iterate 7 exact Z))
 all_goals rfl
end Go.Proofs.YtkdpfkjlheajhaaGreatDoor
end

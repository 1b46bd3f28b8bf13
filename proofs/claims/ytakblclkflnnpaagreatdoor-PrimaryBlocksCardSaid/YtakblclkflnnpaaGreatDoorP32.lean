/- The document's answers for names: a number in a text. -/
import Derived.Test.YtakblclkflnnpaaGreatDoorP31
import Derived.Test.YtakblclkflnnpaaGreatDoorP28
import Derived.Test.YtakblclkflnnpaaGreatDoorP26
import Derived.Test.YtakblclkflnnpaaGreatDoorP29
set_option linter.unusedVariables false
set_option linter.unusedSimpArgs false
section
open Go.RowKit Go.Pl Go.Av
namespace Go.Proofs.YtakblclkflnnpaaGreatDoor
set_option maxHeartbeats 4000000
theorem Zjj:∀(f a:Nat) (r:List UInt8),(Zc7 f a r).2<=r.length/\(Zc7 f a r).2<=f
 | 0,a,r=>by simp[Zc7]
 | f+1,a,[]=>by simp[Zc7]
 | f+1,a,c::r=>by
  rw[Zc7]
  split
  ·have:=Zjj f (10*a+(c.toNat-48)) r
   simp;omega
  ·simp
theorem ZhH [Known](s:List UInt8)(at0:Nat)(hs:s.length<=1099511627776)(h0:at0<=s.length):AP Tryz.prog 176 [.str s,.int .i64 (at0:Int)] (.tup [.int .u64 ((Zc7 11 0 (s.drop at0)).1:Int),.int .i64 ((at0+(Zc7 11 0 (s.drop at0)).2:Nat):Int)]) []:=by
 refine AP.ofA ?_
 refine Zap Tryz.func176 rfl Tryz.ntmps176 rfl rfl ?_
 repeat'(first|(apply Zai Zab;exact Z))
 refine ZaC (fun k tm bx fr=>∃(i n a:Nat),k+i=11/\n<10 ^ i/\a<=s.length/\(Zc7 k n (s.drop a)).1=(Zc7 11 0 (s.drop at0)).1/\a+(Zc7 k n (s.drop a)).2=at0+(Zc7 11 0 (s.drop at0)).2/\tm=[(0,.str s),(1,.int .i64 (a:Int)),(4,.int .u64 0),(5,.int .i64 0),(6,.int .u64 (n:Int)),(7,.int .i64 (i:Int))]/\bx=[]/\fr=[]) 12 (Lands.mk' (m:=11) (by omega) ⟨0,0,at0,rfl,by decide,h0,rfl,rfl,rfl,rfl,rfl⟩ ?_ rfl rfl rfl rfl rfl rfl) ?_
 ·exact .cons rfl (.cons rfl (.cons rfl (.cons rfl (.cons rfl (.cons rfl .nil)))))
 rintro k tm bx fr ⟨i,n,a,hk,hn,ha,hv,hc,rfl,rfl,rfl⟩
 have hnb:n<100000000000:=Nat.lt_of_lt_of_le hn (Nat.pow_le_pow_right (by decide) (by omega:i<=11))
 cases k with
 | zero=>
  have t1:decide ((i:Int)<11)=false:=decide_eq_false (by omega)
  repeat'(first|(apply Zaj Zab;exact Z)|(apply Zai Zab;exact Z)|(apply Zay Zab;exact Z)|(apply Zau;(iterate 3 exact Z);exact Go.Zqn)|(apply Zah;exact Z;exact Go.Zqn;exact Z;exact Z)|(apply Zae;exact Z;exact Go.Zqn))
  all_goals(apply Zax [];(apply Zad Zab;exact Z);(iterate 4 exact Z))
  ·rw[<- hv,<- hc];rfl
  all_goals rfl
 | succ k=>
  have t1:decide ((i:Int)<11)=true:=decide_eq_true (by omega)
  rcases Nat.lt_or_ge a s.length with hlt|hge
  ·have t2:decide ((a:Int)<(s.length:Int))=true:=decide_eq_true (by omega)
   obtain⟨c,hsc⟩:∃ c,s[a]?=some c:=⟨_,List.getElem?_eq_getElem hlt⟩
   have hidx:s[((a:Nat):Int).toNat]?=some c:=by simpa using hsc
   have hdr:s.drop a=c::s.drop (a+1):=by
    rw[List.drop_eq_getElem_cons hlt];congr 1
    exact(List.getElem?_eq_some_iff.1 hsc).2
   rw[hdr,Zc7]at hv hc
   by_cases h48:48<=c.toNat
   ·have t3:decide ((c.toNat:Int) ≥ 48)=true:=decide_eq_true (by omega)
    by_cases h57:c.toNat<=57
    ·have t4:decide ((c.toNat:Int)<=57)=true:=decide_eq_true (by omega)
     rw[if_pos (ZgH.2 ⟨h48,h57⟩)]at hv hc
     have e1:IntKind.u64.wrap (10*(n:Int))=((10*n:Nat):Int):=by rw[IntWalk.u64_in _ (by omega)];omega
     have e2:IntKind.u64.wrap (c.toNat:Int)=(c.toNat:Int):=IntWalk.u64_in _ (by omega)
     have e3:IntKind.u64.wrap (((10*n:Nat):Int)+(c.toNat:Int))=((10*n+c.toNat:Nat):Int):=by rw[IntWalk.u64_in _ (by omega)];omega
     have e4:IntKind.u64.wrap (((10*n+c.toNat:Nat):Int)-48)=((10*n+(c.toNat-48):Nat):Int):=by rw[IntWalk.u64_in _ (by omega)];omega
     have e5:IntKind.i64.wrap ((a:Int)+1)=((a+1:Nat):Int):=by rw[IntWalk.i64_in _ (by omega)];omega
     have e6:IntKind.i64.wrap ((i:Int)+1)=((i+1:Nat):Int):=by rw[IntWalk.i64_in _ (by omega)];omega
     repeat'(first|rw[e1]|rw[e2]|rw[e3]|rw[e4]|rw[e5]|rw[e6]|(apply Zc9 Zab;(iterate 5 exact Z);exact Int.natCast_nonneg _;exact hidx)|(apply Zaj Zab;exact Z)|(apply Zai Zab;exact Z)|(apply Zay Zab;exact Z)|(apply Zaf;(iterate 3 exact Z);exact Go.Zqn)|(apply Zak;exact Z;exact Go.Zqn;exact Z;exact Z)|(apply Zac;exact Z;exact Go.Zqn)|(apply Zbb Zab;(iterate 4 exact Z)))
     refine Lands.mk' (m:=k) (by omega) ⟨i+1,10*n+(c.toNat-48),a+1,by omega,by rw[Nat.pow_succ];omega,by omega,hv,by omega,rfl,rfl,rfl⟩ ?_ rfl rfl rfl rfl rfl rfl
     exact .cons rfl (.cons rfl (.cons rfl (.cons rfl (.cons rfl (.cons rfl .nil)))))
    ·have t4:decide ((c.toNat:Int)<=57)=false:=decide_eq_false (by omega)
     rw[if_neg (fun h=>h57 (ZgH.1 h).2)]at hv hc
     repeat'(first|(apply Zc9 Zab;(iterate 5 exact Z);exact Int.natCast_nonneg _;exact hidx)|(apply Zaj Zab;exact Z)|(apply Zai Zab;exact Z)|(apply Zay Zab;exact Z)|(apply Zaf;(iterate 3 exact Z);exact Go.Zqn)|(apply Zak;exact Z;exact Go.Zqn;exact Z;exact Z)|(apply Zae;exact Z;exact Go.Zqn)|(apply Zbb Zab;(iterate 4 exact Z)))
     all_goals(apply Zax [];(apply Zad Zab;exact Z);(iterate 4 exact Z))
     ·rw[<- hv,<- hc];rfl
     all_goals rfl
   ·have t3:decide ((c.toNat:Int) ≥ 48)=false:=decide_eq_false (by omega)
    rw[if_neg (fun h=>h48 (ZgH.1 h).1)]at hv hc
    repeat'(first|(apply Zc9 Zab;(iterate 5 exact Z);exact Int.natCast_nonneg _;exact hidx)|(apply Zaj Zab;exact Z)|(apply Zai Zab;exact Z)|(apply Zay Zab;exact Z)|(apply Zaf;(iterate 3 exact Z);exact Go.Zqn)|(apply Zau;(iterate 3 exact Z);exact Go.Zqn)|(apply Zak;exact Z;exact Go.Zqn;exact Z;exact Z)|(apply Zah;exact Z;exact Go.Zqn;exact Z;exact Z)|(apply Zae;exact Z;exact Go.Zqn)|(apply Zbb Zab;(iterate 4 exact Z)))
    all_goals(apply Zax [];(apply Zad Zab;exact Z);(iterate 4 exact Z))
    ·rw[<- hv,<- hc];rfl
    all_goals rfl
  ·have t2:decide ((a:Int)<(s.length:Int))=false:=decide_eq_false (by omega)
   rw[List.drop_of_length_le hge,Zc7]at hv hc
   repeat'(first|(apply Zaj Zab;exact Z)|(apply Zai Zab;exact Z)|(apply Zay Zab;exact Z)|(apply Zaf;(iterate 3 exact Z);exact Go.Zqn)|(apply Zau;(iterate 3 exact Z);exact Go.Zqn)|(apply Zak;exact Z;exact Go.Zqn;exact Z;exact Z)|(apply Zah;exact Z;exact Go.Zqn;exact Z;exact Z)|(apply Zae;exact Z;exact Go.Zqn)|(apply Zbb Zab;(iterate 4 exact Z)))
   all_goals(apply Zax [];(apply Zad Zab;exact Z);(iterate 4 exact Z))
   ·rw[<- hv,<- hc];rfl
   all_goals rfl
abbrev Zio (z4 z5 i:Bool)(n s:Nat)(h d:List UInt8):D:=match z4,z5 with
 | false,false=>.tup [.agg [.bool i,.int .u64 (n:Int),.int .u64 (s:Int),.str h,.str d],.bool true]
 | _,_=>.tup [.agg [.bool false,.int .u64 0,.int .u64 0,.str [],.str []],.bool false]
theorem ZpZ [Known](s:List UInt8)(h0:(s==[100,116,110,58,110,111,110,101])=true):AP Tryz.prog 149 [.str s] (.tup [.agg [.bool false,.int .u64 0,.int .u64 0,.str [],.str []],.bool true]) []:=by
 refine AP.ofA ?_
 refine Zap Tryz.func149 rfl Tryz.ntmps149 rfl rfl ?_
 repeat'(first|(apply Zai Zab;exact Z)|(apply Zay Zab;exact Z)|(apply Zac;exact Z;exact Go.Zqn))
 all_goals(apply Zax [];(apply Zad Zab;exact Z);(iterate 4 exact Z))
 all_goals rfl
theorem Zp0 [Known](s:List UInt8)(h0:(s==[100,116,110,58,110,111,110,101])=false)
  (h1:decide ((s.length:Int)>4)=false\/decide ((s.length:Int)>4)=true/\4<=s.length/\((s.take (Int.toNat 4)).drop 0==[105,112,110,58])=false) (h2:decide ((s.length:Int)>6)=false\/decide ((s.length:Int)>6)=true/\6<=s.length/\((s.take (Int.toNat 6)).drop 0==[100,116,110,58,47,47])=false)
  (hK:AP Tryz.prog 45 [.agg [.bool false,.int .u64 0,.int .u64 0,.str [],.str []]] (.int .i64 0) []) :
  AP Tryz.prog 149 [.str s] (.tup [.agg [.bool false,.int .u64 0,.int .u64 0,.str [],.str []],.bool false]) []:=by
 rcases h1 with t1|⟨t1,b1,t2⟩<;>rcases h2 with t3|⟨t3,b3,t4⟩
 all_goals
  refine AP.ofA ?_
  refine Zap Tryz.func149 rfl Tryz.ntmps149 rfl rfl ?_
  repeat'(first|(apply Zaa (hK);kernel_rfl;(iterate 4 exact Z))|(apply Zbl Zab;(iterate 4 exact Z);exact .dft _;exact .lit _ _ _ _ rfl (by decide);exact Nat.zero_le _;(first|exact b1|exact b3);exact Z)|(apply Zaj Zab;exact Z)|(apply Zai Zab;exact Z)|(apply Zay Zab;exact Z)|(apply Zaf;(iterate 3 exact Z);exact Go.Zqn)|(apply Zau;(iterate 3 exact Z);exact Go.Zqn)|(apply Zao;(iterate 3 exact Z);exact Go.Zqn)|(apply Zak;exact Z;exact Go.Zqn;exact Z;exact Z)|(apply Zah;exact Z;exact Go.Zqn;exact Z;exact Z)|(apply Zac;exact Z;exact Go.Zqn)|(apply Zae;exact Z;exact Go.Zqn)|(apply Zbb Zab;(iterate 4 exact Z)))
  all_goals(apply Zax [];(apply Zad Zab;exact Z);(iterate 4 exact Z))
  all_goals rfl
theorem Zp1 [Known](s:List UInt8)(a b p q:Nat)(κ:Int)(t:List UInt8)(z3 z4 z5:Bool)(h0:(s==[100,116,110,58,110,111,110,101])=false)
  (t1:decide ((s.length:Int)>4)=true) (b1:4<=s.length) (t2:((s.take (Int.toNat 4)).drop 0==[105,112,110,58])=true)
  (hC1:AP Tryz.prog 176 [.str s,.int .i64 4] (.tup [.int .u64 (a:Int),.int .i64 (p:Int)]) [])
  (t3:decide ((p:Int)<(s.length:Int))=z3) (e3:IntKind.i64.wrap ((p:Int)+1)=((p+1:Nat):Int))
  (hC2:z3=true->AP Tryz.prog 176 [.str s,.int .i64 ((p+1:Nat):Int)] (.tup [.int .u64 (b:Int),.int .i64 (q:Int)]) []) (hb0:z3=false->b=0)
  (hK:AP Tryz.prog 45 [.agg [.bool true,.int .u64 (a:Int),.int .u64 (b:Int),.str [],.str []]] (.int .i64 κ) []) (t4:decide (κ<1)=z4)
  (hT:z4=false->AP Tryz.prog 177 [.agg [.bool true,.int .u64 (a:Int),.int .u64 (b:Int),.str [],.str []]] (.str t) []) (t5:(t != s)=z5) :
  AP Tryz.prog 149 [.str s] (Zio z4 z5 true a b [] []) []:=by
 cases z3 with
 | false=>
  obtain rfl:=hb0 rfl
  clear hC2
  cases z4 with
  | true=>
   clear hT
   cases z5
   all_goals
    refine AP.ofA ?_
    refine Zap Tryz.func149 rfl Tryz.ntmps149 rfl rfl ?_
    repeat'(first|(apply Zaa (hC1);kernel_rfl;(iterate 4 exact Z))|(apply Zaa (hK);kernel_rfl;(iterate 4 exact Z))|(apply Zbl Zab;(iterate 4 exact Z);exact .dft _;exact .lit _ _ _ _ rfl (by decide);exact Nat.zero_le _;exact b1;exact Z)|(apply Zaj Zab;exact Z)|(apply Zai Zab;exact Z)|(apply Zay Zab;exact Z)|(apply Zaf;(iterate 3 exact Z);exact Go.Zqn)|(apply Zao;(iterate 3 exact Z);exact Go.Zqn)|(apply Zak;exact Z;exact Go.Zqn;exact Z;exact Z)|(apply Zac;exact Z;exact Go.Zqn)|(apply Zae;exact Z;exact Go.Zqn)|(apply Zbb Zab;(iterate 4 exact Z)))
    all_goals(apply Zax [];(apply Zad Zab;exact Z);(iterate 4 exact Z))
    all_goals rfl
  | false=>
   have hT:=hT rfl
   cases z5
   all_goals
    refine AP.ofA ?_
    refine Zap Tryz.func149 rfl Tryz.ntmps149 rfl rfl ?_
    repeat'(first|(apply Zaa (hC1);kernel_rfl;(iterate 4 exact Z))|(apply Zaa (hK);kernel_rfl;(iterate 4 exact Z))|(apply Zaa (hT);kernel_rfl;(iterate 4 exact Z))|(apply Zbl Zab;(iterate 4 exact Z);exact .dft _;exact .lit _ _ _ _ rfl (by decide);exact Nat.zero_le _;exact b1;exact Z)|(apply Zaj Zab;exact Z)|(apply Zai Zab;exact Z)|(apply Zay Zab;exact Z)|(apply Zaf;(iterate 3 exact Z);exact Go.Zqn)|(apply Zak;exact Z;exact Go.Zqn;exact Z;exact Z)|(apply Zah;exact Z;exact Go.Zqn;exact Z;exact Z)|(apply Zac;exact Z;exact Go.Zqn)|(apply Zae;exact Z;exact Go.Zqn)|(apply Zbb Zab;(iterate 4 exact Z)))
    all_goals(apply Zax [];(apply Zad Zab;exact Z);(iterate 4 exact Z))
    all_goals rfl
 | true=>
  have hC2:=hC2 rfl
  clear hb0
  cases z4 with
  | true=>
   clear hT
   cases z5
   all_goals
    refine AP.ofA ?_
    refine Zap Tryz.func149 rfl Tryz.ntmps149 rfl rfl ?_
    repeat'(first|rw[e3]|(apply Zaa (hC1);kernel_rfl;(iterate 4 exact Z))|(apply Zaa (hC2);kernel_rfl;(iterate 4 exact Z))|(apply Zaa (hK);kernel_rfl;(iterate 4 exact Z))|(apply Zbl Zab;(iterate 4 exact Z);exact .dft _;exact .lit _ _ _ _ rfl (by decide);exact Nat.zero_le _;exact b1;exact Z)|(apply Zaj Zab;exact Z)|(apply Zai Zab;exact Z)|(apply Zay Zab;exact Z)|(apply Zaf;(iterate 3 exact Z);exact Go.Zqn)|(apply Zao;(iterate 3 exact Z);exact Go.Zqn)|(apply Zak;exact Z;exact Go.Zqn;exact Z;exact Z)|(apply Zac;exact Z;exact Go.Zqn)|(apply Zae;exact Z;exact Go.Zqn)|(apply Zbb Zab;(iterate 4 exact Z)))
    all_goals(apply Zax [];(apply Zad Zab;exact Z);(iterate 4 exact Z))
    all_goals rfl
  | false=>
   have hT:=hT rfl
   cases z5
   all_goals
    refine AP.ofA ?_
    refine Zap Tryz.func149 rfl Tryz.ntmps149 rfl rfl ?_
    repeat'(first|rw[e3]|(apply Zaa (hC1);kernel_rfl;(iterate 4 exact Z))|(apply Zaa (hC2);kernel_rfl;(iterate 4 exact Z))|(apply Zaa (hK);kernel_rfl;(iterate 4 exact Z))|(apply Zaa (hT);kernel_rfl;(iterate 4 exact Z))|(apply Zbl Zab;(iterate 4 exact Z);exact .dft _;exact .lit _ _ _ _ rfl (by decide);exact Nat.zero_le _;exact b1;exact Z)|(apply Zaj Zab;exact Z)|(apply Zai Zab;exact Z)|(apply Zay Zab;exact Z)|(apply Zaf;(iterate 3 exact Z);exact Go.Zqn)|(apply Zak;exact Z;exact Go.Zqn;exact Z;exact Z)|(apply Zah;exact Z;exact Go.Zqn;exact Z;exact Z)|(apply Zac;exact Z;exact Go.Zqn)|(apply Zae;exact Z;exact Go.Zqn)|(apply Zbb Zab;(iterate 4 exact Z)))
    all_goals(apply Zax [];(apply Zad Zab;exact Z);(iterate 4 exact Z))
    all_goals rfl
theorem ZpM [Known](s:List UInt8)(m:Nat)(h d:List UInt8)(κ:Int)(t:List UInt8)(z4 z5:Bool)(h0:(s==[100,116,110,58,110,111,110,101])=false)(hsl:s.length<=4398046511104)
  (t1:decide ((s.length:Int)>4)=true) (b1:4<=s.length) (t2:((s.take (Int.toNat 4)).drop 0==[105,112,110,58])=false)
  (t3:decide ((s.length:Int)>6)=true) (b3:6<=s.length) (t6:((s.take (Int.toNat 6)).drop 0==[100,116,110,58,47,47])=true)
  (m6:6<=m) (ml:m<=s.length) (hm1:∀ i,6<=i->i<m->∃ c,s[i]?=some c/\c.toNat ≠ 47) (hm2:m<s.length->∃ c,s[m]?=some c/\c.toNat=47)
  (hh:(s.take m).drop 6=h) (hd:s.drop (m+1)=d)
  (hK:AP Tryz.prog 45 [.agg [.bool false,.int .u64 0,.int .u64 0,.str h,.str d]] (.int .i64 κ) []) (t4:decide (κ<1)=z4)
  (hT:z4=false->AP Tryz.prog 177 [.agg [.bool false,.int .u64 0,.int .u64 0,.str h,.str d]] (.str t) []) (t5:(t != s)=z5) :
  AP Tryz.prog 149 [.str s] (if m<s.length then Zio z4 z5 false 0 0 h d else .tup [.agg [.bool false,.int .u64 0,.int .u64 0,.str [],.str []],.bool false]) []:=by
 refine AP.ofA ?_
 refine Zap Tryz.func149 rfl Tryz.ntmps149 rfl rfl ?_
 repeat'(first|(apply Zbl Zab;(iterate 4 exact Z);exact .dft _;exact .lit _ _ _ _ rfl (by decide);exact Nat.zero_le _;(first|exact b1|exact b3);exact Z)|(apply Zaj Zab;exact Z)|(apply Zai Zab;exact Z)|(apply Zay Zab;exact Z)|(apply Zaf;(iterate 3 exact Z);exact Go.Zqn)|(apply Zak;exact Z;exact Go.Zqn;exact Z;exact Z)|(apply Zac;exact Z;exact Go.Zqn)|(apply Zae;exact Z;exact Go.Zqn)|(apply Zbb Zab;(iterate 4 exact Z)))
 refine ZaC (fun k tm bx fr=>∃(a:Nat),k+a=m/\6<=a/\tm=[(0,.str s),(2,.ptr 0 0),(3,.bool false),(4,.ptr 1 0),(8,.int .i64 (a:Int))]/\bx=[[.bool false,.int .u64 0,.int .u64 0,.str [],.str []],[.bool false,.int .u64 0,.int .u64 0,.str [],.str []]]/\fr=[]) (m+1) (Lands.mk' (m:=m-6) (by omega) ⟨6,by omega,Nat.le_refl _,rfl,rfl,rfl⟩ ?_ rfl rfl rfl rfl rfl rfl) ?_
 ·exact .cons rfl (.cons rfl (.cons rfl (.cons rfl (.cons rfl .nil))))
 rintro k tm bx fr ⟨a,hk,ha,rfl,rfl,rfl⟩
 rcases Nat.lt_or_ge a m with hlt|hge
 ·have t7:decide ((a:Int)<(s.length:Int))=true:=decide_eq_true (by omega)
  obtain⟨c,hc,hne⟩:=hm1 a ha hlt
  have hidx:s[((a:Nat):Int).toNat]?=some c:=by simpa using hc
  have t8:((c.toNat:Int) != 47)=true:=by simp;omega
  have e5:IntKind.i64.wrap ((a:Int)+1)=((a+1:Nat):Int):=by rw[IntWalk.i64_in _ (by omega)];omega
  repeat'(first|rw[e5]|(apply Zc9 Zab;(iterate 5 exact Z);exact Int.natCast_nonneg _;exact hidx)|(apply Zaj Zab;exact Z)|(apply Zai Zab;exact Z)|(apply Zay Zab;exact Z)|(apply Zaf;(iterate 3 exact Z);exact Go.Zqn)|(apply Zak;exact Z;exact Go.Zqn;exact Z;exact Z)|(apply Zac;exact Z;exact Go.Zqn)|refine ZbZ ?_|(apply Zbb Zab;(iterate 4 exact Z)))
  refine Lands.mk' (m:=k-1) (by omega) ⟨a+1,by omega,by omega,rfl,rfl,rfl⟩ ?_ rfl rfl rfl rfl rfl rfl
  exact .cons rfl (.cons rfl (.cons rfl (.cons rfl (.cons rfl .nil))))
 ·obtain rfl:a=m:=by omega
  rcases Nat.lt_or_ge a s.length with hl|hl
  ·have t7:decide ((a:Int)<(s.length:Int))=true:=decide_eq_true (by omega)
   obtain⟨c,hc,hne⟩:=hm2 hl
   have hidx:s[((a:Nat):Int).toNat]?=some c:=by simpa using hc
   have t8:((c.toNat:Int) != 47)=false:=by simp;omega
   have t9:((a:Int)==(s.length:Int))=false:=by simp;omega
   have e5:IntKind.i64.wrap ((a:Int)+1)=((a+1:Nat):Int):=by rw[IntWalk.i64_in _ (by omega)];omega
   have q1:Int.toNat 6<=((a:Nat):Int).toNat:=by omega
   have q2:((a:Nat):Int).toNat<=s.length:=by omega
   have q3:((a+1:Nat):Int).toNat<=s.length:=by omega
   have s1:(s.take ((a:Nat):Int).toNat).drop (Int.toNat 6)=h:=by rw[<- hh];rfl
   have s2:(s.take s.length).drop ((a+1:Nat):Int).toNat=d:=by rw[List.take_length,<- hd];rfl
   rw[if_pos hl]
   clear hm1 hm2
   cases z4 with
   | true=>
    clear hT
    cases z5
    all_goals
     repeat'(first|rw[e5]|(apply Zaa (hK);kernel_rfl;(iterate 4 exact Z))|(apply Zc9 Zab;(iterate 5 exact Z);exact Int.natCast_nonneg _;exact hidx)|(apply Zbl Zab;(iterate 4 exact Z);exact .lit _ _ _ _ rfl (by decide);exact .lit _ _ _ _ rfl (Int.natCast_nonneg _);exact q1;exact q2;exact s1)|(apply Zbl Zab;(iterate 4 exact Z);exact .lit _ _ _ _ rfl (Int.natCast_nonneg _);exact .dft _;exact q3;exact Nat.le_refl _;exact s2)|(apply Zaj Zab;exact Z)|(apply Zai Zab;exact Z)|(apply Zay Zab;exact Z)|(apply Zaf;(iterate 3 exact Z);exact Go.Zqn)|(apply Zao;(iterate 3 exact Z);exact Go.Zqn)|(apply Zak;exact Z;exact Go.Zqn;exact Z;exact Z)|(apply Zac;exact Z;exact Go.Zqn)|(apply Zae;exact Z;exact Go.Zqn)|(apply Zbb Zab;(iterate 4 exact Z))|(apply Zam 7 ZaR;decide +kernel;kernel_rfl;kernel_rfl;kernel_rfl;exact Z;exact Z)|(apply Zar;(iterate 4 exact Z))|exact AE.nil _ _ _ _|(apply Zav;exact Z)|(apply Zaz;exact Z;exact Z;decide +kernel;exact Z)|(apply ZaA;exact Z)|exact AO.nil _ _ _|(apply Zaq;(decide +kernel))|exact AOs.nil|exact ZaI rfl rfl)
     all_goals(apply Zax [];(apply Zad Zab;exact Z);(iterate 4 exact Z))
     all_goals rfl
   | false=>
    have hT:=hT rfl
    cases z5
    all_goals
     repeat'(first|rw[e5]|(apply Zaa (hK);kernel_rfl;(iterate 4 exact Z))|(apply Zaa (hT);kernel_rfl;(iterate 4 exact Z))|(apply Zc9 Zab;(iterate 5 exact Z);exact Int.natCast_nonneg _;exact hidx)|(apply Zbl Zab;(iterate 4 exact Z);exact .lit _ _ _ _ rfl (by decide);exact .lit _ _ _ _ rfl (Int.natCast_nonneg _);exact q1;exact q2;exact s1)|(apply Zbl Zab;(iterate 4 exact Z);exact .lit _ _ _ _ rfl (Int.natCast_nonneg _);exact .dft _;exact q3;exact Nat.le_refl _;exact s2)|(apply Zaj Zab;exact Z)|(apply Zai Zab;exact Z)|(apply Zay Zab;exact Z)|(apply Zaf;(iterate 3 exact Z);exact Go.Zqn)|(apply Zak;exact Z;exact Go.Zqn;exact Z;exact Z)|(apply Zah;exact Z;exact Go.Zqn;exact Z;exact Z)|(apply Zac;exact Z;exact Go.Zqn)|(apply Zae;exact Z;exact Go.Zqn)|(apply Zbb Zab;(iterate 4 exact Z))|(apply Zam 7 ZaR;decide +kernel;kernel_rfl;kernel_rfl;kernel_rfl;exact Z;exact Z)|(apply Zar;(iterate 4 exact Z))|exact AE.nil _ _ _ _|(apply Zav;exact Z)|(apply Zaz;exact Z;exact Z;decide +kernel;exact Z)|(apply ZaA;exact Z)|exact AO.nil _ _ _|(apply Zaq;(decide +kernel))|exact AOs.nil|exact ZaI rfl rfl)
     all_goals(apply Zax [];(apply Zad Zab;exact Z);(iterate 4 exact Z))
     all_goals rfl
  ·have t7:decide ((a:Int)<(s.length:Int))=false:=decide_eq_false (by omega)
   have t9:((a:Int)==(s.length:Int))=true:=by simp;omega
   rw[if_neg (by omega)]
   repeat'(first|(apply Zaj Zab;exact Z)|(apply Zai Zab;exact Z)|(apply Zay Zab;exact Z)|(apply Zau;(iterate 3 exact Z);exact Go.Zqn)|(apply Zah;exact Z;exact Go.Zqn;exact Z;exact Z)|(apply Zac;exact Z;exact Go.Zqn)|(apply Zae;exact Z;exact Go.Zqn)|(apply Zbb Zab;(iterate 4 exact Z)))
   all_goals(apply Zax [];(apply Zad Zab;exact Z);(iterate 4 exact Z))
   all_goals rfl
theorem Zjk {c:UInt8}(h:c ≠ 47):c.toNat ≠ 47:=fun e=>h (UInt8.toNat_inj.1 (by rw[e];rfl))
theorem Zjl {s:List UInt8}{c:EidV}(h0:s ≠ Zem)(hc:(Za4 s).2=true->c=(Za4 s).1){i:Bool}{n q:Nat}{h d:List UInt8}(ec:c=⟨i,n,q,h,d⟩):Zio (decide (ZbS c<1)) (ZcG c != s) i n q h d=ZfD s:=by
 cases hk:decide (ZbS c<1) with
 | true=>rw[Zdy (ZoN h0 hc hk)];cases(ZcG c != s)<;>rfl
 | false=>
  cases ht:(ZcG c != s) with
  | true=>rw[Zdy (ZoO hc ht)];rfl
  | false=>rw[Zgb (ZoP hk ht),ec]
theorem ZeD {c:EidV}(h:decide (ZbS c<1)=false):ZaL c=true:=by
 rw[Zh8,Bool.or_eq_false_iff]at h
 simpa using h.1
theorem Zip [Known](s:List UInt8)(hs:s.length<=1099511627776):AP Tryz.prog 149 [.str s] (ZfD s) []:=by
 cases h0:(s==Zem) with
 | true=>
  have e:Za4 s=(Zcf,true):=by unfold Za4;rw[if_pos h0]
  rw[Zgb e]
  exact ZpZ s h0
 | false=>
  have hne:s ≠ Zem:=by simpa using h0
  by_cases hI:∃ r,r ≠ []/\s=Zen++r
  ·obtain⟨r,hr,rfl⟩:=hI
   have hl:(Zen++r).length=4+r.length:=by simp[Zen];omega
   have hrl:0<r.length:=List.length_pos_iff.2 hr
   have hn:=Zjj 11 0 r
   have hC1:=ZhH (Zen++r) 4 (by omega) (by omega)
   have ed:(Zen++r).drop 4=r:=rfl
   rw[ed]at hC1
   have hK:=Zcm (ZhG r) ⟨by simp[ZhG],by simp[ZhG]⟩
   rw[<- Zjl hne ZmE (show ZhG r=⟨true,_,_,[],[]⟩ from rfl)]
   refine Zp1 (Zen++r) (Zc7 11 0 r).1 (if 4+(Zc7 11 0 r).2<4+r.length then(Zc7 11 0 (r.drop ((Zc7 11 0 r).2+1))).1 else 0) (4+(Zc7 11 0 r).2) ((4+(Zc7 11 0 r).2+1)+(Zc7 11 0 (r.drop ((Zc7 11 0 r).2+1))).2) (ZbS (ZhG r)) (ZcG (ZhG r)) (decide (4+(Zc7 11 0 r).2<4+r.length)) _ _ h0 (decide_eq_true (by omega)) (by omega) rfl hC1 (by rw[hl];simp only[Int.ofNat_lt]) (by rw[IntWalk.i64_in _ (by omega)];omega) (fun hz=>?_) (fun hz=>if_neg (of_decide_eq_false hz)) hK rfl (fun hz=>ZeC _ (ZeD hz)) rfl
   have hz:=of_decide_eq_true hz
   rw[if_pos hz]
   have hC2:=ZhH (Zen++r) (4+(Zc7 11 0 r).2+1) (by omega) (by omega)
   have ed2:(Zen++r).drop (4+(Zc7 11 0 r).2+1)=r.drop ((Zc7 11 0 r).2+1):=by
    rw[show 4+(Zc7 11 0 r).2+1=4+((Zc7 11 0 r).2+1) by omega,<- List.drop_drop,ed]
   rw[ed2]at hC2
   exact hC2
  ·by_cases hT:∃ r,r ≠ []/\s=[100,116,110,58,47,47]++r
   ·obtain⟨r,hr,rfl⟩:=hT
    have hl:([100,116,110,58,47,47]++r:List UInt8).length=6+r.length:=by simp;omega
    have hrl:0<r.length:=List.length_pos_iff.2 hr
    have ed:([100,116,110,58,47,47]++r:List UInt8).drop 6=r:=rfl
    have eg:∀ i,([100,116,110,58,47,47]++r:List UInt8)[6+i]?=r[i]? := fun i=>by rw[<- List.getElem?_drop,ed]
    rcases Zfw 47 r with hno|⟨a,b,rfl,hno⟩
    ·have hK:=Zcm ⟨false,0,0,r,[]⟩ ⟨by show r.length<=_;omega,by simp⟩
     have h:=ZpM ([100,116,110,58,47,47]++r) (6+r.length) r [] (ZbS ⟨false,0,0,r,[]⟩) (ZcG ⟨false,0,0,r,[]⟩) _ _ h0 (by omega) (decide_eq_true (by omega)) (by omega) rfl (decide_eq_true (by omega)) (by omega) rfl (by omega) (by omega)
      (fun i h6 hi=>by
       obtain⟨j,rfl⟩:∃ j,i=6+j:=⟨i-6,by omega⟩
       rw[eg]
       have hj:j<r.length:=by omega
       exact⟨r[j],List.getElem?_eq_getElem hj,Zjk fun e=>hno (e ▸ List.getElem_mem hj)⟩)
      (fun h=>by omega) (by rw[List.take_of_length_le (by omega),ed]) (List.drop_of_length_le (by omega)) hK rfl (fun hz=>ZeC _ (ZeD hz)) rfl
     rw[if_neg (by omega)]at h
     rw[Zdy (Zji hne (fun r' hr' e=>hI ⟨r',hr',e⟩) (fun h d hh e=>hno (by rw[List.append_cancel_left e];simp)))]
     exact h
    ·have hal:(a++47::b).length=a.length+(b.length+1):=by simp
     have hK:=Zcm ⟨false,0,0,a,b⟩ ⟨by show a.length<=_;omega,by show b.length<=_;omega⟩
     have h:=ZpM ([100,116,110,58,47,47]++(a++47::b)) (6+a.length) a b (ZbS ⟨false,0,0,a,b⟩) (ZcG ⟨false,0,0,a,b⟩) _ _ h0 (by omega) (decide_eq_true (by omega)) (by omega) rfl (decide_eq_true (by omega)) (by omega) rfl (by omega) (by omega)
      (fun i h6 hi=>by
       obtain⟨j,rfl⟩:∃ j,i=6+j:=⟨i-6,by omega⟩
       rw[eg]
       have hj:j<a.length:=by omega
       exact⟨a[j],by rw[List.getElem?_append_left hj,List.getElem?_eq_getElem hj],Zjk fun e=>hno (e ▸ List.getElem_mem hj)⟩)
      (fun h=>⟨47,by rw[eg,List.getElem?_append_right (Nat.le_refl _),Nat.sub_self];rfl,rfl⟩)
      (by
       have e:([100,116,110,58,47,47]++(a++47::b):List UInt8).take (6+a.length)=[100,116,110,58,47,47]++a:=by
        rw[<- List.append_assoc,List.take_append_of_le_length (by simp;omega),List.take_of_length_le (by simp;omega)]
       rw[e];rfl)
      (by
       have e:([100,116,110,58,47,47]++(a++47::b):List UInt8).drop (6+(a.length+1))=(a++47::b).drop (a.length+1):=by rw[<- List.drop_drop,ed]
       rw[show 6+a.length+1=6+(a.length+1) by omega,e,List.drop_append,List.drop_of_length_le (by omega)];simp)
      hK rfl (fun hz=>ZeC _ (ZeD hz)) rfl
     rw[if_pos (by omega)]at h
     rw[<- Zjl hne (ZmF hno) rfl]
     exact h
   ·have hpn:=Zji hne (fun r' hr' e=>hI ⟨r',hr',e⟩) (fun h d hh e=>hT ⟨_,by simp,e⟩)
    rw[Zdy hpn]
    have hK:=Zcm Zcf ⟨by decide,by decide⟩
    refine Zp0 s h0 ?_ ?_ hK
    ·rcases Nat.lt_or_ge 4 s.length with h4|h4
     ·refine .inr ⟨decide_eq_true (by omega),by omega,?_⟩
      cases hb:((s.take (Int.toNat 4)).drop 0==[105,112,110,58]) with
      | false=>rfl
      | true=>
       have e:s.take 4=Zen:=beq_iff_eq.1 hb
       refine absurd ⟨s.drop 4,?_,?_⟩ hI
       ·intro hn;have:=congrArg List.length hn;simp at this;omega
       ·rw[<- e,List.take_append_drop]
     ·exact .inl (decide_eq_false (by omega))
    ·rcases Nat.lt_or_ge 6 s.length with h4|h4
     ·refine .inr ⟨decide_eq_true (by omega),by omega,?_⟩
      cases hb:((s.take (Int.toNat 6)).drop 0==[100,116,110,58,47,47]) with
      | false=>rfl
      | true=>
       have e:s.take 6=[100,116,110,58,47,47]:=beq_iff_eq.1 hb
       refine absurd ⟨s.drop 6,?_,?_⟩ hT
       ·intro hn;have:=congrArg List.length hn;simp at this;omega
       ·rw[<- e,List.take_append_drop]
     ·exact .inl (decide_eq_false (by omega))
theorem Zlt {k:Int}{n:Nat}{b:List UInt8}{l:List It}(h:Zaw (.mk k n b l)=true):ZdF k n b l=true/\∀ y ∈ l,∃ d m m',ZcT y d m=some m':=by
 unfold Zaw at h
 cases hw:ZcT (.mk k n b l) 1 256 with
 | none=>rw[hw]at h;cases h
 | some m=>
  obtain⟨_,_,h1,h2⟩:=ZcD hw
  refine⟨h1,?_⟩
  clear hw h h1
  generalize (256:Nat)-1=m0 at h2
  induction l generalizing m0 with
  | nil=>intro y hy;cases hy
  | cons x l ih=>
   intro y hy
   obtain⟨m1,w1,w2⟩:=Zcv h2
   rcases List.mem_cons.1 hy with rfl|hy
   ·exact⟨_,_,_,w1⟩
   ·exact ih _ w2 y hy
theorem ZjU {x:It}{a c:Nat}(h:Zey x=some (a,c)):∃ n b,x=.mk 4 n b [.mk 0 a [] [],.mk 0 c [] []]:=by
 unfold Zey at h
 split at h
 ·rename_i k n b y0 y1
  split at h
  ·rename_i hk
   split at h
   ·rename_i hy
    simp only[Option.some.injEq,Prod.mk.injEq]at h
    rw[Bool.and_eq_true]at hy
    have e0:=It.beq_iff.1 hy.1
    have e1:=It.beq_iff.1 hy.2
    rw[h.1]at e0
    rw[h.2]at e1
    rw[hk,e0,e1]
    exact⟨n,b,rfl⟩
   ·cases h
  ·cases h
 ·cases h
theorem Zc6 {x:It}(h:(ZaQ x).2=true):ZaL (ZaQ x).1=true/\Za2 (ZaQ x).1=x:=by
 unfold ZaQ at h ⊢
 cases hr:Zaw x with
 | false=>rw[hr]at h;cases h
 | true=>
  obtain⟨k,n,b,l⟩:=x
  rw[hr]at h
  match l,hr,h with
  | [],hr,h=>cases h
  | [s],hr,h=>cases h
  | s::r::y::l,hr,h=>cases h
  | [s,r],hr,h=>
   dsimp only at h ⊢
   by_cases hk:k=4
   case neg=>rw[if_neg hk]at h;cases h
   rw[if_pos hk]at h ⊢
   subst hk
   obtain⟨ho,hm⟩:=Zlt hr
   have hn:n=0/\b=[]:=by simpa[ZdF]using ho
   obtain⟨rfl,rfl⟩:=hn
   obtain⟨rk,rn,rb,rl⟩:=r
   obtain⟨d,m,m',hwr⟩:=hm (.mk rk rn rb rl) (by simp)
   obtain⟨_,_,ho2,_⟩:=ZcD hwr
   unfold Zeo at h ⊢
   cases h1:ZcJ 1 s with
   | true=>
    have es:=It.beq_iff.1 h1
    rw[h1]at h
    cases h0:ZcJ 0 (.mk rk rn rb rl) with
    | true=>
     have er:=It.beq_iff.1 h0
     dsimp only
     rw[es,er]
     exact⟨by decide,rfl⟩
    | false=>
     rw[h0]at h
     dsimp only at h ⊢
     cases h3:(It.mk rk rn rb rl).k==3 with
     | false=>rw[h3]at h;cases h
     | true=>
      rw[h3]at h
      have hk3:rk=3:=by simpa[It.k]using h3
      subst hk3
      have hn:rn=0/\rl=[]:=by
       have:ZdF 3 rn rb rl=true:=ho2
       simp[ZdF]at this
       exact⟨this.1,this.2.1⟩
      obtain⟨rfl,rfl⟩:=hn
      dsimp only[It.b]at h ⊢
      unfold ppV at h ⊢
      dsimp only at h ⊢
      simp only[Bool.and_eq_true,bne_iff_ne]at h
      obtain⟨k3,k4,k5,k6⟩:=h
      have e2:=Zel k3
      generalize (ZdX [47,47] rb).1=q at *
      refine⟨k6,?_⟩
      unfold Za2
      rw[if_neg (by rw[ZcF];intro e;exact k5 (congrArg EidV.h e)),if_neg (by simp),es,e2]
      have:=Zej k4
      conv=>rhs;rw[this]
      simp[Zcg]
   | false=>
    rw[h1]at h
    cases h2:ZcJ 2 s with
    | false=>rw[h2]at h;cases h
    | true=>
     have es:=It.beq_iff.1 h2
     rw[h2]at h
     dsimp only at h ⊢
     cases hq:Zey (.mk rk rn rb rl) with
     | none=>rw[hq]at h;cases h
     | some ac=>
      obtain⟨a,c⟩:=ac
      rw[hq]at h
      dsimp only at h ⊢
      refine⟨h,?_⟩
      obtain⟨n2,b2,e2⟩:=ZjU hq
      cases e2
      have hn:rn=0/\rb=[]:=by simpa[ZdF]using ho2
      obtain⟨rfl,rfl⟩:=hn
      unfold Za2
      rw[if_neg (by simp[isZ]),if_pos rfl,es]
abbrev ZjV (x:It):D:=.tup [.agg (eC (match(ZaQ x).2 with|true=>(ZaQ x).1|false=>Zcf)),.bool (ZaQ x).2]
theorem Zer {x:It}(h:(ZaQ x).2=false):ZjV x=.tup [.agg (eC Zcf),.bool false]:=by unfold ZjV;rw[h]
theorem Zlu {x:It}{e:EidV}(h:ZaQ x=(e,true)):ZjV x=.tup [.agg (eC e),.bool true]:=by unfold ZjV;rw[h]
theorem ZfE {e:EidV}(h:ZaL e=true):∃ s z,Za2 e=.mk 4 0 [] [s,z]/\((isZ e=true/\z=.mk 0 0 [] [])\/(isZ e=false/\e.i=true/\z=.mk 4 0 [] [.mk 0 e.n [] [],.mk 0 e.s [] []]/\e.h=[]/\e.d=[])\/(isZ e=false/\e.i=false/\z=.mk 3 0 (Zcg e) []/\ZcG e=ZfN++Zcg e)):=by
 unfold Za2
 cases hz:isZ e with
 | true=>rw[if_pos rfl];exact⟨_,_,rfl,.inl ⟨rfl,rfl⟩⟩
 | false=>
  rw[if_neg (by simp)]
  cases hi:e.i with
  | true=>
   obtain⟨_,_,h1,h2,_⟩:=ZbL h hz hi
   rw[if_pos rfl];exact⟨_,_,rfl,.inr (.inl ⟨rfl,rfl,rfl,h1,h2⟩)⟩
  | false=>
   rw[if_neg (by simp)]
   refine⟨_,_,rfl,.inr (.inr ⟨rfl,rfl,rfl,?_⟩)⟩
   unfold ZcG
   rw[hz,if_neg (by simp),hi,if_neg (by simp)]
   rfl
theorem ZoQ {k:Int}{n:Nat}{b:List UInt8}{l:List It}(h:k ≠ 4\/l.length ≠ 2):(ZaQ (.mk k n b l)).2=false:=by
 cases hp:(ZaQ (.mk k n b l)).2 with
 | false=>rfl
 | true=>
  obtain⟨h1,h2⟩:=Zc6 hp
  obtain⟨s,z,e,_⟩:=ZfE h1
  rw[e]at h2
  cases h2
  rcases h with h|h
  ·exact absurd rfl h
  ·exact absurd rfl h
theorem Zlv {n:Nat}{b:List UInt8}{s z:It}{c:EidV}
  (hZ:z=.mk 0 0 [] []->c=Zcf) (hI:∀ p q,z=.mk 4 0 [] [.mk 0 p [] [],.mk 0 q [] []]->c=⟨true,p,q,[],[]⟩) (hT:∀ t,z=.mk 3 0 t []->(Za4 (ZfN++t)).2=true->c=(Za4 (ZfN++t)).1)
  (hp:(ZaQ (.mk 4 n b [s,z])).2=true):c=(ZaQ (.mk 4 n b [s,z])).1:=by
 obtain⟨h1,h2⟩:=Zc6 hp
 generalize (ZaQ (.mk 4 n b [s,z])).1=e at *
 obtain⟨s',z',ee,hh⟩:=ZfE h1
 rw[ee]at h2
 cases h2
 rcases hh with⟨hz,hh⟩ | ⟨hz,hi,hh,e1,e2⟩ | ⟨hz,hi,hh,ht⟩
 ·rw[hZ hh,ZcF.1 hz]
 ·rw[hI _ _ hh]
  obtain⟨i,n,s,h,d⟩:=e
  simp only at hi e1 e2
  rw[hi,e1,e2]
 ·have hq:=ZeA h1
  rw[ht]at hq
  have:=hT _ hh (by rw[hq])
  rw[this,hq]
theorem Zlw {n n3:Nat}{b t:List UInt8}{s:It}{l:List It}(h:(Za4 (ZfN++t)).2=false):(ZaQ (.mk 4 n b [s,.mk 3 n3 t l])).2=false:=by
 cases hp:(ZaQ (.mk 4 n b [s,.mk 3 n3 t l])).2 with
 | false=>rfl
 | true=>
  obtain⟨h1,h2⟩:=Zc6 hp
  generalize (ZaQ (.mk 4 n b [s,.mk 3 n3 t l])).1=e at *
  obtain⟨s',z',ee,hh⟩:=ZfE h1
  rw[ee]at h2
  cases h2
  rcases hh with⟨hz,hh⟩ | ⟨hz,hi,hh,e1,e2⟩ | ⟨hz,hi,hh,ht⟩
  ·cases hh
  ·cases hh
  ·cases hh
   have hq:=ZeA h1
   rw[ht]at hq
   rw[hq]at h;cases h
theorem ZpN {x:It}{c:EidV}(hc:(ZaQ x).2=true->c=(ZaQ x).1)(hk:ZaL c=false):(ZaQ x).2=false:=by
 cases hp:(ZaQ x).2 with
 | false=>rfl
 | true=>rw[hc hp,(Zc6 hp).1]at hk;cases hk
theorem Zp2 {x:It}{c:EidV}(hc:(ZaQ x).2=true->c=(ZaQ x).1)(hs:It.beq (Za2 c) x=false):(ZaQ x).2=false:=by
 cases hp:(ZaQ x).2 with
 | false=>rfl
 | true=>rw[hc hp,(Zc6 hp).2,It.beq_iff.2 rfl]at hs;cases hs
theorem Zp3 {x:It}{c:EidV}(hk:ZaL c=true)(hs:It.beq (Za2 c) x=true):ZaQ x=(c,true):=by
 rw[<- It.beq_iff.1 hs,ZbE hk (Zbu hk)]
end Go.Proofs.YtakblclkflnnpaaGreatDoor
end

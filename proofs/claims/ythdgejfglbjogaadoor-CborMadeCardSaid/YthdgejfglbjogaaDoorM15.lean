/- unicode/utf8.Valid: are bytes a text? -/
import Derived.Test.YthdgejfglbjogaaDoorM09
import Derived.Test.YthdgejfglbjogaaDoorM12
set_option linter.unusedVariables false
set_option linter.unusedSimpArgs false
section
open Go.RowKit Go.Pl Go.Av
namespace Go.Proofs.YthdgejfglbjogaaDoor
set_option maxHeartbeats 4000000
def w8N:List UInt8->Nat
 | c0::c1::c2::c3::c4::c5::c6::c7::_=>c0.toNat+256*c1.toNat+65536*c2.toNat+16777216*c3.toNat+4294967296*c4.toNat+1099511627776*c5.toNat+281474976710656*c6.toNat+72057594037927936*c7.toNat
 | _=>0
theorem OR {l:List UInt8}(h:8<=l.length):∃ c0 c1 c2 c3 c4 c5 c6 c7 r,l=c0::c1::c2::c3::c4::c5::c6::c7::r:=by
 match l,h with
 | c0::c1::c2::c3::c4::c5::c6::c7::r,_=>exact⟨c0,c1,c2,c3,c4,c5,c6,c7,r,rfl⟩
abbrev hi8:Nat:=9259542123273814144
theorem Y0 (l:List UInt8):w8N l<18446744073709551616:=by
 unfold w8N
 split
 ·rename_i c0 c1 c2 c3 c4 c5 c6 c7 r
  have:=c0.toNat_lt;have:=c1.toNat_lt;have:=c2.toNat_lt;have:=c3.toNat_lt
  have:=c4.toNat_lt;have:=c5.toNat_lt;have:=c6.toNat_lt;have:=c7.toNat_lt
  omega
 ·omega
theorem Ws {w k:Nat}(h:w &&& hi8=0)(hk:hi8.testBit k=true):w.testBit k=false:=by
 have:=congrArg (fun x=>x.testBit k) h
 simp only[Nat.testBit_and,hk,Bool.and_true,Nat.zero_testBit]at this
 exact this
theorem WH {l:List UInt8}(hl:8<=l.length)(h:w8N l &&& hi8=0):∀ c ∈ l.take 8,c.toNat<128:=by
 obtain⟨c0,c1,c2,c3,c4,c5,c6,c7,r,rfl⟩:=OR hl
 have b0:=Ws (k:=7) h (by decide)
 have b1:=Ws (k:=15) h (by decide)
 have b2:=Ws (k:=23) h (by decide)
 have b3:=Ws (k:=31) h (by decide)
 have b4:=Ws (k:=39) h (by decide)
 have b5:=Ws (k:=47) h (by decide)
 have b6:=Ws (k:=55) h (by decide)
 have b7:=Ws (k:=63) h (by decide)
 have:=c0.toNat_lt;have:=c1.toNat_lt;have:=c2.toNat_lt;have:=c3.toNat_lt
 have:=c4.toNat_lt;have:=c5.toNat_lt;have:=c6.toNat_lt;have:=c7.toNat_lt
 simp only[Nat.testBit_eq_decide_div_mod_eq,decide_eq_false_iff_not,w8N]at b0 b1 b2 b3 b4 b5 b6 b7
 intro c hc
 simp only[List.take_succ_cons,List.take_zero,List.mem_cons,List.not_mem_nil,or_false]at hc
 rcases hc with rfl|rfl|rfl|rfl|rfl|rfl|rfl|rfl
 all_goals omega
theorem Ou (a x k:Nat)(ha:a<2 ^ k):a ||| x*2 ^ k=a+x*2 ^ k:=by
 rw[Nat.or_comm,Nat.mul_comm,<- Nat.two_pow_add_eq_or_of_lt ha x];omega
theorem ID (c:UInt8)(k:Nat)(hk:k<=56):IntKind.u64.wrap (IntKind.u64.wrap (c.toNat:Int)*2 ^ min (Int.toNat (k:Int)) IntKind.u64.bits)=((c.toNat*2 ^ k:Nat):Int):=by
 have hc:=c.toNat_lt
 rw[Int.toNat_natCast,show min k IntKind.u64.bits=k from Nat.min_eq_left (by show k<=64;omega)]
 have e1:IntKind.u64.wrap (c.toNat:Int)=(c.toNat:Int):=by rw[IntKind.wrap_u64];omega
 have e2:((c.toNat:Int)*2 ^ k)=((c.toNat*2 ^ k:Nat):Int):=by simp
 rw[e1,e2,IntKind.wrap_u64]
 have:c.toNat*2 ^ k<18446744073709551616:=by
  have h1:c.toNat*2 ^ k<256*2 ^ k:=Nat.mul_lt_mul_of_pos_right hc (Nat.two_pow_pos k)
  have h2:256*2 ^ k<=256*2 ^ 56:=Nat.mul_le_mul_left _ (Nat.pow_le_pow_right (by decide) hk)
  omega
 omega
theorem UE {a:Nat}(c:UInt8)(k:Nat)(ha:a<2 ^ k)(hk:k<=56):bits .or .u64 (a:Int) (IntKind.u64.wrap (IntKind.u64.wrap (c.toNat:Int)*2 ^ min (Int.toNat (k:Int)) IntKind.u64.bits))=((a+c.toNat*2 ^ k:Nat):Int):=by
 have hc:=c.toNat_lt
 have h56:2 ^ k<=2 ^ 56:=Nat.pow_le_pow_right (by decide) hk
 have h1:c.toNat*2 ^ k<256*2 ^ k:=Nat.mul_lt_mul_of_pos_right hc (Nat.two_pow_pos k)
 rw[ID c k hk,u64_or_nat _ _ (by omega) (by omega),Ou _ _ _ ha]
theorem WI [Known](l:List UInt8)(hl:8<=l.length):AP Tryd.prog 34 [byE l] (.int .u64 (w8N l:Int)) []:=by
 have hU:=Yv l
 obtain⟨c0,c1,c2,c3,c4,c5,c6,c7,r,rfl⟩:=OR hl
 refine AP.ofA (Zs Tryd.func34 Z Tryd.ntmps34 Z Z ?_)
 repeat'(first|(apply Zh Za;exact Z)|(apply Zd Za;exact Z)|(apply ZA 45 ZJ;decide +kernel;kernel_rfl;kernel_rfl;exact Z;exact Z)|(apply ZL;(iterate 3 exact Z))|refine AD.nil _|exact ZZ rfl|(apply ZC Za;(iterate 6 exact Z);(first|exact Qb|rotate_left);(first|with_reducible assumption|exact Z);(first|exact Zi rfl|with_reducible assumption|rotate_left))|(apply Qj;exact Z;exact Z;(first|exact Qb|rotate_left);exact Z))
 all_goals(apply ZW [];(apply Zf Za;exact Z);(iterate 4 exact Z))
 all_goals first|rfl|skip
 have:=c0.toNat_lt;have:=c1.toNat_lt;have:=c2.toNat_lt;have:=c3.toNat_lt
 have:=c4.toNat_lt;have:=c5.toNat_lt;have:=c6.toNat_lt;have:=c7.toNat_lt
 congr 1
 have e0:IntKind.u64.wrap (c0.toNat:Int)=((c0.toNat:Nat):Int):=by rw[IntKind.wrap_u64];omega
 have q1:=UE (a:=c0.toNat) c1 8 (by omega) (by omega)
 have q2:=UE (a:=c0.toNat+c1.toNat*2 ^ 8) c2 16 (by omega) (by omega)
 have q3:=UE (a:=c0.toNat+c1.toNat*2 ^ 8+c2.toNat*2 ^ 16) c3 24 (by omega) (by omega)
 have q4:=UE (a:=c0.toNat+c1.toNat*2 ^ 8+c2.toNat*2 ^ 16+c3.toNat*2 ^ 24) c4 32 (by omega) (by omega)
 have q5:=UE (a:=c0.toNat+c1.toNat*2 ^ 8+c2.toNat*2 ^ 16+c3.toNat*2 ^ 24+c4.toNat*2 ^ 32) c5 40 (by omega) (by omega)
 have q6:=UE (a:=c0.toNat+c1.toNat*2 ^ 8+c2.toNat*2 ^ 16+c3.toNat*2 ^ 24+c4.toNat*2 ^ 32+c5.toNat*2 ^ 40) c6 48 (by omega) (by omega)
 have q7:=UE (a:=c0.toNat+c1.toNat*2 ^ 8+c2.toNat*2 ^ 16+c3.toNat*2 ^ 24+c4.toNat*2 ^ 32+c5.toNat*2 ^ 40+c6.toNat*2 ^ 48) c7 56 (by omega) (by omega)
 rw[e0]at *
 have fin:(w8N (c0::c1::c2::c3::c4::c5::c6::c7::r):Int)=((c0.toNat+c1.toNat*2 ^ 8+c2.toNat*2 ^ 16+c3.toNat*2 ^ 24+c4.toNat*2 ^ 32+c5.toNat*2 ^ 40+c6.toNat*2 ^ 48+c7.toNat*2 ^ 56:Nat):Int):=by
  simp only[w8N];omega
 rw[fin,<- q7,<- q6,<- q5,<- q4,<- q3,<- q2,<- q1]
 rfl
theorem WJ {a b:Nat}(h:(a ||| b) &&& hi8=0):a &&& hi8=0/\b &&& hi8=0:=by
 rw[Nat.and_or_distrib_right]at h
 exact Nat.or_eq_zero_iff.1 h
theorem Yx:∀(k:Nat) (l:List UInt8),k<=l.length->(∀ c ∈ l.take k,c.toNat<128)->Zn l=Zn (l.drop k)
 | 0,l,_,_=>rfl
 | k+1,[],h,_=>by simp at h
 | k+1,c::r,h,ha=>by
  have hc:c.toNat<128:=ha c (by simp)
  rw[Z2]
  have:pt (c::r)=1:=by simp[pt,ptN,hc]
  rw[this]
  simp only[List.drop_zero,List.drop_succ_cons]
  exact Yx k r (by simpa using h) fun c' h'=>ha c' (by simp[h'])
def fT (c:Nat):Nat:=if c<128 then 240 else if c<194 then 241 else if c<224 then 2 else if c<225 then 19 else if c<237 then 3 else if c<238 then 35 else if c<240 then 3 else if c<241 then 52 else if c<244 then 4 else if c<245 then 68 else 241
theorem W5:(0,(List.range 256).map fun c=>Value.int .u8 (fT c:Int)) ∈ QK:=by
 have e:(List.range 256).map (fun c=>Value.int .u8 (fT c:Int))=dcs Rows.laid_unicode_utf8_first:=by kernel_rfl
 rw[e]
 unfold QK
 simp
def aT (i:Nat):List Value:=if i=0 then [.int .u8 128,.int .u8 191] else if i=1 then [.int .u8 160,.int .u8 191] else if i=2 then [.int .u8 128,.int .u8 159] else if i=3 then [.int .u8 144,.int .u8 191] else if i=4 then [.int .u8 128,.int .u8 143] else [.int .u8 0,.int .u8 0]
theorem WK:(1,(List.range 16).flatMap aT) ∈ QK:=by
 have e:(List.range 16).flatMap aT=dcs Rows.laid_unicode_utf8_acceptRanges:=by kernel_rfl
 rw[e]
 unfold QK
 simp
theorem VH (c:UInt8):((List.range 256).map fun c=>Value.int .u8 (fT c:Int))[0+((c.toNat:Nat):Int).toNat*1]?=some (.int .u8 (fT c.toNat:Int)):=by
 have:=c.toNat_lt
 rw[Int.toNat_natCast,Nat.zero_add,Nat.mul_one,List.getElem?_map,List.getElem?_range (by omega)]
 rfl
theorem cls (c:UInt8)(h:128<=c.toNat):∃(sz i:Nat) (lo hi:Nat),bits .and .u8 (fT c.toNat:Int) 7=(sz:Int)/\((fT c.toNat:Nat):Int).fdiv (2 ^ min (Int.toNat 4) IntKind.u8.bits)=(i:Int)/\i<16 /\
  (((List.range 16).flatMap aT).drop (0+((i:Nat):Int).toNat*2)).take 2=[.int .u8 (lo:Int),.int .u8 (hi:Int)] /\
  ((sz=1/\ptN c.toNat=0)\/((sz=2\/sz=3\/sz=4)/\ptN c.toNat=sz/\lo=Ys c.toNat/\hi=Yt c.toNat)):=by
 have hc:=c.toNat_lt
 generalize c.toNat=n at h hc ⊢
 by_cases h1:n<194
 ·exact⟨1,15,0,0,by simp[fT,show ¬ n<128 by omega,h1];rfl,by simp[fT,show ¬ n<128 by omega,h1];rfl,by omega,rfl,.inl ⟨rfl,by(simp only[ptN,Ys,Yt,inB,Bool.and_eq_true,decide_eq_true_eq];(repeat' split)<;>omega)⟩⟩
 by_cases h2:n<224
 ·exact⟨2,0,128,191,by simp[fT,show ¬ n<128 by omega,h1,h2];rfl,by simp[fT,show ¬ n<128 by omega,h1,h2];rfl,by omega,rfl,.inr ⟨.inl rfl,by(simp only[ptN,Ys,Yt,inB,Bool.and_eq_true,decide_eq_true_eq];(repeat' split)<;>omega),by(simp only[ptN,Ys,Yt,inB,Bool.and_eq_true,decide_eq_true_eq];(repeat' split)<;>omega),by(simp only[ptN,Ys,Yt,inB,Bool.and_eq_true,decide_eq_true_eq];(repeat' split)<;>omega)⟩⟩
 by_cases h3:n=224
 ·subst h3;exact⟨3,1,160,191,rfl,rfl,by omega,rfl,.inr ⟨.inr (.inl rfl),rfl,rfl,rfl⟩⟩
 by_cases h4:n<237
 ·exact⟨3,0,128,191,by simp[fT,show ¬ n<128 by omega,h1,h2,show ¬ n<225 by omega,h4];rfl,by simp[fT,show ¬ n<128 by omega,h1,h2,show ¬ n<225 by omega,h4];rfl,by omega,rfl,.inr ⟨.inr (.inl rfl),by(simp only[ptN,Ys,Yt,inB,Bool.and_eq_true,decide_eq_true_eq];(repeat' split)<;>omega),by(simp only[ptN,Ys,Yt,inB,Bool.and_eq_true,decide_eq_true_eq];(repeat' split)<;>omega),by(simp only[ptN,Ys,Yt,inB,Bool.and_eq_true,decide_eq_true_eq];(repeat' split)<;>omega)⟩⟩
 by_cases h5:n=237
 ·subst h5;exact⟨3,2,128,159,rfl,rfl,by omega,rfl,.inr ⟨.inr (.inl rfl),rfl,rfl,rfl⟩⟩
 by_cases h6:n<240
 ·exact⟨3,0,128,191,by simp[fT,show ¬ n<128 by omega,h1,h2,show ¬ n<225 by omega,h4,show ¬ n<238 by omega,h6];rfl,by simp[fT,show ¬ n<128 by omega,h1,h2,show ¬ n<225 by omega,h4,show ¬ n<238 by omega,h6];rfl,by omega,rfl,.inr ⟨.inr (.inl rfl),by(simp only[ptN,Ys,Yt,inB,Bool.and_eq_true,decide_eq_true_eq];(repeat' split)<;>omega),by(simp only[ptN,Ys,Yt,inB,Bool.and_eq_true,decide_eq_true_eq];(repeat' split)<;>omega),by(simp only[ptN,Ys,Yt,inB,Bool.and_eq_true,decide_eq_true_eq];(repeat' split)<;>omega)⟩⟩
 by_cases h7:n=240
 ·subst h7;exact⟨4,3,144,191,rfl,rfl,by omega,rfl,.inr ⟨.inr (.inr rfl),rfl,rfl,rfl⟩⟩
 by_cases h8:n<244
 ·exact⟨4,0,128,191,by simp[fT,show ¬ n<128 by omega,h1,h2,show ¬ n<225 by omega,h4,show ¬ n<238 by omega,h6,show ¬ n<241 by omega,h8];rfl,by simp[fT,show ¬ n<128 by omega,h1,h2,show ¬ n<225 by omega,h4,show ¬ n<238 by omega,h6,show ¬ n<241 by omega,h8];rfl,by omega,rfl,.inr ⟨.inr (.inr rfl),by(simp only[ptN,Ys,Yt,inB,Bool.and_eq_true,decide_eq_true_eq];(repeat' split)<;>omega),by(simp only[ptN,Ys,Yt,inB,Bool.and_eq_true,decide_eq_true_eq];(repeat' split)<;>omega),by(simp only[ptN,Ys,Yt,inB,Bool.and_eq_true,decide_eq_true_eq];(repeat' split)<;>omega)⟩⟩
 by_cases h9:n=244
 ·subst h9;exact⟨4,4,128,143,rfl,rfl,by omega,rfl,.inr ⟨.inr (.inr rfl),rfl,rfl,rfl⟩⟩
 ·exact⟨1,15,0,0,by simp[fT,show ¬ n<128 by omega,h1,h2,show ¬ n<225 by omega,h4,show ¬ n<238 by omega,h6,show ¬ n<241 by omega,h8,show ¬ n<245 by omega];rfl,by simp[fT,show ¬ n<128 by omega,h1,h2,show ¬ n<225 by omega,h4,show ¬ n<238 by omega,h6,show ¬ n<241 by omega,h8,show ¬ n<245 by omega];rfl,by omega,rfl,.inl ⟨rfl,by(simp only[ptN,Ys,Yt,inB,Bool.and_eq_true,decide_eq_true_eq];(repeat' split)<;>omega)⟩⟩
theorem v0 {c:UInt8}(h:ptN c.toNat=0)(r:List UInt8):Zn (c::r)=false:=by rw[Z2];simp[pt,h]
theorem v2s {c:UInt8}(h:ptN c.toNat=2):Zn [c]=false:=by rw[Z2];simp[pt,h]
theorem v2 {c:UInt8}(h:ptN c.toNat=2)(c1:UInt8)(r:List UInt8):Zn (c::c1::r)=(inB c1.toNat (Ys c.toNat) (Yt c.toNat)&&Zn r):=by
 rw[Z2];simp only[pt,h]
 cases inB c1.toNat (Ys c.toNat) (Yt c.toNat)<;>simp
theorem v3s {c:UInt8}(h:ptN c.toNat=3)(r:List UInt8)(hr:r.length<2):Zn (c::r)=false:=by
 rw[Z2]
 match r,hr with
 | [],_=>simp[pt,h]
 | [c1],_=>simp[pt,h]
theorem v3 {c:UInt8}(h:ptN c.toNat=3)(c1 c2:UInt8)(r:List UInt8):Zn (c::c1::c2::r)=(inB c1.toNat (Ys c.toNat) (Yt c.toNat)&&(inB c2.toNat 128 191&&Zn r)):=by
 rw[Z2];simp only[pt,h]
 cases inB c1.toNat (Ys c.toNat) (Yt c.toNat)<;>cases inB c2.toNat 128 191<;>simp
theorem v4s {c:UInt8}(h:ptN c.toNat=4)(r:List UInt8)(hr:r.length<3):Zn (c::r)=false:=by
 rw[Z2]
 match r,hr with
 | [],_=>simp[pt,h]
 | [c1],_=>simp[pt,h]
 | [c1,c2],_=>simp[pt,h]
theorem v4 {c:UInt8}(h:ptN c.toNat=4)(c1 c2 c3:UInt8)(r:List UInt8):Zn (c::c1::c2::c3::r)=(inB c1.toNat (Ys c.toNat) (Yt c.toNat)&&(inB c2.toNat 128 191&&(inB c3.toNat 128 191&&Zn r))):=by
 rw[Z2];simp only[pt,h]
 cases inB c1.toNat (Ys c.toNat) (Yt c.toNat)<;>cases inB c2.toNat 128 191<;>cases inB c3.toNat 128 191<;>simp
theorem JX {a:Nat}(ha:a<18446744073709551616):(bits .and .u64 (a:Int) 9259542123273814144==0)=decide (a &&& hi8=0):=by
 have h:=u64_and_nat a hi8 ha (by decide)
 rw[show((hi8:Nat):Int)=9259542123273814144 from rfl]at h
 rw[h]
 by_cases e:a &&& hi8=0
 ·rw[e];rfl
 ·rw[decide_eq_false e]
  rw[beq_eq_false_iff_ne]
  omega
theorem Ih (a b:List UInt8):bits .or .u64 (w8N a:Int) (w8N b:Int)=((w8N a ||| w8N b:Nat):Int):=u64_or_nat _ _ (Y0 a) (Y0 b)
def Ul:Code->Bool
 | .loop _=>true
 | .seq a b=>Ul a||Ul b
 | .block _ c=>Ul c
 | _=>false
def YQ:Code->Code
 | .loop c=>c
 | .seq a b=>match Ul a with
  | true=>YQ a
  | false=>YQ b
 | .block _ c=>YQ c
 | c=>c
def vJ (b:List UInt8):Nat->List (Nat × D)->List (List D)->List Fr->Prop:=fun k tm bx fr=>∃ l:List UInt8,k=l.length/\Zn l=Zn b/\tm=[(0,byE l),(2,.bool false)]/\bx=[]/\fr=[]
abbrev vQ (b:List UInt8)(v:Bool)(k:Nat)(K:St->Prop):X->St->Prop:=X.then (Lands (vJ b) 188 (([]:List (List D)).length,([]:List Fr).length) k) (X.inBlock 0 (X.then K (WD Tryd.prog [ResultVar.tmp 2] ([]:List (List D)).length ([]:List Fr).length fun r bx fr=>∃ d0,r=R.ret d0/\d0.wk=.bool v/\bx.map D.wks=[]/\fr=[])))
abbrev vS (l:List UInt8):St:=⟨188,[(0,byE l),(2,.bool false)],[],[],(([]:List (List D)).length,([]:List Fr).length)⟩
set_option maxRecDepth 10000 in
theorem IE [Known](b:List UInt8)(hb:b.length<=140737488351232)(K:St->Prop)(k:Nat)(c:UInt8)(r:List UInt8)(hk:k=r.length+1)(hv:Zn (c::r)=Zn b)(hc:c.toNat<128):AW Tryd.prog (YQ (Tryd.f32.body.getD .skip)) (vS (c::r)) (vQ b (Zn b) k K):=by
 conv=>enter [3];whnf
 have hU:=Yv (c::r)
 have hlen:decide ((((c::r).map E.byte).length:Int)>0)=true:=by simp
 have dc:decide ((c.toNat:Int)<128)=true:=by simp;omega
 have hv1:Zn r=Zn b:=by rw[<- hv,Z2];simp[pt,ptN,hc]
 have x1:(c::r).drop (Int.toNat 1)=r:=rfl
 rcases Nat.lt_or_ge 8 r.length with h8|h8
 ·have d8:decide (((r.map E.byte).length:Int)>8)=true:=by simp;omega
  have w1:=WI r (by omega)
  have a1:=JX (Y0 r)
  have l8:Int.toNat 8<=r.length:=by show 8<=r.length;omega
  by_cases t1:w8N r &&& hi8=0
  ·rw[decide_eq_true t1]at a1
   have hv2:Zn (r.drop 8)=Zn b:=by rw[<- hv1];exact(Yx 8 r (by omega) (WH (by omega) t1)).symm
   generalize hp:r.drop 8=p at hv2
   have x8:r.drop (Int.toNat 8)=p:=hp
   have hpl:p.length=r.length-8:=by rw[<- hp,List.length_drop]
   rcases Nat.lt_or_ge 16 p.length with h16|h16
   ·have d16:decide (((p.map E.byte).length:Int)>16)=true:=by simp;omega
    have w2:=WI p (by omega)
    generalize hq:p.drop 8=q
    have x8':p.drop (Int.toNat 8)=q:=hq
    have hql:q.length=p.length-8:=by rw[<- hq,List.length_drop]
    have w3:=WI q (by omega)
    have o1:=Ih p q
    have a2:=JX (a:=w8N p ||| w8N q) (Nat.or_lt_two_pow (n:=64) (Y0 p) (Y0 q))
    have l8':Int.toNat 8<=p.length:=by show 8<=p.length;omega
    have l16:Int.toNat 16<=p.length:=by show 16<=p.length;omega
    by_cases t2:(w8N p ||| w8N q) &&& hi8=0
    ·rw[decide_eq_true t2]at a2
     have hv3:Zn (p.drop 16)=Zn b:=by
      have e1:=Yx 8 p (by omega) (WH (by omega) (WJ t2).1)
      have e2:=Yx 8 q (by omega) (WH (by omega) (WJ t2).2)
      rw[hq]at e1
      rw[<- hq,List.drop_drop]at e2
      rw[<- hv2,e1,<- hq,e2]
     generalize hs:p.drop 16=s at hv3
     have x16:p.drop (Int.toNat 16)=s:=hs
     have hsl:s.length=p.length-16:=by rw[<- hs,List.length_drop]
     repeat'(first|rw[o1]|rw[a1]|rw[a2]|(apply Zb (w1);kernel_rfl;(iterate 4 exact Z))|(apply Zb (w2);kernel_rfl;(iterate 4 exact Z))|(apply Zb (w3);kernel_rfl;(iterate 4 exact Z))|(apply Y2 Za;(iterate 8 exact Z);exact Qb;(first|with_reducible assumption|decide|(simp only[List.length_cons,List.length_drop,List.length_take,List.length_append,Int.toNat_natCast]at *;omega));(first|with_reducible assumption|exact Z))|(apply Zh Za;exact Z)|(apply Zd Za;exact Z)|(apply Zv Za;exact Z)|refine Zg Z Z Z Qt ?_|refine Zk Z Qt Z Z ?_|refine Zc Z Qt ?_|refine Zp Za Z Z Z Z ?_|(apply ZA 8 ZJ;decide +kernel;kernel_rfl;kernel_rfl;exact Z;exact Z)|(apply ZL;(iterate 3 exact Z))|refine AD.nil _|exact ZZ rfl|(apply ZC Za;(iterate 6 exact Z);(first|exact Qt|rotate_left);(first|with_reducible assumption|decide +kernel|exact Z);(first|exact Zi rfl|with_reducible assumption|decide +kernel|rotate_left)))
     refine Z6 (fun k' tm bx fr=>∃ l':List UInt8,k'=l'.length/\l'.length<=r.length/\Zn l'=Zn b/\tm=[(0,byE l'),(2,.bool false)]/\bx=[]/\fr=[]) (s.length+1) (Lands.mk' (m:=s.length) (Nat.lt_succ_self _) ⟨s,rfl,by omega,hv3,rfl,rfl,rfl⟩ ?_ rfl rfl rfl rfl rfl rfl) ?_
     ·exact .cons rfl (.cons rfl .nil)
     rintro k' tm bx fr ⟨l',hk',hl',hv',rfl,rfl,rfl⟩
     rcases Nat.lt_or_ge 32 l'.length with h32|h32
     ·have d32:decide (((l'.map E.byte).length:Int)>32)=true:=by simp;omega
      generalize hp1:l'.drop 8=p1
      generalize hp2:l'.drop 16=p2
      generalize hp3:l'.drop 24=p3
      generalize hp4:l'.drop 32=p4
      have y1:l'.drop (Int.toNat 8)=p1:=hp1
      have y2:l'.drop (Int.toNat 16)=p2:=hp2
      have y3:l'.drop (Int.toNat 24)=p3:=hp3
      have y4:l'.drop (Int.toNat 32)=p4:=hp4
      have z1:p1.length=l'.length-8:=by rw[<- hp1,List.length_drop]
      have z2:p2.length=l'.length-16:=by rw[<- hp2,List.length_drop]
      have z3:p3.length=l'.length-24:=by rw[<- hp3,List.length_drop]
      have z4:p4.length=l'.length-32:=by rw[<- hp4,List.length_drop]
      have u0:=WI l' (by omega)
      have u1:=WI p1 (by omega)
      have u2:=WI p2 (by omega)
      have u3:=WI p3 (by omega)
      have r1:=Ih l' p1
      have r2:=Ih p2 p3
      have r3:=u64_or_nat (w8N l' ||| w8N p1) (w8N p2 ||| w8N p3) (Nat.or_lt_two_pow (n:=64) (Y0 l') (Y0 p1)) (Nat.or_lt_two_pow (n:=64) (Y0 p2) (Y0 p3))
      have a4:=JX (a:=(w8N l' ||| w8N p1) ||| (w8N p2 ||| w8N p3)) (Nat.or_lt_two_pow (n:=64) (Nat.or_lt_two_pow (n:=64) (Y0 l') (Y0 p1)) (Nat.or_lt_two_pow (n:=64) (Y0 p2) (Y0 p3)))
      have m8:Int.toNat 8<=l'.length:=by show 8<=l'.length;omega
      have m16:Int.toNat 16<=l'.length:=by show 16<=l'.length;omega
      have m24:Int.toNat 24<=l'.length:=by show 24<=l'.length;omega
      have m32:Int.toNat 32<=l'.length:=by show 32<=l'.length;omega
      by_cases t4:((w8N l' ||| w8N p1) ||| (w8N p2 ||| w8N p3)) &&& hi8=0
      ·rw[decide_eq_true t4]at a4
       have hv4:Zn p4=Zn b:=by
        have q1:=WJ t4
        have e1:=Yx 8 l' (by omega) (WH (by omega) (WJ q1.1).1)
        have e2:=Yx 8 p1 (by omega) (WH (by omega) (WJ q1.1).2)
        have e3:=Yx 8 p2 (by omega) (WH (by omega) (WJ q1.2).1)
        have e4:=Yx 8 p3 (by omega) (WH (by omega) (WJ q1.2).2)
        rw[hp1]at e1
        rw[<- hp1,List.drop_drop,hp1,hp2]at e2
        rw[<- hp2,List.drop_drop,hp2,hp3]at e3
        rw[<- hp3,List.drop_drop,hp3,hp4]at e4
        rw[<- hv',e1,e2,e3,e4]
       repeat'(first|rw[r1]|rw[r2]|rw[r3]|rw[a4]|(apply Zb (u0);kernel_rfl;(iterate 4 exact Z))|(apply Zb (u1);kernel_rfl;(iterate 4 exact Z))|(apply Zb (u2);kernel_rfl;(iterate 4 exact Z))|(apply Zb (u3);kernel_rfl;(iterate 4 exact Z))|(apply Y2 Za;(iterate 8 exact Z);exact Qb;(first|with_reducible assumption|decide|(simp only[List.length_cons,List.length_drop,List.length_take,List.length_append,Int.toNat_natCast]at *;omega));(first|with_reducible assumption|exact Z))|(apply Zh Za;exact Z)|(apply Zd Za;exact Z)|(apply Zv Za;exact Z)|refine Zg Z Z Z Qt ?_|refine Zk Z Qt Z Z ?_|refine Zc Z Qt ?_|refine Yz ?_|refine Zp Za Z Z Z Z ?_|(apply ZA 17 ZJ;decide +kernel;kernel_rfl;kernel_rfl;exact Z;exact Z)|(apply ZL;(iterate 3 exact Z))|refine AD.nil _|exact ZZ rfl)
       refine Lands.mk' (m:=p4.length) (by omega) ⟨p4,rfl,by omega,hv4,rfl,rfl,rfl⟩ ?_ rfl rfl rfl rfl rfl rfl
       exact .cons rfl (.cons rfl .nil)
      ·rw[decide_eq_false t4]at a4
       repeat'(first|rw[r1]|rw[r2]|rw[r3]|rw[a4]|(apply Zb (u0);kernel_rfl;(iterate 4 exact Z))|(apply Zb (u1);kernel_rfl;(iterate 4 exact Z))|(apply Zb (u2);kernel_rfl;(iterate 4 exact Z))|(apply Zb (u3);kernel_rfl;(iterate 4 exact Z))|(apply Y2 Za;(iterate 8 exact Z);exact Qb;(first|with_reducible assumption|decide|(simp only[List.length_cons,List.length_drop,List.length_take,List.length_append,Int.toNat_natCast]at *;omega));(first|with_reducible assumption|exact Z))|(apply Zh Za;exact Z)|(apply Zd Za;exact Z)|(apply Zv Za;exact Z)|refine Zg Z Z Z Qt ?_|refine Zk Z Qt Z Z ?_|refine Ze Z Qt ?_|refine Zp Za Z Z Z Z ?_|(apply ZA 17 ZJ;decide +kernel;kernel_rfl;kernel_rfl;exact Z;exact Z)|(apply ZL;(iterate 3 exact Z))|refine AD.nil _|exact ZZ rfl)
       refine Lands.mk' (m:=l'.length) (by omega) ⟨l',rfl,hv',rfl,rfl,rfl⟩ ?_ rfl rfl rfl rfl rfl rfl
       exact .cons rfl (.cons rfl .nil)
     ·have d32:decide (((l'.map E.byte).length:Int)>32)=false:=by simp;omega
      repeat'(first|(apply Zh Za;exact Z)|(apply Zd Za;exact Z)|(apply Zv Za;exact Z)|refine ZO Z Z Z Qt ?_|refine Zl Z Qt Z Z ?_|refine Ze Z Qt ?_|refine Zp Za Z Z Z Z ?_|(apply ZA 17 ZJ;decide +kernel;kernel_rfl;kernel_rfl;exact Z;exact Z)|(apply ZL;(iterate 3 exact Z))|refine AD.nil _|exact ZZ rfl)
      refine Lands.mk' (m:=l'.length) (by omega) ⟨l',rfl,hv',rfl,rfl,rfl⟩ ?_ rfl rfl rfl rfl rfl rfl
      exact .cons rfl (.cons rfl .nil)
    ·rw[decide_eq_false t2]at a2
     repeat'(first|rw[o1]|rw[a1]|rw[a2]|(apply Zb (w1);kernel_rfl;(iterate 4 exact Z))|(apply Zb (w2);kernel_rfl;(iterate 4 exact Z))|(apply Zb (w3);kernel_rfl;(iterate 4 exact Z))|(apply Y2 Za;(iterate 8 exact Z);exact Qb;(first|with_reducible assumption|decide|(simp only[List.length_cons,List.length_drop,List.length_take,List.length_append,Int.toNat_natCast]at *;omega));(first|with_reducible assumption|exact Z))|(apply Zh Za;exact Z)|(apply Zd Za;exact Z)|(apply Zv Za;exact Z)|refine Zg Z Z Z Qt ?_|refine Zk Z Qt Z Z ?_|refine Zc Z Qt ?_|refine Ze Z Qt ?_|refine Zp Za Z Z Z Z ?_|(apply ZA 8 ZJ;decide +kernel;kernel_rfl;kernel_rfl;exact Z;exact Z)|(apply ZL;(iterate 3 exact Z))|refine AD.nil _|exact ZZ rfl|(apply ZC Za;(iterate 6 exact Z);(first|exact Qt|rotate_left);(first|with_reducible assumption|decide +kernel|exact Z);(first|exact Zi rfl|with_reducible assumption|decide +kernel|rotate_left)))
     refine Lands.mk' (m:=p.length) (by omega) ⟨p,rfl,hv2,rfl,rfl,rfl⟩ ?_ rfl rfl rfl rfl rfl rfl
     exact .cons rfl (.cons rfl .nil)
   ·have d16:decide (((p.map E.byte).length:Int)>16)=false:=by simp;omega
    repeat'(first|rw[a1]|(apply Zb (w1);kernel_rfl;(iterate 4 exact Z))|(apply Y2 Za;(iterate 8 exact Z);exact Qb;(first|with_reducible assumption|decide|(simp only[List.length_cons,List.length_drop,List.length_take,List.length_append,Int.toNat_natCast]at *;omega));(first|with_reducible assumption|exact Z))|(apply Zh Za;exact Z)|(apply Zd Za;exact Z)|(apply Zv Za;exact Z)|refine Zg Z Z Z Qt ?_|refine ZO Z Z Z Qt ?_|refine Zk Z Qt Z Z ?_|refine Zl Z Qt Z Z ?_|refine Zc Z Qt ?_|refine Ze Z Qt ?_|refine Zp Za Z Z Z Z ?_|(apply ZA 8 ZJ;decide +kernel;kernel_rfl;kernel_rfl;exact Z;exact Z)|(apply ZL;(iterate 3 exact Z))|refine AD.nil _|exact ZZ rfl|(apply ZC Za;(iterate 6 exact Z);(first|exact Qt|rotate_left);(first|with_reducible assumption|decide +kernel|exact Z);(first|exact Zi rfl|with_reducible assumption|decide +kernel|rotate_left)))
    refine Lands.mk' (m:=p.length) (by omega) ⟨p,rfl,hv2,rfl,rfl,rfl⟩ ?_ rfl rfl rfl rfl rfl rfl
    exact .cons rfl (.cons rfl .nil)
  ·rw[decide_eq_false t1]at a1
   repeat'(first|rw[a1]|(apply Zb (w1);kernel_rfl;(iterate 4 exact Z))|(apply Y2 Za;(iterate 8 exact Z);exact Qb;(first|with_reducible assumption|decide|(simp only[List.length_cons,List.length_drop,List.length_take,List.length_append,Int.toNat_natCast]at *;omega));(first|with_reducible assumption|exact Z))|(apply Zh Za;exact Z)|(apply Zd Za;exact Z)|(apply Zv Za;exact Z)|refine Zg Z Z Z Qt ?_|refine Zk Z Qt Z Z ?_|refine Zc Z Qt ?_|refine Ze Z Qt ?_|refine Zp Za Z Z Z Z ?_|(apply ZC Za;(iterate 6 exact Z);(first|exact Qt|rotate_left);(first|with_reducible assumption|decide +kernel|exact Z);(first|exact Zi rfl|with_reducible assumption|decide +kernel|rotate_left)))
   refine Lands.mk' (m:=r.length) (by omega) ⟨r,rfl,hv1,rfl,rfl,rfl⟩ ?_ rfl rfl rfl rfl rfl rfl
   exact .cons rfl (.cons rfl .nil)
 ·have d8:decide (((r.map E.byte).length:Int)>8)=false:=by simp;omega
  repeat'(first|(apply Y2 Za;(iterate 8 exact Z);exact Qb;(first|with_reducible assumption|decide|(simp only[List.length_cons,List.length_drop,List.length_take,List.length_append,Int.toNat_natCast]at *;omega));(first|with_reducible assumption|exact Z))|(apply Zh Za;exact Z)|(apply Zd Za;exact Z)|(apply Zv Za;exact Z)|refine ZO Z Z Z Qt ?_|refine Zl Z Qt Z Z ?_|refine Zc Z Qt ?_|refine Ze Z Qt ?_|refine Zp Za Z Z Z Z ?_|(apply ZC Za;(iterate 6 exact Z);(first|exact Qt|rotate_left);(first|with_reducible assumption|decide +kernel|exact Z);(first|exact Zi rfl|with_reducible assumption|decide +kernel|rotate_left)))
  refine Lands.mk' (m:=r.length) (by omega) ⟨r,rfl,hv1,rfl,rfl,rfl⟩ ?_ rfl rfl rfl rfl rfl rfl
  exact .cons rfl (.cons rfl .nil)
end Go.Proofs.YthdgejfglbjogaaDoor
end

/- Package fields: a writer. -/
import Derived.Test.YtchlgagdbflkmaaGreatDoorL12
import Derived.Test.YtchlgagdbflkmaaGreatDoorL13
set_option linter.unusedVariables false
set_option linter.unusedSimpArgs false
section
open Go.RowKit Go.Pl Go.Av
namespace Go.Proofs.YtchlgagdbflkmaaGreatDoor
set_option maxHeartbeats 4000000
abbrev wrC (L:List UInt8):List (List D):=[[.bool true,.sl (.own 0) (L.map E.byte)]]
abbrev wrF (L:List UInt8):List Fr:=[⟨L.length,1,5⟩]
theorem OC (n:Nat):E.int .u8 (bits .or .u8 (IntKind.u8.wrap (n:Int)) 128)=E.byte (UInt8.ofNat (n % 128+128)):=congrArg (E.int .u8) (Ho n)
theorem UZ (n:Nat)(h:n<256):E.int .u8 (IntKind.u8.wrap (n:Int))=E.byte (UInt8.ofNat n):=congrArg (E.int .u8) (by rw[H1,UInt8.toNat_ofNat'])
theorem Ui (M:List UInt8)(c:UInt8):M.map E.byte++[E.byte c]=(M++[c]).map E.byte:=by simp
theorem U0 [Known](L:List UInt8)(n:Nat)(hn:n<18446744073709551616)(hL:L.length<=1099511627776):AT Tryz.prog 65 [.ptr 0 0,.int .u64 (n:Int)] (wrC L) (wrF L) (.ptr 0 0) (wrC (L++vn n)) (wrF (L++vn n)):=by
 refine Zp Tryz.func65 rfl Tryz.ntmps65 rfl rfl ?_
 have hl0:(L.map E.byte).length=L.length:=List.length_map ..
 repeat'(first|(apply Zl Zb;exact Z)|(apply Zj Zb;exact Z)|(apply Zt Zb;exact Z)|refine Zi Z Z Z Qt ?_|refine Zn Z Qt Z Z ?_|refine Zg Z Qt ?_)
 refine Yr (fun k tm bx fr=>∃(m c:Nat) (M:List UInt8) (K:List E),K=M.map E.byte/\c=K.length/\m<18446744073709551616/\k<=9/\m<128 ^ (k+1)/\M++vnF k m=L++vn n/\tm=[(0,.ptr 0 0),(1,.int .u64 (m:Int)),(4,.nilp)]/\bx=[[.bool true,.sl (.own 0) K]]/\fr=[⟨c,1,5⟩]) 10 (Lands.mk' (m:=9) (by omega) ⟨n,L.length,L,L.map E.byte,rfl,by simp,hn,Nat.le_refl _,Nat.lt_of_lt_of_le hn (by decide),rfl,rfl,rfl,rfl⟩ ?_ rfl rfl rfl rfl rfl rfl) ?_
 ·exact .cons rfl (.cons rfl (.cons rfl .nil))
 rintro k tm bx fr ⟨m,c,M,K,hK,hc,hm,hk,hmk,hM,rfl,rfl,rfl⟩
 have hU:Uni 1 K:=hK ▸ YD M
 have hKl:K.length=M.length:=by rw[hK,List.length_map]
 have hMl:M.length<=1099511627800:=by
  have:=congrArg List.length hM
  have h1:=W1 9 n
  rw[List.length_append,List.length_append,vn]at this
  omega
 subst hc
 have ho:=OC m
 rcases Nat.lt_or_ge 127 m with hgt|hle
 ·have t1:decide ((m:Int)>127)=true:=decide_eq_true (by omega)
  cases k with
  | zero=>exfalso;simp at hmk;omega
  | succ k=>
   rw[vnF,if_pos hgt]at hM
   repeat'(first|rw[Ho]|(apply W7;exact Z;exact Z;rotate_left;exact Z)|rw[To]|(apply Zl Zb;exact Z)|(apply Zj Zb;exact Z)|(apply Zt Zb;exact Z)|refine Zf Z Qt ?_|refine ZU ?_|refine Z8 Zb Z Z Z Z Z Z Z Z Z Z Z Z ?_|(apply ZJ Zb;(iterate 6 exact Z);(first|with_reducible assumption|decide +kernel|exact Z|rotate_left);exact Z;exact Z;(first|exact Zk rfl|with_reducible assumption|decide +kernel|rotate_left);(first|exact Zk rfl|with_reducible assumption|decide +kernel|rotate_left);(first|exact Qt|rotate_left);(first|exact Qt|rotate_left);(first|exact Qt|rotate_left);exact Z;exact Z))
   ·refine Lands.mk' (m:=k) (by omega) ⟨m/128,K.length+1,M++[UInt8.ofNat (m % 128+128)],K++[E.byte (UInt8.ofNat (m % 128+128))],by rw[hK,Ui],by simp,by omega,by omega,by rw[Nat.pow_succ]at hmk;omega,by rw[List.append_assoc];exact hM,rfl,rfl,rfl⟩ ?_ rfl rfl rfl rfl rfl rfl
    exact .cons rfl (.cons rfl (.cons rfl .nil))
   all_goals first|decide|(first|rfl|(simp only[List.length_append,List.length_cons,List.length_nil,List.length_map];done)|(simp only[List.length_append,List.length_cons,List.length_nil,List.length_map]at *;(try unfold maxLen);(try simp only[Nat.add_mul]);omega))
 ·have t1:decide ((m:Int)>127)=false:=decide_eq_false (by omega)
  have hv:vnF k m=[UInt8.ofNat m]:=by
   cases k with
   | zero=>rfl
   | succ k=>rw[vnF,if_neg (by omega)]
  have hF:K++[E.int .u8 (IntKind.u8.wrap (m:Int))]=(L++vn n).map E.byte:=by
   rw[UZ m (by omega),hK,Ui,<- hv,hM]
  have hFl:K.length+1=(L++vn n).length:=by
   have:=congrArg List.length hF
   simpa using this
  repeat'(first|(apply Zl Zb;exact Z)|(apply Zj Zb;exact Z)|refine Zg Z Qt ?_|refine Z8 Zb Z Z Z Z Z Z Z Z Z Z Z Z ?_|(apply ZJ Zb;(iterate 6 exact Z);(first|with_reducible assumption|decide +kernel|exact Z|rotate_left);exact Z;exact Z;(first|exact Zk rfl|with_reducible assumption|decide +kernel|rotate_left);(first|exact Zk rfl|with_reducible assumption|decide +kernel|rotate_left);(first|exact Qt|rotate_left);(first|exact Qt|rotate_left);(first|exact Qt|rotate_left);exact Z;exact Z))
  all_goals first|(apply Yc [0] [0];(apply Zd Zb;exact Z);(iterate 7 exact Z))|(first|rfl|(simp only[List.length_append,List.length_cons,List.length_nil,List.length_map];done)|(simp only[List.length_append,List.length_cons,List.length_nil,List.length_map]at *;(try unfold maxLen);(try simp only[Nat.add_mul]);omega))
  all_goals first|rfl|exact congrArg (fun l=>[[D.bool true,D.sl (.own 0) l]]) hF|exact congrArg (fun c=>[(⟨c,1,5⟩:Fr)]) hFl
theorem Wr [Known](n:Nat)(hn:n<18446744073709551616):AT Tryz.prog 65 [.ptr 0 0,.int .u64 (n:Int)] [[.bool true,.sl .nil []]] [] (.ptr 0 0) (wrC (vn n)) (wrF (vn n)):=by
 refine Zp Tryz.func65 rfl Tryz.ntmps65 rfl rfl ?_
 repeat'(first|(apply Zl Zb;exact Z)|(apply Zj Zb;exact Z)|(apply Zt Zb;exact Z)|refine Zi Z Z Z Qt ?_|refine Zn Z Qt Z Z ?_|refine Zg Z Qt ?_)
 refine Yr (fun k tm bx fr=>∃(m c:Nat) (M:List UInt8) (K:List E),K=M.map E.byte/\c=K.length/\m<18446744073709551616/\k<=9/\m<128 ^ (k+1)/\M++vnF k m=vn n/\tm=[(0,.ptr 0 0),(1,.int .u64 (m:Int)),(4,.nilp)]/\((M=[]/\bx=[[.bool true,.sl .nil []]]/\fr=[])\/(bx=[[.bool true,.sl (.own 1) K]]/\fr=[⟨1,1,5⟩,⟨c,1,5⟩]))) 10 (Lands.mk' (m:=9) (by omega) ⟨n,0,[],[],rfl,rfl,hn,Nat.le_refl _,Nat.lt_of_lt_of_le hn (by decide),rfl,rfl,.inl ⟨rfl,rfl,rfl⟩⟩ ?_ rfl rfl rfl rfl rfl rfl) ?_
 ·exact .cons rfl (.cons rfl (.cons rfl .nil))
 rintro k tm bx fr ⟨m,c,M,K,hK,hc,hm,hk,hmk,hM,rfl,⟨rfl,rfl,rfl⟩ | ⟨rfl,rfl⟩⟩
 ·have hU:Uni 1 K:=hK ▸ YD []
  have hKl:K=[]:=hK
  subst hc
  have ho:=OC m
  rcases Nat.lt_or_ge 127 m with hgt|hle
  ·have t1:decide ((m:Int)>127)=true:=decide_eq_true (by omega)
   cases k with
   | zero=>exfalso;simp at hmk;omega
   | succ k=>
    rw[vnF,if_pos hgt]at hM
    repeat'(first|rw[Ho]|(apply W7;exact Z;exact Z;rotate_left;exact Z)|rw[To]|refine ZL Zb Z Z Z Z Z Z (Zk rfl) (List.cons_ne_nil _ _) Z Qd Qd Z Z Z ?_|(apply Zl Zb;exact Z)|(apply Zj Zb;exact Z)|(apply Zt Zb;exact Z)|refine Zf Z Qt ?_|refine ZU ?_|refine Z8 Zb Z Z Z Z Z Z Z Z Z Z Z Z ?_)
    ·refine Lands.mk' (m:=k) (by omega) ⟨m/128,1,[UInt8.ofNat (m % 128+128)],[E.byte (UInt8.ofNat (m % 128+128))],rfl,rfl,by omega,by omega,by rw[Nat.pow_succ]at hmk;omega,by rw[List.nil_append]at hM;exact hM,rfl,.inr ⟨rfl,rfl⟩⟩ ?_ rfl rfl rfl rfl rfl rfl
     exact .cons rfl (.cons rfl (.cons rfl .nil))
    all_goals first|decide|(first|rfl|(simp only[List.length_append,List.length_cons,List.length_nil,List.length_map];done)|(simp only[List.length_append,List.length_cons,List.length_nil,List.length_map]at *;(try unfold maxLen);(try simp only[Nat.add_mul]);omega))
  ·have t1:decide ((m:Int)>127)=false:=decide_eq_false (by omega)
   have hv:vnF k m=[UInt8.ofNat m]:=by
    cases k with
    | zero=>rfl
    | succ k=>rw[vnF,if_neg (by omega)]
   have hF:[E.int .u8 (IntKind.u8.wrap (m:Int))]=(vn n).map E.byte:=by
    rw[UZ m (by omega),<- hM,hv];rfl
   have hFl:1=(vn n).length:=by
    have:=congrArg List.length hF
    simpa using this
   repeat'(first|refine ZL Zb Z Z Z Z Z Z (Zk rfl) (List.cons_ne_nil _ _) Z Qd Qd Z Z Z ?_|(apply Zl Zb;exact Z)|(apply Zj Zb;exact Z)|refine Zg Z Qt ?_|refine Z8 Zb Z Z Z Z Z Z Z Z Z Z Z Z ?_)
   all_goals first|(apply Yc [0] [1];(apply Zd Zb;exact Z);(iterate 7 exact Z))|(first|rfl|(simp only[List.length_append,List.length_cons,List.length_nil,List.length_map];done)|(simp only[List.length_append,List.length_cons,List.length_nil,List.length_map]at *;(try unfold maxLen);(try simp only[Nat.add_mul]);omega))
   all_goals first|rfl|exact congrArg (fun l=>[[D.bool true,D.sl (.own 0) l]]) hF|exact congrArg (fun c=>[(⟨c,1,5⟩:Fr)]) hFl

 ·have hU:Uni 1 K:=hK ▸ YD M
  have hKl:K.length=M.length:=by rw[hK,List.length_map]
  have hMl:M.length<=1099511627800:=by
   have:=congrArg List.length hM
   have h1:=W1 9 n
   rw[List.length_append,vn]at this
   omega
  subst hc
  have ho:=OC m
  rcases Nat.lt_or_ge 127 m with hgt|hle
  ·have t1:decide ((m:Int)>127)=true:=decide_eq_true (by omega)
   cases k with
   | zero=>exfalso;simp at hmk;omega
   | succ k=>
    rw[vnF,if_pos hgt]at hM
    repeat'(first|rw[Ho]|(apply W7;exact Z;exact Z;rotate_left;exact Z)|rw[To]|(apply Zl Zb;exact Z)|(apply Zj Zb;exact Z)|(apply Zt Zb;exact Z)|refine Zf Z Qt ?_|refine ZU ?_|refine Z8 Zb Z Z Z Z Z Z Z Z Z Z Z Z ?_|(apply ZJ Zb;(iterate 6 exact Z);(first|with_reducible assumption|decide +kernel|exact Z|rotate_left);exact Z;exact Z;(first|exact Zk rfl|with_reducible assumption|decide +kernel|rotate_left);(first|exact Zk rfl|with_reducible assumption|decide +kernel|rotate_left);(first|exact Qt|rotate_left);(first|exact Qt|rotate_left);(first|exact Qt|rotate_left);exact Z;exact Z))
    ·refine Lands.mk' (m:=k) (by omega) ⟨m/128,K.length+1,M++[UInt8.ofNat (m % 128+128)],K++[E.byte (UInt8.ofNat (m % 128+128))],by rw[hK,Ui],by simp,by omega,by omega,by rw[Nat.pow_succ]at hmk;omega,by rw[List.append_assoc];exact hM,rfl,.inr ⟨rfl,rfl⟩⟩ ?_ rfl rfl rfl rfl rfl rfl
     exact .cons rfl (.cons rfl (.cons rfl .nil))
    all_goals first|decide|(first|rfl|(simp only[List.length_append,List.length_cons,List.length_nil,List.length_map];done)|(simp only[List.length_append,List.length_cons,List.length_nil,List.length_map]at *;(try unfold maxLen);(try simp only[Nat.add_mul]);omega))
  ·have t1:decide ((m:Int)>127)=false:=decide_eq_false (by omega)
   have hv:vnF k m=[UInt8.ofNat m]:=by
    cases k with
    | zero=>rfl
    | succ k=>rw[vnF,if_neg (by omega)]
   have hF:K++[E.int .u8 (IntKind.u8.wrap (m:Int))]=(vn n).map E.byte:=by
    rw[UZ m (by omega),hK,Ui,<- hv,hM]
   have hFl:K.length+1=(vn n).length:=by
    have:=congrArg List.length hF
    simpa using this
   repeat'(first|(apply Zl Zb;exact Z)|(apply Zj Zb;exact Z)|refine Zg Z Qt ?_|refine Z8 Zb Z Z Z Z Z Z Z Z Z Z Z Z ?_|(apply ZJ Zb;(iterate 6 exact Z);(first|with_reducible assumption|decide +kernel|exact Z|rotate_left);exact Z;exact Z;(first|exact Zk rfl|with_reducible assumption|decide +kernel|rotate_left);(first|exact Zk rfl|with_reducible assumption|decide +kernel|rotate_left);(first|exact Qt|rotate_left);(first|exact Qt|rotate_left);(first|exact Qt|rotate_left);exact Z;exact Z))
   all_goals first|(apply Yc [0] [1];(apply Zd Zb;exact Z);(iterate 7 exact Z))|(first|rfl|(simp only[List.length_append,List.length_cons,List.length_nil,List.length_map];done)|(simp only[List.length_append,List.length_cons,List.length_nil,List.length_map]at *;(try unfold maxLen);(try simp only[Nat.add_mul]);omega))
   all_goals first|rfl|exact congrArg (fun l=>[[D.bool true,D.sl (.own 0) l]]) hF|exact congrArg (fun c=>[(⟨c,1,5⟩:Fr)]) hFl
theorem W2 [Known]:AT Tryz.prog 64 [] [] [] (.ptr 0 0) [[.bool true,.sl .nil []]] []:=by
 refine Zp Tryz.func64 rfl Tryz.ntmps64 rfl rfl ?_
 repeat'(first|(apply Zj Zb;exact Z))
 all_goals(apply Yc [0] [];(apply Zd Zb;exact Z);(iterate 7 exact Z))
 all_goals rfl
theorem YF [Known](L:List UInt8)(n:Nat)(hn:n<9223372036854775808)(hL:L.length<=1099511627776):AT Tryz.prog 66 [.ptr 0 0,.int .i64 (n:Int)] (wrC L) (wrF L) (.ptr 0 0) (wrC (L++vn n)) (wrF (L++vn n)):=by
 have hN:=U0 L n (by omega) hL
 have e1:(if(0:Int)>(n:Int) then(0:Int) else(n:Int))=(n:Int):=if_neg (by omega)
 have e2:IntKind.u64.wrap (n:Int)=(n:Int):=IntWalk.u64_in _ (by omega)
 refine Zp Tryz.func66 rfl Tryz.ntmps66 rfl rfl ?_
 repeat'(first|refine I5 Z Z Z ?_|rw[e1]|rw[e2]|(apply Zm [0] [0] (hN);kernel_rfl;(iterate 10 exact Z))|(apply Zl Zb;exact Z)|(apply Zj Zb;exact Z))
 all_goals(apply Yc [0] [0];(apply Zd Zb;exact Z);(iterate 7 exact Z))
 all_goals rfl
theorem KR [Known](L:List UInt8)(b:Bool)(hL:L.length<=1099511627776):AT Tryz.prog 101 [.ptr 0 0,.bool b] (wrC L) (wrF L) (.ptr 0 0) (wrC (L++vn b.toNat)) (wrF (L++vn b.toNat)):=by
 have h1:=U0 L 1 (by omega) hL
 have h0:=U0 L 0 (by omega) hL
 cases b
 all_goals
  refine Zp Tryz.func101 rfl Tryz.ntmps101 rfl rfl ?_
  repeat'(first|(apply Zm [0] [0] (h1);kernel_rfl;(iterate 10 exact Z))|(apply Zm [0] [0] (h0);kernel_rfl;(iterate 10 exact Z))|(apply Zl Zb;exact Z)|(apply Zj Zb;exact Z)|refine Zf Z Qt ?_|refine Zg Z Qt ?_)
  all_goals(apply Yc [0] [0];(apply Zd Zb;exact Z);(iterate 7 exact Z))
  all_goals rfl
theorem Xj [Known](L b:List UInt8)(hb:b.length<=1000000)(hL:L.length<=1000000):AT Tryz.prog 68 [.ptr 0 0,byE b] (wrC L) (wrF L) (.ptr 0 0) (wrC (L++vn b.length++b)) (wrF (L++vn b.length++b)):=by
 have hbl:(b.map E.byte).length=b.length:=List.length_map ..
 have hN:=U0 L b.length (by omega) (by omega)
 have e2:IntKind.u64.wrap (((b.map E.byte).length:Nat):Int)=(b.length:Int):=by rw[hbl];exact IntWalk.u64_in _ (by omega)
 have hvl:=W1 9 b.length
 have hMl:(L++vn b.length).length<=1000010:=by rw[List.length_append,vn];omega
 generalize L++vn b.length=M at *
 have hU1:=YD b
 have hU2:=YD M
 have hMm:(M.map E.byte).length=M.length:=List.length_map ..
 cases b with
 | nil=>
  rw[List.append_nil]
  refine Zp Tryz.func68 rfl Tryz.ntmps68 rfl rfl ?_
  repeat'(first|rw[e2]|(apply Zm [0] [0] (hN);kernel_rfl;(iterate 10 exact Z))|(apply Zl Zb;exact Z)|(apply Zj Zb;exact Z)|(apply Zt Zb;exact Z)|refine Zi Z Z Z Qt ?_|refine Zo Z Qt Z Z ?_|refine Zf Z Qt ?_|refine Zz Zb Z Z Z Z ?_|refine ZN Zb Z Z Z Z Z Z ?_)
  all_goals(apply Yc [0] [0];(apply Zd Zb;exact Z);(iterate 7 exact Z))
  all_goals rfl
 | cons c b=>
  have hne:(c::b).map E.byte ≠ []:=List.cons_ne_nil _ _
  have hf1:M.length=(M.map E.byte).length:=hMm.symm
  have hF:M.map E.byte++(c::b).map E.byte=(M++c::b).map E.byte:=by simp
  have hFl:(M.map E.byte).length+((c::b).map E.byte).length=(M++c::b).length:=by simp
  refine Zp Tryz.func68 rfl Tryz.ntmps68 rfl rfl ?_
  repeat'(first|rw[e2]|(apply Zm [0] [0] (hN);kernel_rfl;(iterate 10 exact Z))|(apply Zl Zb;exact Z)|(apply Zj Zb;exact Z)|(apply Zt Zb;exact Z)|refine Zi Z Z Z Qt ?_|refine Zo Z Qt Z Z ?_|refine Zf Z Qt ?_|refine Zz Zb Z Z Z Z ?_|(apply ZJ Zb;(iterate 6 exact Z);(first|with_reducible assumption|decide +kernel|exact Z|rotate_left);exact Z;exact Z;(first|exact Zk rfl|with_reducible assumption|decide +kernel|rotate_left);(first|exact Zk rfl|with_reducible assumption|decide +kernel|rotate_left);(first|exact Qt|rotate_left);(first|exact Qt|rotate_left);(first|exact Qt|rotate_left);exact Z;exact Z))
  all_goals first|(apply Yc [0] [0];(apply Zd Zb;exact Z);(iterate 7 exact Z))|exact hne|exact hf1|exact hU1|exact hU2|(rw[hMm,hbl];unfold maxLen;omega)|(rw[hMm,hbl];show(_+_)*1<=_;omega)
  all_goals first|rfl|exact congrArg (fun l=>[[D.bool true,D.sl (.own 0) l]]) hF|exact congrArg (fun c=>[(⟨c,1,5⟩:Fr)]) hFl
theorem YY [Known](L:List UInt8)(hL:L.length<=1099511627776):AT Tryz.prog 69 [.ptr 0 0] (wrC L) (wrF L) (byE L) (wrC L) (wrF L):=by
 have hC:=Uz L (by omega)
 refine Zp Tryz.func69 rfl Tryz.ntmps69 rfl rfl ?_
 repeat'(first|(apply Zc (hC);kernel_rfl;(iterate 4 exact Z))|(apply Zl Zb;exact Z)|(apply Zj Zb;exact Z)|refine Zg Z Qt ?_)
 all_goals(apply Yc [0] [0];(apply Zd Zb;exact Z);(iterate 7 exact Z))
 all_goals rfl
def Vw (x:RyV):List UInt8:=vn x.id++vn x.err.toNat++vn x.num.toNat++vn x.cnt.toNat++vn x.tok++vn x.data.length++x.data
theorem T3 [Known](id:Nat)(err num cnt:Int)(tok:Nat)(data:List UInt8)(hR:AP Tryz.prog 61 [.agg [.int .u64 (id:Int),.int .i64 err,.int .i64 num,.int .i64 cnt,.int .u64 (tok:Int),byE data]] (.bool false) []) :
  AP Tryz.prog 55 [.agg [.int .u64 (id:Int),.int .i64 err,.int .i64 num,.int .i64 cnt,.int .u64 (tok:Int),byE data]] (.tup [.sl .ext [],.int .i64 3]) []:=by
 refine AP.ofA (Zp Tryz.func55 Z Tryz.ntmps55 Z Z ?_)
 repeat'(first|(apply Zc (hR);kernel_rfl;(iterate 4 exact Z))|(apply Zl Zb;exact Z)|(apply Zj Zb;exact Z)|(apply Zt Zb;exact Z)|refine Zf Z Qt ?_)
 all_goals exact Qe
theorem T4 [Known](id:Nat)(err num cnt:Int)(tok:Nat)(data:List UInt8)(L0 L1 L2 L3 L4 L5 R:List E)(c0 c1 c2 c3 c4 c5:Nat)(hR:AP Tryz.prog 61 [.agg [.int .u64 (id:Int),.int .i64 err,.int .i64 num,.int .i64 cnt,.int .u64 (tok:Int),byE data]] (.bool true) [])
  (hN:AT Tryz.prog 64 [] [] [] (.ptr 0 0) [[.bool true,.sl .nil []]] [])
  (h0:AT Tryz.prog 65 [.ptr 0 0,.int .u64 (id:Int)] [[.bool true,.sl .nil []]] [] (.ptr 0 0) [[.bool true,.sl (.own 0) L0]] [⟨c0,1,5⟩])
  (h1:AT Tryz.prog 66 [.ptr 0 0,.int .i64 err] [[.bool true,.sl (.own 0) L0]] [⟨c0,1,5⟩] (.ptr 0 0) [[.bool true,.sl (.own 0) L1]] [⟨c1,1,5⟩])
  (h2:AT Tryz.prog 66 [.ptr 0 0,.int .i64 num] [[.bool true,.sl (.own 0) L1]] [⟨c1,1,5⟩] (.ptr 0 0) [[.bool true,.sl (.own 0) L2]] [⟨c2,1,5⟩])
  (h3:AT Tryz.prog 66 [.ptr 0 0,.int .i64 cnt] [[.bool true,.sl (.own 0) L2]] [⟨c2,1,5⟩] (.ptr 0 0) [[.bool true,.sl (.own 0) L3]] [⟨c3,1,5⟩])
  (h4:AT Tryz.prog 65 [.ptr 0 0,.int .u64 (tok:Int)] [[.bool true,.sl (.own 0) L3]] [⟨c3,1,5⟩] (.ptr 0 0) [[.bool true,.sl (.own 0) L4]] [⟨c4,1,5⟩])
  (h5:AT Tryz.prog 68 [.ptr 0 0,byE data] [[.bool true,.sl (.own 0) L4]] [⟨c4,1,5⟩] (.ptr 0 0) [[.bool true,.sl (.own 0) L5]] [⟨c5,1,5⟩])
  (hB:AT Tryz.prog 69 [.ptr 0 0] [[.bool true,.sl (.own 0) L5]] [⟨c5,1,5⟩] (.sl .ext R) [[.bool true,.sl (.own 0) L5]] [⟨c5,1,5⟩]) :
  AP Tryz.prog 55 [.agg [.int .u64 (id:Int),.int .i64 err,.int .i64 num,.int .i64 cnt,.int .u64 (tok:Int),byE data]] (.tup [.sl .ext R,.int .i64 0]) []:=by
 refine AP.ofA (Zp Tryz.func55 Z Tryz.ntmps55 Z Z ?_)
 repeat'(first|(apply Zc (hR);kernel_rfl;(iterate 4 exact Z))|(apply Zm [] [] (hN);kernel_rfl;(iterate 10 exact Z))|(apply Zm [1] [] (h0);kernel_rfl;(iterate 10 exact Z))|(apply Zm [1] [0] (h1);kernel_rfl;(iterate 10 exact Z))|(apply Zm [1] [0] (h2);kernel_rfl;(iterate 10 exact Z))|(apply Zm [1] [0] (h3);kernel_rfl;(iterate 10 exact Z))|(apply Zm [1] [0] (h4);kernel_rfl;(iterate 10 exact Z))|(apply Zm [1] [0] (h5);kernel_rfl;(iterate 10 exact Z))|(apply Zm [1] [0] (hB);kernel_rfl;(iterate 10 exact Z))|(apply Zl Zb;exact Z)|(apply Zj Zb;exact Z)|(apply Zt Zb;exact Z)|refine Zg Z Qt ?_|(apply Za 18 Ze;decide +kernel;kernel_rfl;kernel_rfl;kernel_rfl;exact Z;exact Z)|(apply Zv;(iterate 4 exact Z))|exact AE.nil _ _ _ _|(apply ZB;exact Z)|(apply Z1;exact Z)|(apply ZD;exact Z;exact Z;decide +kernel;exact Z)|(apply ZE;exact Z)|(apply Ye;exact Z)|exact AO.nil _ _ _|(apply Zu;(decide +kernel))|(apply ZP;(iterate 3 exact Z))|exact AOs.nil|exact ZR rfl rfl|exact YC rfl rfl)
 all_goals exact Qe
theorem Xk {x:RyV}(h:Y5 x=true):x.id<=1099511627776/\(0<=x.err/\x.err<=99)/\(0<=x.num/\x.num<=1099511627776)/\(0<=x.cnt/\x.cnt<=1099511627776)/\x.tok<=2147483648/\x.data.length<=600:=by
 unfold Y5 at h
 cases ho:KQ x with
 | true=>rw[ho]at h;cases h
 | false=>
  unfold KQ QO at ho
  simp only[Bool.or_eq_false_iff,decide_eq_false_iff_not,List.length_map]at ho
  omega
theorem WC (n:Nat):(vn n).length<=10/\0<(vn n).length:=W1 9 n
theorem Jq {x:RyV}(h:Y5 x=true):(Vw x).length<=660/\0<(Vw x).length:=by
 obtain⟨_,_,_,_,_,hd⟩:=Xk h
 have h1:=WC x.id
 have h2:=WC x.err.toNat
 have h3:=WC x.num.toNat
 have h4:=WC x.cnt.toNat
 have h5:=WC x.tok
 have h6:=WC x.data.length
 unfold Vw
 simp only[List.length_append]
 omega
def Qw (x:RyV):D:=match Y5 x with
 | true=>.tup [byE (Vw x),.int .i64 0]
 | false=>.tup [.sl .ext [],.int .i64 3]
theorem QX [Known](x:RyV):AP Tryz.prog 55 [.agg (ryC x)] (Qw x) []:=by
 have hR:=OB x
 unfold Qw
 cases h:Y5 x with
 | false=>
  rw[h]at hR
  exact T3 _ _ _ _ _ _ hR
 | true=>
  rw[h]at hR
  obtain⟨f1,⟨f2,f2b⟩,⟨f3,f3b⟩,⟨f4,f4b⟩,f5,f6⟩:=Xk h
  clear h
  obtain⟨id,err,num,cnt,tok,data⟩:=x
  dsimp only at *
  obtain⟨e,rfl⟩:=Int.eq_ofNat_of_zero_le f2
  obtain⟨n,rfl⟩:=Int.eq_ofNat_of_zero_le f3
  obtain⟨c,rfl⟩:=Int.eq_ofNat_of_zero_le f4
  have l0:=WC id
  have l1:=WC e
  have l2:=WC n
  have l3:=WC c
  have l4:=WC tok
  have l5:=WC data.length
  exact T4 id _ _ _ tok data _ _ _ _ _ _ _ _ _ _ _ _ _ hR W2 (Wr id (by omega)) (YF _ e (by omega) (by omega)) (YF _ n (by omega) (by simp only[List.length_append];omega)) (YF _ c (by omega) (by simp only[List.length_append];omega)) (U0 _ tok (by omega) (by simp only[List.length_append];omega)) (Xj _ data (by omega) (by simp only[List.length_append];omega)) (YY _ (by simp only[List.length_append];omega))
abbrev coW (w out:D)(s e:Int)(left:List E):List (List D):=[[.bool true,.sl .ext left,.int .i64 0],[.ptr 0 0,w,.int .i64 s,out,.int .i64 e]]
abbrev Xl:E:=.agg [.int .u64 5,.int .i64 11,.bool false,.int .u64 0,.int .u64 0,.str [],.str [],.bool false,.int .u64 0,.int .u64 0,.str [],.str [],.int .i64 0,.int .i64 0,.int .i64 0,.sl [],.int .u64 0,.int .u64 0,.bool false]
theorem ct1:ZS ([]++[0,2,5])=([],[0,2,5],0):=UX (by decide) (by decide) (by decide) (by decide)
theorem ct2:ZS ([0,2,5]++[11,0,1,9])=([[5,11],[9]],[],0):=by
 rw[VW (by decide) (by decide) (by decide) (by decide)]
 rw[show(([0,2,5]++[11,0,1,9]:List UInt8).drop (2+Yd ([0,2,5]++[11,0,1,9])))=[0,1,9] from rfl,VW (by decide) (by decide) (by decide) (by decide)]
 rw[show(([0,1,9]:List UInt8).drop (2+Yd [0,1,9]))=[] from rfl,Vi (by decide)]
 rfl
theorem ct3:ZS ([]++[0,2,5,11])=([[5,11]],[],0):=by
 rw[VW (by decide) (by decide) (by decide) (by decide)]
 rw[show(([]++[0,2,5,11]:List UInt8).drop (2+Yd ([]++[0,2,5,11])))=[] from rfl,Vi (by decide)]
 rfl
theorem fk1 [Known]:AQ Tryz.prog 48 [.ptr 0 0,.sl .ext [.int .u8 0,.int .u8 2,.int .u8 5]] [[.bool true,.sl .ext [],.int .i64 0]] (.tup [.sl .ext [],.int .i64 0]) [[.bool true,.sl .ext [.int .u8 0,.int .u8 2,.int .u8 5],.int .i64 0]]:=by
 have h:=JX [] [0,2,5] (by decide)
 rw[ct1]at h
 exact h
theorem fk2 [Known]:AQ Tryz.prog 48 [.ptr 0 0,.sl .ext [.int .u8 11,.int .u8 0,.int .u8 1,.int .u8 9]] [[.bool true,.sl .ext [.int .u8 0,.int .u8 2,.int .u8 5],.int .i64 0]] (.tup [.sl .ext [.sl [.int .u8 5,.int .u8 11],.sl [.int .u8 9]],.int .i64 0]) [[.bool true,.sl .ext [],.int .i64 0]]:=by
 have h:=JX [0,2,5] [11,0,1,9] (by decide)
 rw[ct2]at h
 exact h
theorem fk3 [Known]:AQ Tryz.prog 48 [.ptr 0 0,.sl .ext [.int .u8 0,.int .u8 2,.int .u8 5,.int .u8 11]] [[.bool true,.sl .ext [],.int .i64 0]] (.tup [.sl .ext [.sl [.int .u8 5,.int .u8 11]],.int .i64 0]) [[.bool true,.sl .ext [],.int .i64 0]]:=by
 have h:=JX [] [0,2,5,11] (by decide)
 rw[ct3]at h
 exact h
abbrev coF:List Fr:=[⟨1,19,41⟩]
theorem cl0 [Known]:AT Tryz.prog 25 [.ptr 1 0] (coW (.sl .nil []) (.sl .nil []) 0 0 []) [] (.int .i64 0) (coW (.sl .nil []) (.sl .nil []) 0 0 []) []:=by
 refine Zp Tryz.func25 rfl Tryz.ntmps25 rfl rfl ?_
 repeat'(first|(apply Zr Tryz.func54 Tryz.ntmps54;exact Z;exact Z;kernel_rfl;(iterate 6 exact Z))|(apply Z4;(apply Zd Zb;exact Z);exact Z)|(apply Zl Zb;exact Z)|(apply Zj Zb;exact Z)|(apply Zt Zb;exact Z)|(apply Zi;(iterate 3 exact Z);(first|with_reducible assumption|decide +kernel|(solve|simp only[bn])))|(apply Zo;exact Z;(first|with_reducible assumption|decide +kernel|(solve|simp only[bn]));exact Z;exact Z)|(apply Zg;exact Z;(first|with_reducible assumption|decide +kernel|(solve|simp only[bn]))))
 all_goals(apply Yc [0,1] [];(apply Zd Zb;exact Z);(iterate 7 exact Z))
 all_goals rfl
theorem N0 [Known]:AT Tryz.prog 25 [.ptr 1 0] (coW (.sl .nil []) (.sl .nil []) 0 0 [.int .u8 0,.int .u8 2,.int .u8 5]) [] (.int .i64 0) (coW (.sl .nil []) (.sl .nil []) 0 0 [.int .u8 0,.int .u8 2,.int .u8 5]) []:=by
 refine Zp Tryz.func25 rfl Tryz.ntmps25 rfl rfl ?_
 repeat'(first|(apply Zr Tryz.func54 Tryz.ntmps54;exact Z;exact Z;kernel_rfl;(iterate 6 exact Z))|(apply Z4;(apply Zd Zb;exact Z);exact Z)|(apply Zl Zb;exact Z)|(apply Zj Zb;exact Z)|(apply Zt Zb;exact Z)|(apply Zi;(iterate 3 exact Z);(first|with_reducible assumption|decide +kernel|(solve|simp only[bn])))|(apply Zo;exact Z;(first|with_reducible assumption|decide +kernel|(solve|simp only[bn]));exact Z;exact Z)|(apply Zg;exact Z;(first|with_reducible assumption|decide +kernel|(solve|simp only[bn]))))
 all_goals(apply Yc [0,1] [];(apply Zd Zb;exact Z);(iterate 7 exact Z))
 all_goals rfl
theorem N1 [Known]:AT Tryz.prog 25 [.ptr 1 0] (coW (.sl (.own 0) [Xl]) (.sl .nil []) 0 0 []) coF (.int .i64 0) (coW (.sl (.own 0) [Xl]) (.sl .nil []) 0 0 []) coF:=by
 refine Zp Tryz.func25 rfl Tryz.ntmps25 rfl rfl ?_
 repeat'(first|(apply Zr Tryz.func54 Tryz.ntmps54;exact Z;exact Z;kernel_rfl;(iterate 6 exact Z))|(apply Z4;(apply Zd Zb;exact Z);exact Z)|(apply Zl Zb;exact Z)|(apply Zj Zb;exact Z)|(apply Zt Zb;exact Z)|(apply Zi;(iterate 3 exact Z);(first|with_reducible assumption|decide +kernel|(solve|simp only[bn])))|(apply Zo;exact Z;(first|with_reducible assumption|decide +kernel|(solve|simp only[bn]));exact Z;exact Z)|(apply Zg;exact Z;(first|with_reducible assumption|decide +kernel|(solve|simp only[bn]))))
 all_goals(apply Yc [0,1] [0];(apply Zd Zb;exact Z);(iterate 7 exact Z))
 all_goals rfl
theorem ctO [Known]:AT Tryz.prog 49 [.ptr 1 0,.sl .ext [.int .u8 5,.int .u8 11]] (coW (.sl .nil []) (.sl .nil []) 0 0 []) [] (.int .i64 0) (coW (.sl (.own 0) [Xl]) (.sl .nil []) 0 0 []) coF:=by
 have hR:=TX
 replace hR:AP Tryz.prog 73 [.sl .ext [.int .u8 5,.int .u8 11]] _ []:=hR
 refine Zp Tryz.func49 rfl Tryz.ntmps49 rfl rfl ?_
 repeat'(first|exact YC (t:=30) rfl rfl|(apply Zc (hR);kernel_rfl;(iterate 4 exact Z))|refine ZL Zb Z Z Z Z Z Z (Zk rfl) (List.cons_ne_nil _ _) Z Qd Qd Z Z Z ?_|(apply Zl Zb;exact Z)|(apply Zj Zb;exact Z)|(apply Zt Zb;exact Z)|(apply Zg;exact Z;(first|with_reducible assumption|decide +kernel|(solve|simp only[bn])))|refine Zz Zb Z Z Z Z ?_|refine Z8 Zb Z Z Z Z Z Z Z Z Z Z Z Z ?_|(apply Za 8 Ze;decide +kernel;kernel_rfl;kernel_rfl;kernel_rfl;exact Z;exact Z)|(apply Zv;(iterate 4 exact Z))|exact AE.nil _ _ _ _|(apply ZB;exact Z)|(apply Z1;exact Z)|(apply ZD;exact Z;exact Z;decide +kernel;exact Z)|(apply ZE;exact Z)|(apply Ye;exact Z)|exact AO.nil _ _ _|(apply Zu;(decide +kernel))|(apply ZP;(iterate 3 exact Z))|exact AOs.nil|exact ZR rfl rfl|exact Uh rfl rfl rfl rfl rfl)
 all_goals(apply Yc [0,1] [0];(apply Zd Zb;exact Z);(iterate 7 exact Z))
 all_goals rfl
theorem ct9 [Known]:AT Tryz.prog 49 [.ptr 1 0,.sl .ext [.int .u8 9]] (coW (.sl (.own 0) [Xl]) (.sl .nil []) 0 0 []) coF (.int .i64 3) (coW (.sl (.own 0) [Xl]) (.sl .nil []) 0 0 []) coF:=by
 have hR9:=TY
 replace hR9:AP Tryz.prog 73 [.sl .ext [.int .u8 9]] _ []:=hR9
 refine Zp Tryz.func49 rfl Tryz.ntmps49 rfl rfl ?_
 repeat'(first|(apply Zc (hR9);kernel_rfl;(iterate 4 exact Z))|(apply Zl Zb;exact Z)|(apply Zj Zb;exact Z)|(apply Zt Zb;exact Z)|(apply Zf;exact Z;(first|with_reducible assumption|decide +kernel|(solve|simp only[bn]))))
 all_goals(apply Yc [0,1] [0];(apply Zd Zb;exact Z);(iterate 7 exact Z))
 all_goals rfl
theorem cc3 [Known]:AT Tryz.prog 21 [.ptr 1 0,.int .i64 3] (coW (.sl (.own 0) [Xl]) (.sl .nil []) 0 0 []) coF (.tup []) (coW (.sl .nil []) (.sl .nil []) 0 3 []) coF:=by
 have hC:=N1
 refine Zp Tryz.func21 rfl Tryz.ntmps21 rfl rfl ?_
 repeat'(first|(apply Zm [0,1] [0] (hC);kernel_rfl;(iterate 10 exact Z))|(apply Zl Zb;exact Z)|(apply Zj Zb;exact Z)|(apply Zt Zb;exact Z)|(apply Zg;exact Z;(first|with_reducible assumption|decide +kernel|(solve|simp only[bn]))))
 all_goals(apply Vh [0,1] [0];(apply Zd Zb;exact Z);(iterate 7 exact Z))
 all_goals rfl
theorem ck1 [Known]:AT Tryz.prog 9 [.ptr 1 0,.sl .ext [.int .u8 0,.int .u8 2,.int .u8 5]] (coW (.sl .nil []) (.sl .nil []) 0 0 []) [] (.int .i64 0) (coW (.sl .nil []) (.sl .nil []) 0 0 [.int .u8 0,.int .u8 2,.int .u8 5]) []:=by
 have hF:=fk1
 have hC:=cl0
 refine Zp Tryz.func9 rfl Tryz.ntmps9 rfl rfl ?_
 repeat'(first|(apply Zh [0] (hF);kernel_rfl;(iterate 7 exact Z))|(apply Zm [0,1] [] (hC);kernel_rfl;(iterate 10 exact Z))|refine Yi 20 ?_|refine YE ?_|(apply Zl Zb;exact Z)|(apply Zj Zb;exact Z)|(apply Zg;exact Z;(first|with_reducible assumption|decide +kernel|(solve|simp only[bn])))|refine Zz Zb Z Z Z Z ?_)
 all_goals(apply Yc [0,1] [];(apply Zd Zb;exact Z);(iterate 7 exact Z))
 all_goals rfl
theorem ck2 [Known]:AT Tryz.prog 9 [.ptr 1 0,.sl .ext [.int .u8 11,.int .u8 0,.int .u8 1,.int .u8 9]] (coW (.sl .nil []) (.sl .nil []) 0 0 [.int .u8 0,.int .u8 2,.int .u8 5]) [] (.int .i64 3) (coW (.sl .nil []) (.sl .nil []) 0 3 []) []:=by
 have hF:=fk2
 have hC:=N0
 have h1:=ctO
 have h2:=ct9
 have h3:=cc3
 refine Zp Tryz.func9 rfl Tryz.ntmps9 rfl rfl ?_
 repeat'(first|(apply Zh [0] (hF);kernel_rfl;(iterate 7 exact Z))|(apply Zm [0,1] [] (hC);kernel_rfl;(iterate 10 exact Z))|(apply Zm [0,1] [] (h1);kernel_rfl;(iterate 10 exact Z))|(apply Zm [0,1] [0] (h2);kernel_rfl;(iterate 10 exact Z))|(apply Zm [0,1] [0] (h3);kernel_rfl;(iterate 10 exact Z))|refine Yi 20 ?_|refine YE ?_|(apply Zl Zb;exact Z)|(apply Zj Zb;exact Z)|(apply Zf;exact Z;(first|with_reducible assumption|decide +kernel|(solve|simp only[bn])))|(apply Zg;exact Z;(first|with_reducible assumption|decide +kernel|(solve|simp only[bn])))|refine Zz Zb Z Z Z Z ?_|(apply ZF Zb;(iterate 6 exact Z);(first|exact Qt|rotate_left);(first|with_reducible assumption|decide +kernel|exact Z);(first|exact Zk rfl|with_reducible assumption|decide +kernel|rotate_left)))
 all_goals(apply Yc [0,1] [];(apply Zd Zb;exact Z);(iterate 7 exact Z))
 all_goals rfl
theorem ck3 [Known]:AT Tryz.prog 9 [.ptr 1 0,.sl .ext [.int .u8 0,.int .u8 2,.int .u8 5,.int .u8 11]] (coW (.sl .nil []) (.sl .nil []) 0 0 []) [] (.int .i64 0) (coW (.sl (.own 0) [Xl]) (.sl .nil []) 0 0 []) coF:=by
 have hF:=fk3
 have hC:=cl0
 have h1:=ctO
 refine Zp Tryz.func9 rfl Tryz.ntmps9 rfl rfl ?_
 repeat'(first|(apply Zh [0] (hF);kernel_rfl;(iterate 7 exact Z))|(apply Zm [0,1] [] (hC);kernel_rfl;(iterate 10 exact Z))|(apply Zm [0,1] [] (h1);kernel_rfl;(iterate 10 exact Z))|refine Yi 20 ?_|refine YE ?_|(apply Zl Zb;exact Z)|(apply Zj Zb;exact Z)|(apply Zf;exact Z;(first|with_reducible assumption|decide +kernel|(solve|simp only[bn])))|(apply Zg;exact Z;(first|with_reducible assumption|decide +kernel|(solve|simp only[bn])))|refine Zz Zb Z Z Z Z ?_|(apply ZF Zb;(iterate 6 exact Z);(first|exact Qt|rotate_left);(first|with_reducible assumption|decide +kernel|exact Z);(first|exact Zk rfl|with_reducible assumption|decide +kernel|rotate_left)))
 all_goals(apply Yc [0,1] [0];(apply Zd Zb;exact Z);(iterate 7 exact Z))
 all_goals rfl
end Go.Proofs.YtchlgagdbflkmaaGreatDoor
end

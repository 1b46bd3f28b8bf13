/- Package fields: a writer. -/
import Derived.Test.YtkdpfkjlheajhaaGreatDoorC10
import Derived.Test.YtkdpfkjlheajhaaGreatDoorC12
import Derived.Test.YtkdpfkjlheajhaaGreatDoorC11
set_option linter.unusedVariables false
set_option linter.unusedSimpArgs false
section
open Go.RowKit Go.Pl Go.Av
namespace Go.Proofs.YtkdpfkjlheajhaaGreatDoor
set_option maxHeartbeats 4000000
abbrev wrC (L:List UInt8):List (List D):=[[.bool true,.sl (.own 0) (L.map E.byte)]]
abbrev wrF (L:List UInt8):List Fr:=[⟨L.length,1,5⟩]
theorem JW (n:Nat):E.int .u8 (bits .or .u8 (IntKind.u8.wrap (n:Int)) 128)=E.byte (UInt8.ofNat (n % 128+128)):=congrArg (E.int .u8) (Ou n)
theorem QL (n:Nat)(h:n<256):E.int .u8 (IntKind.u8.wrap (n:Int))=E.byte (UInt8.ofNat n):=congrArg (E.int .u8) (by rw[OQ,UInt8.toNat_ofNat'])
theorem Uq (M:List UInt8)(c:UInt8):M.map E.byte++[E.byte c]=(M++[c]).map E.byte:=by simp
theorem WL [Known](L:List UInt8)(n:Nat)(hn:n<18446744073709551616)(hL:L.length<=1099511627776):AT Tryz.prog 63 [.ptr 0 0,.int .u64 (n:Int)] (wrC L) (wrF L) (.ptr 0 0) (wrC (L++vn n)) (wrF (L++vn n)):=by
 refine Zm Tryz.func63 rfl Tryz.ntmps63 rfl rfl ?_
 have hl0:(L.map E.byte).length=L.length:=List.length_map ..
 repeat'(first|(apply Zj Za;exact Z)|(apply Zg Za;exact Z)|(apply Zq Za;exact Z)|refine Zi Z Z Z Qt ?_|refine Zl Z Qt Z Z ?_|refine Ze Z Qt ?_)
 refine Z4 (fun k tm bx fr=>∃(m c:Nat) (M:List UInt8) (K:List E),K=M.map E.byte/\c=K.length/\m<18446744073709551616/\k<=9/\m<128 ^ (k+1)/\M++vnF k m=L++vn n/\tm=[(0,.ptr 0 0),(1,.int .u64 (m:Int)),(4,.nilp)]/\bx=[[.bool true,.sl (.own 0) K]]/\fr=[⟨c,1,5⟩]) 10 (Lands.mk' (m:=9) (by omega) ⟨n,L.length,L,L.map E.byte,rfl,by simp,hn,Nat.le_refl _,Nat.lt_of_lt_of_le hn (by decide),rfl,rfl,rfl,rfl⟩ ?_ rfl rfl rfl rfl rfl rfl) ?_
 ·exact .cons rfl (.cons rfl (.cons rfl .nil))
 rintro k tm bx fr ⟨m,c,M,K,hK,hc,hm,hk,hmk,hM,rfl,rfl,rfl⟩
 have hU:Uni 1 K:=hK ▸ ZV M
 have hKl:K.length=M.length:=by rw[hK,List.length_map]
 have hMl:M.length<=1099511627800:=by
  have:=congrArg List.length hM
  have h1:=Vb 9 n
  rw[List.length_append,List.length_append,vn]at this
  omega
 subst hc
 have ho:=JW m
 rcases Nat.lt_or_ge 127 m with hgt|hle
 ·have t1:decide ((m:Int)>127)=true:=decide_eq_true (by omega)
  cases k with
  | zero=>exfalso;simp at hmk;omega
  | succ k=>
   rw[vnF,if_pos hgt]at hM
   repeat'(first|rw[Ou]|(apply QD;exact Z;exact Z;rotate_left;exact Z)|rw[Ip]|(apply Zj Za;exact Z)|(apply Zg Za;exact Z)|(apply Zq Za;exact Z)|refine Zf Z Qt ?_|refine W5 ?_|refine Yl Za Z Z Z Z Z Z Z Z Z Z Z Z ?_|(apply Z6 Za;(iterate 6 exact Z);(first|with_reducible assumption|decide +kernel|exact Z|rotate_left);exact Z;exact Z;(first|exact Zn rfl|with_reducible assumption|decide +kernel|rotate_left);(first|exact Zn rfl|with_reducible assumption|decide +kernel|rotate_left);(first|exact Qt|rotate_left);(first|exact Qt|rotate_left);(first|exact Qt|rotate_left);exact Z;exact Z))
   ·refine Lands.mk' (m:=k) (by omega) ⟨m/128,K.length+1,M++[UInt8.ofNat (m % 128+128)],K++[E.byte (UInt8.ofNat (m % 128+128))],by rw[hK,Uq],by simp,by omega,by omega,by rw[Nat.pow_succ]at hmk;omega,by rw[List.append_assoc];exact hM,rfl,rfl,rfl⟩ ?_ rfl rfl rfl rfl rfl rfl
    exact .cons rfl (.cons rfl (.cons rfl .nil))
   all_goals first|decide|(first|rfl|(simp only[List.length_append,List.length_cons,List.length_nil,List.length_map];done)|(simp only[List.length_append,List.length_cons,List.length_nil,List.length_map]at *;(try unfold maxLen);(try simp only[Nat.add_mul]);omega))
 ·have t1:decide ((m:Int)>127)=false:=decide_eq_false (by omega)
  have hv:vnF k m=[UInt8.ofNat m]:=by
   cases k with
   | zero=>rfl
   | succ k=>rw[vnF,if_neg (by omega)]
  have hF:K++[E.int .u8 (IntKind.u8.wrap (m:Int))]=(L++vn n).map E.byte:=by
   rw[QL m (by omega),hK,Uq,<- hv,hM]
  have hFl:K.length+1=(L++vn n).length:=by
   have:=congrArg List.length hF
   simpa using this
  repeat'(first|(apply Zj Za;exact Z)|(apply Zg Za;exact Z)|refine Ze Z Qt ?_|refine Yl Za Z Z Z Z Z Z Z Z Z Z Z Z ?_|(apply Z6 Za;(iterate 6 exact Z);(first|with_reducible assumption|decide +kernel|exact Z|rotate_left);exact Z;exact Z;(first|exact Zn rfl|with_reducible assumption|decide +kernel|rotate_left);(first|exact Zn rfl|with_reducible assumption|decide +kernel|rotate_left);(first|exact Qt|rotate_left);(first|exact Qt|rotate_left);(first|exact Qt|rotate_left);exact Z;exact Z))
  all_goals first|(apply ZX [0] [0];(apply Zd Za;exact Z);(iterate 7 exact Z))|(first|rfl|(simp only[List.length_append,List.length_cons,List.length_nil,List.length_map];done)|(simp only[List.length_append,List.length_cons,List.length_nil,List.length_map]at *;(try unfold maxLen);(try simp only[Nat.add_mul]);omega))
  all_goals first|rfl|exact congrArg (fun l=>[[D.bool true,D.sl (.own 0) l]]) hF|exact congrArg (fun c=>[(⟨c,1,5⟩:Fr)]) hFl
theorem Yg [Known](n:Nat)(hn:n<18446744073709551616):AT Tryz.prog 63 [.ptr 0 0,.int .u64 (n:Int)] [[.bool true,.sl .nil []]] [] (.ptr 0 0) (wrC (vn n)) (wrF (vn n)):=by
 refine Zm Tryz.func63 rfl Tryz.ntmps63 rfl rfl ?_
 repeat'(first|(apply Zj Za;exact Z)|(apply Zg Za;exact Z)|(apply Zq Za;exact Z)|refine Zi Z Z Z Qt ?_|refine Zl Z Qt Z Z ?_|refine Ze Z Qt ?_)
 refine Z4 (fun k tm bx fr=>∃(m c:Nat) (M:List UInt8) (K:List E),K=M.map E.byte/\c=K.length/\m<18446744073709551616/\k<=9/\m<128 ^ (k+1)/\M++vnF k m=vn n/\tm=[(0,.ptr 0 0),(1,.int .u64 (m:Int)),(4,.nilp)]/\((M=[]/\bx=[[.bool true,.sl .nil []]]/\fr=[])\/(bx=[[.bool true,.sl (.own 1) K]]/\fr=[⟨1,1,5⟩,⟨c,1,5⟩]))) 10 (Lands.mk' (m:=9) (by omega) ⟨n,0,[],[],rfl,rfl,hn,Nat.le_refl _,Nat.lt_of_lt_of_le hn (by decide),rfl,rfl,.inl ⟨rfl,rfl,rfl⟩⟩ ?_ rfl rfl rfl rfl rfl rfl) ?_
 ·exact .cons rfl (.cons rfl (.cons rfl .nil))
 rintro k tm bx fr ⟨m,c,M,K,hK,hc,hm,hk,hmk,hM,rfl,⟨rfl,rfl,rfl⟩ | ⟨rfl,rfl⟩⟩
 ·have hU:Uni 1 K:=hK ▸ ZV []
  have hKl:K=[]:=hK
  subst hc
  have ho:=JW m
  rcases Nat.lt_or_ge 127 m with hgt|hle
  ·have t1:decide ((m:Int)>127)=true:=decide_eq_true (by omega)
   cases k with
   | zero=>exfalso;simp at hmk;omega
   | succ k=>
    rw[vnF,if_pos hgt]at hM
    repeat'(first|rw[Ou]|(apply QD;exact Z;exact Z;rotate_left;exact Z)|rw[Ip]|refine Yf Za Z Z Z Z Z Z (Zn rfl) (List.cons_ne_nil _ _) Z Qd Qd Z Z Z ?_|(apply Zj Za;exact Z)|(apply Zg Za;exact Z)|(apply Zq Za;exact Z)|refine Zf Z Qt ?_|refine W5 ?_|refine Yl Za Z Z Z Z Z Z Z Z Z Z Z Z ?_)
    ·refine Lands.mk' (m:=k) (by omega) ⟨m/128,1,[UInt8.ofNat (m % 128+128)],[E.byte (UInt8.ofNat (m % 128+128))],rfl,rfl,by omega,by omega,by rw[Nat.pow_succ]at hmk;omega,by rw[List.nil_append]at hM;exact hM,rfl,.inr ⟨rfl,rfl⟩⟩ ?_ rfl rfl rfl rfl rfl rfl
     exact .cons rfl (.cons rfl (.cons rfl .nil))
    all_goals first|decide|(first|rfl|(simp only[List.length_append,List.length_cons,List.length_nil,List.length_map];done)|(simp only[List.length_append,List.length_cons,List.length_nil,List.length_map]at *;(try unfold maxLen);(try simp only[Nat.add_mul]);omega))
  ·have t1:decide ((m:Int)>127)=false:=decide_eq_false (by omega)
   have hv:vnF k m=[UInt8.ofNat m]:=by
    cases k with
    | zero=>rfl
    | succ k=>rw[vnF,if_neg (by omega)]
   have hF:[E.int .u8 (IntKind.u8.wrap (m:Int))]=(vn n).map E.byte:=by
    rw[QL m (by omega),<- hM,hv];rfl
   have hFl:1=(vn n).length:=by
    have:=congrArg List.length hF
    simpa using this
   repeat'(first|refine Yf Za Z Z Z Z Z Z (Zn rfl) (List.cons_ne_nil _ _) Z Qd Qd Z Z Z ?_|(apply Zj Za;exact Z)|(apply Zg Za;exact Z)|refine Ze Z Qt ?_|refine Yl Za Z Z Z Z Z Z Z Z Z Z Z Z ?_)
   all_goals first|(apply ZX [0] [1];(apply Zd Za;exact Z);(iterate 7 exact Z))|(first|rfl|(simp only[List.length_append,List.length_cons,List.length_nil,List.length_map];done)|(simp only[List.length_append,List.length_cons,List.length_nil,List.length_map]at *;(try unfold maxLen);(try simp only[Nat.add_mul]);omega))
   all_goals first|rfl|exact congrArg (fun l=>[[D.bool true,D.sl (.own 0) l]]) hF|exact congrArg (fun c=>[(⟨c,1,5⟩:Fr)]) hFl

 ·have hU:Uni 1 K:=hK ▸ ZV M
  have hKl:K.length=M.length:=by rw[hK,List.length_map]
  have hMl:M.length<=1099511627800:=by
   have:=congrArg List.length hM
   have h1:=Vb 9 n
   rw[List.length_append,vn]at this
   omega
  subst hc
  have ho:=JW m
  rcases Nat.lt_or_ge 127 m with hgt|hle
  ·have t1:decide ((m:Int)>127)=true:=decide_eq_true (by omega)
   cases k with
   | zero=>exfalso;simp at hmk;omega
   | succ k=>
    rw[vnF,if_pos hgt]at hM
    repeat'(first|rw[Ou]|(apply QD;exact Z;exact Z;rotate_left;exact Z)|rw[Ip]|(apply Zj Za;exact Z)|(apply Zg Za;exact Z)|(apply Zq Za;exact Z)|refine Zf Z Qt ?_|refine W5 ?_|refine Yl Za Z Z Z Z Z Z Z Z Z Z Z Z ?_|(apply Z6 Za;(iterate 6 exact Z);(first|with_reducible assumption|decide +kernel|exact Z|rotate_left);exact Z;exact Z;(first|exact Zn rfl|with_reducible assumption|decide +kernel|rotate_left);(first|exact Zn rfl|with_reducible assumption|decide +kernel|rotate_left);(first|exact Qt|rotate_left);(first|exact Qt|rotate_left);(first|exact Qt|rotate_left);exact Z;exact Z))
    ·refine Lands.mk' (m:=k) (by omega) ⟨m/128,K.length+1,M++[UInt8.ofNat (m % 128+128)],K++[E.byte (UInt8.ofNat (m % 128+128))],by rw[hK,Uq],by simp,by omega,by omega,by rw[Nat.pow_succ]at hmk;omega,by rw[List.append_assoc];exact hM,rfl,.inr ⟨rfl,rfl⟩⟩ ?_ rfl rfl rfl rfl rfl rfl
     exact .cons rfl (.cons rfl (.cons rfl .nil))
    all_goals first|decide|(first|rfl|(simp only[List.length_append,List.length_cons,List.length_nil,List.length_map];done)|(simp only[List.length_append,List.length_cons,List.length_nil,List.length_map]at *;(try unfold maxLen);(try simp only[Nat.add_mul]);omega))
  ·have t1:decide ((m:Int)>127)=false:=decide_eq_false (by omega)
   have hv:vnF k m=[UInt8.ofNat m]:=by
    cases k with
    | zero=>rfl
    | succ k=>rw[vnF,if_neg (by omega)]
   have hF:K++[E.int .u8 (IntKind.u8.wrap (m:Int))]=(vn n).map E.byte:=by
    rw[QL m (by omega),hK,Uq,<- hv,hM]
   have hFl:K.length+1=(vn n).length:=by
    have:=congrArg List.length hF
    simpa using this
   repeat'(first|(apply Zj Za;exact Z)|(apply Zg Za;exact Z)|refine Ze Z Qt ?_|refine Yl Za Z Z Z Z Z Z Z Z Z Z Z Z ?_|(apply Z6 Za;(iterate 6 exact Z);(first|with_reducible assumption|decide +kernel|exact Z|rotate_left);exact Z;exact Z;(first|exact Zn rfl|with_reducible assumption|decide +kernel|rotate_left);(first|exact Zn rfl|with_reducible assumption|decide +kernel|rotate_left);(first|exact Qt|rotate_left);(first|exact Qt|rotate_left);(first|exact Qt|rotate_left);exact Z;exact Z))
   all_goals first|(apply ZX [0] [1];(apply Zd Za;exact Z);(iterate 7 exact Z))|(first|rfl|(simp only[List.length_append,List.length_cons,List.length_nil,List.length_map];done)|(simp only[List.length_append,List.length_cons,List.length_nil,List.length_map]at *;(try unfold maxLen);(try simp only[Nat.add_mul]);omega))
   all_goals first|rfl|exact congrArg (fun l=>[[D.bool true,D.sl (.own 0) l]]) hF|exact congrArg (fun c=>[(⟨c,1,5⟩:Fr)]) hFl
theorem Yx [Known]:AT Tryz.prog 62 [] [] [] (.ptr 0 0) [[.bool true,.sl .nil []]] []:=by
 refine Zm Tryz.func62 rfl Tryz.ntmps62 rfl rfl ?_
 repeat'(first|(apply Zg Za;exact Z))
 all_goals(apply ZX [0] [];(apply Zd Za;exact Z);(iterate 7 exact Z))
 all_goals rfl
theorem ZW [Known](L:List UInt8)(n:Nat)(hn:n<9223372036854775808)(hL:L.length<=1099511627776):AT Tryz.prog 64 [.ptr 0 0,.int .i64 (n:Int)] (wrC L) (wrF L) (.ptr 0 0) (wrC (L++vn n)) (wrF (L++vn n)):=by
 have hN:=WL L n (by omega) hL
 have e1:(if(0:Int)>(n:Int) then(0:Int) else(n:Int))=(n:Int):=if_neg (by omega)
 have e2:IntKind.u64.wrap (n:Int)=(n:Int):=IntWalk.u64_in _ (by omega)
 refine Zm Tryz.func64 rfl Tryz.ntmps64 rfl rfl ?_
 repeat'(first|refine Ks Z Z Z ?_|rw[e1]|rw[e2]|(apply Zb [0] [0] (hN);kernel_rfl;(iterate 10 exact Z))|(apply Zj Za;exact Z)|(apply Zg Za;exact Z))
 all_goals(apply ZX [0] [0];(apply Zd Za;exact Z);(iterate 7 exact Z))
 all_goals rfl
theorem Jj [Known](L:List UInt8)(b:Bool)(hL:L.length<=1099511627776):AT Tryz.prog 95 [.ptr 0 0,.bool b] (wrC L) (wrF L) (.ptr 0 0) (wrC (L++vn b.toNat)) (wrF (L++vn b.toNat)):=by
 have h1:=WL L 1 (by omega) hL
 have h0:=WL L 0 (by omega) hL
 cases b
 all_goals
  refine Zm Tryz.func95 rfl Tryz.ntmps95 rfl rfl ?_
  repeat'(first|(apply Zb [0] [0] (h1);kernel_rfl;(iterate 10 exact Z))|(apply Zb [0] [0] (h0);kernel_rfl;(iterate 10 exact Z))|(apply Zj Za;exact Z)|(apply Zg Za;exact Z)|refine Zf Z Qt ?_|refine Ze Z Qt ?_)
  all_goals(apply ZX [0] [0];(apply Zd Za;exact Z);(iterate 7 exact Z))
  all_goals rfl
theorem UI [Known](L b:List UInt8)(hb:b.length<=1000000)(hL:L.length<=1000000):AT Tryz.prog 66 [.ptr 0 0,byE b] (wrC L) (wrF L) (.ptr 0 0) (wrC (L++vn b.length++b)) (wrF (L++vn b.length++b)):=by
 have hbl:(b.map E.byte).length=b.length:=List.length_map ..
 have hN:=WL L b.length (by omega) (by omega)
 have e2:IntKind.u64.wrap (((b.map E.byte).length:Nat):Int)=(b.length:Int):=by rw[hbl];exact IntWalk.u64_in _ (by omega)
 have hvl:=Vb 9 b.length
 have hMl:(L++vn b.length).length<=1000010:=by rw[List.length_append,vn];omega
 generalize L++vn b.length=M at *
 have hU1:=ZV b
 have hU2:=ZV M
 have hMm:(M.map E.byte).length=M.length:=List.length_map ..
 cases b with
 | nil=>
  rw[List.append_nil]
  refine Zm Tryz.func66 rfl Tryz.ntmps66 rfl rfl ?_
  repeat'(first|rw[e2]|(apply Zb [0] [0] (hN);kernel_rfl;(iterate 10 exact Z))|(apply Zj Za;exact Z)|(apply Zg Za;exact Z)|(apply Zq Za;exact Z)|refine Zi Z Z Z Qt ?_|refine Zk Z Qt Z Z ?_|refine Zf Z Qt ?_|refine Zp Za Z Z Z Z ?_|refine Yt Za Z Z Z Z Z Z ?_)
  all_goals(apply ZX [0] [0];(apply Zd Za;exact Z);(iterate 7 exact Z))
  all_goals rfl
 | cons c b=>
  have hne:(c::b).map E.byte ≠ []:=List.cons_ne_nil _ _
  have hf1:M.length=(M.map E.byte).length:=hMm.symm
  have hF:M.map E.byte++(c::b).map E.byte=(M++c::b).map E.byte:=by simp
  have hFl:(M.map E.byte).length+((c::b).map E.byte).length=(M++c::b).length:=by simp
  refine Zm Tryz.func66 rfl Tryz.ntmps66 rfl rfl ?_
  repeat'(first|rw[e2]|(apply Zb [0] [0] (hN);kernel_rfl;(iterate 10 exact Z))|(apply Zj Za;exact Z)|(apply Zg Za;exact Z)|(apply Zq Za;exact Z)|refine Zi Z Z Z Qt ?_|refine Zk Z Qt Z Z ?_|refine Zf Z Qt ?_|refine Zp Za Z Z Z Z ?_|(apply Z6 Za;(iterate 6 exact Z);(first|with_reducible assumption|decide +kernel|exact Z|rotate_left);exact Z;exact Z;(first|exact Zn rfl|with_reducible assumption|decide +kernel|rotate_left);(first|exact Zn rfl|with_reducible assumption|decide +kernel|rotate_left);(first|exact Qt|rotate_left);(first|exact Qt|rotate_left);(first|exact Qt|rotate_left);exact Z;exact Z))
  all_goals first|(apply ZX [0] [0];(apply Zd Za;exact Z);(iterate 7 exact Z))|exact hne|exact hf1|exact hU1|exact hU2|(rw[hMm,hbl];unfold maxLen;omega)|(rw[hMm,hbl];show(_+_)*1<=_;omega)
  all_goals first|rfl|exact congrArg (fun l=>[[D.bool true,D.sl (.own 0) l]]) hF|exact congrArg (fun c=>[(⟨c,1,5⟩:Fr)]) hFl
theorem Z3 [Known](L:List UInt8)(hL:L.length<=1099511627776):AT Tryz.prog 67 [.ptr 0 0] (wrC L) (wrF L) (byE L) (wrC L) (wrF L):=by
 have hC:=Ww L (by omega)
 refine Zm Tryz.func67 rfl Tryz.ntmps67 rfl rfl ?_
 repeat'(first|(apply Zc (hC);kernel_rfl;(iterate 4 exact Z))|(apply Zj Za;exact Z)|(apply Zg Za;exact Z)|refine Ze Z Qt ?_)
 all_goals(apply ZX [0] [0];(apply Zd Za;exact Z);(iterate 7 exact Z))
 all_goals rfl
def IT (x:RyV):List UInt8:=vn x.id++vn x.err.toNat++vn x.num.toNat++vn x.cnt.toNat++vn x.tok++vn x.data.length++x.data
theorem IU [Known](id:Nat)(err num cnt:Int)(tok:Nat)(data:List UInt8)(hR:AP Tryz.prog 59 [.agg [.int .u64 (id:Int),.int .i64 err,.int .i64 num,.int .i64 cnt,.int .u64 (tok:Int),byE data]] (.bool false) []) :
  AP Tryz.prog 51 [.agg [.int .u64 (id:Int),.int .i64 err,.int .i64 num,.int .i64 cnt,.int .u64 (tok:Int),byE data]] (.tup [.sl .ext [],.int .i64 3]) []:=by
 refine AP.ofA (Zm Tryz.func51 Z Tryz.ntmps51 Z Z ?_)
 repeat'(first|(apply Zc (hR);kernel_rfl;(iterate 4 exact Z))|(apply Zj Za;exact Z)|(apply Zg Za;exact Z)|(apply Zq Za;exact Z)|refine Zf Z Qt ?_)
 all_goals exact Qe
theorem IV [Known](id:Nat)(err num cnt:Int)(tok:Nat)(data:List UInt8)(L0 L1 L2 L3 L4 L5 R:List E)(c0 c1 c2 c3 c4 c5:Nat)(hR:AP Tryz.prog 59 [.agg [.int .u64 (id:Int),.int .i64 err,.int .i64 num,.int .i64 cnt,.int .u64 (tok:Int),byE data]] (.bool true) [])
  (hN:AT Tryz.prog 62 [] [] [] (.ptr 0 0) [[.bool true,.sl .nil []]] [])
  (h0:AT Tryz.prog 63 [.ptr 0 0,.int .u64 (id:Int)] [[.bool true,.sl .nil []]] [] (.ptr 0 0) [[.bool true,.sl (.own 0) L0]] [⟨c0,1,5⟩])
  (h1:AT Tryz.prog 64 [.ptr 0 0,.int .i64 err] [[.bool true,.sl (.own 0) L0]] [⟨c0,1,5⟩] (.ptr 0 0) [[.bool true,.sl (.own 0) L1]] [⟨c1,1,5⟩])
  (h2:AT Tryz.prog 64 [.ptr 0 0,.int .i64 num] [[.bool true,.sl (.own 0) L1]] [⟨c1,1,5⟩] (.ptr 0 0) [[.bool true,.sl (.own 0) L2]] [⟨c2,1,5⟩])
  (h3:AT Tryz.prog 64 [.ptr 0 0,.int .i64 cnt] [[.bool true,.sl (.own 0) L2]] [⟨c2,1,5⟩] (.ptr 0 0) [[.bool true,.sl (.own 0) L3]] [⟨c3,1,5⟩])
  (h4:AT Tryz.prog 63 [.ptr 0 0,.int .u64 (tok:Int)] [[.bool true,.sl (.own 0) L3]] [⟨c3,1,5⟩] (.ptr 0 0) [[.bool true,.sl (.own 0) L4]] [⟨c4,1,5⟩])
  (h5:AT Tryz.prog 66 [.ptr 0 0,byE data] [[.bool true,.sl (.own 0) L4]] [⟨c4,1,5⟩] (.ptr 0 0) [[.bool true,.sl (.own 0) L5]] [⟨c5,1,5⟩])
  (hB:AT Tryz.prog 67 [.ptr 0 0] [[.bool true,.sl (.own 0) L5]] [⟨c5,1,5⟩] (.sl .ext R) [[.bool true,.sl (.own 0) L5]] [⟨c5,1,5⟩]) :
  AP Tryz.prog 51 [.agg [.int .u64 (id:Int),.int .i64 err,.int .i64 num,.int .i64 cnt,.int .u64 (tok:Int),byE data]] (.tup [.sl .ext R,.int .i64 0]) []:=by
 refine AP.ofA (Zm Tryz.func51 Z Tryz.ntmps51 Z Z ?_)
 repeat'(first|(apply Zc (hR);kernel_rfl;(iterate 4 exact Z))|(apply Zb [] [] (hN);kernel_rfl;(iterate 10 exact Z))|(apply Zb [1] [] (h0);kernel_rfl;(iterate 10 exact Z))|(apply Zb [1] [0] (h1);kernel_rfl;(iterate 10 exact Z))|(apply Zb [1] [0] (h2);kernel_rfl;(iterate 10 exact Z))|(apply Zb [1] [0] (h3);kernel_rfl;(iterate 10 exact Z))|(apply Zb [1] [0] (h4);kernel_rfl;(iterate 10 exact Z))|(apply Zb [1] [0] (h5);kernel_rfl;(iterate 10 exact Z))|(apply Zb [1] [0] (hB);kernel_rfl;(iterate 10 exact Z))|(apply Zj Za;exact Z)|(apply Zg Za;exact Z)|(apply Zq Za;exact Z)|refine Ze Z Qt ?_|(apply Zx 18 Z9;decide +kernel;kernel_rfl;kernel_rfl;kernel_rfl;exact Z;exact Z)|(apply ZB;(iterate 4 exact Z))|exact AE.nil _ _ _ _|(apply ZF;exact Z)|(apply Z8;exact Z)|(apply ZN;exact Z;exact Z;decide +kernel;exact Z)|(apply ZP;exact Z)|(apply Yu;exact Z)|exact AO.nil _ _ _|(apply ZA;(decide +kernel))|(apply ZO;(iterate 3 exact Z))|exact AOs.nil|exact ZY rfl rfl|exact Y2 rfl rfl)
 all_goals exact Qe
theorem KL {x:RyV}(h:Va x=true):x.id<=1099511627776/\(0<=x.err/\x.err<=99)/\(0<=x.num/\x.num<=1099511627776)/\(0<=x.cnt/\x.cnt<=1099511627776)/\x.tok<=2147483648/\x.data.length<=600:=by
 unfold Va at h
 cases ho:Xs x with
 | true=>rw[ho]at h;cases h
 | false=>
  unfold Xs Vz at ho
  simp only[Bool.or_eq_false_iff,decide_eq_false_iff_not,List.length_map]at ho
  omega
theorem Vc (n:Nat):(vn n).length<=10/\0<(vn n).length:=Vb 9 n
def UJ (x:RyV):D:=match Va x with
 | true=>.tup [byE (IT x),.int .i64 0]
 | false=>.tup [.sl .ext [],.int .i64 3]
theorem JX [Known](x:RyV):AP Tryz.prog 51 [.agg (ryC x)] (UJ x) []:=by
 have hR:=JV x
 unfold UJ
 cases h:Va x with
 | false=>
  rw[h]at hR
  exact IU _ _ _ _ _ _ hR
 | true=>
  rw[h]at hR
  obtain⟨f1,⟨f2,f2b⟩,⟨f3,f3b⟩,⟨f4,f4b⟩,f5,f6⟩:=KL h
  clear h
  obtain⟨id,err,num,cnt,tok,data⟩:=x
  dsimp only at *
  obtain⟨e,rfl⟩:=Int.eq_ofNat_of_zero_le f2
  obtain⟨n,rfl⟩:=Int.eq_ofNat_of_zero_le f3
  obtain⟨c,rfl⟩:=Int.eq_ofNat_of_zero_le f4
  have l0:=Vc id
  have l1:=Vc e
  have l2:=Vc n
  have l3:=Vc c
  have l4:=Vc tok
  have l5:=Vc data.length
  exact IV id _ _ _ tok data _ _ _ _ _ _ _ _ _ _ _ _ _ hR Yx (Yg id (by omega)) (ZW _ e (by omega) (by omega)) (ZW _ n (by omega) (by simp only[List.length_append];omega)) (ZW _ c (by omega) (by simp only[List.length_append];omega)) (WL _ tok (by omega) (by simp only[List.length_append];omega)) (UI _ data (by omega) (by simp only[List.length_append];omega)) (Z3 _ (by simp only[List.length_append];omega))
abbrev coW (w out:D)(s e:Int)(left:List E):List (List D):=[[.bool true,.sl .ext left,.int .i64 0],[.ptr 0 0,w,.int .i64 s,out,.int .i64 e]]
abbrev UK:E:=.agg [.int .u64 5,.int .i64 11,.bool false,.int .u64 0,.int .u64 0,.str [],.str [],.bool false,.int .u64 0,.int .u64 0,.str [],.str [],.int .i64 0,.int .i64 0,.int .i64 0,.sl [],.int .u64 0,.int .u64 0,.bool false]
theorem ct1:ZG ([]++[0,2,5])=([],[0,2,5],0):=Vy (by decide) (by decide) (by decide) (by decide)
theorem ct2:ZG ([0,2,5]++[11,0,1,9])=([[5,11],[9]],[],0):=by
 rw[Wy (by decide) (by decide) (by decide) (by decide)]
 rw[show(([0,2,5]++[11,0,1,9]:List UInt8).drop (2+Z0 ([0,2,5]++[11,0,1,9])))=[0,1,9] from rfl,Wy (by decide) (by decide) (by decide) (by decide)]
 rw[show(([0,1,9]:List UInt8).drop (2+Z0 [0,1,9]))=[] from rfl,Y3 (by decide)]
 rfl
theorem ct3:ZG ([]++[0,2,5,11])=([[5,11]],[],0):=by
 rw[Wy (by decide) (by decide) (by decide) (by decide)]
 rw[show(([]++[0,2,5,11]:List UInt8).drop (2+Z0 ([]++[0,2,5,11])))=[] from rfl,Y3 (by decide)]
 rfl
theorem fk1 [Known]:AQ Tryz.prog 44 [.ptr 0 0,.sl .ext [.int .u8 0,.int .u8 2,.int .u8 5]] [[.bool true,.sl .ext [],.int .i64 0]] (.tup [.sl .ext [],.int .i64 0]) [[.bool true,.sl .ext [.int .u8 0,.int .u8 2,.int .u8 5],.int .i64 0]]:=by
 have h:=VU [] [0,2,5] (by decide)
 rw[ct1]at h
 exact h
theorem fk2 [Known]:AQ Tryz.prog 44 [.ptr 0 0,.sl .ext [.int .u8 11,.int .u8 0,.int .u8 1,.int .u8 9]] [[.bool true,.sl .ext [.int .u8 0,.int .u8 2,.int .u8 5],.int .i64 0]] (.tup [.sl .ext [.sl [.int .u8 5,.int .u8 11],.sl [.int .u8 9]],.int .i64 0]) [[.bool true,.sl .ext [],.int .i64 0]]:=by
 have h:=VU [0,2,5] [11,0,1,9] (by decide)
 rw[ct2]at h
 exact h
theorem fk3 [Known]:AQ Tryz.prog 44 [.ptr 0 0,.sl .ext [.int .u8 0,.int .u8 2,.int .u8 5,.int .u8 11]] [[.bool true,.sl .ext [],.int .i64 0]] (.tup [.sl .ext [.sl [.int .u8 5,.int .u8 11]],.int .i64 0]) [[.bool true,.sl .ext [],.int .i64 0]]:=by
 have h:=VU [] [0,2,5,11] (by decide)
 rw[ct3]at h
 exact h
abbrev coF:List Fr:=[⟨1,19,41⟩]
theorem cl0 [Known]:AT Tryz.prog 26 [.ptr 1 0] (coW (.sl .nil []) (.sl .nil []) 0 0 []) [] (.int .i64 0) (coW (.sl .nil []) (.sl .nil []) 0 0 []) []:=by
 refine Zm Tryz.func26 rfl Tryz.ntmps26 rfl rfl ?_
 repeat'(first|(apply ZR Tryz.func50 Tryz.ntmps50;exact Z;exact Z;kernel_rfl;(iterate 6 exact Z))|(apply Y8;(apply Zd Za;exact Z);exact Z)|(apply Zj Za;exact Z)|(apply Zg Za;exact Z)|(apply Zq Za;exact Z)|(apply Zi;(iterate 3 exact Z);(first|with_reducible assumption|decide +kernel|(solve|simp only[bn])))|(apply Zk;exact Z;(first|with_reducible assumption|decide +kernel|(solve|simp only[bn]));exact Z;exact Z)|(apply Ze;exact Z;(first|with_reducible assumption|decide +kernel|(solve|simp only[bn]))))
 all_goals(apply ZX [0,1] [];(apply Zd Za;exact Z);(iterate 7 exact Z))
 all_goals rfl
theorem GM [Known]:AT Tryz.prog 26 [.ptr 1 0] (coW (.sl .nil []) (.sl .nil []) 0 0 [.int .u8 0,.int .u8 2,.int .u8 5]) [] (.int .i64 0) (coW (.sl .nil []) (.sl .nil []) 0 0 [.int .u8 0,.int .u8 2,.int .u8 5]) []:=by
 refine Zm Tryz.func26 rfl Tryz.ntmps26 rfl rfl ?_
 repeat'(first|(apply ZR Tryz.func50 Tryz.ntmps50;exact Z;exact Z;kernel_rfl;(iterate 6 exact Z))|(apply Y8;(apply Zd Za;exact Z);exact Z)|(apply Zj Za;exact Z)|(apply Zg Za;exact Z)|(apply Zq Za;exact Z)|(apply Zi;(iterate 3 exact Z);(first|with_reducible assumption|decide +kernel|(solve|simp only[bn])))|(apply Zk;exact Z;(first|with_reducible assumption|decide +kernel|(solve|simp only[bn]));exact Z;exact Z)|(apply Ze;exact Z;(first|with_reducible assumption|decide +kernel|(solve|simp only[bn]))))
 all_goals(apply ZX [0,1] [];(apply Zd Za;exact Z);(iterate 7 exact Z))
 all_goals rfl
theorem GN [Known]:AT Tryz.prog 26 [.ptr 1 0] (coW (.sl (.own 0) [UK]) (.sl .nil []) 0 0 []) coF (.int .i64 0) (coW (.sl (.own 0) [UK]) (.sl .nil []) 0 0 []) coF:=by
 refine Zm Tryz.func26 rfl Tryz.ntmps26 rfl rfl ?_
 repeat'(first|(apply ZR Tryz.func50 Tryz.ntmps50;exact Z;exact Z;kernel_rfl;(iterate 6 exact Z))|(apply Y8;(apply Zd Za;exact Z);exact Z)|(apply Zj Za;exact Z)|(apply Zg Za;exact Z)|(apply Zq Za;exact Z)|(apply Zi;(iterate 3 exact Z);(first|with_reducible assumption|decide +kernel|(solve|simp only[bn])))|(apply Zk;exact Z;(first|with_reducible assumption|decide +kernel|(solve|simp only[bn]));exact Z;exact Z)|(apply Ze;exact Z;(first|with_reducible assumption|decide +kernel|(solve|simp only[bn]))))
 all_goals(apply ZX [0,1] [0];(apply Zd Za;exact Z);(iterate 7 exact Z))
 all_goals rfl
theorem ctO [Known]:AT Tryz.prog 45 [.ptr 1 0,.sl .ext [.int .u8 5,.int .u8 11]] (coW (.sl .nil []) (.sl .nil []) 0 0 []) [] (.int .i64 0) (coW (.sl (.own 0) [UK]) (.sl .nil []) 0 0 []) coF:=by
 have hR:=IN
 replace hR:AP Tryz.prog 71 [.sl .ext [.int .u8 5,.int .u8 11]] _ []:=hR
 refine Zm Tryz.func45 rfl Tryz.ntmps45 rfl rfl ?_
 repeat'(first|exact Y2 (t:=30) rfl rfl|(apply Zc (hR);kernel_rfl;(iterate 4 exact Z))|refine Yf Za Z Z Z Z Z Z (Zn rfl) (List.cons_ne_nil _ _) Z Qd Qd Z Z Z ?_|(apply Zj Za;exact Z)|(apply Zg Za;exact Z)|(apply Zq Za;exact Z)|(apply Ze;exact Z;(first|with_reducible assumption|decide +kernel|(solve|simp only[bn])))|refine Zp Za Z Z Z Z ?_|refine Yl Za Z Z Z Z Z Z Z Z Z Z Z Z ?_|(apply Zx 8 Z9;decide +kernel;kernel_rfl;kernel_rfl;kernel_rfl;exact Z;exact Z)|(apply ZB;(iterate 4 exact Z))|exact AE.nil _ _ _ _|(apply ZF;exact Z)|(apply Z8;exact Z)|(apply ZN;exact Z;exact Z;decide +kernel;exact Z)|(apply ZP;exact Z)|(apply Yu;exact Z)|exact AO.nil _ _ _|(apply ZA;(decide +kernel))|(apply ZO;(iterate 3 exact Z))|exact AOs.nil|exact ZY rfl rfl|exact Kx rfl rfl rfl rfl rfl)
 all_goals(apply ZX [0,1] [0];(apply Zd Za;exact Z);(iterate 7 exact Z))
 all_goals rfl
theorem ct9 [Known]:AT Tryz.prog 45 [.ptr 1 0,.sl .ext [.int .u8 9]] (coW (.sl (.own 0) [UK]) (.sl .nil []) 0 0 []) coF (.int .i64 3) (coW (.sl (.own 0) [UK]) (.sl .nil []) 0 0 []) coF:=by
 have hR9:=IP
 replace hR9:AP Tryz.prog 71 [.sl .ext [.int .u8 9]] _ []:=hR9
 refine Zm Tryz.func45 rfl Tryz.ntmps45 rfl rfl ?_
 repeat'(first|(apply Zc (hR9);kernel_rfl;(iterate 4 exact Z))|(apply Zj Za;exact Z)|(apply Zg Za;exact Z)|(apply Zq Za;exact Z)|(apply Zf;exact Z;(first|with_reducible assumption|decide +kernel|(solve|simp only[bn]))))
 all_goals(apply ZX [0,1] [0];(apply Zd Za;exact Z);(iterate 7 exact Z))
 all_goals rfl
theorem cc3 [Known]:AT Tryz.prog 22 [.ptr 1 0,.int .i64 3] (coW (.sl (.own 0) [UK]) (.sl .nil []) 0 0 []) coF (.tup []) (coW (.sl .nil []) (.sl .nil []) 0 3 []) coF:=by
 have hC:=GN
 refine Zm Tryz.func22 rfl Tryz.ntmps22 rfl rfl ?_
 repeat'(first|(apply Zb [0,1] [0] (hC);kernel_rfl;(iterate 10 exact Z))|(apply Zj Za;exact Z)|(apply Zg Za;exact Z)|(apply Zq Za;exact Z)|(apply Ze;exact Z;(first|with_reducible assumption|decide +kernel|(solve|simp only[bn]))))
 all_goals(apply Xk [0,1] [0];(apply Zd Za;exact Z);(iterate 7 exact Z))
 all_goals rfl
theorem ck1 [Known]:AT Tryz.prog 10 [.ptr 1 0,.sl .ext [.int .u8 0,.int .u8 2,.int .u8 5]] (coW (.sl .nil []) (.sl .nil []) 0 0 []) [] (.int .i64 0) (coW (.sl .nil []) (.sl .nil []) 0 0 [.int .u8 0,.int .u8 2,.int .u8 5]) []:=by
 have hF:=fk1
 have hC:=cl0
 refine Zm Tryz.func10 rfl Tryz.ntmps10 rfl rfl ?_
 repeat'(first|(apply Zh [0] (hF);kernel_rfl;(iterate 7 exact Z))|(apply Zb [0,1] [] (hC);kernel_rfl;(iterate 10 exact Z))|refine We 20 ?_|refine WI ?_|(apply Zj Za;exact Z)|(apply Zg Za;exact Z)|(apply Ze;exact Z;(first|with_reducible assumption|decide +kernel|(solve|simp only[bn])))|refine Zp Za Z Z Z Z ?_)
 all_goals(apply ZX [0,1] [];(apply Zd Za;exact Z);(iterate 7 exact Z))
 all_goals rfl
theorem ck2 [Known]:AT Tryz.prog 10 [.ptr 1 0,.sl .ext [.int .u8 11,.int .u8 0,.int .u8 1,.int .u8 9]] (coW (.sl .nil []) (.sl .nil []) 0 0 [.int .u8 0,.int .u8 2,.int .u8 5]) [] (.int .i64 3) (coW (.sl .nil []) (.sl .nil []) 0 3 []) []:=by
 have hF:=fk2
 have hC:=GM
 have h1:=ctO
 have h2:=ct9
 have h3:=cc3
 refine Zm Tryz.func10 rfl Tryz.ntmps10 rfl rfl ?_
 repeat'(first|(apply Zh [0] (hF);kernel_rfl;(iterate 7 exact Z))|(apply Zb [0,1] [] (hC);kernel_rfl;(iterate 10 exact Z))|(apply Zb [0,1] [] (h1);kernel_rfl;(iterate 10 exact Z))|(apply Zb [0,1] [0] (h2);kernel_rfl;(iterate 10 exact Z))|(apply Zb [0,1] [0] (h3);kernel_rfl;(iterate 10 exact Z))|refine We 20 ?_|refine WI ?_|(apply Zj Za;exact Z)|(apply Zg Za;exact Z)|(apply Zf;exact Z;(first|with_reducible assumption|decide +kernel|(solve|simp only[bn])))|(apply Ze;exact Z;(first|with_reducible assumption|decide +kernel|(solve|simp only[bn])))|refine Zp Za Z Z Z Z ?_|(apply Zv Za;(iterate 6 exact Z);(first|exact Qt|rotate_left);(first|with_reducible assumption|decide +kernel|exact Z);(first|exact Zn rfl|with_reducible assumption|decide +kernel|rotate_left)))
 all_goals(apply ZX [0,1] [];(apply Zd Za;exact Z);(iterate 7 exact Z))
 all_goals rfl
theorem ck3 [Known]:AT Tryz.prog 10 [.ptr 1 0,.sl .ext [.int .u8 0,.int .u8 2,.int .u8 5,.int .u8 11]] (coW (.sl .nil []) (.sl .nil []) 0 0 []) [] (.int .i64 0) (coW (.sl (.own 0) [UK]) (.sl .nil []) 0 0 []) coF:=by
 have hF:=fk3
 have hC:=cl0
 have h1:=ctO
 refine Zm Tryz.func10 rfl Tryz.ntmps10 rfl rfl ?_
 repeat'(first|(apply Zh [0] (hF);kernel_rfl;(iterate 7 exact Z))|(apply Zb [0,1] [] (hC);kernel_rfl;(iterate 10 exact Z))|(apply Zb [0,1] [] (h1);kernel_rfl;(iterate 10 exact Z))|refine We 20 ?_|refine WI ?_|(apply Zj Za;exact Z)|(apply Zg Za;exact Z)|(apply Zf;exact Z;(first|with_reducible assumption|decide +kernel|(solve|simp only[bn])))|(apply Ze;exact Z;(first|with_reducible assumption|decide +kernel|(solve|simp only[bn])))|refine Zp Za Z Z Z Z ?_|(apply Zv Za;(iterate 6 exact Z);(first|exact Qt|rotate_left);(first|with_reducible assumption|decide +kernel|exact Z);(first|exact Zn rfl|with_reducible assumption|decide +kernel|rotate_left)))
 all_goals(apply ZX [0,1] [0];(apply Zd Za;exact Z);(iterate 7 exact Z))
 all_goals rfl
end Go.Proofs.YtkdpfkjlheajhaaGreatDoor
end

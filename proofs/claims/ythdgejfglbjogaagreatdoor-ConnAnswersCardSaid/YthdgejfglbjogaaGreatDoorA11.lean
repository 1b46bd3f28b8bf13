/- Slices of bytes grown, joined and copied by the library. -/
import Derived.Test.YthdgejfglbjogaaGreatDoorA10
import Derived.Lib.AppendZeros
import Derived.Test.YthdgejfglbjogaaGreatDoorA07
import Derived.Test.YthdgejfglbjogaaGreatDoorA09
import Derived.Scope
import Derived.Test.YthdgejfglbjogaaGreatDoorA01
set_option linter.unusedVariables false
set_option linter.unusedSimpArgs false
section
open Go.RowKit Go.Pl Go.Av
namespace Go.Proofs.YthdgejfglbjogaaGreatDoor
set_option maxHeartbeats 1000000
theorem Jq (n:Nat)(w:World)(h0:0<n)(hn:n<=140737488355328) :
  Calls Tryz.prog 39 #[.slice none 0 0,.int .i64 (n:Int)] w fun e w'=>e=.returned (.slice (some ⟨w.heap.size,0,none⟩) 0 (grownCap w n 0 5)) /\
   w'=w.drew.alloc (.cells (Builtin.zeroCells #[.int .u8 0] n++Builtin.zeroCells #[.int .u8 0] (grownCap w n 0 5-n)) 5):=by
 have h1:¬ ((n:Int)<0):=by omega
 have h2:wrap64 ((n:Int)-0)=(n:Int):=by unfold wrap64;omega
 have h3:((n:Int)>0):=by omega
 go_enter Tryz.func39,Tryz.ntmps39
 have tb:Tryz.t5.bytes=1:=rfl
 have h4:¬ (281474976710656<(n:Int)*(Tryz.t5.bytes:Int)):=by rw[tb];omega
 have h5:¬ (281474976710656<Builtin.nextslicecap n 0*Tryz.t5.bytes):=by rw[tb,nextslicecap_zero h0];omega
 rw[tb]at h4 h5
 simp only[Nat.mul_one]at h5
 go_wp2
 go_ret
 exact⟨rfl,rfl⟩
theorem Jr [Known]:AP Tryz.prog 39 [.sl .nil [],.int .i64 0] (.sl .nil []) []:=by
 refine⟨fun g w vs hm hl hv=>?_⟩
 obtain⟨v0,v1,rfl⟩:∃ v0 v1,vs=[v0,v1]:=by
  match vs,hl with
  | [v0,v1],_=>exact⟨v0,v1,rfl⟩
 have h0:=hv 0 _ _ rfl rfl
 have h1:=(hv 1 _ _ rfl rfl).int_inv
 subst h1
 obtain⟨a1,a2⟩:=Ya h0
 have a2:v0=.slice none 0 0:=a2
 subst a2
 refine((show Calls Tryz.prog 39 #[.slice none 0 0,.int .i64 0] w fun e w'=>e=.returned (.slice none 0 0)/\w'=w from ?_).mono fun e w' ⟨he,hw⟩=>?_)
 ·go_enter Tryz.func39,Tryz.ntmps39
  go_wp2
  go_ret
  exact⟨rfl,rfl⟩
 ·subst he hw
  exact⟨g,[],[],.ret (.sl .nil []),Evo.refl _,hm,⟨_,rfl,h0⟩,rfl,rfl,rfl⟩
theorem Js [Known](n:Nat)(h0:0<n)(hn:n<=140737488351232):AP Tryz.prog 39 [.sl .nil [],.int .i64 (n:Int)] (.sl (.own 0) []) [⟨0,1,5⟩]:=by
 refine⟨fun g w vs hm hl hv=>?_⟩
 obtain⟨v0,v1,rfl⟩:∃ v0 v1,vs=[v0,v1]:=by
  match vs,hl with
  | [v0,v1],_=>exact⟨v0,v1,rfl⟩
 have k0:=hv 0 _ _ rfl rfl
 have h1:=(hv 1 _ _ rfl rfl).int_inv
 subst h1
 obtain⟨a1,a2⟩:=Ya k0
 have a2:v0=.slice none 0 0:=a2
 subst a2
 refine(Jq n w h0 (by omega)).mono fun e w' ⟨he,hw⟩=>?_
 subst he hw
 have hd:Mem g [] [] w.drew:=hm.drew
 have hge:=grownCap_ge w n 0 5
 have hcm:=grownCap_le_maxLen w n 0 5 (by simp only[maxLen];omega)
 obtain⟨k1,k2,k3⟩:=hd.row (Builtin.zeroCells #[.int .u8 0] n++Builtin.zeroCells #[.int .u8 0] (grownCap w n 0 5-n)).toList [] (grownCap w n 0 5) 1 5 (by decide) (by
  rw[Array.length_toList,Array.size_append,size_zeroCells,size_zeroCells];simp;omega) (Nat.zero_le _) hcm (fun e h=>by simp at h) (fun j x u hx=>by simp at hx)
 exact⟨_,[],_,.ret (.sl (.own 0) []),Evo.drew.trans k1,k2,⟨_,rfl,k3⟩,rfl,rfl,rfl⟩
theorem Wt (ls:List (List UInt8)){i:Nat}{x:List UInt8}(h:ls[i]?=some x):(ls.take (i+1)).flatten=(ls.take i).flatten++x:=by
 rw[List.take_add_one,h];simp
theorem Vb (ls:List (List UInt8))(i:Nat):(ls.take i).flatten.length<=ls.flatten.length:=by
 conv=>rhs;rw[<- List.take_append_drop i ls,List.flatten_append,List.length_append]
 omega
theorem QE [Known](ls:List (List UInt8))(hl:ls.flatten.length<=1099511627776)(hn:ls.length<=1099511627776):AP Tryz.prog 33 [QB ls] (byE ls.flatten) []:=by
 refine AP.weak (Zl Tryz.func33 Z Tryz.ntmps33 Z Z ?_)
 have hU:=J8 ls
 repeat'(first|(apply Zj Za;exact Z)|(apply Zf Za;exact Z)|refine Zo Za Z Z Z Z ?_)
 refine YD (fun k tm bx fr=>∃ i,k+i=ls.length/\tm=[(0,QB ls),(3,.int .i64 (((ls.take i).flatten.length:Nat):Int)),(9,QB ls),(10,.int .i64 (((ls.map E.bys).length:Nat):Int)),(11,.int .i64 (i:Int))]/\bx=[]/\fr=[]) (ls.length+1) (Lands.mk' (m:=ls.length) (Nat.lt_succ_self _) ⟨0,rfl,rfl,rfl,rfl⟩ ?_ rfl rfl rfl rfl rfl rfl) ?_
 ·exact .cons rfl (.cons rfl (.cons rfl (.cons rfl (.cons rfl .nil))))
 rintro k tm bx fr ⟨i,hk,rfl,rfl,rfl⟩
 rcases Nat.lt_or_ge i ls.length with hlt|hge
 ·have hd:decide ((i:Int)<(((ls.map E.bys).length:Nat):Int))=true:=by simp;omega
  obtain⟨x,hx⟩:∃ x,ls[i]?=some x:=⟨_,List.getElem?_eq_getElem hlt⟩
  have hv:(ls.map E.bys)[((i:Nat):Int).toNat]?=some (E.bys x):=by simp[hx]
  have hf:=Wt ls hx
  have hle:=Vb ls (i+1)
  have e1:IntKind.i64.wrap ((((ls.take i).flatten.length:Nat):Int)+(((x.map E.byte).length:Nat):Int))=(((ls.take (i+1)).flatten.length:Nat):Int):=by
   rw[hf]at hle ⊢
   rw[List.length_append]at hle ⊢
   rw[List.length_map,IntWalk.i64_in _ (by omega)];omega
  have e2:IntKind.i64.wrap ((i:Int)+1)=((i+1:Nat):Int):=by rw[IntWalk.i64_in _ (by omega)];omega
  have hd2:decide ((((ls.take (i+1)).flatten.length:Nat):Int)<0)=false:=decide_eq_false (by omega)
  repeat'(first|rw[e1]|rw[e2]|(apply Zj Za;exact Z)|(apply Zf Za;exact Z)|(apply Zg;exact Z;(first|with_reducible assumption|(solve|simp only[bn])))|(apply Zc;exact Z;(first|with_reducible assumption|(solve|simp only[bn])))|refine Zo Za Z Z Z Z ?_|(apply Zu Za;(iterate 6 exact Z);(first|exact Qb|rotate_left);(first|with_reducible assumption|exact Z);(first|exact Zi rfl|with_reducible assumption|rotate_left)))
  refine Lands.mk' (m:=k-1) (by omega) ⟨i+1,by omega,rfl,rfl,rfl⟩ ?_ rfl rfl rfl rfl rfl rfl
  exact .cons rfl (.cons rfl (.cons rfl (.cons rfl (.cons rfl .nil))))
 ·have hd:decide ((i:Int)<(((ls.map E.bys).length:Nat):Int))=false:=by simp;omega
  have hall:ls.take i=ls:=List.take_of_length_le (by omega)
  rw[hall]
  rcases Nat.eq_zero_or_pos ls.flatten.length with h0|h0
  ·rw[h0]
   have hnil:∀ x ∈ ls,x=[]:=by simpa using List.eq_nil_of_length_eq_zero h0
   repeat'(first|(apply W0 Jr;kernel_rfl;(iterate 4 exact Z))|(apply Zj Za;exact Z)|(apply Zf Za;exact Z)|(apply Zc;exact Z;(first|with_reducible assumption|(solve|simp only[bn])))|refine Zo Za Z Z Z Z ?_)
   refine YD (fun k tm bx fr=>∃ i,k+i=ls.length/\tm=[(6,.sl .nil []),(25,QB ls),(26,.int .i64 (((ls.map E.bys).length:Nat):Int)),(27,.int .i64 (i:Int))]/\bx=[]/\fr=[]) (ls.length+1) (Lands.mk' (m:=ls.length) (Nat.lt_succ_self _) ⟨0,rfl,rfl,rfl,rfl⟩ ?_ rfl rfl rfl rfl rfl rfl) ?_
   ·exact .cons rfl (.cons rfl (.cons rfl (.cons rfl .nil)))
   rintro k tm bx fr ⟨i,hk,rfl,rfl,rfl⟩
   rcases Nat.lt_or_ge i ls.length with hlt|hge
   ·have hd:decide ((i:Int)<(((ls.map E.bys).length:Nat):Int))=true:=by simp;omega
    obtain⟨x,hx⟩:∃ x,ls[i]?=some x:=⟨_,List.getElem?_eq_getElem hlt⟩
    obtain rfl:=hnil x (List.mem_of_getElem? hx)
    have hv:(ls.map E.bys)[((i:Nat):Int).toNat]?=some (E.bys []):=by simp[hx]
    have e2:IntKind.i64.wrap ((i:Int)+1)=((i+1:Nat):Int):=by rw[IntWalk.i64_in _ (by omega)];omega
    repeat'(first|rw[e2]|(apply Zj Za;exact Z)|(apply Zf Za;exact Z)|(apply Zg;exact Z;(first|with_reducible assumption|(solve|simp only[bn])))|refine ZN Za Z Z Z Z Z Z ?_|(apply Zu Za;(iterate 6 exact Z);(first|exact Qb|rotate_left);(first|with_reducible assumption|exact Z);(first|exact Zi rfl|with_reducible assumption|rotate_left)))
    refine Lands.mk' (m:=k-1) (by omega) ⟨i+1,by omega,rfl,rfl,rfl⟩ ?_ rfl rfl rfl rfl rfl rfl
    exact .cons rfl (.cons rfl (.cons rfl (.cons rfl .nil)))
   ·have hd:decide ((i:Int)<(((ls.map E.bys).length:Nat):Int))=false:=by simp;omega
    repeat'(first|(apply Zf Za;exact Z)|(apply Zc;exact Z;(first|with_reducible assumption|(solve|simp only[bn]))))
    (apply Xl;(apply Zb Za;exact Z);exact Z)
    rw[List.eq_nil_of_length_eq_zero h0];rfl
  ·repeat'(first|(apply W0 (Js ls.flatten.length h0 (by omega));kernel_rfl;(iterate 4 exact Z))|(apply Zj Za;exact Z)|(apply Zf Za;exact Z)|(apply Zc;exact Z;(first|with_reducible assumption|(solve|simp only[bn])))|refine Zo Za Z Z Z Z ?_)
   refine YD (fun k tm bx fr=>∃ i c,k+i=ls.length/\c=((ls.take i).flatten.map E.byte).length/\tm=[(6,.sl (.own 0) ((ls.take i).flatten.map E.byte)),(25,QB ls),(26,.int .i64 (((ls.map E.bys).length:Nat):Int)),(27,.int .i64 (i:Int))]/\bx=[]/\fr=[⟨c,1,5⟩]) (ls.length+1) (Lands.mk' (m:=ls.length) (Nat.lt_succ_self _) ⟨0,0,rfl,rfl,rfl,rfl,rfl⟩ ?_ rfl rfl rfl rfl rfl rfl) ?_
   ·exact .cons rfl (.cons rfl (.cons rfl (.cons rfl .nil)))
   rintro k tm bx fr ⟨i,c,hk,hc,rfl,rfl,rfl⟩
   rcases Nat.lt_or_ge i ls.length with hlt|hge
   ·have hd:decide ((i:Int)<(((ls.map E.bys).length:Nat):Int))=true:=by simp;omega
    obtain⟨x,hx⟩:∃ x,ls[i]?=some x:=⟨_,List.getElem?_eq_getElem hlt⟩
    have hv:(ls.map E.bys)[((i:Nat):Int).toNat]?=some (E.bys x):=by simp[hx]
    have e2:IntKind.i64.wrap ((i:Int)+1)=((i+1:Nat):Int):=by rw[IntWalk.i64_in _ (by omega)];omega
    have hf:=Wt ls hx
    have hle:=Vb ls (i+1)
    have hm:(ls.take (i+1)).flatten.map E.byte=(ls.take i).flatten.map E.byte++x.map E.byte:=by rw[hf,List.map_append]
    have hU1:=Ym (ls.take i).flatten
    have hU2:=Ym x
    rcases List.eq_nil_or_concat x with rfl|⟨x',y,hxy⟩
    ·repeat'(first|rw[e2]|(apply Zj Za;exact Z)|(apply Zf Za;exact Z)|(apply Zg;exact Z;(first|with_reducible assumption|(solve|simp only[bn])))|refine ZN Za Z Z Z Z Z Z ?_|(apply Zu Za;(iterate 6 exact Z);(first|exact Qb|rotate_left);(first|with_reducible assumption|exact Z);(first|exact Zi rfl|with_reducible assumption|rotate_left)))
     refine Lands.mk' (m:=k-1) (by omega) ⟨i+1,c,by omega,by rw[hm,hc];simp,rfl,rfl,rfl⟩ ?_ rfl rfl rfl rfl rfl rfl
     exact .cons (by rw[hm,List.map_nil,List.append_nil];rfl) (.cons rfl (.cons rfl (.cons rfl .nil)))
    ·have hne:x.map E.byte ≠ []:=by rw[hxy];simp
     have hl3:((ls.take i).flatten.map E.byte).length+(x.map E.byte).length<=1099511627776:=by
      rw[<- List.length_append,<- hm,List.length_map];omega
     repeat'(first|rw[e2]|(apply Zj Za;exact Z)|(apply Zf Za;exact Z)|(apply Zg;exact Z;(first|with_reducible assumption|(solve|simp only[bn])))|(apply ZB Za;(iterate 6 exact Z);(first|with_reducible assumption|exact Z|rotate_left);exact Z;exact Z;(first|exact Zi rfl|with_reducible assumption|rotate_left);(first|exact Zi rfl|with_reducible assumption|rotate_left);(first|exact Qb|rotate_left);(first|exact Qb|rotate_left);(first|exact Qb|rotate_left);exact Z;exact Z)|(apply Zu Za;(iterate 6 exact Z);(first|exact Qb|rotate_left);(first|with_reducible assumption|exact Z);(first|exact Zi rfl|with_reducible assumption|rotate_left)))
     ·refine Lands.mk' (m:=k-1) (by omega) ⟨i+1,_,by omega,(by rw[hm,List.length_append]),rfl,rfl,rfl⟩ ?_ rfl rfl rfl rfl rfl rfl
      exact .cons (by rw[hm];rfl) (.cons rfl (.cons rfl (.cons rfl .nil)))
     ·simp only[maxLen];omega
     ·show _*1<=_
      omega
   ·have hd:decide ((i:Int)<(((ls.map E.bys).length:Nat):Int))=false:=by simp;omega
    repeat'(first|(apply Zf Za;exact Z)|(apply Zc;exact Z;(first|with_reducible assumption|(solve|simp only[bn]))))
    (apply Xl;(apply Zb Za;exact Z);exact Z)
    rw[List.take_of_length_le (by omega)]
abbrev Vj (m:Bool)(left:List UInt8)(e:Int):List (List D):=[[.bool m,byE left,.int .i64 e]]
theorem Xv [Known]:AQ Tryz.prog 9 [] [] (.ptr 0 0) (Vj true [] 0):=by
 refine AQ.weak (Zl Tryz.func9 Z Tryz.ntmps9 Z Z ?_)
 repeat'(first|(apply Zf Za;exact Z))
 (apply Zw [0];(apply Zb Za;exact Z);(iterate 4 exact Z))
 all_goals rfl
theorem QF [Known](m:Bool)(left:List UInt8)(e:Int):AQ Tryz.prog 32 [.ptr 0 0] (Vj m left e) (.int .i64 (if m then e else 6)) (Vj m left e):=by
 refine AQ.weak (Zl Tryz.func32 Z Tryz.ntmps32 Z Z ?_)
 cases m
 ·repeat'(first|(apply Zj Za;exact Z)|(apply Zf Za;exact Z)|(apply Zr Za;exact Z)|(apply Ze;(iterate 3 exact Z);(first|with_reducible assumption|(solve|simp only[bn])))|(apply Zm;exact Z;(first|with_reducible assumption|(solve|simp only[bn]));exact Z;exact Z)|(apply Zg;exact Z;(first|with_reducible assumption|(solve|simp only[bn]))))
  (apply Zw [0];(apply Zb Za;exact Z);(iterate 4 exact Z))
  all_goals rfl
 ·repeat'(first|(apply Zj Za;exact Z)|(apply Zf Za;exact Z)|(apply Zr Za;exact Z)|(apply Ze;(iterate 3 exact Z);(first|with_reducible assumption|(solve|simp only[bn])))|(apply Zm;exact Z;(first|with_reducible assumption|(solve|simp only[bn]));exact Z;exact Z)|(apply Zc;exact Z;(first|with_reducible assumption|(solve|simp only[bn]))))
  (apply Zw [0];(apply Zb Za;exact Z);(iterate 4 exact Z))
  all_goals rfl
theorem UQ [Known](left:List UInt8)(e:Int):AQ Tryz.prog 32 [.ptr 0 0] (Vj true left e) (.int .i64 e) (Vj true left e):=QF true left e
theorem Qf [Known](m:Bool)(left:List UInt8)(e f:Int):AQ Tryz.prog 34 [.ptr 0 0,.int .i64 f] (Vj m left e) (.tup []) (Vj m [] f):=by
 refine AQ.weak (Zl Tryz.func34 Z Tryz.ntmps34 Z Z ?_)
 repeat'(first|(apply Zf Za;exact Z))
 first|(apply Zw [0];(apply Zb Za;exact Z);(iterate 4 exact Z))|(apply XJ [0];(apply Zb Za;exact Z);(iterate 4 exact Z))
 all_goals rfl
end Go.Proofs.YthdgejfglbjogaaGreatDoor
end
section
open Go.RowKit Go.Pl
namespace Go.Av
theorem VL [Known][Dfr]{P:Program}{Q:X->St->Prop}{x:X}{S:St}(h:Q x S):unK P Q [] x S:=h
section
variable {P:Program} {Q:X->St->Prop} {n:Nat} {ee:Nat × Nat} {tm:List (Nat × D)} {bx:List (List D)} {fr:List Fr} {T:Tab}
variable {ops:Array Oper} {rest:List Oper} {t ty:Nat} {pos:String} {after:Array Edge}
theorem Jt [Known][Dfr](hT:chk P T=true){x lo:Operand}{st e:Nat}{tk:Tok}{l l2:List E}{k1:IntKind}{j:Int}{ti te:Ti}(hx:ev tm x=.sl tk l)(ht:tl T st=some ti)(hk:ti.kd=.slice e)(hte:tl T e=some te)(htd:Nat.blt t n=true)
  (hlo:ev tm lo=.int k1 j) (hU:Uni te.size l) (h0:0<=j) (hle:j.toNat<=l.length) (hd:l.drop j.toNat=l2)
  (kk:AL P ops rest ⟨n,(t,.sl .ext l2)::tm,bx,fr,ee⟩ Q):AL P ops (⟨some t,.slice st x (some lo) none none,ty,pos,after,none⟩::rest) ⟨n,tm,bx,fr,ee⟩ Q:=by
 subst hd
 exact YW hT hx ht hk hte htd (.lit lo _ k1 j hlo h0) (.dft _) hle (Nat.le_refl _) hU (by rw[List.take_length]) kk
end
end Go.Av
end
section
namespace Go.Proofs.YthdgejfglbjogaaGreatDoor
def Zx (b:List UInt8):Nat:=256*(b.getD 0 0).toNat+(b.getD 1 0).toNat
def ZP (b:List UInt8):List (List UInt8) × List UInt8 × Nat:=
 if b.length<2 then([],b,0)
 else if Zx b=0 then([],[],3)
 else if Zx b>1000 then([],[],2)
 else if h:b.length<Zx b+2 then([],b,0)
 else
  let r:=ZP (b.drop (2+Zx b))
  ((b.take (2+Zx b)).drop 2::r.1,r.2)
termination_by b.length
decreasing_by simp;omega
theorem Yv {b:List UInt8}(h:b.length<2):ZP b=([],b,0):=by rw[ZP,if_pos h]
theorem Vc {b:List UInt8}(h:¬ b.length<2)(h0:Zx b=0):ZP b=([],[],3):=by rw[ZP,if_neg h,if_pos h0]
theorem Vd {b:List UInt8}(h:¬ b.length<2)(h0:Zx b>1000):ZP b=([],[],2):=by rw[ZP,if_neg h,if_neg (by omega),if_pos h0]
theorem Wc {b:List UInt8}(h:¬ b.length<2)(h0:Zx b ≠ 0)(h1:¬ Zx b>1000)(h2:b.length<Zx b+2):ZP b=([],b,0):=by rw[ZP,if_neg h,if_neg h0,if_neg h1,dif_pos h2]
theorem Y3 {b:List UInt8}(h:¬ b.length<2)(h0:Zx b ≠ 0)(h1:¬ Zx b>1000)(h2:¬ b.length<Zx b+2) :
  ZP b=((b.take (2+Zx b)).drop 2::(ZP (b.drop (2+Zx b))).1,(ZP (b.drop (2+Zx b))).2):=by rw[ZP,if_neg h,if_neg h0,if_neg h1,dif_neg h2]
def ZY (b:List UInt8):List UInt8:=UInt8.ofNat (b.length/256)::UInt8.ofNat (b.length % 256)::b
end Go.Proofs.YthdgejfglbjogaaGreatDoor
end
section
open Go.RowKit Go.Pl Go.Av
namespace Go.Proofs.YthdgejfglbjogaaGreatDoor
set_option maxHeartbeats 1000000
theorem Kc (n:Nat):(n:Int).fdiv (2 ^ min (Int.toNat 8) IntKind.i64.bits)=((n/256:Nat):Int):=by
 rw[show min (Int.toNat 8) IntKind.i64.bits=8 from rfl,show((2:Int) ^ 8)=((256:Nat):Int) from rfl,Int.fdiv_eq_ediv_of_nonneg _ (Int.natCast_nonneg _)]
 omega
theorem Y4 [Known](b:List UInt8)(h1:1<=b.length)(h2:b.length<=1000):AP Tryz.prog 17 [byE b] (.tup [byE (ZY b),.int .i64 0]) []:=by
 refine AP.weak (Zl Tryz.func17 Z Tryz.ntmps17 Z Z ?_)
 have d1:decide ((((b.map E.byte).length:Nat):Int)<1)=false:=by simp;omega
 have d2:decide ((((b.map E.byte).length:Nat):Int)>1000)=false:=by simp;omega
 have hne:b.map E.byte ≠ []:=by cases b<;>simp at h1 ⊢
 have hU:=Ym b
 repeat'(first|(apply Zj Za;exact Z)|(apply Zf Za;exact Z)|(apply Zr Za;exact Z)|refine VL ?_|(apply Ze;(iterate 3 exact Z);(first|with_reducible assumption|(solve|simp only[bn])))|(apply Zm;exact Z;(first|with_reducible assumption|(solve|simp only[bn]));exact Z;exact Z)|(apply Zc;exact Z;(first|with_reducible assumption|(solve|simp only[bn])))|refine Zo Za Z Z Z Z ?_|refine WN Za Z Z Z Z Z Z Z Z Z Z Z Z ?_|(apply ZB Za;(iterate 6 exact Z);(first|with_reducible assumption|exact Z|rotate_left);exact Z;exact Z;(first|exact Zi rfl|with_reducible assumption|rotate_left);(first|exact Zi rfl|with_reducible assumption|rotate_left);(first|exact Qb|rotate_left);(first|exact Qb|rotate_left);(first|exact Qb|rotate_left);exact Z;exact Z)|(apply VQ;exact Z;exact Z;(first|exact Qb|rotate_left);exact Z))
 ·(apply Xl;(apply Zb Za;exact Z);exact Z)
  have e1:E.int .u8 (IntKind.u8.wrap (((((b.map E.byte).length:Nat):Int)).fdiv (2 ^ min (Int.toNat 8) IntKind.i64.bits)))=E.byte (UInt8.ofNat (b.length/256)):=by
   rw[Kc,List.length_map,IntKind.wrap_u8']
   unfold E.byte
   rw[UInt8.toNat_ofNat']
   congr 1
  have e2:E.int .u8 (IntKind.u8.wrap ((((b.map E.byte).length:Nat):Int)))=E.byte (UInt8.ofNat (b.length % 256)):=by
   rw[List.length_map,IntKind.wrap_u8']
   unfold E.byte
   rw[UInt8.toNat_ofNat']
   congr 1
   omega
  have e3:=congr (congrArg (fun(x y:E)=>D.tup [D.sl .ext (x::y::b.map E.byte),D.int .i64 0]) e1) e2
  exact e3
 ·simp[maxLen];omega
 ·simp;omega
theorem be2 (x y:UInt8):bits .or .i64 (IntKind.i64.wrap (IntKind.i64.wrap (x.toNat:Int)*2 ^ min (Int.toNat 8) IntKind.i64.bits)) (IntKind.i64.wrap (y.toNat:Int))=((256*x.toNat+y.toNat:Nat):Int):=by
 have hx:=x.toNat_lt
 have hy:=y.toNat_lt
 rw[show min (Int.toNat 8) IntKind.i64.bits=8 from rfl,IntWalk.i64_in (x.toNat:Int) (by omega),IntWalk.i64_in (y.toNat:Int) (by omega),IntWalk.i64_in _ (by omega)]
 have e:(x.toNat:Int)*2 ^ 8=((256*x.toNat:Nat):Int):=by omega
 rw[e]
 have h1:(BitVec.ofInt 64 ((256*x.toNat:Nat):Int)).toNat=256*x.toNat:=by
  rw[BitVec.ofInt_natCast,BitVec.toNat_ofNat];exact Nat.mod_eq_of_lt (by omega)
 have h2:(BitVec.ofInt 64 (y.toNat:Int)).toNat=y.toNat:=by
  rw[BitVec.ofInt_natCast,BitVec.toNat_ofNat];exact Nat.mod_eq_of_lt (by omega)
 show IntKind.i64.wrap ((BitVec.ofInt 64 ((256*x.toNat:Nat):Int) ||| BitVec.ofInt 64 (y.toNat:Int)).toNat:Int)=_
 rw[BitVec.toNat_or,h1,h2,nat_join 8 (256*x.toNat) y.toNat (by omega) (by omega),IntWalk.i64_in _ (by omega)]
theorem V0 [Known](l b:List UInt8)(hl:l.length+b.length<=1099511627776):AQ Tryz.prog 24 [.ptr 0 0,byE b] (Vj true l 0) (.tup [QB (ZP (l++b)).1,.int .i64 (ZP (l++b)).2.2]) (Vj true (ZP (l++b)).2.1 (ZP (l++b)).2.2):=by
 refine AQ.weak (Zl Tryz.func24 Z Tryz.ntmps24 Z Z ?_)
 have d1:((0:Int) != 0)=false:=rfl
 have hfl:[l,b].flatten=l++b:=by simp
 repeat'(first|(apply Zf Za;exact Z))
 refine Qv 0 (fun k tm bx fr=>∃(out:List (List UInt8)) (cur:List UInt8) (tk:Tok),k=cur.length/\ZP (l++b)=(out++(ZP cur).1,(ZP cur).2)/\out.length+cur.length<=l.length+b.length/\tm=[(0,.ptr 0 0),(7,.sl tk (out.map E.bys))]/\bx=Vj true cur 0/\((tk=.nil/\out=[]/\fr=[])\/(∃ c,tk=.own 1/\out ≠ []/\c=(out.map E.bys).length/\fr=[⟨1,1,23⟩,⟨c,1,23⟩]))) (l.length+b.length+1) rfl ?pass (fun H=>?_)
 case pass=>
  rintro k tm bx fr ⟨out,cur,tk,rfl,hT,hle,rfl,rfl,hc⟩
  have hU:=Ym cur
  have hO:=J8 out
  by_cases h2:cur.length<2
  ·have g2:decide ((((cur.map E.byte).length:Nat):Int)<2)=true:=decide_eq_true (by rw[List.length_map];omega)
   repeat'(first|(apply Zj Za;exact Z)|(apply Zf Za;exact Z)|(apply Zr Za;exact Z)|refine Wq ?_|(apply Zg;exact Z;(first|with_reducible assumption|(solve|simp only[bn])))|refine Zo Za Z Z Z Z ?_)
   (apply Zw [0];(apply Zb Za;exact Z);(iterate 4 exact Z))
   ·rw[hT,Yv h2];simp
   ·rw[hT,Yv h2];rfl
  have g2:decide ((((cur.map E.byte).length:Nat):Int)<2)=false:=decide_eq_false (by rw[List.length_map];omega)
  obtain⟨x,y,r,hcur⟩:∃ x y r,cur=x::y::r:=by
   match cur,h2 with
   | x::y::r,_=>exact⟨x,y,r,rfl⟩
   | [_],h=>simp at h
   | [],h=>simp at h
  have hx0:(cur.map E.byte)[(0:Int).toNat]?=some (E.byte x):=by rw[hcur];rfl
  have hy0:(cur.map E.byte)[(1:Int).toNat]?=some (E.byte y):=by rw[hcur];rfl
  have hn:Zx cur=256*x.toNat+y.toNat:=by rw[hcur];rfl
  have e0:=be2 x y
  rw[<- hn]at e0
  by_cases h0:Zx cur=0
  ·have g0:(((Zx cur:Nat):Int)==0)=true:=by rw[h0];rfl
   repeat'(first|rw[e0]|(apply Yc [0] (Qf true cur 0 3);kernel_rfl;(iterate 7 exact Z))|(apply Zj Za;exact Z)|(apply Zf Za;exact Z)|(apply Zr Za;exact Z)|refine VL ?_|refine Wq ?_|(apply Zg;exact Z;(first|with_reducible assumption|(solve|simp only[bn])))|(apply Zc;exact Z;(first|with_reducible assumption|(solve|simp only[bn])))|refine Zo Za Z Z Z Z ?_|(apply Yg 6 YT;decide +kernel;kernel_rfl;kernel_rfl;exact Z;exact Z)|(apply Yg 15 YT;decide +kernel;kernel_rfl;kernel_rfl;exact Z;exact Z)|(apply Wo;(iterate 3 exact Z))|refine AD.nil _|exact Vz rfl|(apply Zu Za;(iterate 6 exact Z);(first|exact Qb|rotate_left);(first|with_reducible assumption|exact Z);(first|exact Zi rfl|with_reducible assumption|rotate_left))|(apply Y9;exact Z;exact Z;(first|exact Qb|rotate_left);exact Z))
   (apply Zw [0];(apply Zb Za;exact Z);(iterate 4 exact Z))
   ·rw[hT,Vc h2 h0];simp
   ·rw[hT,Vc h2 h0];rfl
  have g0:(((Zx cur:Nat):Int)==0)=false:=by simp;omega
  by_cases h1:Zx cur>1000
  ·have g1:decide (((Zx cur:Nat):Int)>1000)=true:=decide_eq_true (by omega)
   repeat'(first|rw[e0]|(apply Yc [0] (Qf true cur 0 2);kernel_rfl;(iterate 7 exact Z))|(apply Zj Za;exact Z)|(apply Zf Za;exact Z)|(apply Zr Za;exact Z)|refine VL ?_|refine Wq ?_|(apply Zg;exact Z;(first|with_reducible assumption|(solve|simp only[bn])))|(apply Zc;exact Z;(first|with_reducible assumption|(solve|simp only[bn])))|refine Zo Za Z Z Z Z ?_|(apply Yg 6 YT;decide +kernel;kernel_rfl;kernel_rfl;exact Z;exact Z)|(apply Yg 15 YT;decide +kernel;kernel_rfl;kernel_rfl;exact Z;exact Z)|(apply Wo;(iterate 3 exact Z))|refine AD.nil _|exact Vz rfl|(apply Zu Za;(iterate 6 exact Z);(first|exact Qb|rotate_left);(first|with_reducible assumption|exact Z);(first|exact Zi rfl|with_reducible assumption|rotate_left))|(apply Y9;exact Z;exact Z;(first|exact Qb|rotate_left);exact Z))
   (apply Zw [0];(apply Zb Za;exact Z);(iterate 4 exact Z))
   ·rw[hT,Vd h2 h1];simp
   ·rw[hT,Vd h2 h1];rfl
  have g1:decide (((Zx cur:Nat):Int)>1000)=false:=decide_eq_false (by omega)
  have e1:IntKind.i64.wrap ((((cur.map E.byte).length:Nat):Int)-2)=((cur.length-2:Nat):Int):=by
   rw[List.length_map,IntWalk.i64_in _ (by omega)];omega
  by_cases h3:cur.length<Zx cur+2
  ·have g3:decide (((cur.length-2:Nat):Int) ≥ ((Zx cur:Nat):Int))=false:=decide_eq_false (by omega)
   repeat'(first|rw[e0]|rw[e1]|(apply Zj Za;exact Z)|(apply Zf Za;exact Z)|(apply Zr Za;exact Z)|refine VL ?_|refine Wq ?_|(apply Zc;exact Z;(first|with_reducible assumption|(solve|simp only[bn])))|refine Zo Za Z Z Z Z ?_|(apply Yg 6 YT;decide +kernel;kernel_rfl;kernel_rfl;exact Z;exact Z)|(apply Yg 15 YT;decide +kernel;kernel_rfl;kernel_rfl;exact Z;exact Z)|(apply Wo;(iterate 3 exact Z))|refine AD.nil _|exact Vz rfl|(apply Zu Za;(iterate 6 exact Z);(first|exact Qb|rotate_left);(first|with_reducible assumption|exact Z);(first|exact Zi rfl|with_reducible assumption|rotate_left))|(apply Y9;exact Z;exact Z;(first|exact Qb|rotate_left);exact Z))
   (apply Zw [0];(apply Zb Za;exact Z);(iterate 4 exact Z))
   ·rw[hT,Wc h2 h0 h1 h3];simp
   ·rw[hT,Wc h2 h0 h1 h3];rfl
  have g3:decide (((cur.length-2:Nat):Int) ≥ ((Zx cur:Nat):Int))=true:=decide_eq_true (by omega)
  have e2:IntKind.i64.wrap (2+((Zx cur:Nat):Int))=((2+Zx cur:Nat):Int):=by
   rw[IntWalk.i64_in _ (by omega)];omega
  have hT1:=Y3 h2 h0 h1 h3
  have hs1:((cur.map E.byte).take (2+Zx cur)).drop 2=((cur.take (2+Zx cur)).drop 2).map E.byte:=by rw[List.map_drop,List.map_take]
  have hs2:(((cur.map E.byte).take (cur.map E.byte).length).drop ((2+Zx cur:Nat):Int).toNat)=(cur.drop (2+Zx cur)).map E.byte:=by rw[List.take_length,Int.toNat_natCast,List.map_drop]
  rcases hc with⟨rfl,rfl,rfl⟩ | ⟨c,rfl,hne,hcl,rfl⟩
  ·repeat'(first|rw[e0]|rw[e1]|rw[e2]|(apply Zd (WF ((cur.take (2+Zx cur)).drop 2) (by simp;omega));kernel_rfl;(iterate 4 exact Z))|(apply VF Za (p:=2) (q:=2+Zx cur) (r:=2+Zx cur);(iterate 11 exact Z);omega;exact Nat.le_refl _;(rw[List.length_map];omega);exact hU;exact hs1)|(apply YW Za;(iterate 5 exact Z);exact .lit _ _ _ _ rfl (Int.natCast_nonneg _);exact .dft _;(rw[List.length_map];omega);exact Nat.le_refl _;exact hU;exact hs2)|(apply Zj Za;exact Z)|(apply Zf Za;exact Z)|(apply Zr Za;exact Z)|refine VL ?_|refine VC ?_|(apply Zg;exact Z;(first|with_reducible assumption|(solve|simp only[bn])))|(apply Zc;exact Z;(first|with_reducible assumption|(solve|simp only[bn])))|refine Zo Za Z Z Z Z ?_|refine WN Za Z Z Z Z Z Z Z Z Z Z Z Z ?_|(apply Yg 15 YT;decide +kernel;kernel_rfl;kernel_rfl;exact Z;exact Z)|(apply Wo;(iterate 3 exact Z))|refine AD.nil _|exact Vz rfl|(apply Yx Za;(iterate 6 exact Z);(first|exact Zi rfl|with_reducible assumption|rotate_left);(first|exact Qb|rotate_left);(first|exact Qb|rotate_left);(first|exact Qb|rotate_left);(iterate 3 exact Z))|(apply Zu Za;(iterate 6 exact Z);(first|exact Qb|rotate_left);(first|with_reducible assumption|exact Z);(first|exact Zi rfl|with_reducible assumption|rotate_left))|(apply Y9;exact Z;exact Z;(first|exact Qb|rotate_left);exact Z))
   ·refine Lands.mk' (m:=(cur.drop (2+Zx cur)).length) (by simp;omega) ⟨[(cur.take (2+Zx cur)).drop 2],cur.drop (2+Zx cur),.own 1,rfl,by rw[hT,hT1];rfl,by simp at hle ⊢;omega,rfl,rfl,.inr ⟨1,rfl,by simp,rfl,rfl⟩⟩ ?_ rfl rfl rfl rfl rfl rfl
    exact .cons rfl (.cons rfl .nil)
   all_goals first|(show 1<=maxLen;decide)|(show 1*24<=_;decide)
  ·have hne':out.map E.bys ≠ []:=by simpa using hne
   repeat'(first|rw[e0]|rw[e1]|rw[e2]|(apply Zd (WF ((cur.take (2+Zx cur)).drop 2) (by simp;omega));kernel_rfl;(iterate 4 exact Z))|(apply VF Za (p:=2) (q:=2+Zx cur) (r:=2+Zx cur);(iterate 11 exact Z);omega;exact Nat.le_refl _;(rw[List.length_map];omega);exact hU;exact hs1)|(apply YW Za;(iterate 5 exact Z);exact .lit _ _ _ _ rfl (Int.natCast_nonneg _);exact .dft _;(rw[List.length_map];omega);exact Nat.le_refl _;exact hU;exact hs2)|(apply Zj Za;exact Z)|(apply Zf Za;exact Z)|(apply Zr Za;exact Z)|refine VL ?_|refine VC ?_|(apply Zg;exact Z;(first|with_reducible assumption|(solve|simp only[bn])))|(apply Zc;exact Z;(first|with_reducible assumption|(solve|simp only[bn])))|refine Zo Za Z Z Z Z ?_|refine WN Za Z Z Z Z Z Z Z Z Z Z Z Z ?_|(apply Yg 15 YT;decide +kernel;kernel_rfl;kernel_rfl;exact Z;exact Z)|(apply Wo;(iterate 3 exact Z))|refine AD.nil _|exact Vz rfl|(apply ZB Za;(iterate 6 exact Z);(first|with_reducible assumption|exact Z|rotate_left);exact Z;exact Z;(first|exact Zi rfl|with_reducible assumption|rotate_left);(first|exact Zi rfl|with_reducible assumption|rotate_left);(first|exact Qb|rotate_left);(first|exact Qb|rotate_left);(first|exact Qb|rotate_left);exact Z;exact Z)|(apply Zu Za;(iterate 6 exact Z);(first|exact Qb|rotate_left);(first|with_reducible assumption|exact Z);(first|exact Zi rfl|with_reducible assumption|rotate_left))|(apply Y9;exact Z;exact Z;(first|exact Qb|rotate_left);exact Z))
   ·refine Lands.mk' (m:=(cur.drop (2+Zx cur)).length) (by simp;omega) ⟨out++[(cur.take (2+Zx cur)).drop 2],cur.drop (2+Zx cur),.own 1,rfl,by rw[hT,hT1];simp,by simp at hle ⊢;omega,rfl,rfl,.inr ⟨_,rfl,by simp,rfl,rfl⟩⟩ ?_ rfl ?_ rfl rfl rfl rfl
    ·exact .cons rfl (.cons (by rw[List.map_append];rfl) .nil)
    ·rw[List.map_append,List.length_append];rfl
   ·show(out.map E.bys).length+1<=maxLen
    rw[List.length_map];unfold maxLen;omega
   ·show((out.map E.bys).length+1)*24<=_
    rw[List.length_map];omega
 ·repeat'(first|refine H _ ?_|(apply Yc [0] (UQ l 0);kernel_rfl;(iterate 7 exact Z))|(apply Zd (QE [l,b] (by rw[hfl,List.length_append];omega) (by simp));kernel_rfl;(iterate 4 exact Z))|refine UZ Z Z ?_|refine Vo Z Z ?_|refine QO Z Z Z Z Z ?_|refine Ue Za Z Z Z Z Z Z ?_|refine Wi Za Z Z Z Z Z Z Z ?_|refine WM Z Z ?_|refine Uf Za Z Z Z Z Z Z Z Z ?_|refine Uy ?_|refine Vm ?_|refine VU ?_|(apply Zc;exact Z;(first|with_reducible assumption|(guard_target =ₛ true=true;rfl)|(guard_target =ₛ false=false;rfl)|(guard_target =ₛ (!true)=false;rfl)|(guard_target =ₛ (!false)=true;rfl)))|refine WN Za Z Z Z Z Z Z Z Z Z Z Z Z ?_|refine VN ?_|refine Ua ?_)
  refine Lands.mk' (m:=(l++b).length) (by simp) ⟨[],l++b,.nil,rfl,by simp,by simp,rfl,rfl,.inl ⟨rfl,rfl,rfl⟩⟩ ?_ ?_ rfl rfl rfl rfl rfl
  ·exact .cons rfl (.cons rfl .nil)
  ·rw[hfl];rfl
end Go.Proofs.YthdgejfglbjogaaGreatDoor
end

/- The reader of items: what is needed, heads, the end, pieces. -/
import Derived.Test.YtakblclkflnnpaaGreatDoorK10
import Derived.Test.YtakblclkflnnpaaGreatDoorK15
import Derived.Test.YtakblclkflnnpaaGreatDoorK12
import Derived.Test.YtakblclkflnnpaaGreatDoorK09
set_option linter.unusedVariables false
set_option linter.unusedSimpArgs false
section
open Go.RowKit Go.Pl Go.Av
namespace Go.Proofs.YtakblclkflnnpaaGreatDoor
set_option maxHeartbeats 4000000
abbrev Zdz (e:Nat):D:=.iface 235 (.agg [.int .i64 (e:Int)])
abbrev rdC (b:List UInt8)(p m:Nat):List D:=[byE b,.int .i64 (p:Int),.int .i64 (m:Int)]
theorem ZaW [Known](e:Int):AP Tryz.prog 186 [.bool true,.int .i64 e] (.tup []) []:=by
 refine AP.ofA ?_
 refine Zan Tryz.func186 rfl Tryz.ntmps186 rfl rfl ?_
 repeat'(first|(apply Zah Zab;exact Z)|(apply Zaf;exact Z;(first|with_reducible assumption|(solve|simp only[bn]))))
 all_goals(apply Zqb [];exact ResL.nil;(iterate 4 exact Z))
 all_goals rfl
theorem ZcH [Known](e:Nat):AX Tryz.prog 186 [.bool false,.int .i64 (e:Int)] [] (Zdz e):=by
 refine Zan Tryz.func186 rfl Tryz.ntmps186 rfl rfl ?_
 repeat'(first|(apply Zah Zab;exact Z)|(apply Zla;exact Z;exact Z)|(apply Zac;exact Z;(first|with_reducible assumption|(solve|simp only[bn])))|(apply Zhh Zab;(iterate 4 exact Z)))
 all_goals exact⟨[],[],ZaA _,ZaA _,fun i h=>by simp at h,fun i h=>by simp at h,rfl,Nat.zero_le _⟩
theorem Zit {s:List UInt8}{e:Nat}(h:rdS s=.error e):e=8\/e=3:=by
 cases s with
 | nil=>simp[rdS]at h;exact .inl h.symm
 | cons c t=>
  simp only[rdS]at h
  split at h
  ·cases h
  split at h
  ·cases h
  split at h
  ·injection h with h;exact .inr h.symm
  split at h
  ·injection h with h;exact .inl h.symm
  ·cases h
theorem ZfG (b:List UInt8)(p:Nat)(hp:p<=b.length):Ze2 b (p:Int)=match rdS (b.drop p) with
  | .error e=>((0,0,false),0,e)
  | .ok (h,r)=>(h,b.length-r.length,0):=by
 have h:=ZfC b p hp
 rw[Ze2,if_neg (by omega),Int.toNat_natCast]
 exact h
theorem Zjt [Known](b:List UInt8)(p m:Nat)(hb:b.length<=1099511627776)(hp:p<=b.length):AR Tryz.prog 185 [.ptr 0 0] [rdC b p m] (match rdS (b.drop p) with
  | .error e=>.error (Zdz e)
  | .ok (h,r)=>.ok (hd h,[rdC b (b.length-r.length) m])):=by
 have hR:=Zou b (p:Int) (by omega)
 rw[ZfG b p hp]at hR
 cases hr:rdS (b.drop p) with
 | error e=>
  rw[hr]at hR
  dsimp only at hR ⊢
  have he:((e:Int)==0)=false:=by rcases Zit hr with rfl|rfl<;>rfl
  refine Zan Tryz.func185 rfl Tryz.ntmps185 rfl rfl ?_
  repeat'(first|(apply Zaa (hR);kernel_rfl;(iterate 4 exact Z))|rw[he]|(apply Zbb [] (ZcH e);kernel_rfl;(iterate 6 exact Z);intro bx2 fr2 hle2)|(apply Zaj Zab;exact Z)|(apply Zah Zab;exact Z)|(apply Zav Zab;exact Z)|(apply Zao 16 ZaL;decide +kernel;kernel_rfl;kernel_rfl;kernel_rfl;exact Z;exact Z)|(apply Zaq;(iterate 4 exact Z))|exact AE.nil _ _ _ _|(apply Zat;exact Z)|(apply Za6;exact Z)|(apply Zi9;exact Z)|(apply Zay;exact Z;exact Z;decide +kernel;exact Z)|(apply Zaz;exact Z)|(apply Zbp;exact Z)|(apply ZmH;exact Z)|exact AO.nil _ _ _|(apply Zap;(decide +kernel))|(apply ZaV;(iterate 3 exact Z))|exact AOs.nil|exact ZaH rfl rfl|exact Zip rfl|exact Zb0 rfl rfl)
  all_goals first|(apply Ze9;exact Z;(first|exact Nat.zero_le _|exact Nat.le_trans (Nat.le_of_ble_eq_true rfl) (by assumption));exact Z)
 | ok y=>
  obtain⟨h,r⟩:=y
  rw[hr]at hR
  dsimp only at hR ⊢
  refine Zan Tryz.func185 rfl Tryz.ntmps185 rfl rfl ?_
  repeat'(first|(apply Zaa (hR);kernel_rfl;(iterate 4 exact Z))|(apply Zaa (ZaW 0);kernel_rfl;(iterate 4 exact Z))|(apply Zaj Zab;exact Z)|(apply Zah Zab;exact Z)|(apply Zao 16 ZaL;decide +kernel;kernel_rfl;kernel_rfl;kernel_rfl;exact Z;exact Z)|(apply Zaq;(iterate 4 exact Z))|exact AE.nil _ _ _ _|(apply Zat;exact Z)|(apply Za6;exact Z)|(apply Zfz;exact Z)|(apply Zay;exact Z;exact Z;decide +kernel;exact Z)|(apply Zaz;exact Z)|(apply Zbp;exact Z)|(apply Zio;exact Z)|exact AO.nil _ _ _|(apply Zap;(decide +kernel))|(apply ZaV;(iterate 3 exact Z))|exact AOs.nil|exact ZaH rfl rfl|exact Zb0 rfl rfl|exact Zgf rfl)
  all_goals first|(apply Zja (rfl) [0];(apply Zad Zab;exact Z);(iterate 4 exact Z))
  all_goals rfl
theorem Zlo (c:UInt8):((c.toNat:Int)==255)=(c==255):=by
 rw[Bool.eq_iff_iff,beq_iff_eq,beq_iff_eq]
 constructor
 ·intro h
  have:c.toNat=(255:UInt8).toNat:=by show c.toNat=255;omega
  exact UInt8.toNat_inj.1 this
 ·rintro rfl;rfl
theorem Ziu {b:List UInt8}{p:Nat}(h:p<b.length):∃ c t,b.drop p=c::t/\(b.map E.byte)[((p:Nat):Int).toNat]?=some (E.byte c)/\t=b.drop (p+1):=by
 refine⟨b[p],b.drop (p+1),List.drop_eq_getElem_cons h,?_,rfl⟩
 rw[Int.toNat_natCast,List.getElem?_map,List.getElem?_eq_getElem h];rfl
theorem Zlp [Known](b:List UInt8)(p m:Nat)(hb:b.length<=1099511627776)(hp:p<=b.length):AQ Tryz.prog 202 [.ptr 0 0] [rdC b p m] (.bool (Zgj (b.drop p))) [rdC b (if Zgj (b.drop p)=true then p+1 else p) m]:=by
 have hU:=Zbm b
 rcases Nat.lt_or_ge p b.length with hlt|hge
 ·obtain⟨c,t,hd,hv,_⟩:=Ziu hlt
  have d1:decide ((p:Int)<((b.map E.byte).length:Int))=true:=by simp;omega
  have e1:IntKind.i64.wrap ((p:Int)+1)=((p+1:Nat):Int):=by rw[IntWalk.i64_in _ (by omega)];omega
  have e2:=Zlo c
  rw[hd]
  cases hc:c==255 with
  | true=>
   rw[hc]at e2
   have he:Zgj (c::t)=true:=hc
   rw[he,if_pos rfl]
   refine AQ.weak ?_
   refine Zan Tryz.func202 rfl Tryz.ntmps202 rfl rfl ?_
   repeat'(first|rw[e1]|rw[e2]|(apply Zaj Zab;exact Z)|(apply Zah Zab;exact Z)|(apply Zav Zab;exact Z)|(apply Zae;(iterate 3 exact Z);exact Go.ZrJ)|(apply Zak;exact Z;exact Go.ZrJ;exact Z;exact Z)|(apply Zac;exact Z;exact Go.ZrJ)|(apply Zam Zab;(iterate 4 exact Z))|(apply Zao 19 ZaL;decide +kernel;kernel_rfl;kernel_rfl;kernel_rfl;exact Z;exact Z)|(apply Zaq;(iterate 4 exact Z))|exact AE.nil _ _ _ _|(apply Zat;exact Z)|(apply Zay;exact Z;exact Z;decide +kernel;exact Z)|(apply Zaz;exact Z)|exact AO.nil _ _ _|(apply Zap;(decide +kernel))|exact AOs.nil|exact ZaH rfl rfl|(apply Zau Zab;(iterate 6 exact Z);(first|exact Go.ZrJ|rotate_left);(first|with_reducible assumption|decide +kernel|exact Z);(first|exact Zai rfl|with_reducible assumption|decide +kernel|rotate_left)))
   all_goals(apply Zaw [0];(apply Zad Zab;exact Z);(iterate 4 exact Z))
   all_goals rfl
  | false=>
   rw[hc]at e2
   have he:Zgj (c::t)=false:=hc
   rw[he,if_neg (by simp)]
   refine AQ.weak ?_
   refine Zan Tryz.func202 rfl Tryz.ntmps202 rfl rfl ?_
   repeat'(first|rw[e2]|(apply Zaj Zab;exact Z)|(apply Zah Zab;exact Z)|(apply Zav Zab;exact Z)|refine Zbq ?_|(apply Zae;(iterate 3 exact Z);exact Go.ZrJ)|(apply Zak;exact Z;exact Go.ZrJ;exact Z;exact Z)|(apply Zaf;exact Z;exact Go.ZrJ)|(apply Zam Zab;(iterate 4 exact Z))|(apply Zao 19 ZaL;decide +kernel;kernel_rfl;kernel_rfl;kernel_rfl;exact Z;exact Z)|(apply Zaq;(iterate 4 exact Z))|exact AE.nil _ _ _ _|(apply Zat;exact Z)|(apply Zay;exact Z;exact Z;decide +kernel;exact Z)|(apply Zaz;exact Z)|exact AO.nil _ _ _|(apply Zap;(decide +kernel))|exact AOs.nil|exact ZaH rfl rfl|(apply Zau Zab;(iterate 6 exact Z);(first|exact Go.ZrJ|rotate_left);(first|with_reducible assumption|decide +kernel|exact Z);(first|exact Zai rfl|with_reducible assumption|decide +kernel|rotate_left)))
   all_goals(apply Zaw [0];(apply Zad Zab;exact Z);(iterate 4 exact Z))
   all_goals rfl
 ·have d1:decide ((p:Int)<((b.map E.byte).length:Int))=false:=by simp;omega
  have hd:b.drop p=[]:=List.drop_eq_nil_of_le hge
  rw[hd,if_neg (by simp[Zgj])]
  refine AQ.weak ?_
  refine Zan Tryz.func202 rfl Tryz.ntmps202 rfl rfl ?_
  repeat'(first|(apply Zaj Zab;exact Z)|(apply Zah Zab;exact Z)|(apply Zav Zab;exact Z)|refine Zbq ?_|(apply Zas;(iterate 3 exact Z);exact Go.ZrJ)|(apply Zag;exact Z;exact Go.ZrJ;exact Z;exact Z)|(apply Zaf;exact Z;exact Go.ZrJ)|(apply Zam Zab;(iterate 4 exact Z))|(apply Zao 19 ZaL;decide +kernel;kernel_rfl;kernel_rfl;kernel_rfl;exact Z;exact Z)|(apply Zaq;(iterate 4 exact Z))|exact AE.nil _ _ _ _|(apply Zat;exact Z)|(apply Zay;exact Z;exact Z;decide +kernel;exact Z)|(apply Zaz;exact Z)|exact AO.nil _ _ _|(apply Zap;(decide +kernel))|exact AOs.nil|exact ZaH rfl rfl)
  all_goals(apply Zaw [0];(apply Zad Zab;exact Z);(iterate 4 exact Z))
  all_goals rfl
theorem Zju [Known][KnownU8](h:Hd)(b:List UInt8)(p m:Nat)(hb:b.length<=1099511627776)(hp:p<=b.length)(hn:h.2.1<18446744073709551616):AR Tryz.prog 203 [.ptr 0 0,hd h] [rdC b p m] (match ZbW h (b.drop p) with
  | .error e=>.error (Zdz e)
  | .ok (c,r)=>.ok (byE c,[rdC b (b.length-r.length) m])):=by
 obtain⟨k,n,o⟩:=h
 dsimp only at hn
 show AR Tryz.prog _ [.ptr 0 0,.agg [.int .i64 k,.int .u64 (n:Int),.bool o]] _ _
 have e1:IntKind.i64.wrap (((b.map E.byte).length:Int)-(p:Int))=((b.length-p:Nat):Int):=by rw[List.length_map,IntWalk.i64_in _ (by omega)];omega
 have e2:IntKind.u64.wrap ((b.length-p:Nat):Int)=((b.length-p:Nat):Int):=by rw[IntKind.wrap_u64];omega
 unfold ZbW
 dsimp only
 have hl:(b.drop p).length=b.length-p:=List.length_drop ..
 rw[hl]
 by_cases hle:n<=b.length-p
 ·rw[if_pos hle]
  have d1:decide ((n:Int)<=((b.length-p:Nat):Int))=true:=by simp;omega
  have e3:IntKind.i64.wrap (n:Int)=(n:Int):=IntWalk.i64_in _ (by omega)
  have e4:IntKind.i64.wrap ((p:Int)+(n:Int))=((p+n:Nat):Int):=by rw[IntWalk.i64_in _ (by omega)];omega
  have hs:(b.take (((p+n:Nat):Int)).toNat).drop ((p:Nat):Int).toNat=(b.drop p).take n:=by
   rw[Int.toNat_natCast,Int.toNat_natCast,List.drop_take];congr 1;omega
  have hij:((p:Nat):Int)<=((p+n:Nat):Int):=by omega
  have hj:(((p+n:Nat):Int)).toNat<=b.length:=by omega
  have hcl:((b.drop p).take n).length<=140737488351232:=by rw[List.length_take,hl];omega
  have hU:=Zbm b
  have c1:=Zei _ hcl
  have c2:=Zjp _ hcl
  have eR:b.length-((b.drop p).drop n).length=p+n:=by rw[List.length_drop,hl];omega
  by_cases h3:k=3
  ·subst h3
   cases hv:ZaF ((b.drop p).take n) with
   | true=>
    rw[hv]at c2
    rw[if_neg (by simp)]
    dsimp only
    rw[eR]
    refine Zan Tryz.func203 rfl Tryz.ntmps203 rfl rfl ?_
    repeat'(first|rw[d1]|rw[e1]|rw[e2]|rw[e3]|rw[e4]|(apply Zaa (ZaW 8);kernel_rfl;(iterate 4 exact Z))|(apply Zaa (ZaW 3);kernel_rfl;(iterate 4 exact Z))|(apply Zaa (c1);kernel_rfl;(iterate 4 exact Z))|(apply Zaa (c2);kernel_rfl;(iterate 4 exact Z))|(apply Zey Zab;(iterate 9 exact Z);exact Go.ZrK;(first|with_reducible assumption|decide|(simp only[List.length_cons,List.length_drop,List.length_take,List.length_append,Int.toNat_natCast]at *;omega));(first|with_reducible assumption|decide|(simp only[List.length_cons,List.length_drop,List.length_take,List.length_append,Int.toNat_natCast]at *;omega));(first|with_reducible assumption|exact Z))|(apply Zaj Zab;exact Z)|(apply Zah Zab;exact Z)|refine Zbq ?_|(apply Zae;(iterate 3 exact Z);exact Go.ZrJ)|(apply Zag;exact Z;exact Go.ZrJ;exact Z;exact Z)|(apply Zam Zab;(iterate 4 exact Z))|(apply Zao 7 ZaL;decide +kernel;kernel_rfl;kernel_rfl;kernel_rfl;exact Z;exact Z)|(apply Zao 13 ZaL;decide +kernel;kernel_rfl;kernel_rfl;kernel_rfl;exact Z;exact Z)|(apply Zao 16 ZaL;decide +kernel;kernel_rfl;kernel_rfl;kernel_rfl;exact Z;exact Z)|(apply Zaq;(iterate 4 exact Z))|exact AE.nil _ _ _ _|(apply Zat;exact Z)|(apply Zay;exact Z;exact Z;decide +kernel;exact Z)|(apply Zaz;exact Z)|exact AO.nil _ _ _|(apply Zap;(decide +kernel))|exact AOs.nil|exact ZaH rfl rfl)
    all_goals(apply Zja (rfl) [0];(apply Zad Zab;exact Z);(iterate 4 exact Z))
    all_goals rfl
   | false=>
    rw[hv]at c2
    rw[if_pos ⟨rfl,rfl⟩]
    dsimp only
    refine Zan Tryz.func203 rfl Tryz.ntmps203 rfl rfl ?_
    repeat'(first|rw[d1]|rw[e1]|rw[e2]|rw[e3]|rw[e4]|(apply Zaa (ZaW 8);kernel_rfl;(iterate 4 exact Z))|(apply Zbb [] (ZcH 3);kernel_rfl;(iterate 6 exact Z);intro bx2 fr2 hle2)|(apply Zaa (c1);kernel_rfl;(iterate 4 exact Z))|(apply Zaa (c2);kernel_rfl;(iterate 4 exact Z))|(apply Zey Zab;(iterate 9 exact Z);exact Go.ZrK;(first|with_reducible assumption|decide|(simp only[List.length_cons,List.length_drop,List.length_take,List.length_append,Int.toNat_natCast]at *;omega));(first|with_reducible assumption|decide|(simp only[List.length_cons,List.length_drop,List.length_take,List.length_append,Int.toNat_natCast]at *;omega));(first|with_reducible assumption|exact Z))|(apply Zaj Zab;exact Z)|(apply Zah Zab;exact Z)|(apply Zav Zab;exact Z)|refine Zbq ?_|(apply Zae;(iterate 3 exact Z);exact Go.ZrJ)|(apply Zag;exact Z;exact Go.ZrJ;exact Z;exact Z)|(apply Zam Zab;(iterate 4 exact Z))|(apply Zao 13 ZaL;decide +kernel;kernel_rfl;kernel_rfl;kernel_rfl;exact Z;exact Z)|(apply Zao 16 ZaL;decide +kernel;kernel_rfl;kernel_rfl;kernel_rfl;exact Z;exact Z)|(apply Zaq;(iterate 4 exact Z))|exact AE.nil _ _ _ _|(apply Zat;exact Z)|(apply Zay;exact Z;exact Z;decide +kernel;exact Z)|(apply Zaz;exact Z)|exact AO.nil _ _ _|(apply Zap;(decide +kernel))|exact AOs.nil|exact ZaH rfl rfl)
    all_goals(apply Ze9;exact Z;(first|exact Nat.zero_le _|exact Nat.le_trans (Nat.le_of_ble_eq_true rfl) (by assumption));exact Z)
  ·have k3:(k != 3)=true:=by simpa using h3
   rw[if_neg (by rintro⟨h,_⟩;exact h3 h)]
   dsimp only
   rw[eR]
   refine Zan Tryz.func203 rfl Tryz.ntmps203 rfl rfl ?_
   repeat'(first|rw[d1]|rw[e1]|rw[e2]|rw[e3]|rw[e4]|(apply Zaa (ZaW 8);kernel_rfl;(iterate 4 exact Z))|(apply Zaa (ZaW 3);kernel_rfl;(iterate 4 exact Z))|(apply Zaa (c1);kernel_rfl;(iterate 4 exact Z))|(apply Zey Zab;(iterate 9 exact Z);exact Go.ZrK;(first|with_reducible assumption|decide|(simp only[List.length_cons,List.length_drop,List.length_take,List.length_append,Int.toNat_natCast]at *;omega));(first|with_reducible assumption|decide|(simp only[List.length_cons,List.length_drop,List.length_take,List.length_append,Int.toNat_natCast]at *;omega));(first|with_reducible assumption|exact Z))|(apply Zaj Zab;exact Z)|(apply Zah Zab;exact Z)|refine Zbq ?_|(apply Zal;(iterate 3 exact Z);exact Go.ZrJ)|(apply Zak;exact Z;exact Go.ZrJ;exact Z;exact Z)|(apply Zam Zab;(iterate 4 exact Z))|(apply Zao 7 ZaL;decide +kernel;kernel_rfl;kernel_rfl;kernel_rfl;exact Z;exact Z)|(apply Zao 13 ZaL;decide +kernel;kernel_rfl;kernel_rfl;kernel_rfl;exact Z;exact Z)|(apply Zao 16 ZaL;decide +kernel;kernel_rfl;kernel_rfl;kernel_rfl;exact Z;exact Z)|(apply Zaq;(iterate 4 exact Z))|exact AE.nil _ _ _ _|(apply Zat;exact Z)|(apply Zay;exact Z;exact Z;decide +kernel;exact Z)|(apply Zaz;exact Z)|exact AO.nil _ _ _|(apply Zap;(decide +kernel))|exact AOs.nil|exact ZaH rfl rfl)
   all_goals(apply Zja (rfl) [0];(apply Zad Zab;exact Z);(iterate 4 exact Z))
   all_goals rfl
 ·rw[if_neg hle]
  dsimp only
  have d1:decide ((n:Int)<=((b.length-p:Nat):Int))=false:=by simp;omega
  refine Zan Tryz.func203 rfl Tryz.ntmps203 rfl rfl ?_
  repeat'(first|rw[d1]|rw[e1]|rw[e2]|(apply Zbb [] (ZcH 8);kernel_rfl;(iterate 6 exact Z);intro bx2 fr2 hle2)|(apply Zaj Zab;exact Z)|(apply Zah Zab;exact Z)|(apply Zav Zab;exact Z)|(apply Zam Zab;(iterate 4 exact Z))|(apply Zao 13 ZaL;decide +kernel;kernel_rfl;kernel_rfl;kernel_rfl;exact Z;exact Z)|(apply Zaq;(iterate 4 exact Z))|exact AE.nil _ _ _ _|(apply Zat;exact Z)|(apply Zay;exact Z;exact Z;decide +kernel;exact Z)|(apply Zaz;exact Z)|exact AO.nil _ _ _|(apply Zap;(decide +kernel))|exact AOs.nil|exact ZaH rfl rfl)
  all_goals(apply Ze9;exact Z;(first|exact Nat.zero_le _|exact Nat.le_trans (Nat.le_of_ble_eq_true rfl) (by assumption));exact Z)
theorem ZbN {b pre r:List UInt8}{p:Nat}(hp:p<=b.length)(h:b.drop p=pre++r):b.drop (b.length-r.length)=r/\b.length-r.length<=b.length/\p+pre.length=b.length-r.length:=by
 have hl:=congrArg List.length h
 rw[List.length_drop,List.length_append]at hl
 have e:b.length-r.length=p+pre.length:=by omega
 refine⟨?_,by omega,e.symm⟩
 rw[e,<- List.drop_drop,h,List.drop_left]
theorem Zkk {h:Hd}{s:List UInt8}{e:Nat}(x:ZbW h s=.error e):e=8\/e=3:=by
 unfold ZbW at x
 split at x
 ·split at x
  ·injection x with x;exact .inr x.symm
  ·cases x
 ·injection x with x;exact .inl x.symm
abbrev txB (b:List UInt8)(p m:Nat)(k:Int)(n:Nat)(tk:Tok)(acc:List E):List (List D):=[rdC b p m,[.int .i64 k,.int .u64 (n:Int),.bool true],[.int .i64 0,.int .u64 0,.sl .nil [],.sl .nil []],[.int .i64 k,.int .u64 0,.sl tk acc,.sl .nil []]]
theorem Zhv [Known][KnownU8](h:Hd)(b:List UInt8)(p m:Nat)(hb:b.length<=1099511627776)(hp:p<=b.length)(hn:h.2.1<18446744073709551616):AR Tryz.prog 188 [.ptr 0 0,hd h] [rdC b p m] (match ZgM h (b.drop p) with
  | .error e=>.error (Zdz e)
  | .ok (c,r)=>.ok (itD (.mk h.1 0 c []),[rdC b (b.length-r.length) m])):=by
 obtain⟨k,n,o⟩:=h
 dsimp only at hn
 show AR Tryz.prog _ [.ptr 0 0,.agg [.int .i64 k,.int .u64 (n:Int),.bool o]] _ _
 cases o with
 | false=>
  have hpc:=Zju (k,n,false) b p m hb hp hn
  unfold ZgM
  dsimp only at hpc ⊢
  cases hc:ZbW (k,n,false) (b.drop p) with
  | error e=>
   rw[hc]at hpc
   refine Zan Tryz.func188 rfl Tryz.ntmps188 rfl rfl ?_
   repeat'(first|(apply Zbb [0] (hpc.x rfl);kernel_rfl;(iterate 6 exact Z);intro bx2 fr2 hle2)|(apply Zah Zab;exact Z)|(apply Zav Zab;exact Z)|(apply Zac;exact Z;exact Go.ZrJ))
   all_goals(apply Ze9;exact Z;(first|exact Nat.zero_le _|exact Nat.le_trans (Nat.le_of_ble_eq_true rfl) (by assumption));exact Z)
  | ok y=>
   obtain⟨c,r⟩:=y
   rw[hc]at hpc
   refine Zan Tryz.func188 rfl Tryz.ntmps188 rfl rfl ?_
   repeat'(first|(apply ZaB [0] (hpc.q rfl);kernel_rfl;(iterate 7 exact Z))|(apply Zaj Zab;exact Z)|(apply Zah Zab;exact Z)|(apply Zav Zab;exact Z)|refine Zbq ?_|(apply Zac;exact Z;exact Go.ZrJ))
   all_goals(apply Zja (rfl) [0];(apply Zad Zab;exact Z);(iterate 4 exact Z))
   all_goals rfl
 | true=>
  unfold ZgM
  dsimp only
  generalize ho:Zjg k ((b.drop p).length+1) [] (b.drop p)=o
  refine Zan Tryz.func188 rfl Tryz.ntmps188 rfl rfl ?_
  repeat'(first|(apply Zah Zab;exact Z)|(apply Zaf;exact Z;exact Go.ZrJ))
  refine ZaE (fun f tm bx fr=>∃(acc:List UInt8) (p' c:Nat) (L:List E),p'<=b.length/\c=L.length/\L=acc.map E.byte/\acc.length+(b.length-p')<=b.length/\(b.drop p').length<f/\Zjg k f acc (b.drop p')=o/\tm=[(0,.ptr 0 0),(3,.ptr 1 0),(4,.ptr 2 0),(5,.ptr 3 0)] /\
   ((acc=[]/\bx=txB b p' m k n .nil []/\fr=[])\/(bx=txB b p' m k n (.own 0) L/\fr=[⟨c,1,5⟩]))) ((b.drop p).length+2) (Lands.mk' (m:=(b.drop p).length+1) (Nat.lt_succ_self _) ⟨[],p,0,[],hp,rfl,rfl,by simp,by omega,ho,rfl,.inl ⟨rfl,rfl,rfl⟩⟩ ?_ rfl rfl rfl rfl rfl rfl) ?_
  ·exact .cons rfl (.cons rfl (.cons rfl (.cons rfl .nil)))
  rintro f tm bx fr ⟨acc,p',c,L,hp',hc,hL,hsum,hf,hS,rfl,hst⟩
  obtain⟨f,rfl⟩:∃ g,f=g+1:=⟨f-1,by omega⟩
  have hends:=Zlp b p' m hb hp'
  rw[Zjg]at hS
  have hlp:(b.drop p').length=b.length-p':=List.length_drop ..
  cases he:Zgj (b.drop p') with
  | true=>
   rw[he]at hS hends
   dsimp only at hS
   rw[if_pos rfl]at hends
   subst hS
   dsimp only
   obtain⟨x,hx⟩:=ZcG _ he
   obtain⟨q1,q2,q3⟩:=ZbN (pre:=[x]) hp' hx
   have q3:b.length-(b.drop p').tail.length=p'+1:=q3.symm
   rw[q3]
   subst hL
   rcases hst with⟨rfl,rfl,rfl⟩ | ⟨rfl,rfl⟩
   ·repeat'(first|(apply ZaB [0] (hends);kernel_rfl;(iterate 7 exact Z))|(apply Zaj Zab;exact Z)|(apply Zah Zab;exact Z)|(apply Zav Zab;exact Z)|refine Zbq ?_|(apply Zaf;exact Z;exact Go.ZrJ))
    all_goals(apply Zja (rfl) [0];(apply Zad Zab;exact Z);(iterate 4 exact Z))
    all_goals rfl
   ·repeat'(first|(apply ZaB [0] (hends);kernel_rfl;(iterate 7 exact Z))|(apply Zaj Zab;exact Z)|(apply Zah Zab;exact Z)|(apply Zav Zab;exact Z)|refine Zbq ?_|(apply Zaf;exact Z;exact Go.ZrJ))
    all_goals(apply Zja (rfl) [0];(apply Zad Zab;exact Z);(iterate 4 exact Z))
    all_goals rfl
  | false=>
   rw[he]at hS hends
   dsimp only at hS
   rw[if_neg (by simp)]at hends
   have hhd:=Zjt b p' m hb hp'
   cases hr:rdS (b.drop p') with
   | error e=>
    rw[hr]at hS hhd
    dsimp only at hS hhd
    subst hS
    dsimp only
    rcases hst with⟨rfl,rfl,rfl⟩ | ⟨rfl,rfl⟩
    ·repeat'(first|(apply ZaB [0] (hends);kernel_rfl;(iterate 7 exact Z))|(apply Zbb [0] (hhd.x rfl);kernel_rfl;(iterate 6 exact Z);intro bx2 fr2 hle2)|(apply Zaj Zab;exact Z)|(apply Zah Zab;exact Z)|(apply Zav Zab;exact Z)|refine Zbq ?_|(apply Zac;exact Z;exact Go.ZrJ))
     all_goals(apply Ze9;exact Z;(first|exact Nat.zero_le _|exact Nat.le_trans (Nat.le_of_ble_eq_true rfl) (by assumption));exact Z)
    ·repeat'(first|(apply ZaB [0] (hends);kernel_rfl;(iterate 7 exact Z))|(apply Zbb [0] (hhd.x rfl);kernel_rfl;(iterate 6 exact Z);intro bx2 fr2 hle2)|(apply Zaj Zab;exact Z)|(apply Zah Zab;exact Z)|(apply Zav Zab;exact Z)|refine Zbq ?_|(apply Zac;exact Z;exact Go.ZrJ))
     all_goals(apply Ze9;exact Z;(first|exact Nat.zero_le _|exact Nat.le_trans (Nat.le_of_ble_eq_true rfl) (by assumption));exact Z)
   | ok y=>
    obtain⟨⟨k1,n1,o1⟩,r⟩:=y
    rw[hr]at hS hhd
    dsimp only at hS hhd
    obtain⟨_,hn1,pre,hpre,_,hpos⟩:=Zgm hr
    obtain⟨q1,q2,q3⟩:=ZbN hp' hpre
    generalize hp2:b.length-r.length=p2 at q1 q2 q3 hhd
    by_cases hcond:k1=k/\o1=false
    ·rw[if_pos hcond]at hS
     obtain⟨rfl,rfl⟩:=hcond
     have tk:(k1==k1)=true:=beq_self_eq_true k1
     have hpc:=Zju (k1,n1,false) b p2 m hb q2 hn1
     rw[q1]at hpc
     cases hc1:ZbW (k1,n1,false) r with
     | error e=>
      rw[hc1]at hS hpc
      dsimp only at hS hpc
      subst hS
      dsimp only
      rcases hst with⟨rfl,rfl,rfl⟩ | ⟨rfl,rfl⟩
      ·repeat'(first|(apply ZaB [0] (hends);kernel_rfl;(iterate 7 exact Z))|(apply ZaB [0] (hhd.q rfl);kernel_rfl;(iterate 7 exact Z))|(apply Zaa (ZaW 3);kernel_rfl;(iterate 4 exact Z))|(apply Zbb [0] (hpc.x rfl);kernel_rfl;(iterate 6 exact Z);intro bx2 fr2 hle2)|(apply ZdM 7 4 ZaL;decide +kernel;kernel_rfl;decide +kernel;exact Z;exact Z)|exact ADX.nil _ _|(apply ZdN;decide +kernel;exact Z)|(apply Zez;(iterate 3 exact Z))|(apply Zgh;(iterate 4 exact Z))|exact Zgg rfl (by assumption)|intro tm2 bx2 fr2 hle2|(apply Zaj Zab;exact Z)|(apply Zah Zab;exact Z)|(apply Zav Zab;exact Z)|refine Zbq ?_|(apply Zae;(iterate 3 exact Z);exact Go.ZrJ)|(apply Zak;exact Z;exact Go.ZrJ;exact Z;exact Z)|(apply Zac;exact Z;exact Go.ZrJ)|exact ZbC rfl)
       all_goals(apply Ze9;exact Z;(first|exact Nat.zero_le _|exact Nat.le_trans (Nat.le_of_ble_eq_true rfl) (by assumption));exact Z)
      ·repeat'(first|(apply ZaB [0] (hends);kernel_rfl;(iterate 7 exact Z))|(apply ZaB [0] (hhd.q rfl);kernel_rfl;(iterate 7 exact Z))|(apply Zaa (ZaW 3);kernel_rfl;(iterate 4 exact Z))|(apply Zbb [0] (hpc.x rfl);kernel_rfl;(iterate 6 exact Z);intro bx2 fr2 hle2)|(apply ZdM 7 4 ZaL;decide +kernel;kernel_rfl;decide +kernel;exact Z;exact Z)|exact ADX.nil _ _|(apply ZdN;decide +kernel;exact Z)|(apply Zez;(iterate 3 exact Z))|(apply Zgh;(iterate 4 exact Z))|exact Zgg rfl (by assumption)|intro tm2 bx2 fr2 hle2|(apply Zaj Zab;exact Z)|(apply Zah Zab;exact Z)|(apply Zav Zab;exact Z)|refine Zbq ?_|(apply Zae;(iterate 3 exact Z);exact Go.ZrJ)|(apply Zak;exact Z;exact Go.ZrJ;exact Z;exact Z)|(apply Zac;exact Z;exact Go.ZrJ)|exact ZbC rfl)
       all_goals(apply Ze9;exact Z;(first|exact Nat.zero_le _|exact Nat.le_trans (Nat.le_of_ble_eq_true rfl) (by assumption));exact Z)
     | ok y=>
      obtain⟨c1,r2⟩:=y
      rw[hc1]at hS hpc
      dsimp only at hS hpc
      obtain⟨w1,w2,w3⟩:=Zef hc1
      obtain⟨z1,z2,z3⟩:=ZbN q2 (q1.trans w1)
      generalize hp3:b.length-r2.length=p3 at z1 z2 z3 hpc
      have hpl:=congrArg List.length hpre
      have hrl:=congrArg List.length w1
      have hdl:(b.drop p3).length=r2.length:=by rw[z1]
      rw[List.length_append]at hpl hrl
      rw[<- z1]at hS
      rw[List.length_drop]at hdl
      have hf3:(b.drop p3).length<f:=by rw[List.length_drop];omega
      have hsum3:(acc++c1).length+(b.length-p3)<=b.length:=by rw[List.length_append];omega
      cases c1 with
      | nil=>
       rw[List.append_nil]at hS hsum3
       rcases hst with⟨rfl,rfl,rfl⟩ | ⟨rfl,rfl⟩
       ·repeat'(first|(apply ZaB [0] (hends);kernel_rfl;(iterate 7 exact Z))|(apply ZaB [0] (hhd.q rfl);kernel_rfl;(iterate 7 exact Z))|(apply Zaa (ZaW 3);kernel_rfl;(iterate 4 exact Z))|(apply ZaB [0] (hpc.q rfl);kernel_rfl;(iterate 7 exact Z))|(apply Zaj Zab;exact Z)|(apply Zah Zab;exact Z)|(apply Zav Zab;exact Z)|refine Zbq ?_|(apply Zae;(iterate 3 exact Z);exact Go.ZrJ)|(apply Zak;exact Z;exact Go.ZrJ;exact Z;exact Z)|(apply Zac;exact Z;exact Go.ZrJ)|refine Zbi ?_|(apply Zao 5 ZaL;decide +kernel;kernel_rfl;kernel_rfl;kernel_rfl;exact Z;exact Z)|(apply Zaq;(iterate 4 exact Z))|exact AE.nil _ _ _ _|(apply Zat;exact Z)|(apply Za6;exact Z)|(apply Zay;exact Z;exact Z;decide +kernel;exact Z)|(apply Zaz;exact Z)|(apply Zbp;exact Z)|exact AO.nil _ _ _|(apply Zap;(decide +kernel))|(apply ZaV;(iterate 3 exact Z))|exact AOs.nil|exact ZaH rfl rfl|exact Zb0 rfl rfl|(apply ZaG Zab;(iterate 6 exact Z)))
        refine Lands.mk' (m:=f) (Nat.lt_succ_self _) ⟨[],p3,0,[],z2,rfl,rfl,hsum3,hf3,hS,rfl,.inl ⟨rfl,rfl,rfl⟩⟩ ?_ rfl rfl rfl rfl rfl rfl
        exact .cons rfl (.cons rfl (.cons rfl (.cons rfl .nil)))
       ·subst hc
        repeat'(first|(apply ZaB [0] (hends);kernel_rfl;(iterate 7 exact Z))|(apply ZaB [0] (hhd.q rfl);kernel_rfl;(iterate 7 exact Z))|(apply Zaa (ZaW 3);kernel_rfl;(iterate 4 exact Z))|(apply ZaB [0] (hpc.q rfl);kernel_rfl;(iterate 7 exact Z))|(apply Zaj Zab;exact Z)|(apply Zah Zab;exact Z)|(apply Zav Zab;exact Z)|refine Zbq ?_|(apply Zae;(iterate 3 exact Z);exact Go.ZrJ)|(apply Zak;exact Z;exact Go.ZrJ;exact Z;exact Z)|(apply Zac;exact Z;exact Go.ZrJ)|refine Zbi ?_|(apply Zao 5 ZaL;decide +kernel;kernel_rfl;kernel_rfl;kernel_rfl;exact Z;exact Z)|(apply Zaq;(iterate 4 exact Z))|exact AE.nil _ _ _ _|(apply Zat;exact Z)|(apply Za6;exact Z)|(apply Zay;exact Z;exact Z;decide +kernel;exact Z)|(apply Zaz;exact Z)|(apply Zbp;exact Z)|exact AO.nil _ _ _|(apply Zap;(decide +kernel))|(apply ZaV;(iterate 3 exact Z))|exact AOs.nil|exact ZaH rfl rfl|exact Zb0 rfl rfl|(apply ZaG Zab;(iterate 6 exact Z)))
        refine Lands.mk' (m:=f) (Nat.lt_succ_self _) ⟨acc,p3,_,L,z2,rfl,hL,hsum3,hf3,hS,rfl,.inr ⟨rfl,rfl⟩⟩ ?_ rfl rfl rfl rfl rfl rfl
        exact .cons rfl (.cons rfl (.cons rfl (.cons rfl .nil)))
      | cons x c1=>
       have hU1:=Zbm (x::c1)
       rcases hst with⟨rfl,rfl,rfl⟩ | ⟨rfl,rfl⟩
       ·repeat'(first|(apply ZaB [0] (hends);kernel_rfl;(iterate 7 exact Z))|(apply ZaB [0] (hhd.q rfl);kernel_rfl;(iterate 7 exact Z))|(apply Zaa (ZaW 3);kernel_rfl;(iterate 4 exact Z))|(apply ZaB [0] (hpc.q rfl);kernel_rfl;(iterate 7 exact Z))|(apply Zaj Zab;exact Z)|(apply Zah Zab;exact Z)|(apply Zav Zab;exact Z)|refine Zbq ?_|(apply Zae;(iterate 3 exact Z);exact Go.ZrJ)|(apply Zak;exact Z;exact Go.ZrJ;exact Z;exact Z)|(apply Zac;exact Z;exact Go.ZrJ)|refine Zbi ?_|(apply Zao 5 ZaL;decide +kernel;kernel_rfl;kernel_rfl;kernel_rfl;exact Z;exact Z)|(apply Zaq;(iterate 4 exact Z))|exact AE.nil _ _ _ _|(apply Zat;exact Z)|(apply Za6;exact Z)|(apply Zay;exact Z;exact Z;decide +kernel;exact Z)|(apply Zaz;exact Z)|(apply Zbp;exact Z)|exact AO.nil _ _ _|(apply Zap;(decide +kernel))|(apply ZaV;(iterate 3 exact Z))|exact AOs.nil|exact ZaH rfl rfl|exact Zb0 rfl rfl|(apply Za8 Zab;(iterate 6 exact Z);(first|exact Zai rfl|with_reducible assumption|decide +kernel|rotate_left);(first|exact Go.ZrJ|rotate_left);(first|exact Go.ZrJ|rotate_left);(first|exact Go.ZrJ|rotate_left);(iterate 3 exact Z)))
        ·refine Lands.mk' (m:=f) (Nat.lt_succ_self _) ⟨x::c1,p3,_,_,z2,rfl,rfl,hsum3,hf3,hS,rfl,.inr ⟨rfl,rfl⟩⟩ ?_ rfl rfl rfl rfl rfl rfl
         exact .cons rfl (.cons rfl (.cons rfl (.cons rfl .nil)))
        all_goals(first|rfl|(simp only[List.length_append,List.length_cons,List.length_nil,List.length_map,Zar];done)|(simp only[List.length_append,List.length_cons,List.length_nil,List.length_map,Zar]at *;(try unfold maxLen);(try simp only[Nat.add_mul]);omega))
       ·subst hc
        have hUa:Uni 1 L:=hL ▸ Zbm acc
        have hLl:L.length=acc.length:=by rw[hL,List.length_map]
        repeat'(first|(apply ZaB [0] (hends);kernel_rfl;(iterate 7 exact Z))|(apply ZaB [0] (hhd.q rfl);kernel_rfl;(iterate 7 exact Z))|(apply Zaa (ZaW 3);kernel_rfl;(iterate 4 exact Z))|(apply ZaB [0] (hpc.q rfl);kernel_rfl;(iterate 7 exact Z))|(apply Zaj Zab;exact Z)|(apply Zah Zab;exact Z)|(apply Zav Zab;exact Z)|refine Zbq ?_|(apply Zae;(iterate 3 exact Z);exact Go.ZrJ)|(apply Zak;exact Z;exact Go.ZrJ;exact Z;exact Z)|(apply Zac;exact Z;exact Go.ZrJ)|refine Zbi ?_|(apply Zao 5 ZaL;decide +kernel;kernel_rfl;kernel_rfl;kernel_rfl;exact Z;exact Z)|(apply Zaq;(iterate 4 exact Z))|exact AE.nil _ _ _ _|(apply Zat;exact Z)|(apply Za6;exact Z)|(apply Zay;exact Z;exact Z;decide +kernel;exact Z)|(apply Zaz;exact Z)|(apply Zbp;exact Z)|exact AO.nil _ _ _|(apply Zap;(decide +kernel))|(apply ZaV;(iterate 3 exact Z))|exact AOs.nil|exact ZaH rfl rfl|exact Zb0 rfl rfl|(apply ZaJ Zab;(iterate 6 exact Z);(first|with_reducible assumption|decide +kernel|exact Z|rotate_left);exact Z;exact Z;(first|exact Zai rfl|with_reducible assumption|decide +kernel|rotate_left);(first|exact Zai rfl|with_reducible assumption|decide +kernel|rotate_left);(first|exact Go.ZrJ|rotate_left);(first|exact Go.ZrJ|rotate_left);(first|exact Go.ZrJ|rotate_left);exact Z;exact Z))
        ·refine Lands.mk' (m:=f) (Nat.lt_succ_self _) ⟨acc++(x::c1),p3,L.length+((x::c1).map E.byte).length,L++(x::c1).map E.byte,z2,by rw[List.length_append],by rw[hL,List.map_append],hsum3,hf3,hS,rfl,.inr ⟨rfl,rfl⟩⟩ ?_ rfl rfl rfl rfl rfl rfl
         exact .cons rfl (.cons rfl (.cons rfl (.cons rfl .nil)))
        all_goals(first|rfl|(simp only[List.length_append,List.length_cons,List.length_nil,List.length_map,Zar];done)|(simp only[List.length_append,List.length_cons,List.length_nil,List.length_map,Zar]at *;(try unfold maxLen);(try simp only[Nat.add_mul]);omega))
    ·rw[if_neg hcond]at hS
     subst hS
     dsimp only
     cases o1 with
     | true=>
      rcases hst with⟨rfl,rfl,rfl⟩ | ⟨rfl,rfl⟩
      ·repeat'(first|(apply ZaB [0] (hends);kernel_rfl;(iterate 7 exact Z))|(apply ZaB [0] (hhd.q rfl);kernel_rfl;(iterate 7 exact Z))|(apply Zbb [] (ZcH 3);kernel_rfl;(iterate 6 exact Z);intro bx2 fr2 hle2)|(apply Zaj Zab;exact Z)|(apply Zah Zab;exact Z)|(apply Zav Zab;exact Z)|refine Zbq ?_|(apply Zae;(iterate 3 exact Z);exact Go.ZrJ)|(apply Zas;(iterate 3 exact Z);exact Go.ZrJ)|(apply Zbo;exact Z;exact Z;all_goals intro hb)|(apply Zak;exact Z;exact Go.ZrJ;exact Z;exact Z)|(apply Zag;exact Z;exact Go.ZrJ;exact Z;exact Z)|(apply Zac;exact Z;exact Go.ZrJ))
       all_goals(apply Ze9;exact Z;(first|exact Nat.zero_le _|exact Nat.le_trans (Nat.le_of_ble_eq_true rfl) (by assumption));exact Z)
      ·repeat'(first|(apply ZaB [0] (hends);kernel_rfl;(iterate 7 exact Z))|(apply ZaB [0] (hhd.q rfl);kernel_rfl;(iterate 7 exact Z))|(apply Zbb [] (ZcH 3);kernel_rfl;(iterate 6 exact Z);intro bx2 fr2 hle2)|(apply Zaj Zab;exact Z)|(apply Zah Zab;exact Z)|(apply Zav Zab;exact Z)|refine Zbq ?_|(apply Zae;(iterate 3 exact Z);exact Go.ZrJ)|(apply Zas;(iterate 3 exact Z);exact Go.ZrJ)|(apply Zbo;exact Z;exact Z;all_goals intro hb)|(apply Zak;exact Z;exact Go.ZrJ;exact Z;exact Z)|(apply Zag;exact Z;exact Go.ZrJ;exact Z;exact Z)|(apply Zac;exact Z;exact Go.ZrJ))
       all_goals(apply Ze9;exact Z;(first|exact Nat.zero_le _|exact Nat.le_trans (Nat.le_of_ble_eq_true rfl) (by assumption));exact Z)
     | false=>
      have tk:(k1==k)=false:=by simpa using fun h=>hcond ⟨h,rfl⟩
      rcases hst with⟨rfl,rfl,rfl⟩ | ⟨rfl,rfl⟩
      ·repeat'(first|(apply ZaB [0] (hends);kernel_rfl;(iterate 7 exact Z))|(apply ZaB [0] (hhd.q rfl);kernel_rfl;(iterate 7 exact Z))|(apply Zbb [] (ZcH 3);kernel_rfl;(iterate 6 exact Z);intro bx2 fr2 hle2)|(apply Zaj Zab;exact Z)|(apply Zah Zab;exact Z)|(apply Zav Zab;exact Z)|refine Zbq ?_|(apply Zas;(iterate 3 exact Z);exact Go.ZrJ)|(apply Zag;exact Z;exact Go.ZrJ;exact Z;exact Z)|(apply Zac;exact Z;exact Go.ZrJ))
       all_goals(apply Ze9;exact Z;(first|exact Nat.zero_le _|exact Nat.le_trans (Nat.le_of_ble_eq_true rfl) (by assumption));exact Z)
      ·repeat'(first|(apply ZaB [0] (hends);kernel_rfl;(iterate 7 exact Z))|(apply ZaB [0] (hhd.q rfl);kernel_rfl;(iterate 7 exact Z))|(apply Zbb [] (ZcH 3);kernel_rfl;(iterate 6 exact Z);intro bx2 fr2 hle2)|(apply Zaj Zab;exact Z)|(apply Zah Zab;exact Z)|(apply Zav Zab;exact Z)|refine Zbq ?_|(apply Zas;(iterate 3 exact Z);exact Go.ZrJ)|(apply Zag;exact Z;exact Go.ZrJ;exact Z;exact Z)|(apply Zac;exact Z;exact Go.ZrJ))
       all_goals(apply Ze9;exact Z;(first|exact Nat.zero_le _|exact Nat.le_trans (Nat.le_of_ble_eq_true rfl) (by assumption));exact Z)
end Go.Proofs.YtakblclkflnnpaaGreatDoor
end

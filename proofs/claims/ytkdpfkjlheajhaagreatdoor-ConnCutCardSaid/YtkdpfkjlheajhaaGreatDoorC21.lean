/- A connection: whatever bytes come, frame by frame. -/
import Derived.Test.YtkdpfkjlheajhaaGreatDoorC14
import Derived.Test.YtkdpfkjlheajhaaGreatDoorC16
import Derived.Test.YtkdpfkjlheajhaaGreatDoorC20
set_option linter.unusedVariables false
set_option linter.unusedSimpArgs false
section
open Go.RowKit Go.Pl Go.Av
namespace Go.Proofs.YtkdpfkjlheajhaaGreatDoor
set_option maxHeartbeats 4000000
abbrev rqE (x:RqV):E:=.agg [.int .u64 (x.id:Int),.int .i64 x.kd,.bool x.ep.i,.int .u64 (x.ep.n:Int),.int .u64 (x.ep.s:Int),.str x.ep.h,.str x.ep.d,.bool x.ds.i,.int .u64 (x.ds.n:Int),.int .u64 (x.ds.s:Int),.str x.ds.h,.str x.ds.d,.int .i64 x.pol,.int .i64 x.num,.int .i64 x.tik,.sl (x.pay.map E.byte),.int .u64 (x.life:Int),.int .u64 (x.tok:Int),.bool x.on]
theorem OT (l:List RqV):Uni 19 (l.map rqE):=Uni.map (f:=rqE) (fun _=>rfl) l
abbrev coV (w:D)(e:Int)(left:List UInt8)(br:Int):List (List D):=[[.bool true,.sl .ext (left.map E.byte),.int .i64 br],[.ptr 0 0,w,.int .i64 0,.sl .nil [],.int .i64 e]]
abbrev cqF (c:Nat):List Fr:=[⟨c,19,41⟩]
theorem UU [Known](e:Int)(l:List UInt8)(br:Int):AT Tryz.prog 26 [.ptr 1 0] (coV (.sl .nil []) e l br) [] (.int .i64 e) (coV (.sl .nil []) e l br) []:=by
 refine Zm Tryz.func26 rfl Tryz.ntmps26 rfl rfl ?_
 repeat'(first|(apply ZR Tryz.func50 Tryz.ntmps50;exact Z;exact Z;kernel_rfl;(iterate 6 exact Z))|(apply Y8;(apply Zd Za;exact Z);exact Z)|(apply Zj Za;exact Z)|(apply Zg Za;exact Z)|(apply Zq Za;exact Z)|(apply Zi;(iterate 3 exact Z);(first|with_reducible assumption|decide +kernel|(solve|simp only[bn])))|(apply Zk;exact Z;(first|with_reducible assumption|decide +kernel|(solve|simp only[bn]));exact Z;exact Z)|(apply Ze;exact Z;(first|with_reducible assumption|decide +kernel|(solve|simp only[bn]))))
 all_goals(apply ZX [0,1] [];(apply Zd Za;exact Z);(iterate 7 exact Z))
 all_goals rfl
theorem OH [Known](L:List E)(c:Nat)(e:Int)(l:List UInt8)(br:Int):AT Tryz.prog 26 [.ptr 1 0] (coV (.sl (.own 0) L) e l br) (cqF c) (.int .i64 e) (coV (.sl (.own 0) L) e l br) (cqF c):=by
 refine Zm Tryz.func26 rfl Tryz.ntmps26 rfl rfl ?_
 repeat'(first|(apply ZR Tryz.func50 Tryz.ntmps50;exact Z;exact Z;kernel_rfl;(iterate 6 exact Z))|(apply Y8;(apply Zd Za;exact Z);exact Z)|(apply Zj Za;exact Z)|(apply Zg Za;exact Z)|(apply Zq Za;exact Z)|(apply Zi;(iterate 3 exact Z);(first|with_reducible assumption|decide +kernel|(solve|simp only[bn])))|(apply Zk;exact Z;(first|with_reducible assumption|decide +kernel|(solve|simp only[bn]));exact Z;exact Z)|(apply Ze;exact Z;(first|with_reducible assumption|decide +kernel|(solve|simp only[bn]))))
 all_goals(apply ZX [0,1] [0];(apply Zd Za;exact Z);(iterate 7 exact Z))
 all_goals rfl
theorem UQ [Known](e:Int)(l:List UInt8)(br:Int):AT Tryz.prog 24 [.ptr 1 0] (coV (.sl .nil []) e l br) [] (.int .i64 0) (coV (.sl .nil []) e l br) []:=by
 refine Zm Tryz.func24 rfl Tryz.ntmps24 rfl rfl ?_
 repeat'(first|(apply Zj Za;exact Z)|(apply Zg Za;exact Z)|(apply Ze;exact Z;(first|with_reducible assumption|decide +kernel|(solve|simp only[bn])))|refine Zp Za Z Z Z Z ?_)
 all_goals(apply ZX [0,1] [];(apply Zd Za;exact Z);(iterate 7 exact Z))
 all_goals rfl
theorem J5 [Known](L:List E)(e:Int)(l:List UInt8)(br:Int):AT Tryz.prog 24 [.ptr 1 0] (coV (.sl .ext L) e l br) [] (.int .i64 (L.length:Int)) (coV (.sl .ext L) e l br) []:=by
 refine Zm Tryz.func24 rfl Tryz.ntmps24 rfl rfl ?_
 repeat'(first|(apply Zj Za;exact Z)|(apply Zg Za;exact Z)|(apply Ze;exact Z;(first|with_reducible assumption|decide +kernel|(solve|simp only[bn])))|refine Zp Za Z Z Z Z ?_)
 all_goals(apply ZX [0,1] [];(apply Zd Za;exact Z);(iterate 7 exact Z))
 all_goals rfl
theorem J6 [Known](L:List E)(c:Nat)(e:Int)(l:List UInt8)(br:Int):AT Tryz.prog 24 [.ptr 1 0] (coV (.sl (.own 0) L) e l br) (cqF c) (.int .i64 (L.length:Int)) (coV (.sl (.own 0) L) e l br) (cqF c):=by
 refine Zm Tryz.func24 rfl Tryz.ntmps24 rfl rfl ?_
 repeat'(first|(apply Zj Za;exact Z)|(apply Zg Za;exact Z)|(apply Ze;exact Z;(first|with_reducible assumption|decide +kernel|(solve|simp only[bn])))|refine Zp Za Z Z Z Z ?_)
 all_goals(apply ZX [0,1] [0];(apply Zd Za;exact Z);(iterate 7 exact Z))
 all_goals rfl
theorem tkN [Known][KnownSc][KnownPow](f:List UInt8)(hf:f.length<=1000)(h:YN f=true)(l:List UInt8)(br:Int):AT Tryz.prog 45 [.ptr 1 0,byE f] (coV (.sl .nil []) 0 l br) [] (.int .i64 0) (coV (.sl (.own 0) [rqE (ZI f).1]) 0 l br) (cqF 1):=by
 have hR:=WB f hf
 rw[Z1 h]at hR
 generalize (ZI f).1=x at *
 clear h
 obtain⟨id,kd,⟨ei,en,es,eh,ed⟩,⟨di,dn,dq,dh,dd⟩,pol,num,tik,pay,life,tok,on⟩:=x
 refine Zm Tryz.func45 rfl Tryz.ntmps45 rfl rfl ?_
 repeat'(first|exact Y2 (t:=30) rfl rfl|(apply Zc (hR);kernel_rfl;(iterate 4 exact Z))|refine Yf Za Z Z Z Z Z Z (Zn rfl) (List.cons_ne_nil _ _) Z Qd Qd Z Z Z ?_|(apply Zj Za;exact Z)|(apply Zg Za;exact Z)|(apply Zq Za;exact Z)|(apply Ze;exact Z;(first|with_reducible assumption|decide +kernel|(solve|simp only[bn])))|refine Zp Za Z Z Z Z ?_|refine Yl Za Z Z Z Z Z Z Z Z Z Z Z Z ?_|(apply Zx 8 Z9;decide +kernel;kernel_rfl;kernel_rfl;kernel_rfl;exact Z;exact Z)|(apply ZB;(iterate 4 exact Z))|exact AE.nil _ _ _ _|(apply ZF;exact Z)|(apply Z8;exact Z)|(apply ZN;exact Z;exact Z;decide +kernel;exact Z)|(apply ZP;exact Z)|(apply Yu;exact Z)|exact AO.nil _ _ _|(apply ZA;(decide +kernel))|(apply ZO;(iterate 3 exact Z))|exact AOs.nil|exact ZY rfl rfl|exact Kx rfl rfl rfl rfl rfl)
 all_goals(apply ZX [0,1] [0];(apply Zd Za;exact Z);(iterate 7 exact Z))
 all_goals rfl
theorem Hn [Known][KnownSc][KnownPow](f:List UInt8)(hf:f.length<=1000)(h:YN f=false)(l:List UInt8)(br:Int):AT Tryz.prog 45 [.ptr 1 0,byE f] (coV (.sl .nil []) 0 l br) [] (.int .i64 3) (coV (.sl .nil []) 0 l br) []:=by
 have hR:=WB f hf
 rw[ZC h]at hR
 clear h
 refine Zm Tryz.func45 rfl Tryz.ntmps45 rfl rfl ?_
 repeat'(first|(apply Zc (hR);kernel_rfl;(iterate 4 exact Z))|(apply Zj Za;exact Z)|(apply Zg Za;exact Z)|(apply Zq Za;exact Z)|(apply Zf;exact Z;(first|with_reducible assumption|decide +kernel|(solve|simp only[bn]))))
 all_goals(apply ZX [0,1] [];(apply Zd Za;exact Z);(iterate 7 exact Z))
 all_goals rfl
theorem tkO [Known][KnownSc][KnownPow](f:List UInt8)(hf:f.length<=1000)(h:YN f=true)(L:List E)(c:Nat)(hc:c=L.length)(hU:Uni 19 L)(h8:L.length<8)(l:List UInt8)(br:Int):AT Tryz.prog 45 [.ptr 1 0,byE f] (coV (.sl (.own 0) L) 0 l br) (cqF c) (.int .i64 0) (coV (.sl (.own 0) (L++[rqE (ZI f).1])) 0 l br) (cqF (L.length+1)):=by
 have hR:=WB f hf
 rw[Z1 h]at hR
 generalize (ZI f).1=x at *
 clear h
 subst hc
 obtain⟨id,kd,⟨ei,en,es,eh,ed⟩,⟨di,dn,dq,dh,dd⟩,pol,num,tik,pay,life,tok,on⟩:=x
 have d1:decide ((L.length:Int) ≥ 8)=false:=decide_eq_false (by omega)
 have d2:L.length+1<=maxLen:=by unfold maxLen;omega
 have d3:(L.length+1)*240<=140737488355328:=by omega
 refine Zm Tryz.func45 rfl Tryz.ntmps45 rfl rfl ?_
 repeat'(first|exact Y2 (t:=30) rfl rfl|(apply Zc (hR);kernel_rfl;(iterate 4 exact Z))|(apply Zj Za;exact Z)|(apply Zg Za;exact Z)|(apply Zq Za;exact Z)|(apply Ze;exact Z;(first|with_reducible assumption|decide +kernel|(solve|simp only[bn])))|refine Zp Za Z Z Z Z ?_|refine Yl Za Z Z Z Z Z Z Z Z Z Z Z Z ?_|(apply Zx 8 Z9;decide +kernel;kernel_rfl;kernel_rfl;kernel_rfl;exact Z;exact Z)|(apply ZB;(iterate 4 exact Z))|exact AE.nil _ _ _ _|(apply ZF;exact Z)|(apply Z8;exact Z)|(apply ZN;exact Z;exact Z;decide +kernel;exact Z)|(apply ZP;exact Z)|(apply Yu;exact Z)|exact AO.nil _ _ _|(apply ZA;(decide +kernel))|(apply ZO;(iterate 3 exact Z))|exact AOs.nil|exact ZY rfl rfl|exact Kx rfl rfl rfl rfl rfl|(apply Z6 Za;(iterate 6 exact Z);(first|with_reducible assumption|decide +kernel|exact Z|rotate_left);exact Z;exact Z;(first|exact Zn rfl|with_reducible assumption|decide +kernel|rotate_left);(first|exact Zn rfl|with_reducible assumption|decide +kernel|rotate_left);(first|exact Qt|rotate_left);(first|exact Qt|rotate_left);(first|exact Qt|rotate_left);exact Z;exact Z))
 all_goals first|(apply ZX [0,1] [0];(apply Zd Za;exact Z);(iterate 7 exact Z))|skip
 all_goals first|rfl|(show L.length+1<=maxLen;exact d2)|(show(L.length+1)*200<=140737488355328;omega)
theorem Gg [Known][KnownSc][KnownPow](f:List UInt8)(hf:f.length<=1000)(h:YN f=false)(L:List E)(c:Nat)(l:List UInt8)(br:Int):AT Tryz.prog 45 [.ptr 1 0,byE f] (coV (.sl (.own 0) L) 0 l br) (cqF c) (.int .i64 3) (coV (.sl (.own 0) L) 0 l br) (cqF c):=by
 have hR:=WB f hf
 rw[ZC h]at hR
 clear h
 refine Zm Tryz.func45 rfl Tryz.ntmps45 rfl rfl ?_
 repeat'(first|(apply Zc (hR);kernel_rfl;(iterate 4 exact Z))|(apply Zj Za;exact Z)|(apply Zg Za;exact Z)|(apply Zq Za;exact Z)|(apply Zf;exact Z;(first|with_reducible assumption|decide +kernel|(solve|simp only[bn]))))
 all_goals(apply ZX [0,1] [0];(apply Zd Za;exact Z);(iterate 7 exact Z))
 all_goals rfl
theorem Gh [Known][KnownSc][KnownPow](f:List UInt8)(hf:f.length<=1000)(h:YN f=true)(L:List E)(c:Nat)(h8:8<=L.length)(l:List UInt8)(br:Int):AT Tryz.prog 45 [.ptr 1 0,byE f] (coV (.sl (.own 0) L) 0 l br) (cqF c) (.int .i64 5) (coV (.sl (.own 0) L) 0 l br) (cqF c):=by
 have hR:=WB f hf
 rw[Z1 h]at hR
 generalize (ZI f).1=x at *
 clear h
 obtain⟨id,kd,⟨ei,en,es,eh,ed⟩,⟨di,dn,dq,dh,dd⟩,pol,num,tik,pay,life,tok,on⟩:=x
 have d1:decide ((L.length:Int) ≥ 8)=true:=decide_eq_true (by omega)
 refine Zm Tryz.func45 rfl Tryz.ntmps45 rfl rfl ?_
 repeat'(first|(apply Zc (hR);kernel_rfl;(iterate 4 exact Z))|(apply Zj Za;exact Z)|(apply Zg Za;exact Z)|(apply Zq Za;exact Z)|(apply Zf;exact Z;(first|with_reducible assumption|decide +kernel|(solve|simp only[bn])))|(apply Ze;exact Z;(first|with_reducible assumption|decide +kernel|(solve|simp only[bn])))|refine Zp Za Z Z Z Z ?_)
 all_goals(apply ZX [0,1] [0];(apply Zd Za;exact Z);(iterate 7 exact Z))
 all_goals rfl
theorem kcN [Known](e:Nat)(he:e ≠ 0)(l:List UInt8)(br:Int):AT Tryz.prog 22 [.ptr 1 0,.int .i64 (e:Int)] (coV (.sl .nil []) 0 l br) [] (.tup []) (coV (.sl .nil []) (e:Int) l br) []:=by
 have hC:=UU 0 l br
 have d1:((e:Int)==0)=false:=by simp;omega
 refine Zm Tryz.func22 rfl Tryz.ntmps22 rfl rfl ?_
 repeat'(first|(apply Zb [0,1] [] (hC);kernel_rfl;(iterate 10 exact Z))|(apply Zj Za;exact Z)|(apply Zg Za;exact Z)|(apply Zq Za;exact Z)|(apply Ze;exact Z;(first|with_reducible assumption|decide +kernel|(solve|simp only[bn]))))
 all_goals(apply Xk [0,1] [];(apply Zd Za;exact Z);(iterate 7 exact Z))
 all_goals rfl
theorem kcO [Known](e:Nat)(he:e ≠ 0)(L:List E)(c:Nat)(l:List UInt8)(br:Int):AT Tryz.prog 22 [.ptr 1 0,.int .i64 (e:Int)] (coV (.sl (.own 0) L) 0 l br) (cqF c) (.tup []) (coV (.sl .nil []) (e:Int) l br) (cqF c):=by
 have hC:=OH L c 0 l br
 have d1:((e:Int)==0)=false:=by simp;omega
 refine Zm Tryz.func22 rfl Tryz.ntmps22 rfl rfl ?_
 repeat'(first|(apply Zb [0,1] [0] (hC);kernel_rfl;(iterate 10 exact Z))|(apply Zj Za;exact Z)|(apply Zg Za;exact Z)|(apply Zq Za;exact Z)|(apply Ze;exact Z;(first|with_reducible assumption|decide +kernel|(solve|simp only[bn]))))
 all_goals(apply Xk [0,1] [0];(apply Zd Za;exact Z);(iterate 7 exact Z))
 all_goals rfl
theorem KW [Known](L:List E)(hU:Uni 19 L)(hl:L.length<=8):AP Tryz.prog 48 [.sl .ext L] (.sl .ext L) []:=by
 have d2:L.length<=maxLen:=by unfold maxLen;omega
 have d3:L.length*240<=140737488355328:=by omega
 cases L with
 | nil=>exact Jk
 | cons x L=>
  have hne:x::L ≠ []:=List.cons_ne_nil _ _
  refine AP.weak (Zm Tryz.func48 Z Tryz.ntmps48 Z Z ?_)
  repeat'(first|(apply WH Za;(iterate 5 exact Z);intro b hbn;(have hbn2:=hbn (List.cons_ne_nil _ _));subst hbn2;clear hbn)|(apply Zj Za;exact Z)|(apply Zg Za;exact Z)|(apply Zq Za;exact Z)|(apply Ze;exact Z;(first|with_reducible assumption|(solve|simp only[bn])))|refine VN Za Z Z Z Z Z Z Z Z Z Z Z Z ?_|(apply Z6 Za;(iterate 6 exact Z);(first|with_reducible assumption|exact Z|rotate_left);exact Z;exact Z;(first|exact Zn rfl|with_reducible assumption|rotate_left);(first|exact Zn rfl|with_reducible assumption|rotate_left);(first|exact Qb|rotate_left);(first|exact Qb|rotate_left);(first|exact Qb|rotate_left);exact Z;exact Z))
  all_goals first|(apply Oh;(apply Zd Za;exact Z);exact Z)|skip
  all_goals first|rfl|(show 0+(x::L).length<=maxLen;omega)|(show(0+(x::L).length)*200<=140737488355328;omega)
theorem Gi [Known](x:RqV)(L:List E)(hU:Uni 19 L)(hl:L.length<=7)(c:Nat)(l:List UInt8)(br:Int):AT Tryz.prog 12 [.ptr 1 0] (coV (.sl (.own 0) (rqE x::L)) 0 l br) (cqF c) (.tup [.agg (rqC x),.bool true]) (coV (.sl .ext L) 0 l br) (cqF c):=by
 have hW:=J6 (rqE x::L) c 0 l br
 have hC:=KW L hU (by omega)
 have hU1:Uni 19 (rqE x::L):=by
  intro e he
  rcases List.mem_cons.1 he with rfl|he
  ·rfl
  ·exact hU e he
 have d1:(((rqE x::L).length:Int)==0)=false:=by simp;omega
 obtain⟨id,kd,⟨ei,en,es,eh,ed⟩,⟨di,dn,dq,dh,dd⟩,pol,num,tik,pay,life,tok,on⟩:=x
 refine Zm Tryz.func12 rfl Tryz.ntmps12 rfl rfl ?_
 repeat'(first|(apply Zb [0,1] [0] (hW);kernel_rfl;(iterate 10 exact Z))|(apply Zc (hC);kernel_rfl;(iterate 4 exact Z))|(apply UH Za;(iterate 6 exact Z);exact hU1;exact(by decide);(simp only[List.length_cons];omega);exact Z)|(apply Zj Za;exact Z)|(apply Zg Za;exact Z)|(apply Zq Za;exact Z)|(apply Ze;exact Z;(first|with_reducible assumption|decide +kernel|(solve|simp only[bn])))|(apply Zv Za;(iterate 6 exact Z);(first|exact Qt|rotate_left);(first|with_reducible assumption|decide +kernel|exact Z);(first|exact Zn rfl|with_reducible assumption|decide +kernel|rotate_left)))
 all_goals(apply ZX [0,1] [0];(apply Zd Za;exact Z);(iterate 7 exact Z))
 all_goals rfl
theorem Gj [Known](x:RqV)(L:List E)(hU:Uni 19 L)(hl:L.length<=7)(l:List UInt8)(br:Int):AT Tryz.prog 12 [.ptr 1 0] (coV (.sl .ext (rqE x::L)) 0 l br) [] (.tup [.agg (rqC x),.bool true]) (coV (.sl .ext L) 0 l br) []:=by
 have hW:=J5 (rqE x::L) 0 l br
 have hC:=KW L hU (by omega)
 have hU1:Uni 19 (rqE x::L):=by
  intro e he
  rcases List.mem_cons.1 he with rfl|he
  ·rfl
  ·exact hU e he
 have d1:(((rqE x::L).length:Int)==0)=false:=by simp;omega
 obtain⟨id,kd,⟨ei,en,es,eh,ed⟩,⟨di,dn,dq,dh,dd⟩,pol,num,tik,pay,life,tok,on⟩:=x
 refine Zm Tryz.func12 rfl Tryz.ntmps12 rfl rfl ?_
 repeat'(first|(apply Zb [0,1] [] (hW);kernel_rfl;(iterate 10 exact Z))|(apply Zc (hC);kernel_rfl;(iterate 4 exact Z))|(apply UH Za;(iterate 6 exact Z);exact hU1;exact(by decide);(simp only[List.length_cons];omega);exact Z)|(apply Zj Za;exact Z)|(apply Zg Za;exact Z)|(apply Zq Za;exact Z)|(apply Ze;exact Z;(first|with_reducible assumption|decide +kernel|(solve|simp only[bn])))|(apply Zv Za;(iterate 6 exact Z);(first|exact Qt|rotate_left);(first|with_reducible assumption|decide +kernel|exact Z);(first|exact Zn rfl|with_reducible assumption|decide +kernel|rotate_left)))
 all_goals(apply ZX [0,1] [];(apply Zd Za;exact Z);(iterate 7 exact Z))
 all_goals rfl
abbrev OU:List D:=[.int .u64 0,.int .i64 0,.bool false,.int .u64 0,.int .u64 0,.str [],.str [],.bool false,.int .u64 0,.int .u64 0,.str [],.str [],.int .i64 0,.int .i64 0,.int .i64 0,.sl .nil [],.int .u64 0,.int .u64 0,.bool false]
theorem OI [Known](e:Int)(l:List UInt8)(br:Int):AT Tryz.prog 12 [.ptr 1 0] (coV (.sl .nil []) e l br) [] (.tup [.agg OU,.bool false]) (coV (.sl .nil []) e l br) []:=by
 have hW:=UQ e l br
 refine Zm Tryz.func12 rfl Tryz.ntmps12 rfl rfl ?_
 repeat'(first|(apply Zb [0,1] [] (hW);kernel_rfl;(iterate 10 exact Z))|(apply Zj Za;exact Z)|(apply Zg Za;exact Z)|(apply Zq Za;exact Z)|(apply Zf;exact Z;(first|with_reducible assumption|decide +kernel|(solve|simp only[bn]))))
 all_goals(apply ZX [0,1] [];(apply Zd Za;exact Z);(iterate 7 exact Z))
 all_goals rfl
theorem Gk [Known](e:Int)(l:List UInt8)(br:Int):AT Tryz.prog 12 [.ptr 1 0] (coV (.sl .ext []) e l br) [] (.tup [.agg OU,.bool false]) (coV (.sl .ext []) e l br) []:=by
 have hW:=J5 [] e l br
 refine Zm Tryz.func12 rfl Tryz.ntmps12 rfl rfl ?_
 repeat'(first|(apply Zb [0,1] [] (hW);kernel_rfl;(iterate 10 exact Z))|(apply Zj Za;exact Z)|(apply Zg Za;exact Z)|(apply Zq Za;exact Z)|(apply Zf;exact Z;(first|with_reducible assumption|decide +kernel|(solve|simp only[bn]))))
 all_goals(apply ZX [0,1] [];(apply Zd Za;exact Z);(iterate 7 exact Z))
 all_goals rfl
end Go.Proofs.YtkdpfkjlheajhaaGreatDoor
end

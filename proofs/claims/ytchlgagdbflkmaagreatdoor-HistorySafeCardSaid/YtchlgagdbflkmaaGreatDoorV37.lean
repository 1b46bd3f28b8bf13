/- History: Add (hsgen.py). -/
import Derived.Test.YtchlgagdbflkmaaGreatDoorV35
import Derived.Test.YtchlgagdbflkmaaGreatDoorV36
import Derived.Test.YtchlgagdbflkmaaGreatDoorK34
import Derived.Test.YtchlgagdbflkmaaGreatDoorK08
set_option linter.unusedVariables false
set_option linter.unusedSimpArgs false
section
open Go.RowKit Go.Pl Go.Av
namespace Go.Proofs.YtchlgagdbflkmaaGreatDoor
set_option maxHeartbeats 4000000
theorem Hn [Known][KnownU8](x:EvV)(r:RyV)(hk:Vb ⟨x,r,false,false⟩)(h:(Ye x&&Yk r)=false):AT Tryz.prog 29 [.ptr 0 0,.agg [.int .u64 (x.now:Int),.int .i64 x.kd,.int .u64 (x.tok:Int),.int .i64 x.ses,.int .u64 (x.rq.id:Int),.int .i64 x.rq.kd,.bool x.rq.ep.i,.int .u64 (x.rq.ep.n:Int),.int .u64 (x.rq.ep.s:Int),.str x.rq.ep.h,.str x.rq.ep.d,.bool x.rq.ds.i,.int .u64 (x.rq.ds.n:Int),.int .u64 (x.rq.ds.s:Int),.str x.rq.ds.h,.str x.rq.ds.d,.int .i64 x.rq.pol,.int .i64 x.rq.num,.int .i64 x.rq.tik,byE x.rq.pay,.int .u64 (x.rq.life:Int),.int .u64 (x.rq.tok:Int),.bool x.rq.on,byE x.data],.agg [.int .u64 (r.id:Int),.int .i64 r.err,.int .i64 r.num,.int .i64 r.cnt,.int .u64 (r.tok:Int),byE r.data]] hsN [] (.tup [.int .i64 0,.int .i64 3]) hsN []:=by
 have hE:=V2 x (by have:=hk;unfold Vb at this;dsimp only at this;omega)
 have hR:=VZ r
 replace hE:AP Tryz.prog 42 [.agg [.int .u64 (x.now:Int),.int .i64 x.kd,.int .u64 (x.tok:Int),.int .i64 x.ses,.int .u64 (x.rq.id:Int),.int .i64 x.rq.kd,.bool x.rq.ep.i,.int .u64 (x.rq.ep.n:Int),.int .u64 (x.rq.ep.s:Int),.str x.rq.ep.h,.str x.rq.ep.d,.bool x.rq.ds.i,.int .u64 (x.rq.ds.n:Int),.int .u64 (x.rq.ds.s:Int),.str x.rq.ds.h,.str x.rq.ds.d,.int .i64 x.rq.pol,.int .i64 x.rq.num,.int .i64 x.rq.tik,byE x.rq.pay,.int .u64 (x.rq.life:Int),.int .u64 (x.rq.tok:Int),.bool x.rq.on,byE x.data]] (.bool (Ye x)) []:=hE
 replace hR:AP Tryz.prog 61 [.agg [.int .u64 (r.id:Int),.int .i64 r.err,.int .i64 r.num,.int .i64 r.cnt,.int .u64 (r.tok:Int),byE r.data]] (.bool (Yk r)) []:=hR
 rcases(show Ye x=false\/(Ye x=true/\Yk r=false) by cases h1:Ye x<;>cases h2:Yk r<;>simp_all) with h1|⟨h1,h2⟩
 all_goals
  rw[h1]at hE
  try rw[h2]at hR
  refine Zl Tryz.func29 rfl Tryz.ntmps29 rfl rfl ?_
  repeat'(first|(apply Zb (hE);kernel_rfl;(iterate 4 exact Z))|(apply Zb (hR);kernel_rfl;(iterate 4 exact Z))|(apply Zg Za;exact Z)|(apply Zh Za;exact Z)|(apply Zs Za;exact Z)|(apply Zd;(iterate 3 exact Z);(first|with_reducible assumption|decide +kernel|(solve|simp only[bn])))|(apply Zo;(iterate 3 exact Z);(first|with_reducible assumption|decide +kernel|(solve|simp only[bn])))|(apply Zj;exact Z;(first|with_reducible assumption|decide +kernel|(solve|simp only[bn]));exact Z;exact Z)|(apply Zi;exact Z;(first|with_reducible assumption|decide +kernel|(solve|simp only[bn]));exact Z;exact Z)|(apply Ze;exact Z;(first|with_reducible assumption|decide +kernel|(solve|simp only[bn])))|(apply Zf;exact Z;(first|with_reducible assumption|decide +kernel|(solve|simp only[bn]))))
  all_goals(apply Wg [0] [];(apply Zc Za;exact Z);(iterate 7 exact Z))
  all_goals rfl
theorem Ho [Known][KnownU8](L:List Ln)(s c:Nat)(x:EvV)(r:RyV)(hk:Vb ⟨x,r,false,false⟩)(h:(Ye x&&Yk r)=false):AT Tryz.prog 29 [.ptr 0 0,.agg [.int .u64 (x.now:Int),.int .i64 x.kd,.int .u64 (x.tok:Int),.int .i64 x.ses,.int .u64 (x.rq.id:Int),.int .i64 x.rq.kd,.bool x.rq.ep.i,.int .u64 (x.rq.ep.n:Int),.int .u64 (x.rq.ep.s:Int),.str x.rq.ep.h,.str x.rq.ep.d,.bool x.rq.ds.i,.int .u64 (x.rq.ds.n:Int),.int .u64 (x.rq.ds.s:Int),.str x.rq.ds.h,.str x.rq.ds.d,.int .i64 x.rq.pol,.int .i64 x.rq.num,.int .i64 x.rq.tik,byE x.rq.pay,.int .u64 (x.rq.life:Int),.int .u64 (x.rq.tok:Int),.bool x.rq.on,byE x.data],.agg [.int .u64 (r.id:Int),.int .i64 r.err,.int .i64 r.num,.int .i64 r.cnt,.int .u64 (r.tok:Int),byE r.data]] (hsR L s c) [] (.tup [.int .i64 0,.int .i64 3]) (hsR L s c) []:=by
 have hE:=V2 x (by have:=hk;unfold Vb at this;dsimp only at this;omega)
 have hR:=VZ r
 replace hE:AP Tryz.prog 42 [.agg [.int .u64 (x.now:Int),.int .i64 x.kd,.int .u64 (x.tok:Int),.int .i64 x.ses,.int .u64 (x.rq.id:Int),.int .i64 x.rq.kd,.bool x.rq.ep.i,.int .u64 (x.rq.ep.n:Int),.int .u64 (x.rq.ep.s:Int),.str x.rq.ep.h,.str x.rq.ep.d,.bool x.rq.ds.i,.int .u64 (x.rq.ds.n:Int),.int .u64 (x.rq.ds.s:Int),.str x.rq.ds.h,.str x.rq.ds.d,.int .i64 x.rq.pol,.int .i64 x.rq.num,.int .i64 x.rq.tik,byE x.rq.pay,.int .u64 (x.rq.life:Int),.int .u64 (x.rq.tok:Int),.bool x.rq.on,byE x.data]] (.bool (Ye x)) []:=hE
 replace hR:AP Tryz.prog 61 [.agg [.int .u64 (r.id:Int),.int .i64 r.err,.int .i64 r.num,.int .i64 r.cnt,.int .u64 (r.tok:Int),byE r.data]] (.bool (Yk r)) []:=hR
 rcases(show Ye x=false\/(Ye x=true/\Yk r=false) by cases h1:Ye x<;>cases h2:Yk r<;>simp_all) with h1|⟨h1,h2⟩
 all_goals
  rw[h1]at hE
  try rw[h2]at hR
  refine Zl Tryz.func29 rfl Tryz.ntmps29 rfl rfl ?_
  repeat'(first|(apply Zb (hE);kernel_rfl;(iterate 4 exact Z))|(apply Zb (hR);kernel_rfl;(iterate 4 exact Z))|(apply Zg Za;exact Z)|(apply Zh Za;exact Z)|(apply Zs Za;exact Z)|(apply Zd;(iterate 3 exact Z);(first|with_reducible assumption|decide +kernel|(solve|simp only[bn])))|(apply Zo;(iterate 3 exact Z);(first|with_reducible assumption|decide +kernel|(solve|simp only[bn])))|(apply Zj;exact Z;(first|with_reducible assumption|decide +kernel|(solve|simp only[bn]));exact Z;exact Z)|(apply Zi;exact Z;(first|with_reducible assumption|decide +kernel|(solve|simp only[bn]));exact Z;exact Z)|(apply Ze;exact Z;(first|with_reducible assumption|decide +kernel|(solve|simp only[bn])))|(apply Zf;exact Z;(first|with_reducible assumption|decide +kernel|(solve|simp only[bn]))))
  all_goals(apply Wg [0,1] [];(apply Zc Za;exact Z);(iterate 7 exact Z))
  all_goals rfl
set_option maxRecDepth 10000 in
theorem Tn [Known][KnownU8](x:EvV)(r:RyV)(hk:Vb ⟨x,r,false,false⟩)(h1:Ye x=true)(h2:Yk r=true):AFQ Tryz.prog 29 [.ptr 0 0,.agg [.int .u64 (x.now:Int),.int .i64 x.kd,.int .u64 (x.tok:Int),.int .i64 x.ses,.int .u64 (x.rq.id:Int),.int .i64 x.rq.kd,.bool x.rq.ep.i,.int .u64 (x.rq.ep.n:Int),.int .u64 (x.rq.ep.s:Int),.str x.rq.ep.h,.str x.rq.ep.d,.bool x.rq.ds.i,.int .u64 (x.rq.ds.n:Int),.int .u64 (x.rq.ds.s:Int),.str x.rq.ds.h,.str x.rq.ds.d,.int .i64 x.rq.pol,.int .i64 x.rq.num,.int .i64 x.rq.tik,byE x.rq.pay,.int .u64 (x.rq.life:Int),.int .u64 (x.rq.tok:Int),.bool x.rq.on,byE x.data],.agg [.int .u64 (r.id:Int),.int .i64 r.err,.int .i64 r.num,.int .i64 r.cnt,.int .u64 (r.tok:Int),byE r.data]] hsN 1 (.tup [.int .i64 0,.int .i64 0]) (fun c=>hsR [⟨x,r,false,false⟩] 0 c):=by
 have hE:=V2 x (by have:=hk;unfold Vb at this;dsimp only at this;omega)
 have hR:=VZ r
 replace hE:AP Tryz.prog 42 [.agg [.int .u64 (x.now:Int),.int .i64 x.kd,.int .u64 (x.tok:Int),.int .i64 x.ses,.int .u64 (x.rq.id:Int),.int .i64 x.rq.kd,.bool x.rq.ep.i,.int .u64 (x.rq.ep.n:Int),.int .u64 (x.rq.ep.s:Int),.str x.rq.ep.h,.str x.rq.ep.d,.bool x.rq.ds.i,.int .u64 (x.rq.ds.n:Int),.int .u64 (x.rq.ds.s:Int),.str x.rq.ds.h,.str x.rq.ds.d,.int .i64 x.rq.pol,.int .i64 x.rq.num,.int .i64 x.rq.tik,byE x.rq.pay,.int .u64 (x.rq.life:Int),.int .u64 (x.rq.tok:Int),.bool x.rq.on,byE x.data]] (.bool (Ye x)) []:=hE
 replace hR:AP Tryz.prog 61 [.agg [.int .u64 (r.id:Int),.int .i64 r.err,.int .i64 r.num,.int .i64 r.cnt,.int .u64 (r.tok:Int),byE r.data]] (.bool (Yk r)) []:=hR
 rw[h1]at hE
 rw[h2]at hR
 have hC:=UA ⟨x,r,false,false⟩ hk
 replace hC:AP Tryz.prog 62 [.agg [.int .u64 (x.now:Int),.int .i64 x.kd,.int .u64 (x.tok:Int),.int .i64 x.ses,.int .u64 (x.rq.id:Int),.int .i64 x.rq.kd,.bool x.rq.ep.i,.int .u64 (x.rq.ep.n:Int),.int .u64 (x.rq.ep.s:Int),.str x.rq.ep.h,.str x.rq.ep.d,.bool x.rq.ds.i,.int .u64 (x.rq.ds.n:Int),.int .u64 (x.rq.ds.s:Int),.str x.rq.ds.h,.str x.rq.ds.d,.int .i64 x.rq.pol,.int .i64 x.rq.num,.int .i64 x.rq.tik,byE x.rq.pay,.int .u64 (x.rq.life:Int),.int .u64 (x.rq.tok:Int),.bool x.rq.on,byE x.data,.int .u64 (r.id:Int),.int .i64 r.err,.int .i64 r.num,.int .i64 r.cnt,.int .u64 (r.tok:Int),byE r.data,.bool false,.bool false]] (.agg [.int .u64 (x.now:Int),.int .i64 x.kd,.int .u64 (x.tok:Int),.int .i64 x.ses,.int .u64 (x.rq.id:Int),.int .i64 x.rq.kd,.bool x.rq.ep.i,.int .u64 (x.rq.ep.n:Int),.int .u64 (x.rq.ep.s:Int),.str x.rq.ep.h,.str x.rq.ep.d,.bool x.rq.ds.i,.int .u64 (x.rq.ds.n:Int),.int .u64 (x.rq.ds.s:Int),.str x.rq.ds.h,.str x.rq.ds.d,.int .i64 x.rq.pol,.int .i64 x.rq.num,.int .i64 x.rq.tik,byE x.rq.pay,.int .u64 (x.rq.life:Int),.int .u64 (x.rq.tok:Int),.bool x.rq.on,byE x.data,.int .u64 (r.id:Int),.int .i64 r.err,.int .i64 r.num,.int .i64 r.cnt,.int .u64 (r.tok:Int),byE r.data,.bool false,.bool false]) []:=hC
 refine Zl Tryz.func29 rfl Tryz.ntmps29 rfl rfl ?_
 repeat'(first|(apply OL 13 10 (fun c=>1<=c) (c0:=1) (Nat.le_refl _) ZG;decide +kernel;kernel_rfl;kernel_rfl;kernel_rfl;(iterate 8 exact Z))|(show KQ _=true;exact Z)|(show nfl (Z8 _ _ _)=some _;exact Z)|(apply Rv c2 hc2;(iterate 4 exact Z))|(refine MG ?_;intro c2 hc2)|(apply Zb (hE);kernel_rfl;(iterate 4 exact Z))|(apply Zb (hR);kernel_rfl;(iterate 4 exact Z))|(apply Zb (hC);kernel_rfl;(iterate 4 exact Z))|(apply Kr Za;(iterate 6 exact Z);(first|exact Zk rfl|with_reducible assumption|rotate_left);(first|exact Qb|rotate_left);(first|exact Qb|rotate_left);(first|exact Qb|rotate_left);exact Z;exact(fun _=>rfl);exact Z;intro c2 hc2)|refine YR Za Z Z Z Z ?_|(apply Zg Za;exact Z)|(apply Zh Za;exact Z)|(apply Zs Za;exact Z)|(apply Zd;(iterate 3 exact Z);(first|with_reducible assumption|decide +kernel|(solve|simp only[bn])))|(apply Zi;exact Z;(first|with_reducible assumption|decide +kernel|(solve|simp only[bn]));exact Z;exact Z)|(apply Zf;exact Z;(first|with_reducible assumption|decide +kernel|(solve|simp only[bn])))|refine Zn Za Z Z Z Z ?_|refine ZO Za Z Z Z Z Z Z Z Z Z Z Z Z ?_|(apply Zq;(iterate 4 exact Z))|exact AE.nil _ _ _ _|(apply Zv;exact Z)|(apply ZA;exact Z;exact Z;decide +kernel;exact Z)|(apply ZB;exact Z)|(apply Yr;exact Z)|exact AO.nil _ _ _|(apply Zp;(decide +kernel))|(apply ZZ;(iterate 3 exact Z))|exact AOs.nil|exact ZJ rfl rfl|exact Y6 rfl rfl rfl rfl rfl)
 all_goals(apply Rw [0,3] c2 hc2;(apply Zc Za;exact Z);(iterate 4 exact Z))
 all_goals rfl
set_option maxRecDepth 10000 in
theorem Ij [Known][KnownU8](L:List Ln)(s c:Nat)(hL:L ≠ [])(hl:L.length<=1000)(hc:L.length<=c)(x:EvV)(r:RyV)(hk:Vb ⟨x,r,false,false⟩)(h1:Ye x=true)(h2:Yk r=true)(hrm:L.length+1<=c):AT Tryz.prog 29 [.ptr 0 0,.agg [.int .u64 (x.now:Int),.int .i64 x.kd,.int .u64 (x.tok:Int),.int .i64 x.ses,.int .u64 (x.rq.id:Int),.int .i64 x.rq.kd,.bool x.rq.ep.i,.int .u64 (x.rq.ep.n:Int),.int .u64 (x.rq.ep.s:Int),.str x.rq.ep.h,.str x.rq.ep.d,.bool x.rq.ds.i,.int .u64 (x.rq.ds.n:Int),.int .u64 (x.rq.ds.s:Int),.str x.rq.ds.h,.str x.rq.ds.d,.int .i64 x.rq.pol,.int .i64 x.rq.num,.int .i64 x.rq.tik,byE x.rq.pay,.int .u64 (x.rq.life:Int),.int .u64 (x.rq.tok:Int),.bool x.rq.on,byE x.data],.agg [.int .u64 (r.id:Int),.int .i64 r.err,.int .i64 r.num,.int .i64 r.cnt,.int .u64 (r.tok:Int),byE r.data]] (hsR L s c) [] (.tup [.int .i64 (L.length:Int),.int .i64 0]) (hsR (L++[⟨x,r,false,false⟩]) s c) []:=by
 have hE:=V2 x (by have:=hk;unfold Vb at this;dsimp only at this;omega)
 have hR:=VZ r
 replace hE:AP Tryz.prog 42 [.agg [.int .u64 (x.now:Int),.int .i64 x.kd,.int .u64 (x.tok:Int),.int .i64 x.ses,.int .u64 (x.rq.id:Int),.int .i64 x.rq.kd,.bool x.rq.ep.i,.int .u64 (x.rq.ep.n:Int),.int .u64 (x.rq.ep.s:Int),.str x.rq.ep.h,.str x.rq.ep.d,.bool x.rq.ds.i,.int .u64 (x.rq.ds.n:Int),.int .u64 (x.rq.ds.s:Int),.str x.rq.ds.h,.str x.rq.ds.d,.int .i64 x.rq.pol,.int .i64 x.rq.num,.int .i64 x.rq.tik,byE x.rq.pay,.int .u64 (x.rq.life:Int),.int .u64 (x.rq.tok:Int),.bool x.rq.on,byE x.data]] (.bool (Ye x)) []:=hE
 replace hR:AP Tryz.prog 61 [.agg [.int .u64 (r.id:Int),.int .i64 r.err,.int .i64 r.num,.int .i64 r.cnt,.int .u64 (r.tok:Int),byE r.data]] (.bool (Yk r)) []:=hR
 rw[h1]at hE
 rw[h2]at hR
 have hC:=UA ⟨x,r,false,false⟩ hk
 replace hC:AP Tryz.prog 62 [.agg [.int .u64 (x.now:Int),.int .i64 x.kd,.int .u64 (x.tok:Int),.int .i64 x.ses,.int .u64 (x.rq.id:Int),.int .i64 x.rq.kd,.bool x.rq.ep.i,.int .u64 (x.rq.ep.n:Int),.int .u64 (x.rq.ep.s:Int),.str x.rq.ep.h,.str x.rq.ep.d,.bool x.rq.ds.i,.int .u64 (x.rq.ds.n:Int),.int .u64 (x.rq.ds.s:Int),.str x.rq.ds.h,.str x.rq.ds.d,.int .i64 x.rq.pol,.int .i64 x.rq.num,.int .i64 x.rq.tik,byE x.rq.pay,.int .u64 (x.rq.life:Int),.int .u64 (x.rq.tok:Int),.bool x.rq.on,byE x.data,.int .u64 (r.id:Int),.int .i64 r.err,.int .i64 r.num,.int .i64 r.cnt,.int .u64 (r.tok:Int),byE r.data,.bool false,.bool false]] (.agg [.int .u64 (x.now:Int),.int .i64 x.kd,.int .u64 (x.tok:Int),.int .i64 x.ses,.int .u64 (x.rq.id:Int),.int .i64 x.rq.kd,.bool x.rq.ep.i,.int .u64 (x.rq.ep.n:Int),.int .u64 (x.rq.ep.s:Int),.str x.rq.ep.h,.str x.rq.ep.d,.bool x.rq.ds.i,.int .u64 (x.rq.ds.n:Int),.int .u64 (x.rq.ds.s:Int),.str x.rq.ds.h,.str x.rq.ds.d,.int .i64 x.rq.pol,.int .i64 x.rq.num,.int .i64 x.rq.tik,byE x.rq.pay,.int .u64 (x.rq.life:Int),.int .u64 (x.rq.tok:Int),.bool x.rq.on,byE x.data,.int .u64 (r.id:Int),.int .i64 r.err,.int .i64 r.num,.int .i64 r.cnt,.int .u64 (r.tok:Int),byE r.data,.bool false,.bool false]) []:=hC
 have hml:(L.map lnE).length=L.length:=List.length_map ..
 have hUM:=Gt L
 have hc0:0<c:=by have:=List.length_pos_iff.2 hL;omega
 have hle1:(L.map lnE).length+1<=maxLen:=by rw[hml];unfold maxLen;omega
 have hby1:((L.map lnE).length+1)*328<=140737488355328:=by rw[hml];omega
 have d1:decide (((L.length:Nat):Int) ≥ 2000)=false:=decide_eq_false (by omega)
 have es:IntKind.i64.wrap (((((L.map lnE).length+1:Nat)):Int)-1)=((L.length:Nat):Int):=by rw[hml,IntWalk.i64_in _ (by omega)];omega
 have hsn:hsR (L++[⟨x,r,false,false⟩]) s=fun c=>[[.bool true,.bsl 1 0 ((L.map lnE).length+1) c,.int .i64 (s:Int)],[.row (c*32) (flat (L.map lnE++[lnE ⟨x,r,false,false⟩]))]]:=by
  funext c
  unfold hsR lnF
  rw[List.map_append,hml,List.length_append]
  rfl
 have hrm2:(L.map lnE).length+1<=c:=by rw[hml];exact hrm
 rw[hsn]
 refine Zl Tryz.func29 rfl Tryz.ntmps29 rfl rfl ?_
 repeat'(first|(apply Zb (hE);kernel_rfl;(iterate 4 exact Z))|(apply Zb (hR);kernel_rfl;(iterate 4 exact Z))|(apply Zb (hC);kernel_rfl;(iterate 4 exact Z))|(apply Jb (l:=L.map lnE) Za;(iterate 4 exact Z);exact(Src.sl rfl);exact Z;exact hml;exact Z;exact hc0;exact hUM;exact Zk rfl;exact List.cons_ne_nil _ _;exact hle1;exact hby1;exact Z;exact hrm2;exact Z;exact Z)|refine YR Za Z Z Z Z ?_|(apply Zg Za;exact Z)|(apply Zh Za;exact Z)|(apply Zs Za;exact Z)|(apply Zd;(iterate 3 exact Z);(first|with_reducible assumption|decide +kernel|(solve|simp only[bn])))|(apply Zi;exact Z;(first|with_reducible assumption|decide +kernel|(solve|simp only[bn]));exact Z;exact Z)|(apply Zf;exact Z;(first|with_reducible assumption|decide +kernel|(solve|simp only[bn])))|refine ZO Za Z Z Z Z Z Z Z Z Z Z Z Z ?_|(apply Zm 11 ZG;decide +kernel;kernel_rfl;kernel_rfl;kernel_rfl;exact Z;exact Z)|(apply Zq;(iterate 4 exact Z))|exact AE.nil _ _ _ _|(apply Zv;exact Z)|(apply Yj;exact Z)|(apply ZA;exact Z;exact Z;decide +kernel;exact Z)|(apply ZB;exact Z)|(apply Yr;exact Z)|exact AO.nil _ _ _|(apply Zp;(decide +kernel))|(apply ZZ;(iterate 3 exact Z))|exact AOs.nil|exact ZJ rfl rfl|exact Y6 rfl rfl rfl rfl rfl|exact Y2 rfl rfl)
 all_goals(apply Wg [0,1] [];(apply Zc Za;exact Z);(iterate 7 exact Z))
 all_goals first|rfl|(show D.tup [.int .i64 (IntKind.i64.wrap ((((L.map lnE).length+1:Nat):Int)-1)),.int .i64 0]=_;rw[es])
set_option maxRecDepth 10000 in
theorem Ik [Known][KnownU8](L:List Ln)(s c:Nat)(hL:L ≠ [])(hl:L.length<=1000)(hc:L.length<=c)(x:EvV)(r:RyV)(hk:Vb ⟨x,r,false,false⟩)(h1:Ye x=true)(h2:Yk r=true)(hrm:c<L.length+1):AFQ Tryz.prog 29 [.ptr 0 0,.agg [.int .u64 (x.now:Int),.int .i64 x.kd,.int .u64 (x.tok:Int),.int .i64 x.ses,.int .u64 (x.rq.id:Int),.int .i64 x.rq.kd,.bool x.rq.ep.i,.int .u64 (x.rq.ep.n:Int),.int .u64 (x.rq.ep.s:Int),.str x.rq.ep.h,.str x.rq.ep.d,.bool x.rq.ds.i,.int .u64 (x.rq.ds.n:Int),.int .u64 (x.rq.ds.s:Int),.str x.rq.ds.h,.str x.rq.ds.d,.int .i64 x.rq.pol,.int .i64 x.rq.num,.int .i64 x.rq.tik,byE x.rq.pay,.int .u64 (x.rq.life:Int),.int .u64 (x.rq.tok:Int),.bool x.rq.on,byE x.data],.agg [.int .u64 (r.id:Int),.int .i64 r.err,.int .i64 r.num,.int .i64 r.cnt,.int .u64 (r.tok:Int),byE r.data]] (hsR L s c) (L.length+1) (.tup [.int .i64 (L.length:Int),.int .i64 0]) (fun c2=>[[.bool true,.bsl 2 0 (L.length+1) c2,.int .i64 (s:Int)],[.row (c*32) (lnF L)],[.row (c2*32) (lnF (L++[⟨x,r,false,false⟩]))]]):=by
 have hE:=V2 x (by have:=hk;unfold Vb at this;dsimp only at this;omega)
 have hR:=VZ r
 replace hE:AP Tryz.prog 42 [.agg [.int .u64 (x.now:Int),.int .i64 x.kd,.int .u64 (x.tok:Int),.int .i64 x.ses,.int .u64 (x.rq.id:Int),.int .i64 x.rq.kd,.bool x.rq.ep.i,.int .u64 (x.rq.ep.n:Int),.int .u64 (x.rq.ep.s:Int),.str x.rq.ep.h,.str x.rq.ep.d,.bool x.rq.ds.i,.int .u64 (x.rq.ds.n:Int),.int .u64 (x.rq.ds.s:Int),.str x.rq.ds.h,.str x.rq.ds.d,.int .i64 x.rq.pol,.int .i64 x.rq.num,.int .i64 x.rq.tik,byE x.rq.pay,.int .u64 (x.rq.life:Int),.int .u64 (x.rq.tok:Int),.bool x.rq.on,byE x.data]] (.bool (Ye x)) []:=hE
 replace hR:AP Tryz.prog 61 [.agg [.int .u64 (r.id:Int),.int .i64 r.err,.int .i64 r.num,.int .i64 r.cnt,.int .u64 (r.tok:Int),byE r.data]] (.bool (Yk r)) []:=hR
 rw[h1]at hE
 rw[h2]at hR
 have hC:=UA ⟨x,r,false,false⟩ hk
 replace hC:AP Tryz.prog 62 [.agg [.int .u64 (x.now:Int),.int .i64 x.kd,.int .u64 (x.tok:Int),.int .i64 x.ses,.int .u64 (x.rq.id:Int),.int .i64 x.rq.kd,.bool x.rq.ep.i,.int .u64 (x.rq.ep.n:Int),.int .u64 (x.rq.ep.s:Int),.str x.rq.ep.h,.str x.rq.ep.d,.bool x.rq.ds.i,.int .u64 (x.rq.ds.n:Int),.int .u64 (x.rq.ds.s:Int),.str x.rq.ds.h,.str x.rq.ds.d,.int .i64 x.rq.pol,.int .i64 x.rq.num,.int .i64 x.rq.tik,byE x.rq.pay,.int .u64 (x.rq.life:Int),.int .u64 (x.rq.tok:Int),.bool x.rq.on,byE x.data,.int .u64 (r.id:Int),.int .i64 r.err,.int .i64 r.num,.int .i64 r.cnt,.int .u64 (r.tok:Int),byE r.data,.bool false,.bool false]] (.agg [.int .u64 (x.now:Int),.int .i64 x.kd,.int .u64 (x.tok:Int),.int .i64 x.ses,.int .u64 (x.rq.id:Int),.int .i64 x.rq.kd,.bool x.rq.ep.i,.int .u64 (x.rq.ep.n:Int),.int .u64 (x.rq.ep.s:Int),.str x.rq.ep.h,.str x.rq.ep.d,.bool x.rq.ds.i,.int .u64 (x.rq.ds.n:Int),.int .u64 (x.rq.ds.s:Int),.str x.rq.ds.h,.str x.rq.ds.d,.int .i64 x.rq.pol,.int .i64 x.rq.num,.int .i64 x.rq.tik,byE x.rq.pay,.int .u64 (x.rq.life:Int),.int .u64 (x.rq.tok:Int),.bool x.rq.on,byE x.data,.int .u64 (r.id:Int),.int .i64 r.err,.int .i64 r.num,.int .i64 r.cnt,.int .u64 (r.tok:Int),byE r.data,.bool false,.bool false]) []:=hC
 have hml:(L.map lnE).length=L.length:=List.length_map ..
 have hUM:=Gt L
 have hc0:0<c:=by have:=List.length_pos_iff.2 hL;omega
 have hle1:(L.map lnE).length+1<=maxLen:=by rw[hml];unfold maxLen;omega
 have hby1:((L.map lnE).length+1)*328<=140737488355328:=by rw[hml];omega
 have d1:decide (((L.length:Nat):Int) ≥ 2000)=false:=decide_eq_false (by omega)
 have es:IntKind.i64.wrap (((((L.map lnE).length+1:Nat)):Int)-1)=((L.length:Nat):Int):=by rw[hml,IntWalk.i64_in _ (by omega)];omega
 have hsn:hsR (L++[⟨x,r,false,false⟩]) s=fun c=>[[.bool true,.bsl 1 0 ((L.map lnE).length+1) c,.int .i64 (s:Int)],[.row (c*32) (flat (L.map lnE++[lnE ⟨x,r,false,false⟩]))]]:=by
  funext c
  unfold hsR lnF
  rw[List.map_append,hml,List.length_append]
  rfl
 have hrm2:c<(L.map lnE).length+1:=by rw[hml];exact hrm
 refine Zl Tryz.func29 rfl Tryz.ntmps29 rfl rfl ?_
 repeat'(first|(apply OL 13 10 (fun c=>(L.map lnE).length+1<=c) (c0:=(L.map lnE).length+1) (Nat.le_refl _) ZG;decide +kernel;kernel_rfl;kernel_rfl;kernel_rfl;(iterate 8 exact Z))|(show KQ _=true;exact Z)|(show nfl (Z8 _ _ _)=some _;exact Z)|(apply Rv c2 hc2;(iterate 4 exact Z))|(refine MG ?_;intro c2 hc2)|(apply Zb (hE);kernel_rfl;(iterate 4 exact Z))|(apply Zb (hR);kernel_rfl;(iterate 4 exact Z))|(apply Zb (hC);kernel_rfl;(iterate 4 exact Z))|(apply Jc (l:=L.map lnE) Za;(iterate 4 exact Z);exact(Src.sl rfl);exact Z;exact hml;exact Z;exact hc0;exact hUM;exact Zk rfl;exact List.cons_ne_nil _ _;exact hle1;exact hby1;exact Z;exact hrm2;exact Z;exact(fun _=>rfl);exact Z;intro c2 hc2)|refine YR Za Z Z Z Z ?_|(apply Zg Za;exact Z)|(apply Zh Za;exact Z)|(apply Zs Za;exact Z)|(apply Zd;(iterate 3 exact Z);(first|with_reducible assumption|decide +kernel|(solve|simp only[bn])))|(apply Zi;exact Z;(first|with_reducible assumption|decide +kernel|(solve|simp only[bn]));exact Z;exact Z)|(apply Zf;exact Z;(first|with_reducible assumption|decide +kernel|(solve|simp only[bn])))|refine ZO Za Z Z Z Z Z Z Z Z Z Z Z Z ?_|(apply Zq;(iterate 4 exact Z))|exact AE.nil _ _ _ _|(apply Zv;exact Z)|(apply ZA;exact Z;exact Z;decide +kernel;exact Z)|(apply ZB;exact Z)|(apply Yr;exact Z)|exact AO.nil _ _ _|(apply Zp;(decide +kernel))|(apply ZZ;(iterate 3 exact Z))|exact AOs.nil|exact ZJ rfl rfl|exact Y6 rfl rfl rfl rfl rfl)
 all_goals(apply Rw [0,1,4] c2 (by rw[<- hml];exact hc2);(apply Zc Za;exact Z);(iterate 4 exact Z))
 all_goals first|rfl|(show D.tup [.int .i64 (IntKind.i64.wrap ((((L.map lnE).length+1:Nat):Int)-1)),.int .i64 0]=_;rw[es])|(unfold lnF;rw[List.map_append,<- hml];rfl)
def Wv (L:List Ln)(i:Nat):Bool:=match L[i]? with
 | some x=>x.lost
 | none=>true
theorem WC {L:List Ln}{i:Nat}{x:Ln}(h:L[i]?=some x):Wv L i=x.lost:=by unfold Wv;rw[h]
def ZM (L:List Ln):List Ln:=L.filter fun x=>!x.lost
theorem Ww (L:List Ln):(ZM L).length<=L.length:=List.length_filter_le _ _
theorem WD {L:List Ln}{i:Nat}{x:Ln}(h:L[i]?=some x):ZM (L.take (i+1))=ZM (L.take i)++(match x.lost with|true=>[]|false=>[x]):=by
 unfold ZM
 rw[List.take_add_one,h,List.filter_append]
 cases hl:x.lost<;>simp[hl]
theorem QM {L:List Ln}{i:Nat}(h:Wv L i=true):ZM (L.take (i+1))=ZM (L.take i):=by
 unfold Wv at h
 cases hx:L[i]? with
 | none=>rw[List.take_of_length_le (by have:=List.getElem?_eq_none_iff.1 hx;omega),List.take_of_length_le (by have:=List.getElem?_eq_none_iff.1 hx;omega)]
 | some x=>
  rw[hx]at h
  dsimp only at h
  rw[WD hx,h,List.append_nil]
theorem MM (A B:List Ln):ZM (A++B)=ZM A++ZM B:=List.filter_append ..
def crA (left:Int):Nat->List Ln->List Ln
 | _,[]=>[]
 | n,x::l=>match x.lost with
  | true=>x::crA left n l
  | false=>⟨x.e,x.r,x.told,decide (((n+1:Nat):Int)>left)⟩::crA left (n+1) l
theorem UC (left:Int)(n:Nat)(x:Ln)(l:List Ln):crA left n (x::l)=(match x.lost with|true=>x::crA left n l|false=>⟨x.e,x.r,x.told,decide (((n+1:Nat):Int)>left)⟩::crA left (n+1) l):=rfl
theorem VF (left:Int):∀(l:List Ln) (n:Nat),(crA left n l).length=l.length
 | [],n=>rfl
 | x::l,n=>by
  rw[UC]
  cases x.lost
  ·simp[VF left l]
  ·simp[VF left l]
theorem XK (left:Int):∀(A B:List Ln) (n:Nat),crA left n (A++B)=crA left n A++crA left (n+(ZM A).length) B
 | [],B,n=>rfl
 | x::A,B,n=>by
  rw[List.cons_append,UC,UC]
  cases hl:x.lost
  ·dsimp only
   rw[XK left A B,List.cons_append]
   unfold ZM
   simp only[List.filter_cons,hl,Bool.not_false,if_true,List.length_cons]
   rw[show n+1+(A.filter fun x=>!x.lost).length=n+((A.filter fun x=>!x.lost).length+1) by omega]
  ·dsimp only
   rw[XK left A B,List.cons_append]
   unfold ZM
   simp only[List.filter_cons,hl,Bool.not_true,Bool.false_eq_true,if_false]
def WT (left:Int)(L:List Ln)(i:Nat):List Ln:=crA left 0 (L.take i)++L.drop i
theorem Nc (left:Int)(L:List Ln):WT left L L.length=crA left 0 L:=by
 unfold WT
 rw[List.drop_length,List.append_nil,List.take_length]
theorem ON (left:Int)(L:List Ln)(i:Nat):(WT left L i).length=L.length:=by
 unfold WT
 rw[List.length_append,VF,List.length_take,List.length_drop]
 omega
theorem OO (left:Int){L:List Ln}{i:Nat}(h:i<L.length):(WT left L i)[i]?=L[i]? := by
 unfold WT
 have hl:(crA left 0 (L.take i)).length=i:=by rw[VF,List.length_take];omega
 rw[List.getElem?_append_right (by omega),hl,Nat.sub_self,List.getElem?_drop,Nat.add_zero]
theorem Hp (left:Int){L:List Ln}{i:Nat}(hi:i<L.length)(h:Wv L i=true):WT left L (i+1)=WT left L i:=by
 have hx:=List.getElem?_eq_getElem hi
 rw[WC hx]at h
 unfold WT
 rw[List.take_add_one,hx,XK,List.append_assoc]
 congr 1
 show crA left _ [L[i]]++_=_
 rw[UC,h]
 dsimp only
 rw[List.drop_eq_getElem_cons hi]
 rfl
theorem Hq (left:Int){L:List Ln}{i:Nat}{x:Ln}(hx:L[i]?=some x)(h:x.lost=false):WT left L (i+1)=(WT left L i).set i ⟨x.e,x.r,x.told,decide ((((ZM (L.take i)).length+1:Nat):Int)>left)⟩:=by
 have hi:=(List.getElem?_eq_some_iff.1 hx).1
 unfold WT
 have hl:(crA left 0 (L.take i)).length=i:=by rw[VF,List.length_take];omega
 rw[List.set_append_right _ _ (by omega),hl,Nat.sub_self,List.take_add_one,hx,XK,List.append_assoc]
 congr 1
 show crA left _ [x]++_=_
 rw[UC,h]
 dsimp only
 rw[List.drop_eq_getElem_cons hi,Nat.zero_add]
 rfl
end Go.Proofs.YtchlgagdbflkmaaGreatDoor
end
section
open Go.RowKit Go.Pl
namespace Go.Av
theorem Gw (f h:Nat->Option Nat):∀(tm:List (Nat × D)) (t:Nat),look (tm.map fun p=>(p.1,p.2.ren f h)) t=(look tm t).ren f h
 | [],t=>rfl
 | (x,d)::l,t=>by
  simp only[List.map_cons,Go.Av.look]
  cases hb:Nat.beq x t with
  | true=>rfl
  | false=>exact Gw f h l t
theorem Inv.sel [Known][Dfr]{b0:Bs}{n:Nat}{ee:Nat × Nat}{tm:List (Nat × D)}{bx:List (List D)}{fr:List Fr}{g:G}{a:Act}{w:World}{bs ts:List Nat}(h:Inv b0 ⟨n,tm,bx,fr,ee⟩ g a w)(hb:YM bs bx.length)(ht:YM ts fr.length)
  (hk:∀ i,i<ee.1->bs[i]?=some i) (hm:∀ i,i<ee.2->ts[i]?=some i):Inv b0 ⟨n,tm.map fun p=>(p.1,p.2.ren (idx bs) (idx ts)),VM bs ts bx,VN ts fr,ee⟩ (g.sel bs ts) a w:=by
 have hM:=h.mem
 have hbd:=h.bd
 dsimp only at hM hbd
 refine⟨h.size,h.defers,hM.sel hb ht,fun t=>?_,?_,h.bd⟩
 ·dsimp only
  rw[Gw]
  exact V.sel hM hb ht (h.tm t)
 ·have he:=h.evo
  refine⟨he.os,he.tape,he.output,he.size,he.block,he.C,he.cell,he.newC,fun i b hi=>?_,fun b hb'=>?_,fun b c hb'=>?_,fun i f hf=>?_⟩
  ·have h1:=(List.getElem?_eq_some_iff.1 hi).1
   have h2:=he.ρp i b hi
   show(bs.map fun i=>g.ρ.getD i 0)[i]?=some b
   rw[List.getElem?_map,hk i (by omega)]
   have h2:g.ρ[i]?=some b:=h2
   simp[List.getD,h2]
  ·obtain⟨i,hi⟩:=List.getElem?_of_mem hb'
   obtain⟨j,_,hj⟩:=QU hM hb hi
   exact he.ρn b (List.mem_of_getElem? hj)
  ·obtain⟨i,hi⟩:=List.getElem?_of_mem hb'
   obtain⟨j,_,hj⟩:=Jg hM ht hi
   exact he.τn b c (List.mem_of_getElem? hj)
  ·have h1:=(List.getElem?_eq_some_iff.1 hf).1
   obtain⟨f',q1,q2,q3⟩:=he.tok i f hf
   have q1:fr[i]?=some f':=q1
   refine⟨f',?_,q2,fun e=>?_⟩
   ·show(ts.map fun i=>fr.getD i default)[i]?=some f'
    rw[List.getElem?_map,hm i (by omega)]
    simp[List.getD,q1]
   ·have q3:=q3 e
    show(ts.map fun i=>g.τ.getD i (0,0))[i]?=_
    rw[<- q3,List.getElem?_map,hm i (by omega)]
    have hl:i<g.τ.length:=by rw[hM.tl];exact(List.getElem?_eq_some_iff.1 q1).1
    show some (g.τ.getD i (0,0))=g.τ[i]?
    exact(getD_some hl).symm
def Je (l:List Nat):Nat->Bool
 | 0=>true
 | k+1=>(l[k]? == some k)&&Je l k
theorem J9 {l:List Nat}:∀ {k:Nat},Je l k=true->∀ i,i<k->l[i]?=some i
 | 0,_,i,hi=>by omega
 | k+1,h,i,hi=>by
  simp only[Je,Bool.and_eq_true,beq_iff_eq]at h
  rcases Nat.lt_or_ge i k with h1|h1
  ·exact J9 h.2 i h1
  ·have:i=k:=by omega
   subst this
   exact h.1
structure LandS (J:Nat->List (Nat × D)->List (List D)->List Fr->Prop) (n:Nat) (ee:Nat × Nat) (k:Nat) (S:St):Prop where
 out:∃ m bs ts tm tm1 bx fr,m<k/\J m tm bx fr/\S.n=n/\S.e=ee/\WQ bs S.bx.length=true/\WQ ts S.fr.length=true/\Je bs ee.1=true/\Je ts ee.2=true/\Sub S.tm tm1/\(tm1.map fun p=>(p.1,p.2.ren (idx bs) (idx ts)))=tm/\VM bs ts S.bx=bx/\VN ts S.fr=fr
theorem LandS.mk' {J:Nat->List (Nat × D)->List (List D)->List Fr->Prop}{n k m:Nat}{ee:Nat × Nat}{tm0 tm tm1:List (Nat × D)}{bx0 bx:List (List D)}{fr0 fr:List Fr}(bs ts:List Nat)(hm:m<k)(hJ:J m tm bx fr)(h1:WQ bs bx0.length=true)(h2:WQ ts fr0.length=true)(h3:Je bs ee.1=true)(h4:Je ts ee.2=true)
  (hs:Sub tm0 tm1) (ht:(tm1.map fun p=>(p.1,p.2.ren (idx bs) (idx ts)))=tm) (hbx:VM bs ts bx0=bx) (hfr:VN ts fr0=fr):LandS J n ee k ⟨n,tm0,bx0,fr0,ee⟩:=
 ⟨m,bs,ts,tm,tm1,bx,fr,hm,hJ,rfl,rfl,h1,h2,h3,h4,hs,ht,hbx,hfr⟩
theorem LandS.inv [Known][Dfr]{J:Nat->List (Nat × D)->List (List D)->List Fr->Prop}{n k:Nat}{ee:Nat × Nat}{S:St}(h:LandS J n ee k S){b0:Bs}{g:G}{a:Act}{w:World}(hi:Inv b0 S g a w):∃ m,m<k/\∃ tm bx fr g',J m tm bx fr/\Inv b0 ⟨n,tm,bx,fr,ee⟩ g' a w:=by
 obtain⟨m,bs,ts,tm,tm1,bx,fr,h1,h2,h3,h4,h5,h6,h7,h8,h9,h10,h11,h12⟩:=h.out
 obtain⟨n',tm',bx',fr',ee'⟩:=S
 dsimp only at h3 h4 h5 h6 h9 h11 h12
 subst h3 h4
 have:=(hi.sub h9).sel (Yw h5) (Yw h6) (J9 h7) (J9 h8)
 rw[h10,h11,h12]at this
 exact⟨m,h1,tm,bx,fr,_,h2,this⟩
theorem Gx [Known][Dfr]{P:Program}{Q:X->St->Prop}{c:Code}{n:Nat}{ee:Nat × Nat}{tm0:List (Nat × D)}{bx0:List (List D)}{fr0:List Fr}(J:Nat->List (Nat × D)->List (List D)->List Fr->Prop)
  (k0:Nat) (h0:LandS J n ee k0 ⟨n,tm0,bx0,fr0,ee⟩) (hr:∀ k tm bx fr,J k tm bx fr->AW P c ⟨n,tm,bx,fr,ee⟩ (X.then (LandS J n ee k) Q)):AW P (.loop c) ⟨n,tm0,bx0,fr0,ee⟩ Q:=by
 refine⟨fun b0 g a w hi=>?_⟩
 obtain⟨m,_,tm,bx,fr,g',hJ,hi'⟩:=h0.inv hi
 refine wp_loop_ghost (fun k a w=>∃ tm bx fr g,J k tm bx fr/\Inv b0 ⟨n,tm,bx,fr,ee⟩ g a w) m ⟨tm,bx,fr,g',hJ,hi'⟩ fun k a w hI=>?_
 obtain⟨tm,bx,fr,g,hJ,hi⟩:=hI
 refine wp_mono ((hr k tm bx fr hJ).run b0 g a w hi) fun e a w hc=>?_
 cases e<;>simp only[Wk,X.then,Exit.then]at hc ⊢
 ·obtain⟨S',g',hi',hL⟩:=hc
  obtain⟨m,hm,tm,bx,fr,g',hJ,hi'⟩:=hL.inv hi'
  exact⟨m,hm,tm,bx,fr,g',hJ,hi'⟩
 all_goals exact hc
end Go.Av
end

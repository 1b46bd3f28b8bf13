/- ReportNever's walk by cases (rngen.py). -/
import Derived.Test.YtmljabhmajehnaaDoorN30
import Derived.Test.YtmljabhmajehnaaDoorN31
import Derived.Test.YtmljabhmajehnaaDoorN01
import Derived.Test.YtmljabhmajehnaaDoorN25
import Derived.Test.YtmljabhmajehnaaDoorN26
import Derived.Test.YtmljabhmajehnaaDoorN07
import Derived.Test.YtmljabhmajehnaaDoorN10
import Derived.Test.YtmljabhmajehnaaDoorN29
import Derived.Test.YtmljabhmajehnaaDoorProg
import Derived.Lib.LaidU8
set_option linter.unusedVariables false
set_option linter.unusedSimpArgs false
section
open Go.RowKit Go.Pl Go.Av
namespace Go.Proofs.YtmljabhmajehnaaDoor
set_option maxHeartbeats 4000000
theorem Lo [Known](ra rb rc ji di ri xi:Bool)(rrs rtm jn js jt jq fl dn ds rn rs xn xs t q life:Nat)(sum:Int)(jh jd dh dd rh rd xh xd:List UInt8)(bl:List E)(more:UInt8)(bn:BunV)(e:Int)
  (hA:AP Tryd.prog 7 [] (.bool true) [])
  (hB:AP Tryd.prog 5 [.agg [.bool ra,.bool rb,.bool rc,.int .u64 (rrs:Int),.int .u64 (rtm:Int),.bool ji,.int .u64 (jn:Int),.int .u64 (js:Int),.str jh,.str jd,.int .u64 (jt:Int),.int .u64 (jq:Int)],.agg [.bool false,.int .u64 0,.int .u64 0,.str [97],.str []],.agg [.bool false,.int .u64 0,.int .u64 0,.str [],.str [],.int .u64 4,.int .u64 0],.int .u64 5] (.tup [.agg (bnC bn),.int .i64 e]) [])
  (hG:AP Tryd.prog 6 [.agg [.int .u64 (fl:Int),.int .i64 sum,.bool di,.int .u64 (dn:Int),.int .u64 (ds:Int),.str dh,.str dd,.bool ri,.int .u64 (rn:Int),.int .u64 (rs:Int),.str rh,.str rd,.bool xi,.int .u64 (xn:Int),.int .u64 (xs:Int),.str xh,.str xd,.int .u64 (t:Int),.int .u64 (q:Int),.int .u64 (life:Int),.sl .ext bl]] (.bool true) []) :
  AP Tryd.prog 3 [.agg [.bool ra,.bool rb,.bool rc,.int .u64 (rrs:Int),.int .u64 (rtm:Int),.bool ji,.int .u64 (jn:Int),.int .u64 (js:Int),.str jh,.str jd,.int .u64 (jt:Int),.int .u64 (jq:Int)],.agg [.int .u64 (fl:Int),.int .i64 sum,.bool di,.int .u64 (dn:Int),.int .u64 (ds:Int),.str dh,.str dd,.bool ri,.int .u64 (rn:Int),.int .u64 (rs:Int),.str rh,.str rd,.bool xi,.int .u64 (xn:Int),.int .u64 (xs:Int),.str xh,.str xd,.int .u64 (t:Int),.int .u64 (q:Int),.int .u64 (life:Int),.sl .ext bl],.int .u8 (more.toNat:Int)] (.bool true) []:=by
 obtain⟨⟨pfl,psum,⟨pdi,pdn,pds,pdh,pdd⟩,⟨pri,prn,prs,prh,prd⟩,⟨pxi,pxn,pxs,pxh,pxd⟩,pt,pq,plife⟩,pbl⟩:=bn
 try dsimp only at *
 refine AP.ofA (Zl Tryd.func3 Z Tryd.ntmps3 Z Z ?_)
 repeat'(first|(apply Zb (hA);kernel_rfl;(iterate 4 exact Z))|(apply Zb (hB);kernel_rfl;(iterate 4 exact Z))|(apply Zb (hG);kernel_rfl;(iterate 4 exact Z))|(apply Zg Za;exact Z)|(apply Zf Za;exact Z)|(apply Zs Za;exact Z)|(apply Zo;(iterate 3 exact Z);(first|with_reducible assumption|decide +kernel|(solve|simp only[bn])))|(apply Zk;exact Z;(first|with_reducible assumption|decide +kernel|(solve|simp only[bn]));exact Z;exact Z)|(apply Zd;exact Z;(first|with_reducible assumption|decide +kernel|(solve|simp only[bn]))))
 all_goals first|((apply Zr [];(apply Zc Za;exact Z);(iterate 4 exact Z)))|skip
 all_goals first|rfl|skip
theorem Lp [Known](ra rb rc ji di ri xi:Bool)(rrs rtm jn js jt jq fl dn ds rn rs xn xs t q life:Nat)(sum:Int)(jh jd dh dd rh rd xh xd:List UInt8)(bl:List E)(more:UInt8)(bn:BunV)(e:Int)
  (hA:AP Tryd.prog 7 [] (.bool true) [])
  (hB:AP Tryd.prog 5 [.agg [.bool ra,.bool rb,.bool rc,.int .u64 (rrs:Int),.int .u64 (rtm:Int),.bool ji,.int .u64 (jn:Int),.int .u64 (js:Int),.str jh,.str jd,.int .u64 (jt:Int),.int .u64 (jq:Int)],.agg [.bool false,.int .u64 0,.int .u64 0,.str [97],.str []],.agg [.bool false,.int .u64 0,.int .u64 0,.str [],.str [],.int .u64 4,.int .u64 0],.int .u64 5] (.tup [.agg (bnC bn),.int .i64 e]) [])
  (hG:AP Tryd.prog 6 [.agg [.int .u64 (fl:Int),.int .i64 sum,.bool di,.int .u64 (dn:Int),.int .u64 (ds:Int),.str dh,.str dd,.bool ri,.int .u64 (rn:Int),.int .u64 (rs:Int),.str rh,.str rd,.bool xi,.int .u64 (xn:Int),.int .u64 (xs:Int),.str xh,.str xd,.int .u64 (t:Int),.int .u64 (q:Int),.int .u64 (life:Int),.sl .ext bl]] (.bool false) [])
  (te:(e != 0)=true) :
  AP Tryd.prog 3 [.agg [.bool ra,.bool rb,.bool rc,.int .u64 (rrs:Int),.int .u64 (rtm:Int),.bool ji,.int .u64 (jn:Int),.int .u64 (js:Int),.str jh,.str jd,.int .u64 (jt:Int),.int .u64 (jq:Int)],.agg [.int .u64 (fl:Int),.int .i64 sum,.bool di,.int .u64 (dn:Int),.int .u64 (ds:Int),.str dh,.str dd,.bool ri,.int .u64 (rn:Int),.int .u64 (rs:Int),.str rh,.str rd,.bool xi,.int .u64 (xn:Int),.int .u64 (xs:Int),.str xh,.str xd,.int .u64 (t:Int),.int .u64 (q:Int),.int .u64 (life:Int),.sl .ext bl],.int .u8 (more.toNat:Int)] (.bool true) []:=by
 obtain⟨⟨pfl,psum,⟨pdi,pdn,pds,pdh,pdd⟩,⟨pri,prn,prs,prh,prd⟩,⟨pxi,pxn,pxs,pxh,pxd⟩,pt,pq,plife⟩,pbl⟩:=bn
 try dsimp only at *
 refine AP.ofA (Zl Tryd.func3 Z Tryd.ntmps3 Z Z ?_)
 repeat'(first|(apply Zb (hA);kernel_rfl;(iterate 4 exact Z))|(apply Zb (hB);kernel_rfl;(iterate 4 exact Z))|(apply Zb (hG);kernel_rfl;(iterate 4 exact Z))|(apply Zg Za;exact Z)|(apply Zf Za;exact Z)|(apply Zs Za;exact Z)|(apply Ze;(iterate 3 exact Z);(first|with_reducible assumption|decide +kernel|(solve|simp only[bn])))|(apply Zo;(iterate 3 exact Z);(first|with_reducible assumption|decide +kernel|(solve|simp only[bn])))|(apply Zk;exact Z;(first|with_reducible assumption|decide +kernel|(solve|simp only[bn]));exact Z;exact Z)|(apply Zi;exact Z;(first|with_reducible assumption|decide +kernel|(solve|simp only[bn]));exact Z;exact Z)|(apply Zd;exact Z;(first|with_reducible assumption|decide +kernel|(solve|simp only[bn]))))
 all_goals first|((apply Zr [];(apply Zc Za;exact Z);(iterate 4 exact Z)))|skip
 all_goals first|rfl|skip
theorem Lq [Known](ra rb rc ji di ri xi:Bool)(rrs rtm jn js jt jq fl dn ds rn rs xn xs t q life:Nat)(sum:Int)(jh jd dh dd rh rd xh xd:List UInt8)(bl:List E)(more:UInt8)(B:List UInt8)(m:Nat)
  (hA:AP Tryd.prog 7 [] (.bool true) [])
  (hB:AP Tryd.prog 5 [.agg [.bool ra,.bool rb,.bool rc,.int .u64 (rrs:Int),.int .u64 (rtm:Int),.bool ji,.int .u64 (jn:Int),.int .u64 (js:Int),.str jh,.str jd,.int .u64 (jt:Int),.int .u64 (jq:Int)],.agg [.bool false,.int .u64 0,.int .u64 0,.str [97],.str []],.agg [.bool false,.int .u64 0,.int .u64 0,.str [],.str [],.int .u64 4,.int .u64 0],.int .u64 5] (.tup [.agg [.int .u64 2,.int .i64 0,.bool false,.int .u64 0,.int .u64 0,.str [97],.str [],.bool false,.int .u64 0,.int .u64 0,.str [],.str [],.bool false,.int .u64 0,.int .u64 0,.str [],.str [],.int .u64 4,.int .u64 0,.int .u64 5,.sl .ext [.agg [.int .u64 1,.int .u64 1,.int .u64 0,.int .i64 0,.sl (B.map E.byte)]]],.int .i64 0]) [])
  (hG:AP Tryd.prog 6 [.agg [.int .u64 (fl:Int),.int .i64 sum,.bool di,.int .u64 (dn:Int),.int .u64 (ds:Int),.str dh,.str dd,.bool ri,.int .u64 (rn:Int),.int .u64 (rs:Int),.str rh,.str rd,.bool xi,.int .u64 (xn:Int),.int .u64 (xs:Int),.str xh,.str xd,.int .u64 (t:Int),.int .u64 (q:Int),.int .u64 (life:Int),.sl .ext bl]] (.bool false) [])
  (hn:B.map E.byte ≠ [])
  (hl1:(B.map E.byte).length<=maxLen)
  (hl2:(B.map E.byte).length*1<=140737488355328)
  (hl3:(B.map E.byte).length+1<=maxLen)
  (hl4:((B.map E.byte).length+1)*1<=140737488355328)
  (hU:Uni 1 (B.map E.byte))
  (em:bits .andNot .u64 (fl:Int) 2=(m:Int))
  (hY:AP Tryd.prog 8 [.agg [.int .u64 0,.int .i64 0,.bool false,.int .u64 0,.int .u64 0,.str [97],.str [],.bool false,.int .u64 0,.int .u64 0,.str [],.str [],.bool false,.int .u64 0,.int .u64 0,.str [],.str [],.int .u64 4,.int .u64 0,.int .u64 5,.sl .ext [.agg [.int .u64 1,.int .u64 1,.int .u64 0,.int .i64 0,.sl (B.map E.byte)]]]] (.tup [.agg [.bool false,.bool false,.bool false,.int .u64 0,.int .u64 0,.bool false,.int .u64 0,.int .u64 0,.str [],.str [],.int .u64 0,.int .u64 0],.int .i64 4]) [])
  (hZ:AP Tryd.prog 8 [.agg [.int .u64 2,.int .i64 0,.bool false,.int .u64 0,.int .u64 0,.str [97],.str [],.bool false,.int .u64 0,.int .u64 0,.str [],.str [],.bool false,.int .u64 0,.int .u64 0,.str [],.str [],.int .u64 4,.int .u64 0,.int .u64 5,.sl .ext [.agg [.int .u64 1,.int .u64 1,.int .u64 0,.int .i64 0,.sl (B.map E.byte++[.int .u8 (more.toNat:Int)])]]]] (.tup [.agg [.bool false,.bool false,.bool false,.int .u64 0,.int .u64 0,.bool false,.int .u64 0,.int .u64 0,.str [],.str [],.int .u64 0,.int .u64 0],.int .i64 3]) [])
  (hW:AP Tryd.prog 8 [.agg [.int .u64 (m:Int),.int .i64 sum,.bool di,.int .u64 (dn:Int),.int .u64 (ds:Int),.str dh,.str dd,.bool ri,.int .u64 (rn:Int),.int .u64 (rs:Int),.str rh,.str rd,.bool xi,.int .u64 (xn:Int),.int .u64 (xs:Int),.str xh,.str xd,.int .u64 (t:Int),.int .u64 (q:Int),.int .u64 (life:Int),.sl .ext bl]] (.tup [.agg [.bool false,.bool false,.bool false,.int .u64 0,.int .u64 0,.bool false,.int .u64 0,.int .u64 0,.str [],.str [],.int .u64 0,.int .u64 0],.int .i64 4]) []) :
  AP Tryd.prog 3 [.agg [.bool ra,.bool rb,.bool rc,.int .u64 (rrs:Int),.int .u64 (rtm:Int),.bool ji,.int .u64 (jn:Int),.int .u64 (js:Int),.str jh,.str jd,.int .u64 (jt:Int),.int .u64 (jq:Int)],.agg [.int .u64 (fl:Int),.int .i64 sum,.bool di,.int .u64 (dn:Int),.int .u64 (ds:Int),.str dh,.str dd,.bool ri,.int .u64 (rn:Int),.int .u64 (rs:Int),.str rh,.str rd,.bool xi,.int .u64 (xn:Int),.int .u64 (xs:Int),.str xh,.str xd,.int .u64 (t:Int),.int .u64 (q:Int),.int .u64 (life:Int),.sl .ext bl],.int .u8 (more.toNat:Int)] (.bool true) []:=by
 refine AP.ofA (Zl Tryd.func3 Z Tryd.ntmps3 Z Z ?_)
 repeat'(first|(apply GO 10 9 Za ZF;decide +kernel;kernel_rfl;kernel_rfl;kernel_rfl;(iterate 5 exact Z);(decide +kernel))|exact alJ Za rfl rfl|(apply Mn;exact Z)|(apply N1;(iterate 3 exact Z))|exact Y4 (t:=57) rfl rfl|exact Y4 (t:=60) rfl rfl|refine Mm Za Z Z Z Z Z Z ?_|(apply Zb (hA);kernel_rfl;(iterate 4 exact Z))|(apply Zb (hB);kernel_rfl;(iterate 4 exact Z))|(apply Zb (hG);kernel_rfl;(iterate 4 exact Z))|(apply Zb (hY);kernel_rfl;(iterate 4 exact Z))|(apply Zb (hW);kernel_rfl;(iterate 4 exact Z))|(apply Tg (b:=4) (l:=[.agg [.int .u64 1,.int .u64 1,.int .u64 0,.int .i64 0,.sl (B.map E.byte++[.int .u8 (more.toNat:Int)])]]) (hZ);kernel_rfl;exact Z;(repeat (first|exact True.intro|exact Nj _ _ _|apply Ni|apply GL));(iterate 4 exact Z))|refine Ic Za Z Z Z Z Z Z Z ?_|refine Km Za Z Z Z Z (Src.sl rfl) Z (Zj rfl) (List.cons_ne_nil _ _) Z Z Z Z Z Z Z ?_|refine Uf Za Z Z Z Z (Src.sl rfl) Z hU hn hl1 hl2 Z Z Z ?_|refine ZY Za Z Z Z Z Z Z Z Z Z hU (Zj rfl) (List.cons_ne_nil _ _) hl3 hl4 Z Z ?_|(apply Nh Za;(iterate 6 exact Z);(first|exact Qb|rotate_left);(first|exact Qb|rotate_left);exact Z)|(apply GK Za;(iterate 6 exact Z);(first|exact Qb|rotate_left);(first|with_reducible assumption|exact Z);exact Z)|rw[em]|(apply Zg Za;exact Z)|(apply Zf Za;exact Z)|(apply Zs Za;exact Z)|(apply Ze;(iterate 3 exact Z);(first|with_reducible assumption|decide +kernel|(solve|simp only[bn])))|(apply Zk;exact Z;(first|with_reducible assumption|decide +kernel|(solve|simp only[bn]));exact Z;exact Z)|(apply Zi;exact Z;(first|with_reducible assumption|decide +kernel|(solve|simp only[bn]));exact Z;exact Z)|(apply Wr;exact Z;all_goals intro hb)|refine Zn Za Z Z Z Z ?_|refine ZX Za Z Z Z Z Z Z Z Z Z Z Z Z ?_|(apply Zm 12 ZF;decide +kernel;kernel_rfl;kernel_rfl;kernel_rfl;exact Z;exact Z)|(apply Zq;(iterate 4 exact Z))|exact AE.nil _ _ _ _|(apply Zu;exact Z)|(apply Ye;exact Z)|(apply ZB;exact Z;exact Z;decide +kernel;exact Z)|(apply ZC;exact Z)|(apply YF;exact Z)|exact AO.nil _ _ _|(apply Zp;(decide +kernel))|(apply Z1;(iterate 3 exact Z))|exact AOs.nil|exact ZH rfl rfl|exact Wj rfl rfl rfl rfl rfl|exact Y4 rfl rfl|(apply Zx Za;(iterate 6 exact Z);(first|exact Qt|rotate_left);(first|with_reducible assumption|decide +kernel|exact Z);(first|exact Zj rfl|with_reducible assumption|decide +kernel|rotate_left)))
 all_goals first|((apply Zr [];(apply Zc Za;exact Z);(iterate 4 exact Z)))|skip
 all_goals first|rfl|skip
theorem Ig (r:RepV)(dest src:EidV)(t q life:Nat):(Vt r dest src t q life=(bn0,3)/\(YG r=false\/(YG r=true/\Wc (Vw (ZG (Yj r)) dest src t q life)=false)))\/(YG r=true/\Wc (Vw (ZG (Yj r)) dest src t q life)=true/\Vt r dest src t q life=(Vw (ZG (Yj r)) dest src t q life,0)):=by
 unfold Vt
 cases hr:YG r with
 | false=>
  rw[XQ hr]
  exact .inl ⟨rfl,.inl rfl⟩
 | true=>
  rw[V5 hr]
  dsimp only
  rw[show((0:Int) != 0)=false from rfl]
  dsimp only
  cases hb:Wc (Vw (ZG (Yj r)) dest src t q life) with
  | false=>exact .inl ⟨rfl,.inr ⟨rfl,rfl⟩⟩
  | true=>exact .inr ⟨rfl,rfl,rfl⟩
def rf1:RepV:=⟨false,true,false,0,9,Yl,3,0⟩
def rfA:EidV:=⟨false,0,0,[97],[]⟩
theorem Nm:YG rf1=true:=by kernel_rfl
theorem MZ:Wc (Vw (ZG (Yj rf1)) rfA Yl 4 0 5)=true:=by kernel_rfl
theorem Lr:ofR (Vw (ZG (Yj rf1)) rfA Yl 4 0 5)=(rf1,0):=by
 have h:Kj (Vw (ZG (Yj rf1)) rfA Yl 4 0 5)=ZG (Yj rf1):=rfl
 have h2:(bits .and .u64 ((Vw (ZG (Yj rf1)) rfA Yl 4 0 5).p.fl:Int) 2==0)=false:=by kernel_rfl
 unfold ofR
 rw[h2,MZ,h,UO Nm]
theorem Ls:ofR bn0=(rp0,4):=by kernel_rfl
theorem GP [Known][KnownU8]:AP Tryd.prog 7 [] (.bool true) []:=by
 have h1:=UD rf1
 have hw:=V5 Nm
 rw[hw]at h1
 have hl:=UC Nm
 have h2:=Ol (ZG (Yj rf1)) (by omega)
 rw[UO Nm]at h2
 have h3:=JZ rf1 rfA Yl 4 0 5
 have h3e:Vt rf1 rfA Yl 4 0 5=(Vw (ZG (Yj rf1)) rfA Yl 4 0 5,0):=by
  unfold Vt
  rw[hw]
  dsimp only
  rw[MZ]
  rfl
 rw[h3e]at h3
 have h4:=J0 (Vw (ZG (Yj rf1)) rfA Yl 4 0 5) (Kk _ (by omega) _ _ _ _ _)
 rw[Lr]at h4
 have h5:=J0 bn0 Mk
 rw[Ls]at h5
 have h6:=UD rp0
 rw[XQ (show YG rp0=false from by kernel_rfl)]at h6
 unfold Vw at h3 h4
 generalize ZG (Yj rf1)=B at *
 clear hw h3e
 replace h1:AP Tryd.prog 14 [.agg [.bool false,.bool true,.bool false,.int .u64 0,.int .u64 9,.bool false,.int .u64 0,.int .u64 0,.str [],.str [],.int .u64 3,.int .u64 0]] (.tup [byE B,.int .i64 0]) []:=h1
 replace h2:AP Tryd.prog 16 [byE B] (.tup [.agg [.bool false,.bool true,.bool false,.int .u64 0,.int .u64 9,.bool false,.int .u64 0,.int .u64 0,.str [],.str [],.int .u64 3,.int .u64 0],.int .i64 0]) []:=h2
 replace h3:AP Tryd.prog 5 [.agg [.bool false,.bool true,.bool false,.int .u64 0,.int .u64 9,.bool false,.int .u64 0,.int .u64 0,.str [],.str [],.int .u64 3,.int .u64 0],.agg [.bool false,.int .u64 0,.int .u64 0,.str [97],.str []],.agg [.bool false,.int .u64 0,.int .u64 0,.str [],.str [],.int .u64 4,.int .u64 0],.int .u64 5] (.tup [.agg [.int .u64 2,.int .i64 0,.bool false,.int .u64 0,.int .u64 0,.str [97],.str [],.bool false,.int .u64 0,.int .u64 0,.str [],.str [],.bool false,.int .u64 0,.int .u64 0,.str [],.str [],.int .u64 4,.int .u64 0,.int .u64 5,.sl .ext [.agg [.int .u64 1,.int .u64 1,.int .u64 0,.int .i64 0,.sl (B.map E.byte)]]],.int .i64 0]) []:=h3
 replace h4:AP Tryd.prog 8 [.agg [.int .u64 2,.int .i64 0,.bool false,.int .u64 0,.int .u64 0,.str [97],.str [],.bool false,.int .u64 0,.int .u64 0,.str [],.str [],.bool false,.int .u64 0,.int .u64 0,.str [],.str [],.int .u64 4,.int .u64 0,.int .u64 5,.sl .ext [.agg [.int .u64 1,.int .u64 1,.int .u64 0,.int .i64 0,.sl (B.map E.byte)]]]] (.tup [.agg [.bool false,.bool true,.bool false,.int .u64 0,.int .u64 9,.bool false,.int .u64 0,.int .u64 0,.str [],.str [],.int .u64 3,.int .u64 0],.int .i64 0]) []:=h4
 replace h5:AP Tryd.prog 8 [.agg zeC] (.tup [.agg [.bool false,.bool false,.bool false,.int .u64 0,.int .u64 0,.bool false,.int .u64 0,.int .u64 0,.str [],.str [],.int .u64 0,.int .u64 0],.int .i64 4]) []:=h5
 replace h6:AP Tryd.prog 14 [.agg [.bool false,.bool false,.bool false,.int .u64 0,.int .u64 0,.bool false,.int .u64 0,.int .u64 0,.str [],.str [],.int .u64 0,.int .u64 0]] (.tup [.sl .ext [],.int .i64 3]) []:=h6
 refine AP.ofA (Zl Tryd.func7 Z Tryd.ntmps7 Z Z ?_)
 repeat'(first|(apply Zb (h1);kernel_rfl;(iterate 4 exact Z))|(apply Zb (h2);kernel_rfl;(iterate 4 exact Z))|(apply Zb (h3);kernel_rfl;(iterate 4 exact Z))|(apply Zb (h4);kernel_rfl;(iterate 4 exact Z))|(apply Zb (h5);kernel_rfl;(iterate 4 exact Z))|(apply Zb (h6);kernel_rfl;(iterate 4 exact Z))|(apply Zg Za;exact Z)|(apply Zf Za;exact Z)|(apply Ze;(iterate 3 exact Z);(first|with_reducible assumption|decide +kernel|(solve|simp only[bn])))|(apply Zk;exact Z;(first|with_reducible assumption|decide +kernel|(solve|simp only[bn]));exact Z;exact Z)|refine Uh Za Z Z Z Z Qk Qk Z Z Z ?_)
 all_goals exact Qe
theorem J4 [Known][KnownU8](r:RepV)(b:BunV)(m:UInt8)(hb:b.p.fl<18446744073709551616/\∀ c ∈ b.bl,c.fl<18446744073709551616):AP Tryd.prog 3 [.agg (OY r),.agg (bnC b),.int .u8 (m.toNat:Int)] (.bool true) []:=by
 have hA:=GP
 have hG:=GJ b
 have hB:=JZ r rfA Yl 4 0 5
 cases g1:Qu b with
 | true=>
  rw[g1]at hG
  generalize (Vt r rfA Yl 4 0 5)=R at *
  obtain⟨⟨fl,sum,⟨di,dn,ds,dh,dd⟩,⟨ri,rn,rs,rh,rd⟩,⟨xi,xn,xs,xh,xd⟩,t,q,life⟩,bl⟩:=b
  obtain⟨ra,rb,rc,rrs,rtm,⟨ji,jn,js,jh,jd⟩,jt,jq⟩:=r
  exact Lo (bn:=R.1) (e:=R.2) (hA:=hA) (hB:=hB) (hG:=hG) ..
 | false=>
 rw[g1]at hG
 rcases Ig r rfA Yl 4 0 5 with⟨e,_⟩ | ⟨hr,_,e⟩
 ·rw[e]at hB
  obtain⟨⟨fl,sum,⟨di,dn,ds,dh,dd⟩,⟨ri,rn,rs,rh,rd⟩,⟨xi,xn,xs,xh,xd⟩,t,q,life⟩,bl⟩:=b
  obtain⟨ra,rb,rc,rrs,rtm,⟨ji,jn,js,jh,jd⟩,jt,jq⟩:=r
  exact Lp (bn:=bn0) (e:=3) (hA:=hA) (hB:=hB) (hG:=hG) (te:=rfl) ..
 ·rw[e]at hB
  have hlen:=UC hr
  have hmore:=Nf hr m rfA Yl 4 0 5
  obtain⟨c0,t0,hp⟩:=Ke _ (Qr hr) (Vs hr)
  have hne:(ZG (Yj r)).map E.byte ≠ []:=by rw[hp];exact List.cons_ne_nil _ _
  generalize ZG (Yj r)=B at *
  have hbm:(B.map E.byte).length=B.length:=List.length_map ..
  have hbO:BunOk b:=⟨hb.1,by have:=(Om g1).1;omega,fun c hc=>⟨hb.2 c hc,Nat.le_trans ((Om g1).2 c hc) (by omega)⟩⟩
  obtain⟨f1,f2,f3⟩:=Ml b.p.fl hb.1
  have hY:=J0 ⟨⟨0,0,rfA,Yl,Yl,4,0,5⟩,[⟨1,1,0,0,B⟩]⟩ ⟨by show 0<_;decide,by show 1<=_;decide,fun c hc=>by
   rcases List.mem_cons.1 hc with rfl|hc
   ·exact⟨by show 0<_;decide,by show B.length<=_;omega⟩
   ·cases hc⟩
  rw[IS (b:=⟨⟨0,0,rfA,Yl,Yl,4,0,5⟩,[⟨1,1,0,0,B⟩]⟩) (by kernel_rfl)]at hY
  have hZ:=J0 (Vw (B++[m]) rfA Yl 4 0 5) (Kk _ (by rw[List.length_append];simp;omega) rfA Yl 4 0 5)
  rw[hmore]at hZ
  have hEq:(B.map E.byte++[E.int .u8 (m.toNat:Int)]:List E)=(B++[m]).map E.byte:=by simp
  have hW:=J0 ⟨⟨b.p.fl &&& 18446744073709551613,b.p.sum,b.p.dest,b.p.rep,b.p.src,b.p.t,b.p.q,b.p.life⟩,b.bl⟩ ⟨f3,hbO.len,hbO.bl⟩
  rw[IS (b:=⟨⟨b.p.fl &&& 18446744073709551613,b.p.sum,b.p.dest,b.p.rep,b.p.src,b.p.t,b.p.q,b.p.life⟩,b.bl⟩) f2]at hW
  have hU:=YK B
  refine Lq (B:=B) (m:=b.p.fl &&& 18446744073709551613) (hA:=hA) (hB:=hB) (hG:=hG) (hn:=hne) (hl1:=?_) (hl2:=?_) (hl3:=?_) (hl4:=?_) (hU:=hU) (em:=f1) (hY:=hY) (hZ:=?_) (hW:=hW) ..
  ·rw[hbm];unfold maxLen;omega
  ·rw[hbm];omega
  ·rw[hbm];unfold maxLen;omega
  ·rw[hbm];omega
  ·rw[hEq];exact hZ
end Go.Proofs.YtmljabhmajehnaaDoor
end
section
open Go.RowKit Go.Pl
namespace Go.Pl
def Kn {α:Type}(P:Program)(fs:Array Field)(i o:Nat)(R:Rep α):Prop:=
 ∀(H:Type) (enc:TypeId × Value->H) (W:World) (spare:Nat->Bool) (held:Bool) (n:Nat) (cs:List Value) (xs:List (DataW H × List MemPlace)),cs.length=o+R.n->xs.length=fs.size ->
  (∀(j:Nat) (f:Field),fs[j]?=some f->DataW.trod enc P W 0 spare held n f.type ((cs.drop f.offset).take (P.cellsOf f.type))=xs[j]?)->∃ x,R.ok W (· < W.heap.size) (cs.drop o) x
variable {P:Program} {t:TypeId} {fs:Array Field}
theorem XS {α:Type}{R:Rep α}{i o:Nat}{f:Field}(hf:fs[i]?=some f)(ho:f.offset=o)(hc:P.cellsOf f.type=R.n)(h:YC P f.type R){H:Type}{enc:TypeId × Value->H}{W:World}{spare:Nat->Bool}{held:Bool}{n:Nat}{cs:List Value}{xs:List (DataW H × List MemPlace)}(hl:xs.length=fs.size)
  (hg:∀(j:Nat) (f:Field),fs[j]?=some f->DataW.trod enc P W 0 spare held n f.type ((cs.drop f.offset).take (P.cellsOf f.type))=xs[j]?):∃ x,R.ok W (· < W.heap.size) ((cs.drop o).take R.n) x:=by
 have e:=hg i f hf
 rw[ho,hc]at e
 have hi:i<xs.length:=by
  rw[hl]
  exact(Array.getElem?_eq_some_iff.1 hf).1
 exact h H enc W spare held n _ _ (e.trans (List.getElem?_eq_getElem hi))
theorem V7 {α:Type}{R:Rep α}{i o:Nat}{f:Field}(hf:fs[i]?=some f)(ho:f.offset=o)(hc:P.cellsOf f.type=R.n)(h:YC P f.type R):Kn P fs i o R:=by
 intro H enc W spare held n cs xs hcl hl hg
 obtain⟨x,hx⟩:=XS hf ho hc h hl hg
 rw[List.take_of_length_le (by rw[List.length_drop];omega)]at hx
 exact⟨x,hx⟩
theorem Z2 {α β:Type}{R:Rep α}{R':Rep β}{i o:Nat}{f:Field}(hf:fs[i]?=some f)(ho:f.offset=o)(hc:P.cellsOf f.type=R.n)(h:YC P f.type R)(h':Kn P fs (i+1) (o+R.n) R'):Kn P fs i o (R.prod R'):=by
 intro H enc W spare held n cs xs hcl hl hg
 obtain⟨x,hx⟩:=XS hf ho hc h hl hg
 have hn:(R.prod R').n=R.n+R'.n:=rfl
 obtain⟨x',hx'⟩:=h' H enc W spare held n cs xs (by rw[hn]at hcl;omega) hl hg
 refine⟨(x,x'),(cs.drop o).take R.n,(cs.drop o).drop R.n,(List.take_append_drop _ _).symm,hx,?_⟩
 rw[List.drop_drop]
 exact hx'
theorem W9 {α:Type}{R:Rep α}(hs:P.underlying t=some (.struct fs))(hc:P.cellsOf t=R.n)(h:Kn P fs 0 0 R):YC P t R:=by
 intro H enc W spare held fuel cs y hy
 obtain⟨xs,n,_,_,hl,hxl,hg⟩:=DataW.trod_struct hs hy
 exact h H enc W spare held n cs xs (by omega) hxl hg
end Go.Pl
end
section
open Go.RowKit Go.Pl Go.Av
namespace Go.Proofs.YtmljabhmajehnaaDoor
set_option maxHeartbeats 4000000
abbrev XRp:=Bool × Bool × Bool × Nat × Nat × (XE × Nat × Nat)
abbrev RRp:Rep XRp:=Rep.bool.prod (Rep.bool.prod (Rep.bool.prod (Rep.u64.prod (Rep.u64.prod Go.Pl.RI))))
theorem Mo:YC Tryd.prog 28 RRp:=
 W9 Tryd.underlying28 (by kernel_rfl) (Z2 rfl rfl (by kernel_rfl) (VS Tryd.underlying4) (Z2 rfl rfl (by kernel_rfl) (VS Tryd.underlying4)
  (Z2 rfl rfl (by kernel_rfl) (VS Tryd.underlying4) (Z2 rfl rfl (by kernel_rfl) (YN Tryd.underlying22) (Z2 rfl rfl (by kernel_rfl) (YN Tryd.underlying22) (V7 rfl rfl (by kernel_rfl) Nx))))))
def XRp.v (x:XRp):RepV:=⟨x.1,x.2.1,x.2.2.1,x.2.2.2.1,x.2.2.2.2.1,x.2.2.2.2.2.1.v,x.2.2.2.2.2.2.1,x.2.2.2.2.2.2.2⟩
theorem Lt [Known]{W:World}{cs:List Value}{x:XRp}(h:RRp.ok W (· < W.heap.size) cs x):V W (g0 W) [] (.agg (OY x.v)) (.agg cs.toArray):=by
 obtain⟨a,b,c,rs,tm,⟨⟨xi,xn,xs,xh,xd⟩,t,q⟩⟩:=x
 have te:=ToE.bool.prod (ToE.bool.prod (ToE.bool.prod (ToE.u64.prod (ToE.u64.prod (Ji.prod (ToE.u64.prod ToE.u64))))))
 exact ToE.agg te (l:=[.bool a,.bool b,.bool c,.int .u64 (rs:Int),.int .u64 (tm:Int),.bool xi,.int .u64 (xn:Int),.int .u64 (xs:Int),.str xh,.str xd,.int .u64 (t:Int),.int .u64 (q:Int)]) rfl h
abbrev RPr:Rep (Nat × Int × XE × XE × (XE × Nat × Nat) × Nat):=Rep.u64.prod (Rep.i64.prod (RE.prod (RE.prod (Go.Pl.RI.prod Rep.u64))))
theorem Mp:YC Tryd.prog 30 RPr:=
 W9 Tryd.underlying30 (by kernel_rfl) (Z2 rfl rfl (by kernel_rfl) (YN Tryd.underlying22) (Z2 rfl rfl (by kernel_rfl) (J9 Tryd.underlying3)
  (Z2 rfl rfl (by kernel_rfl) H0 (Z2 rfl rfl (by kernel_rfl) H0 (Z2 rfl rfl (by kernel_rfl) Nx (V7 rfl rfl (by kernel_rfl) (YN Tryd.underlying22)))))))
abbrev XPr:=Nat × Int × XE × XE × (XE × Nat × Nat) × Nat
def XPr.v (x:XPr):PriV:=⟨x.1,x.2.1,x.2.2.1.v,x.2.2.2.1.v,x.2.2.2.2.1.1.v,x.2.2.2.2.1.2.1,x.2.2.2.2.1.2.2,x.2.2.2.2.2⟩
abbrev RB:Rep (Nat × Nat × Nat × Int × List UInt8):=Rep.u64.prod (Rep.u64.prod (Rep.u64.prod (Rep.i64.prod (Rep.slice Rep.byte (by decide)))))
theorem M0:YC Tryd.prog 41 RB:=
 W9 Tryd.underlying41 (by kernel_rfl) (Z2 rfl rfl (by kernel_rfl) (YN Tryd.underlying22) (Z2 rfl rfl (by kernel_rfl) (YN Tryd.underlying22)
  (Z2 rfl rfl (by kernel_rfl) (YN Tryd.underlying22) (Z2 rfl rfl (by kernel_rfl) (J9 Tryd.underlying3)
   (V7 rfl rfl (by kernel_rfl) (QQ (R:=Rep.byte) (by decide) Tryd.underlying39 (by kernel_rfl) (Ou Tryd.underlying5)))))))
abbrev XB:=Nat × Nat × Nat × Int × List UInt8
def XB.v (x:XB):BlkV:=⟨x.1,x.2.1,x.2.2.1,x.2.2.2.1,x.2.2.2.2⟩
abbrev RBn:Rep ((Nat × Int × XE × XE × (XE × Nat × Nat) × Nat) × List XB):=RPr.prod (Rep.slice RB (by decide))
theorem Mq:YC Tryd.prog 33 RBn:=
 W9 Tryd.underlying33 (by kernel_rfl) (Z2 rfl rfl (by kernel_rfl) Mp (V7 rfl rfl (by kernel_rfl) (QQ (R:=RB) (by decide) Tryd.underlying31 (by kernel_rfl) M0)))
abbrev XBn:=(Nat × Int × XE × XE × (XE × Nat × Nat) × Nat) × List XB
def XBn.v (x:XBn):BunV:=⟨⟨x.1.1,x.1.2.1,x.1.2.2.1.v,x.1.2.2.2.1.v,x.1.2.2.2.2.1.1.v,x.1.2.2.2.2.1.2.1,x.1.2.2.2.2.1.2.2,x.1.2.2.2.2.2⟩,x.2.map XB.v⟩
theorem Mr:ToE RB (fun x=>.agg [.int .u64 (x.1:Int),.int .u64 (x.2.1:Int),.int .u64 (x.2.2.1:Int),.int .i64 x.2.2.2.1,.sl (x.2.2.2.2.map E.byte)]):=ToE.u64.prod (ToE.u64.prod (ToE.u64.prod (ToE.i64.prod (ToE.byte.slice (by decide)))))
theorem Lu [Known]{W:World}{cs:List Value}{x:XBn}(h:RBn.ok W (· < W.heap.size) cs x):V W (g0 W) [] (.agg (bnC x.v)) (.agg cs.toArray):=by
 obtain⟨⟨fl,sum,⟨di,dn,ds,dh,dd⟩,⟨ri,rn,rs,rh,rd⟩,⟨⟨xi,xn,xs,xh,xd⟩,t,q⟩,life⟩,bl⟩:=x
 have te:=(ToE.u64.prod (ToE.i64.prod (Ji.prod (Ji.prod ((Ji.prod (ToE.u64.prod ToE.u64)).prod ToE.u64))))).prod (Mr.slice (by decide))
 have h2:=ToE.agg te (l:=[.int .u64 (fl:Int),.int .i64 sum,.bool di,.int .u64 (dn:Int),.int .u64 (ds:Int),.str dh,.str dd,.bool ri,.int .u64 (rn:Int),.int .u64 (rs:Int),.str rh,.str rd,.bool xi,.int .u64 (xn:Int),.int .u64 (xs:Int),.str xh,.str xd,.int .u64 (t:Int),.int .u64 (q:Int),.int .u64 (life:Int),.sl (bl.map fun x=>.agg [.int .u64 (x.1:Int),.int .u64 (x.2.1:Int),.int .u64 (x.2.2.1:Int),.int .i64 x.2.2.2.1,.sl (x.2.2.2.2.map E.byte)])]) rfl h
 have e:YJ (bl.map XB.v)=bl.map fun x=>.agg [.int .u64 (x.1:Int),.int .u64 (x.2.1:Int),.int .u64 (x.2.2.1:Int),.int .i64 x.2.2.2.1,.sl (x.2.2.2.2.map E.byte)]:=List.map_map ..
 rw[<- e]at h2
 exact h2
theorem Oq {α:Type}{R:Rep α}{w:World}{S:Nat->Prop}:∀ {l:List α} {cs:List Value},Run R w S cs l->∀ x ∈ l,∃ c,R.ok w S c x
 | [],_,_,x,hx=>by simp at hx
 | y::l,cs,⟨c1,c2,_,h1,h2⟩,x,hx=>by
  rcases List.mem_cons.1 hx with rfl|hx
  ·exact⟨c1,h1⟩
  ·exact Oq h2 x hx
theorem Ms {W:World}{S:Nat->Prop}{cs:List Value}{x:XB}(h:RB.ok W S cs x):x.v.fl<18446744073709551616:=by
 obtain⟨ty,num,fl,sum,data⟩:=x
 obtain⟨_,_,_,_,_,_,_,_,_,_,_,⟨_,h1⟩,_⟩:=h
 exact h1
theorem M1 {W:World}{cs:List Value}{x:XBn}(h:RBn.ok W (· < W.heap.size) cs x):x.v.p.fl<18446744073709551616/\∀ c ∈ x.v.bl,c.fl<18446744073709551616:=by
 obtain⟨⟨fl,r⟩,bl⟩:=x
 obtain⟨_,_,_,⟨_,_,_,⟨_,h1⟩,_⟩,⟨v,_,A,cap,_,_,_,c3,hr,_⟩⟩:=h
 refine⟨h1,fun c hc=>?_⟩
 obtain⟨y,hy,rfl⟩:=List.mem_map.1 hc
 obtain⟨c4,h4⟩:=Oq hr y hy
 exact Ms h4
end Go.Proofs.YtmljabhmajehnaaDoor
end
section
open Go.RowKit Go.Pl Go.Av Go.Lib
namespace Go.Proofs.YtmljabhmajehnaaDoor
theorem QO (k:IntKind):∀ zs:List Int,Jb (zs.map fun z=>.lit (.int k z))=zs.map fun z=>Value.int k z
 | []=>rfl
 | z::zs=>by rw[List.map_cons,List.map_cons,Jb,QO k zs];rfl
theorem Ot {P:Program}{W:World}{n:String}{g:Nat}{t:TypeId}{d:DataW Unit}(hg:P.globalNamed n=some g)(ht:(P.globals[g]?).map (·.type)=some t)(h:VarReads P W n d)
  (key:∀(fuel:Nat) (cs:List Value) (p:List MemPlace),DataW.trod (fun _=>()) P W 0 (fun _=>true) false fuel t cs=some (d,p)->∀(j:Nat) (v:Value),(dcs d)[j]?=some v->cs[j]?=some v) :
  ∀(j:Nat) (v:Value),(dcs d)[j]?=some v->(g0 W).C g j/\W.cell? ⟨g,j,none⟩=some v:=by
 obtain⟨g',t',cs,fuel,p,h1,h2,h3,h4⟩:=h
 obtain rfl:=Option.some.inj (hg.symm.trans h1)
 obtain rfl:=Option.some.inj (ht.symm.trans h2)
 intro j v hv
 have hc:=key fuel cs.toList p h4 j v hv
 have hcell:W.cell? ⟨g,j,none⟩=some v:=by
  rw[World.var?_cell hg h3 j,<- Array.getElem?_toList];exact hc
 exact⟨World.block_lt_of_cell? W _ hcell,hcell⟩
theorem Nn {P:Program}{W:World}{t e:TypeId}{n:Nat}{k:IntKind}{d:DataW Unit}(zs:List Int)(hd:d=tabData k zs)(ht:P.underlying t=some (.array n e))(he:P.underlying e=some (.int k))(hce:P.cellsOf e=1)(hct:P.cellsOf t=n) :
  ∀(fuel:Nat) (cs:List Value) (p:List MemPlace),DataW.trod (fun _=>()) P W 0 (fun _=>true) false fuel t cs=some (d,p)->∀(j:Nat) (v:Value),(dcs d)[j]?=some v->cs[j]?=some v:=by
 subst hd
 intro fuel cs p h j v hv
 rw[cells_of_tab ht he hce hct h]
 rw[tabData,dcs,QO]at hv
 exact hv
theorem No {P:Program}{W:World}{t e:TypeId}{n:Nat}{k:IntKind}{d:DataW Unit}{fs:Array Field}(rows:List (List Int))(hd:d=.agg (rows.map fun r=>.agg (r.map fun z=>.lit (.int k z))))(hn:rows.length=n)(ht:P.underlying t=some (.array n e))(he:P.underlying e=some (.struct fs))
  (hf:∀(i:Nat) (f:Field),fs[i]?=some f->P.underlying f.type=some (.int k)/\f.offset=i/\P.cellsOf f.type=1) (hce:P.cellsOf e=fs.size) :
  ∀(fuel:Nat) (cs:List Value) (p:List MemPlace),DataW.trod (fun _=>()) P W 0 (fun _=>true) false fuel t cs=some (d,p)->∀(j:Nat) (v:Value),(dcs d)[j]?=some v->cs[j]?=some v:=by
 subst hd
 intro fuel cs p h j v hv
 have key:∀ i,i<=n->cs.take (i*fs.size)=Jb ((rows.take i).map fun r=>.agg (r.map fun z=>.lit (.int k z))):=by
  intro i
  induction i with
  | zero=>intro _;rw[Nat.zero_mul,List.take_zero,List.take_zero];rfl
  | succ i ih=>
   intro hi
   obtain⟨fuel',d',q,hdi,he'⟩:=array_elem ht h i (by omega)
   rw[List.getElem?_map,List.getElem?_eq_getElem (by omega:i<rows.length)]at hdi
   simp only[Option.map_some,Option.some.injEq]at hdi
   subst hdi
   rw[hce]at he'
   have hcs:=ints_of_struct he hf hce he'
   rw[Nat.succ_mul,List.take_add,ih (by omega),hcs,List.take_succ_eq_append_getElem (by omega:i<rows.length),List.map_append]
   have app:∀(a b:List (DataW Unit)),Jb (a++b)=Jb a++Jb b:=fun a b=>by
    induction a with
    | nil=>rfl
    | cons x a ih=>rw[List.cons_append,Jb,Jb,ih,List.append_assoc]
   rw[app,List.map_cons,List.map_nil,Jb,dcs,QO]
   simp[Jb]
 have h2:=key n (Nat.le_refl _)
 rw[<- hn,List.take_length]at h2
 rw[dcs,<- h2]at hv
 rw[List.getElem?_take]at hv
 split at hv
 ·exact hv
 ·cases hv
abbrev Vu:Known:=⟨[0,1]⟩
theorem Ih : @KnownU8 Vu:=@KnownU8.mk Vu (List.mem_cons_self ..) (List.mem_cons_of_mem _ (List.mem_cons_self ..))
def Mt:List Int:=Pinned.utf8FirstZ.map Int.ofNat
def Np:List (List Int):=[[128,191],[160,191],[128,159],[144,191],[128,143],[0,0],[0,0],[0,0],[0,0],[0,0],[0,0],[0,0],[0,0],[0,0],[0,0],[0,0]]
theorem Mu {W:World}{laid:List (String × DataW Unit)}(h1:("unicode/utf8.first",Rows.laid_unicode_utf8_first) ∈ laid)(h2:("unicode/utf8.acceptRanges",Rows.laid_unicode_utf8_acceptRanges) ∈ laid)(h:laidMet Tryd.prog laid W) : @Gls Vu (g0 W).C W:=by
 have r1:=laidMet.reads h h1
 have r2:=laidMet.reads h h2
 have c1:=Ot (P:=Tryd.prog) (g:=0) (t:=156) (by kernel_rfl) (by kernel_rfl) r1 (Nn Mt (by kernel_rfl) (n:=256) (by kernel_rfl) Tryd.underlying5 (by kernel_rfl) (by kernel_rfl))
 have c2:=Ot (P:=Tryd.prog) (g:=1) (t:=159) (by kernel_rfl) (by kernel_rfl) r2 (No Np (by kernel_rfl) (n:=16) rfl Tryd.underlying159 Tryd.underlying158 (fun i f hf=>by
  match i,hf with
  | 0,hf=>simp at hf;subst hf;exact⟨Tryd.underlying5,rfl,by kernel_rfl⟩
  | 1,hf=>simp at hf;subst hf;exact⟨Tryd.underlying5,rfl,by kernel_rfl⟩
  | i+2,hf=>simp at hf) (by kernel_rfl))
 refine⟨fun k cs hk=>?_,fun k t hk=>?_⟩
 ·obtain⟨hk,hm⟩:=hk
  simp only[Kr,List.mem_cons,List.not_mem_nil,or_false,Prod.mk.injEq]at hm
  have hk:k ∈ [0,1]:=hk
  simp only[List.mem_cons,List.not_mem_nil,or_false]at hk
  clear r1 r2 h1 h2 h
  rcases hk with rfl|rfl
  all_goals repeat'(refine Or.elim hm (fun hm=>?_) (fun hm=>?_))
  all_goals first
   | (obtain⟨h,rfl⟩:=hm;exact c1)
   | (obtain⟨h,rfl⟩:=hm;exact c2)
   | (obtain⟨h,_⟩:=hm;exact absurd h (by decide))
 ·obtain⟨hk,hm⟩:=hk
  have hk:k ∈ [0,1]:=hk
  simp only[List.mem_cons,List.not_mem_nil,or_false]at hk
  simp only[Mw,List.mem_cons,List.not_mem_nil,or_false,Prod.mk.injEq]at hm
  all_goals omega
end Go.Proofs.YtmljabhmajehnaaDoor
end
section
open Go.RowKit Go.Pl Go.Av
namespace Go.Proofs.YtmljabhmajehnaaDoor
theorem QP (c0:List Value)(c1:List Value)(b2:UInt8)(x0:XRp)(x1:XBn)(W:World)(h0:RRp.ok W (· < W.heap.size) c0 x0)(h1:RBn.ok W (· < W.heap.size) c1 x1)(hl:laidMet Tryd.prog Rows.reportNeverRow.laid W) :
  Calls Tryd.prog 3 #[.agg c0.toArray,.agg c1.toArray,.int .u8 (b2.toNat:Int)] W fun e w'=>e=.returned (.bool true)/\Below W.heap.size W w':=by
 have hg:=Mu (laid:=Rows.reportNeverRow.laid) (by unfold Rows.reportNeverRow;repeat (first|exact List.mem_cons_self .. | apply List.mem_cons_of_mem)) (by unfold Rows.reportNeverRow;repeat (first|exact List.mem_cons_self .. | apply List.mem_cons_of_mem)) hl
 have h:=@J4 Vu Ih x0.v x1.v b2 (M1 h1)
 refine @M3 Vu Tryd.prog 3 _ (@AC.mono Vu _ _ _ _ _ _ _ h fun r b t h=>h.1) W [.agg c0.toArray,.agg c1.toArray,.int .u8 (b2.toNat:Int)] hg rfl ?_
 intro j d v hd hv
 match j,hd,hv with
 | 0,hd,hv=>cases hd;cases hv;exact @Lt Vu _ _ _ h0
 | 1,hd,hv=>cases hd;cases hv;exact @Lu Vu _ _ _ h1
 | 2,hd,hv=>cases hd;cases hv;exact .int _ _
 | j+3,hd,hv=>cases hd
end Go.Proofs.YtmljabhmajehnaaDoor
end

/- The document's first blocks: read, by cases (drgen.py). -/
import Derived.Test.YtakblclkflnnpaaGreatDoorP33
import Derived.Test.YtakblclkflnnpaaGreatDoorP20
import Derived.Test.YtakblclkflnnpaaGreatDoorP31
import Derived.Test.YtakblclkflnnpaaGreatDoorP29
import Derived.Test.YtakblclkflnnpaaGreatDoorP19
import Derived.Test.YtakblclkflnnpaaGreatDoorP21
import Derived.Test.YtakblclkflnnpaaGreatDoorP11
set_option linter.unusedVariables false
set_option linter.unusedSimpArgs false
section
open Go.RowKit Go.Pl Go.Av
namespace Go.Proofs.YtakblclkflnnpaaGreatDoor
set_option maxHeartbeats 4000000
theorem Zqd [Known](zk:Int)(zn:Nat)(zb:List UInt8)(zl:List It)(L:List E)(e:Int)
  (hO:AP Tryz.prog 89 [.agg (itC zk zn zb zl),.int .i64 2] (.tup [.sl .ext L,.int .i64 e]) [])
  (t1:(e != 0)=false) (t2:((L.length:Int) != 8)=false) (hU:Uni 4 L)
  (ak:Int) (an:Nat) (ab:List UInt8) (al:List It) (bk:Int) (bn:Nat) (bb:List UInt8) (bl:List It) (ck:Int) (cn:Nat) (cb:List UInt8) (cl:List It) (fk:Int) (fn:Nat) (fb:List UInt8) (fl:List It) (gk:Int) (gn:Nat) (gb:List UInt8) (gl:List It) (tk:Int) (tn:Nat) (tb:List UInt8) (tl:List It) (qk:Int) (qn:Nat) (qb:List UInt8) (ql:List It) (hk:Int) (hn:Nat) (hb:List UInt8) (hl:List It) (mk:Int) (mn:Nat) (mb:List UInt8) (di:Bool) (dn ds:Nat) (dh dd:List UInt8) (ri:Bool) (rn rs:Nat) (rh rd:List UInt8) (xi:Bool) (xn xs:Nat) (xh xd:List UInt8) (wk:Int) (wn:Nat) (wb:List UInt8) (wl:List It)
  (hv1:L[(1:Int).toNat]?=some (.agg [.int .i64 ak,.int .u64 (an:Int),.sl (ab.map E.byte),.sl (Zas al)])) (hv2:L[(2:Int).toNat]?=some (.agg [.int .i64 bk,.int .u64 (bn:Int),.sl (bb.map E.byte),.sl (Zas bl)])) (hv3:L[(3:Int).toNat]?=some (.agg [.int .i64 ck,.int .u64 (cn:Int),.sl (cb.map E.byte),.sl (Zas cl)])) (hv4:L[(4:Int).toNat]?=some (.agg [.int .i64 fk,.int .u64 (fn:Int),.sl (fb.map E.byte),.sl (Zas fl)])) (hv5:L[(5:Int).toNat]?=some (.agg [.int .i64 gk,.int .u64 (gn:Int),.sl (gb.map E.byte),.sl (Zas gl)])) (hv6:L[(6:Int).toNat]?=some (.agg [.int .i64 mk,.int .u64 (mn:Int),.sl (mb.map E.byte),.sl [.agg [.int .i64 tk,.int .u64 (tn:Int),.sl (tb.map E.byte),.sl (Zas tl)],.agg [.int .i64 qk,.int .u64 (qn:Int),.sl (qb.map E.byte),.sl (Zas ql)]]])) (hv7:L[(7:Int).toNat]?=some (.agg [.int .i64 hk,.int .u64 (hn:Int),.sl (hb.map E.byte),.sl (Zas hl)]))
  (t3:((([.agg [.int .i64 tk,.int .u64 (tn:Int),.sl (tb.map E.byte),.sl (Zas tl)],.agg [.int .i64 qk,.int .u64 (qn:Int),.sl (qb.map E.byte),.sl (Zas ql)]]:List E).length:Int) != 2)=false) 
  (hD:AP Tryz.prog 90 [.agg (itC ck cn cb cl)] (.tup [.agg [.bool di,.int .u64 (dn:Int),.int .u64 (ds:Int),.str dh,.str dd],.bool true]) [])
  (hS:AP Tryz.prog 90 [.agg (itC fk fn fb fl)] (.tup [.agg [.bool xi,.int .u64 (xn:Int),.int .u64 (xs:Int),.str xh,.str xd],.bool true]) [])
  (hR:AP Tryz.prog 90 [.agg (itC gk gn gb gl)] (.tup [.agg [.bool ri,.int .u64 (rn:Int),.int .u64 (rs:Int),.str rh,.str rd],.bool true]) [])
  (hI:AP Tryz.prog 21 [.agg [.int .u64 (an:Int),.int .i64 (IntKind.i64.wrap (bn:Int)),.bool di,.int .u64 (dn:Int),.int .u64 (ds:Int),.str dh,.str dd,.bool ri,.int .u64 (rn:Int),.int .u64 (rs:Int),.str rh,.str rd,.bool xi,.int .u64 (xn:Int),.int .u64 (xs:Int),.str xh,.str xd,.int .u64 (tn:Int),.int .u64 (qn:Int),.int .u64 (hn:Int)]] (.bool false) []) :
  AP Tryz.prog 18 [.agg (itC zk zn zb zl)] (.tup [.agg [.int .u64 0,.int .i64 0,.bool false,.int .u64 0,.int .u64 0,.str [],.str [],.bool false,.int .u64 0,.int .u64 0,.str [],.str [],.bool false,.int .u64 0,.int .u64 0,.str [],.str [],.int .u64 0,.int .u64 0,.int .u64 0],.int .i64 3]) []:=by
 refine AP.ofA ?_
 refine Zap Tryz.func18 rfl Tryz.ntmps18 rfl rfl ?_
 repeat'(first|(apply Zaa (hO);kernel_rfl;(iterate 4 exact Z))|(apply Zaa (hD);kernel_rfl;(iterate 4 exact Z))|(apply Zaa (hS);kernel_rfl;(iterate 4 exact Z))|(apply Zaa (hR);kernel_rfl;(iterate 4 exact Z))|(apply Zaa (hI);kernel_rfl;(iterate 4 exact Z))|(apply Zaj Zab;exact Z)|(apply Zai Zab;exact Z)|(apply Zay Zab;exact Z)|(apply Zaf;(iterate 3 exact Z);exact Go.Zqn)|(apply Zao;(iterate 3 exact Z);exact Go.Zqn)|(apply Zak;exact Z;exact Go.Zqn;exact Z;exact Z)|(apply Zah;exact Z;exact Go.Zqn;exact Z;exact Z)|(apply Zac;exact Z;exact Go.Zqn)|(apply Zae;exact Z;exact Go.Zqn)|(apply Zal Zab;(iterate 4 exact Z))|(apply Zam 15 ZaR;decide +kernel;kernel_rfl;kernel_rfl;kernel_rfl;exact Z;exact Z)|(apply Zam 17 ZaR;decide +kernel;kernel_rfl;kernel_rfl;kernel_rfl;exact Z;exact Z)|(apply Zam 19 ZaR;decide +kernel;kernel_rfl;kernel_rfl;kernel_rfl;exact Z;exact Z)|(apply Zar;(iterate 4 exact Z))|exact AE.nil _ _ _ _|(apply Zav;exact Z)|(apply Za8;exact Z)|(apply Zaz;exact Z;exact Z;decide +kernel;exact Z)|(apply ZaA;exact Z)|(apply Zbp;exact Z)|exact AO.nil _ _ _|(apply Zaq;(decide +kernel))|(apply ZaZ;(iterate 3 exact Z))|exact AOs.nil|exact ZaI rfl rfl|exact Zca rfl rfl|(apply Zat Zab;(iterate 6 exact Z);(first|exact Go.Zqn|rotate_left);(first|with_reducible assumption|decide +kernel|exact Z);(first|exact Zag rfl|with_reducible assumption|decide +kernel|rotate_left)))
 all_goals(apply Zax [];(apply Zad Zab;exact Z);(iterate 4 exact Z))
 all_goals rfl
theorem Zqe [Known](zk:Int)(zn:Nat)(zb:List UInt8)(zl:List It)(L:List E)(e:Int)
  (hO:AP Tryz.prog 89 [.agg (itC zk zn zb zl),.int .i64 2] (.tup [.sl .ext L,.int .i64 e]) [])
  (t1:(e != 0)=false) (t2:((L.length:Int) != 8)=false) (hU:Uni 4 L)
  (ak:Int) (an:Nat) (ab:List UInt8) (al:List It) (bk:Int) (bn:Nat) (bb:List UInt8) (bl:List It) (ck:Int) (cn:Nat) (cb:List UInt8) (cl:List It) (fk:Int) (fn:Nat) (fb:List UInt8) (fl:List It) (gk:Int) (gn:Nat) (gb:List UInt8) (gl:List It) (tk:Int) (tn:Nat) (tb:List UInt8) (tl:List It) (qk:Int) (qn:Nat) (qb:List UInt8) (ql:List It) (hk:Int) (hn:Nat) (hb:List UInt8) (hl:List It) (mk:Int) (mn:Nat) (mb:List UInt8) (di:Bool) (dn ds:Nat) (dh dd:List UInt8) (ri:Bool) (rn rs:Nat) (rh rd:List UInt8) (xi:Bool) (xn xs:Nat) (xh xd:List UInt8) (wk:Int) (wn:Nat) (wb:List UInt8) (wl:List It)
  (hv1:L[(1:Int).toNat]?=some (.agg [.int .i64 ak,.int .u64 (an:Int),.sl (ab.map E.byte),.sl (Zas al)])) (hv2:L[(2:Int).toNat]?=some (.agg [.int .i64 bk,.int .u64 (bn:Int),.sl (bb.map E.byte),.sl (Zas bl)])) (hv3:L[(3:Int).toNat]?=some (.agg [.int .i64 ck,.int .u64 (cn:Int),.sl (cb.map E.byte),.sl (Zas cl)])) (hv4:L[(4:Int).toNat]?=some (.agg [.int .i64 fk,.int .u64 (fn:Int),.sl (fb.map E.byte),.sl (Zas fl)])) (hv5:L[(5:Int).toNat]?=some (.agg [.int .i64 gk,.int .u64 (gn:Int),.sl (gb.map E.byte),.sl (Zas gl)])) (hv6:L[(6:Int).toNat]?=some (.agg [.int .i64 mk,.int .u64 (mn:Int),.sl (mb.map E.byte),.sl [.agg [.int .i64 tk,.int .u64 (tn:Int),.sl (tb.map E.byte),.sl (Zas tl)],.agg [.int .i64 qk,.int .u64 (qn:Int),.sl (qb.map E.byte),.sl (Zas ql)]]])) (hv7:L[(7:Int).toNat]?=some (.agg [.int .i64 hk,.int .u64 (hn:Int),.sl (hb.map E.byte),.sl (Zas hl)]))
  (t3:((([.agg [.int .i64 tk,.int .u64 (tn:Int),.sl (tb.map E.byte),.sl (Zas tl)],.agg [.int .i64 qk,.int .u64 (qn:Int),.sl (qb.map E.byte),.sl (Zas ql)]]:List E).length:Int) != 2)=false) 
  (hD:AP Tryz.prog 90 [.agg (itC ck cn cb cl)] (.tup [.agg [.bool di,.int .u64 (dn:Int),.int .u64 (ds:Int),.str dh,.str dd],.bool true]) [])
  (hS:AP Tryz.prog 90 [.agg (itC fk fn fb fl)] (.tup [.agg [.bool xi,.int .u64 (xn:Int),.int .u64 (xs:Int),.str xh,.str xd],.bool true]) [])
  (hR:AP Tryz.prog 90 [.agg (itC gk gn gb gl)] (.tup [.agg [.bool ri,.int .u64 (rn:Int),.int .u64 (rs:Int),.str rh,.str rd],.bool true]) [])
  (hI:AP Tryz.prog 21 [.agg [.int .u64 (an:Int),.int .i64 (IntKind.i64.wrap (bn:Int)),.bool di,.int .u64 (dn:Int),.int .u64 (ds:Int),.str dh,.str dd,.bool ri,.int .u64 (rn:Int),.int .u64 (rs:Int),.str rh,.str rd,.bool xi,.int .u64 (xn:Int),.int .u64 (xs:Int),.str xh,.str xd,.int .u64 (tn:Int),.int .u64 (qn:Int),.int .u64 (hn:Int)]] (.bool true) [])
  (hW:AP Tryz.prog 23 [.agg [.int .u64 (an:Int),.int .i64 (IntKind.i64.wrap (bn:Int)),.bool di,.int .u64 (dn:Int),.int .u64 (ds:Int),.str dh,.str dd,.bool ri,.int .u64 (rn:Int),.int .u64 (rs:Int),.str rh,.str rd,.bool xi,.int .u64 (xn:Int),.int .u64 (xs:Int),.str xh,.str xd,.int .u64 (tn:Int),.int .u64 (qn:Int),.int .u64 (hn:Int)]] (.agg (itC wk wn wb wl)) []) (hM:AP Tryz.prog 22 [.agg (itC wk wn wb wl),.agg (itC zk zn zb zl)] (.bool false) []) :
  AP Tryz.prog 18 [.agg (itC zk zn zb zl)] (.tup [.agg [.int .u64 0,.int .i64 0,.bool false,.int .u64 0,.int .u64 0,.str [],.str [],.bool false,.int .u64 0,.int .u64 0,.str [],.str [],.bool false,.int .u64 0,.int .u64 0,.str [],.str [],.int .u64 0,.int .u64 0,.int .u64 0],.int .i64 3]) []:=by
 refine AP.ofA ?_
 refine Zap Tryz.func18 rfl Tryz.ntmps18 rfl rfl ?_
 repeat'(first|(apply Zaa (hO);kernel_rfl;(iterate 4 exact Z))|(apply Zaa (hD);kernel_rfl;(iterate 4 exact Z))|(apply Zaa (hS);kernel_rfl;(iterate 4 exact Z))|(apply Zaa (hR);kernel_rfl;(iterate 4 exact Z))|(apply Zaa (hI);kernel_rfl;(iterate 4 exact Z))|(apply Zaa (hW);kernel_rfl;(iterate 4 exact Z))|(apply Zaa (hM);kernel_rfl;(iterate 4 exact Z))|(apply Zaj Zab;exact Z)|(apply Zai Zab;exact Z)|(apply Zay Zab;exact Z)|(apply Zaf;(iterate 3 exact Z);exact Go.Zqn)|(apply Zah;exact Z;exact Go.Zqn;exact Z;exact Z)|(apply Zac;exact Z;exact Go.Zqn)|(apply Zae;exact Z;exact Go.Zqn)|(apply Zal Zab;(iterate 4 exact Z))|(apply Zam 15 ZaR;decide +kernel;kernel_rfl;kernel_rfl;kernel_rfl;exact Z;exact Z)|(apply Zam 17 ZaR;decide +kernel;kernel_rfl;kernel_rfl;kernel_rfl;exact Z;exact Z)|(apply Zam 19 ZaR;decide +kernel;kernel_rfl;kernel_rfl;kernel_rfl;exact Z;exact Z)|(apply Zar;(iterate 4 exact Z))|exact AE.nil _ _ _ _|(apply Zav;exact Z)|(apply Za8;exact Z)|(apply Zaz;exact Z;exact Z;decide +kernel;exact Z)|(apply ZaA;exact Z)|(apply Zbp;exact Z)|exact AO.nil _ _ _|(apply Zaq;(decide +kernel))|(apply ZaZ;(iterate 3 exact Z))|exact AOs.nil|exact ZaI rfl rfl|exact Zca rfl rfl|(apply Zat Zab;(iterate 6 exact Z);(first|exact Go.Zqn|rotate_left);(first|with_reducible assumption|decide +kernel|exact Z);(first|exact Zag rfl|with_reducible assumption|decide +kernel|rotate_left)))
 all_goals(apply Zax [];(apply Zad Zab;exact Z);(iterate 4 exact Z))
 all_goals rfl
theorem Zqf [Known](zk:Int)(zn:Nat)(zb:List UInt8)(zl:List It)(L:List E)(e:Int)(e0:e=0)
  (hO:AP Tryz.prog 89 [.agg (itC zk zn zb zl),.int .i64 2] (.tup [.sl .ext L,.int .i64 e]) [])
  (t1:(e != 0)=false) (t2:((L.length:Int) != 8)=false) (hU:Uni 4 L)
  (ak:Int) (an:Nat) (ab:List UInt8) (al:List It) (bk:Int) (bn:Nat) (bb:List UInt8) (bl:List It) (ck:Int) (cn:Nat) (cb:List UInt8) (cl:List It) (fk:Int) (fn:Nat) (fb:List UInt8) (fl:List It) (gk:Int) (gn:Nat) (gb:List UInt8) (gl:List It) (tk:Int) (tn:Nat) (tb:List UInt8) (tl:List It) (qk:Int) (qn:Nat) (qb:List UInt8) (ql:List It) (hk:Int) (hn:Nat) (hb:List UInt8) (hl:List It) (mk:Int) (mn:Nat) (mb:List UInt8) (di:Bool) (dn ds:Nat) (dh dd:List UInt8) (ri:Bool) (rn rs:Nat) (rh rd:List UInt8) (xi:Bool) (xn xs:Nat) (xh xd:List UInt8) (wk:Int) (wn:Nat) (wb:List UInt8) (wl:List It)
  (hv1:L[(1:Int).toNat]?=some (.agg [.int .i64 ak,.int .u64 (an:Int),.sl (ab.map E.byte),.sl (Zas al)])) (hv2:L[(2:Int).toNat]?=some (.agg [.int .i64 bk,.int .u64 (bn:Int),.sl (bb.map E.byte),.sl (Zas bl)])) (hv3:L[(3:Int).toNat]?=some (.agg [.int .i64 ck,.int .u64 (cn:Int),.sl (cb.map E.byte),.sl (Zas cl)])) (hv4:L[(4:Int).toNat]?=some (.agg [.int .i64 fk,.int .u64 (fn:Int),.sl (fb.map E.byte),.sl (Zas fl)])) (hv5:L[(5:Int).toNat]?=some (.agg [.int .i64 gk,.int .u64 (gn:Int),.sl (gb.map E.byte),.sl (Zas gl)])) (hv6:L[(6:Int).toNat]?=some (.agg [.int .i64 mk,.int .u64 (mn:Int),.sl (mb.map E.byte),.sl [.agg [.int .i64 tk,.int .u64 (tn:Int),.sl (tb.map E.byte),.sl (Zas tl)],.agg [.int .i64 qk,.int .u64 (qn:Int),.sl (qb.map E.byte),.sl (Zas ql)]]])) (hv7:L[(7:Int).toNat]?=some (.agg [.int .i64 hk,.int .u64 (hn:Int),.sl (hb.map E.byte),.sl (Zas hl)]))
  (t3:((([.agg [.int .i64 tk,.int .u64 (tn:Int),.sl (tb.map E.byte),.sl (Zas tl)],.agg [.int .i64 qk,.int .u64 (qn:Int),.sl (qb.map E.byte),.sl (Zas ql)]]:List E).length:Int) != 2)=false) 
  (hD:AP Tryz.prog 90 [.agg (itC ck cn cb cl)] (.tup [.agg [.bool di,.int .u64 (dn:Int),.int .u64 (ds:Int),.str dh,.str dd],.bool true]) [])
  (hS:AP Tryz.prog 90 [.agg (itC fk fn fb fl)] (.tup [.agg [.bool xi,.int .u64 (xn:Int),.int .u64 (xs:Int),.str xh,.str xd],.bool true]) [])
  (hR:AP Tryz.prog 90 [.agg (itC gk gn gb gl)] (.tup [.agg [.bool ri,.int .u64 (rn:Int),.int .u64 (rs:Int),.str rh,.str rd],.bool true]) [])
  (hI:AP Tryz.prog 21 [.agg [.int .u64 (an:Int),.int .i64 (IntKind.i64.wrap (bn:Int)),.bool di,.int .u64 (dn:Int),.int .u64 (ds:Int),.str dh,.str dd,.bool ri,.int .u64 (rn:Int),.int .u64 (rs:Int),.str rh,.str rd,.bool xi,.int .u64 (xn:Int),.int .u64 (xs:Int),.str xh,.str xd,.int .u64 (tn:Int),.int .u64 (qn:Int),.int .u64 (hn:Int)]] (.bool true) [])
  (hW:AP Tryz.prog 23 [.agg [.int .u64 (an:Int),.int .i64 (IntKind.i64.wrap (bn:Int)),.bool di,.int .u64 (dn:Int),.int .u64 (ds:Int),.str dh,.str dd,.bool ri,.int .u64 (rn:Int),.int .u64 (rs:Int),.str rh,.str rd,.bool xi,.int .u64 (xn:Int),.int .u64 (xs:Int),.str xh,.str xd,.int .u64 (tn:Int),.int .u64 (qn:Int),.int .u64 (hn:Int)]] (.agg (itC wk wn wb wl)) []) (hM:AP Tryz.prog 22 [.agg (itC wk wn wb wl),.agg (itC zk zn zb zl)] (.bool true) []) :
  AP Tryz.prog 18 [.agg (itC zk zn zb zl)] (.tup [.agg [.int .u64 (an:Int),.int .i64 (IntKind.i64.wrap (bn:Int)),.bool di,.int .u64 (dn:Int),.int .u64 (ds:Int),.str dh,.str dd,.bool ri,.int .u64 (rn:Int),.int .u64 (rs:Int),.str rh,.str rd,.bool xi,.int .u64 (xn:Int),.int .u64 (xs:Int),.str xh,.str xd,.int .u64 (tn:Int),.int .u64 (qn:Int),.int .u64 (hn:Int)],.int .i64 0]) []:=by
 subst e0
 refine AP.ofA ?_
 refine Zap Tryz.func18 rfl Tryz.ntmps18 rfl rfl ?_
 repeat'(first|(apply Zaa (hO);kernel_rfl;(iterate 4 exact Z))|(apply Zaa (hD);kernel_rfl;(iterate 4 exact Z))|(apply Zaa (hS);kernel_rfl;(iterate 4 exact Z))|(apply Zaa (hR);kernel_rfl;(iterate 4 exact Z))|(apply Zaa (hI);kernel_rfl;(iterate 4 exact Z))|(apply Zaa (hW);kernel_rfl;(iterate 4 exact Z))|(apply Zaa (hM);kernel_rfl;(iterate 4 exact Z))|(apply Zaj Zab;exact Z)|(apply Zai Zab;exact Z)|(apply Zay Zab;exact Z)|(apply Zaf;(iterate 3 exact Z);exact Go.Zqn)|(apply Zah;exact Z;exact Go.Zqn;exact Z;exact Z)|(apply Zae;exact Z;exact Go.Zqn)|(apply Zal Zab;(iterate 4 exact Z))|(apply Zam 15 ZaR;decide +kernel;kernel_rfl;kernel_rfl;kernel_rfl;exact Z;exact Z)|(apply Zam 17 ZaR;decide +kernel;kernel_rfl;kernel_rfl;kernel_rfl;exact Z;exact Z)|(apply Zam 19 ZaR;decide +kernel;kernel_rfl;kernel_rfl;kernel_rfl;exact Z;exact Z)|(apply Zar;(iterate 4 exact Z))|exact AE.nil _ _ _ _|(apply Zav;exact Z)|(apply Za8;exact Z)|(apply Zaz;exact Z;exact Z;decide +kernel;exact Z)|(apply ZaA;exact Z)|(apply Zbp;exact Z)|exact AO.nil _ _ _|(apply Zaq;(decide +kernel))|(apply ZaZ;(iterate 3 exact Z))|exact AOs.nil|exact ZaI rfl rfl|exact Zca rfl rfl|(apply Zat Zab;(iterate 6 exact Z);(first|exact Go.Zqn|rotate_left);(first|with_reducible assumption|decide +kernel|exact Z);(first|exact Zag rfl|with_reducible assumption|decide +kernel|rotate_left)))
 all_goals(apply Zax [];(apply Zad Zab;exact Z);(iterate 4 exact Z))
 all_goals rfl
theorem Zlx (y:It):Fit (eZ y):=by
 unfold eZ
 cases h:(ZaQ y).2 with
 | false=>exact(⟨by decide,by decide⟩:Fit Zcf)
 | true=>
  cases he:ZaL (ZaQ y).1 with
  | true=>exact Zeq he
  | false=>exact absurd (ZpN (x:=y) (fun _=>rfl) he) (by rw[h];simp)
theorem ZjW {x:It}{o:List It × Int}(h:o.2=0)(hl:o.1.length ≠ 8):Zdh x o=(pr0,3):=by
 unfold Zdh
 rw[h,show((0:Int) != 0)=false from rfl]
 dsimp only
 split
 ·rename_i heq
  rw[heq]at hl
  exact absurd rfl hl
 ·rfl
theorem ZjX {x:It}{l:List It}{e:Int}(h:(e != 0)=true):Zdh x (l,e)=(pr0,e):=by
 unfold Zdh
 dsimp only
 rw[h]
theorem Zly [Known][KnownU8](x:It)(hw:wfI x)(hxl:x.l.length<=1000000)(hsz:Za9 x.l<=900)(hlim:∀ s m,s<=2->(Za1 (ZaJ s (x.l.take m))).length<=1000000000)(hb:∀ y ∈ x.l,∀ z ∈ y.l,z.b.length<=3000):AP Tryz.prog 18 [itD x] (prD (Zdw x)) []:=by
 have hO:=Zlb x 2 hw hxl hsz hlim
 have hsub:=Zjd x 2
 have hws:wfs x.l:=by obtain⟨k,n,b,l⟩:=x;exact hw.2.2.2
 rw[ZmA]
 unfold Zga
 rw[ZgA]at hsub
 generalize Zhs x 2=o at *
 obtain⟨ol,oe⟩:=o
 have hlen:=Zan ol
 have hU:=ZbG ol
 dsimp only at hsub
 have hSame:=fun(B:PriV) (h1:Zbc B=true) (h2:B.fl<18446744073709551616)=>ZbK (ZbA B) (Zf9 h1 h2) x hw
 obtain⟨k,n,b,l⟩:=x
 dsimp only[It.l]at *
 replace hO:AP Tryz.prog 89 [.agg (itC k n b l),.int .i64 2] (.tup [.sl .ext (Zas ol),.int .i64 oe]) []:=hO
 cases t1:(oe != 0) with
 | true=>rw[ZjX t1];exact Zp8 k n b l _ oe hO t1
 | false=>
 have e0:oe=0:=by simpa using t1
 subst e0
 have hno:ol.length ≠ 8->AP Tryz.prog 18 [itD (.mk k n b l)] (prD (Zdh (.mk k n b l) (ol,0))) []:=fun h=>by rw[ZjW rfl h];exact Zp9 k n b l _ 0 hO t1 (by rw[hlen];simp;omega)
 match ol,hO,hsub,hU,hno with
 | [],_,_,_,h=>exact h (by simp)
 | [_],_,_,_,h=>exact h (by simp)
 | [_,_],_,_,_,h=>exact h (by simp)
 | [_,_,_],_,_,_,h=>exact h (by simp)
 | [_,_,_,_],_,_,_,h=>exact h (by simp)
 | [_,_,_,_,_],_,_,_,h=>exact h (by simp)
 | [_,_,_,_,_,_],_,_,_,h=>exact h (by simp)
 | [_,_,_,_,_,_,_],_,_,_,h=>exact h (by simp)
 | _::_::_::_::_::_::_::_::_::_,_,_,_,h=>exact h (by simp)
 | [.mk k0 n0 b0 l0,.mk k1 n1 b1 l1,.mk k2 n2 b2 l2,.mk k3 n3 b3 l3,.mk k4 n4 b4 l4,.mk k5 n5 b5 l5,.mk k6 n6 b6 l6,.mk k7 n7 b7 l7],hO,hsub,hU,_=>
 have t2:(((Zas [It.mk k0 n0 b0 l0,.mk k1 n1 b1 l1,.mk k2 n2 b2 l2,.mk k3 n3 b3 l3,.mk k4 n4 b4 l4,.mk k5 n5 b5 l5,.mk k6 n6 b6 l6,.mk k7 n7 b7 l7]).length:Int) != 8)=false:=by rw[Zan];rfl
 rcases l6 with _|⟨⟨tk,tn,tb,tl⟩,_|⟨⟨qk,qn,qb,ql⟩,_|⟨y,r⟩⟩⟩
 ·exact ZpA k n b l _ 0 hO t1 t2 hU k6 n6 b6 [] rfl rfl
 ·exact ZpA k n b l _ 0 hO t1 t2 hU k6 n6 b6 [.mk tk tn tb tl] rfl rfl
 ·unfold Zdh
  dsimp only
  have w1:n1<18446744073709551616:=(ZaP hws (.mk k1 n1 b1 l1) (hsub _ (by simp))).1
  have hD:=Zd1 (.mk k3 n3 b3 l3) (ZaP hws _ (hsub _ (by simp))) (fun z hz=>by have:=hb _ (hsub (.mk k3 n3 b3 l3) (by simp)) z hz;omega)
  have hS:=Zd1 (.mk k4 n4 b4 l4) (ZaP hws _ (hsub _ (by simp))) (fun z hz=>by have:=hb _ (hsub (.mk k4 n4 b4 l4) (by simp)) z hz;omega)
  have hR:=Zd1 (.mk k5 n5 b5 l5) (ZaP hws _ (hsub _ (by simp))) (fun z hz=>by have:=hb _ (hsub (.mk k5 n5 b5 l5) (by simp)) z hz;omega)
  have f3:=Zlx (.mk k3 n3 b3 l3)
  have f4:=Zlx (.mk k4 n4 b4 l4)
  have f5:=Zlx (.mk k5 n5 b5 l5)
  replace hD:AP Tryz.prog 90 [.agg (itC k3 n3 b3 l3)] (.tup [.agg (eC (eZ (.mk k3 n3 b3 l3))),.bool (ZaQ (.mk k3 n3 b3 l3)).2]) []:=hD
  replace hS:AP Tryz.prog 90 [.agg (itC k4 n4 b4 l4)] (.tup [.agg (eC (eZ (.mk k4 n4 b4 l4))),.bool (ZaQ (.mk k4 n4 b4 l4)).2]) []:=hS
  replace hR:AP Tryz.prog 90 [.agg (itC k5 n5 b5 l5)] (.tup [.agg (eC (eZ (.mk k5 n5 b5 l5))),.bool (ZaQ (.mk k5 n5 b5 l5)).2]) []:=hR
  unfold ZnY
  dsimp only[It.n]
  generalize eZ (.mk k3 n3 b3 l3)=d at *
  generalize eZ (.mk k5 n5 b5 l5)=r at *
  generalize eZ (.mk k4 n4 b4 l4)=x at *
  generalize (ZaQ (.mk k3 n3 b3 l3)).2=d2 at *
  generalize (ZaQ (.mk k5 n5 b5 l5)).2=r2 at *
  generalize (ZaQ (.mk k4 n4 b4 l4)).2=x2 at *
  have hI:=Zf0 ⟨n1,IntKind.i64.wrap (n2:Int),d,r,x,tn,qn,n7⟩ w1 f3 f5 f4
  have hW:=fun h=>Zgc ⟨n1,IntKind.i64.wrap (n2:Int),d,r,x,tn,qn,n7⟩ h w1
  have hM:=fun h=>hSame ⟨n1,IntKind.i64.wrap (n2:Int),d,r,x,tn,qn,n7⟩ h w1
  clear hSame hws hlim hsub hw hb f3 f4 f5
  generalize ZbA ⟨n1,IntKind.i64.wrap (n2:Int),d,r,x,tn,qn,n7⟩=w at *
  generalize Zbc ⟨n1,IntKind.i64.wrap (n2:Int),d,r,x,tn,qn,n7⟩=ri at *
  obtain⟨wk,wn,wb,wl⟩:=w
  obtain⟨di,dn,ds,dh,dd⟩:=d
  obtain⟨ri',rn,rs,rh,rd⟩:=r
  obtain⟨xi,xn,xs,xh,xd⟩:=x
  cases d2 with
  | false=>exact Zqa _ _ k n b l _ 0 hO t1 t2 hU k1 n1 b1 l1 k2 n2 b2 l2 k3 n3 b3 l3 k4 n4 b4 l4 k5 n5 b5 l5 tk tn tb tl qk qn qb ql k7 n7 b7 l7 k6 n6 b6 di dn ds dh dd ri' rn rs rh rd xi xn xs xh xd wk wn wb wl rfl rfl rfl rfl rfl rfl rfl rfl hD hS hR
  | true=>
  cases x2 with
  | false=>exact Zqb _ k n b l _ 0 hO t1 t2 hU k1 n1 b1 l1 k2 n2 b2 l2 k3 n3 b3 l3 k4 n4 b4 l4 k5 n5 b5 l5 tk tn tb tl qk qn qb ql k7 n7 b7 l7 k6 n6 b6 di dn ds dh dd ri' rn rs rh rd xi xn xs xh xd wk wn wb wl rfl rfl rfl rfl rfl rfl rfl rfl hD hS hR
  | true=>
  cases r2 with
  | false=>exact Zqc k n b l _ 0 hO t1 t2 hU k1 n1 b1 l1 k2 n2 b2 l2 k3 n3 b3 l3 k4 n4 b4 l4 k5 n5 b5 l5 tk tn tb tl qk qn qb ql k7 n7 b7 l7 k6 n6 b6 di dn ds dh dd ri' rn rs rh rd xi xn xs xh xd wk wn wb wl rfl rfl rfl rfl rfl rfl rfl rfl hD hS hR
  | true=>
  cases ri with
  | false=>exact Zqd k n b l _ 0 hO t1 t2 hU k1 n1 b1 l1 k2 n2 b2 l2 k3 n3 b3 l3 k4 n4 b4 l4 k5 n5 b5 l5 tk tn tb tl qk qn qb ql k7 n7 b7 l7 k6 n6 b6 di dn ds dh dd ri' rn rs rh rd xi xn xs xh xd wk wn wb wl rfl rfl rfl rfl rfl rfl rfl rfl hD hS hR hI
  | true=>
  replace hW:=hW rfl
  replace hM:=hM rfl
  cases hm:It.beq (.mk wk wn wb wl) (.mk k n b l) with
  | false=>
   rw[hm]at hM
   exact Zqe k n b l _ 0 hO t1 t2 hU k1 n1 b1 l1 k2 n2 b2 l2 k3 n3 b3 l3 k4 n4 b4 l4 k5 n5 b5 l5 tk tn tb tl qk qn qb ql k7 n7 b7 l7 k6 n6 b6 di dn ds dh dd ri' rn rs rh rd xi xn xs xh xd wk wn wb wl rfl rfl rfl rfl rfl rfl rfl rfl hD hS hR hI hW hM
  | true=>
   rw[hm]at hM
   exact Zqf k n b l _ 0 rfl hO t1 t2 hU k1 n1 b1 l1 k2 n2 b2 l2 k3 n3 b3 l3 k4 n4 b4 l4 k5 n5 b5 l5 tk tn tb tl qk qn qb ql k7 n7 b7 l7 k6 n6 b6 di dn ds dh dd ri' rn rs rh rd xi xn xs xh xd wk wn wb wl rfl rfl rfl rfl rfl rfl rfl rfl hD hS hR hI hW hM
 ·exact ZpA k n b l _ 0 hO t1 t2 hU k6 n6 b6 (.mk tk tn tb tl::.mk qk qn qb ql::y::r) rfl (by rw[Zan];simp;omega)
theorem ZoR [Known](x:EidV)(t q:Nat):AP Tryz.prog 58 [.agg (iC x t q)] (.agg (iC x t q)) []:=by
 have hE:=ZkZ x
 obtain⟨xi,xn,xs,xh,xd⟩:=x
 refine AP.ofA ?_
 refine Zap Tryz.func58 rfl Tryz.ntmps58 rfl rfl ?_
 repeat'(first|(apply Zaa (hE);kernel_rfl;(iterate 4 exact Z))|(apply Zaj Zab;exact Z)|(apply Zai Zab;exact Z)|(apply Zam 7 ZaR;decide +kernel;kernel_rfl;kernel_rfl;kernel_rfl;exact Z;exact Z)|(apply Zar;(iterate 4 exact Z))|exact AE.nil _ _ _ _|(apply Zav;exact Z)|(apply Zaz;exact Z;exact Z;decide +kernel;exact Z)|(apply ZaA;exact Z)|exact AO.nil _ _ _|(apply Zaq;(decide +kernel))|exact AOs.nil|exact ZaI rfl rfl)
 all_goals(apply Zax [];(apply Zad Zab;exact Z);(iterate 4 exact Z))
 all_goals rfl
theorem Zm0 [Known](p:PriV):AP Tryz.prog 15 [.agg (prC p)] (.agg (prC p)) []:=by
 have hD:=ZkZ p.dest
 have hR:=ZkZ p.rep
 have hI:=ZoR p.src p.t p.q
 obtain⟨fl,sum,⟨di,dn,ds,dh,dd⟩,⟨ri,rn,rs,rh,rd⟩,⟨xi,xn,xs,xh,xd⟩,t,q,life⟩:=p
 refine AP.ofA ?_
 refine Zap Tryz.func15 rfl Tryz.ntmps15 rfl rfl ?_
 repeat'(first|(apply Zaa (hD);kernel_rfl;(iterate 4 exact Z))|(apply Zaa (hR);kernel_rfl;(iterate 4 exact Z))|(apply Zaa (hI);kernel_rfl;(iterate 4 exact Z))|(apply Zaj Zab;exact Z)|(apply Zai Zab;exact Z)|(apply Zam 15 ZaR;decide +kernel;kernel_rfl;kernel_rfl;kernel_rfl;exact Z;exact Z)|(apply Zar;(iterate 4 exact Z))|exact AE.nil _ _ _ _|(apply Zav;exact Z)|(apply Zaz;exact Z;exact Z;decide +kernel;exact Z)|(apply ZaA;exact Z)|exact AO.nil _ _ _|(apply Zaq;(decide +kernel))|exact AOs.nil|exact ZaI rfl rfl)
 all_goals(apply Zax [];(apply Zad Zab;exact Z);(iterate 4 exact Z))
 all_goals rfl
theorem Zqg [Known](pfl pdn pds prn prs pxn pxs pt pq plife:Nat)(psum:Int)(pdi pri pxi:Bool)(pdh pdd prh prd pxh pxd:List UInt8)(zk:Int)(zn:Nat)(zb:List UInt8)(zl:List It) 
  (hA:AP Tryz.prog 14 [] (.bool true) [])
  (hG:AP Tryz.prog 12 [.agg [.int .u64 (pfl:Int),.int .i64 psum,.bool pdi,.int .u64 (pdn:Int),.int .u64 (pds:Int),.str pdh,.str pdd,.bool pri,.int .u64 (prn:Int),.int .u64 (prs:Int),.str prh,.str prd,.bool pxi,.int .u64 (pxn:Int),.int .u64 (pxs:Int),.str pxh,.str pxd,.int .u64 (pt:Int),.int .u64 (pq:Int),.int .u64 (plife:Int)]] (.bool true) []) :
  AP Tryz.prog 3 [.agg [.int .u64 (pfl:Int),.int .i64 psum,.bool pdi,.int .u64 (pdn:Int),.int .u64 (pds:Int),.str pdh,.str pdd,.bool pri,.int .u64 (prn:Int),.int .u64 (prs:Int),.str prh,.str prd,.bool pxi,.int .u64 (pxn:Int),.int .u64 (pxs:Int),.str pxh,.str pxd,.int .u64 (pt:Int),.int .u64 (pq:Int),.int .u64 (plife:Int)],.agg (itC zk zn zb zl)] (.bool true) []:=by
 refine AP.ofA ?_
 refine Zap Tryz.func3 rfl Tryz.ntmps3 rfl rfl ?_
 repeat'(first|(apply Zaa (hA);kernel_rfl;(iterate 4 exact Z))|(apply Zaa (hG);kernel_rfl;(iterate 4 exact Z))|(apply Zaj Zab;exact Z)|(apply Zai Zab;exact Z)|(apply Zay Zab;exact Z)|(apply Zao;(iterate 3 exact Z);exact Go.Zqn)|(apply Zak;exact Z;exact Go.Zqn;exact Z;exact Z)|(apply Zac;exact Z;exact Go.Zqn))
 all_goals(apply Zax [];(apply Zad Zab;exact Z);(iterate 4 exact Z))
 all_goals rfl
theorem Zqh [Known](pfl pdn pds prn prs pxn pxs pt pq plife:Nat)(psum:Int)(pdi pri pxi:Bool)(pdh pdd prh prd pxh pxd:List UInt8)(zk:Int)(zn:Nat)(zb:List UInt8)(zl:List It)(g:Int)
  (hA:AP Tryz.prog 14 [] (.bool true) [])
  (hG:AP Tryz.prog 12 [.agg [.int .u64 (pfl:Int),.int .i64 psum,.bool pdi,.int .u64 (pdn:Int),.int .u64 (pds:Int),.str pdh,.str pdd,.bool pri,.int .u64 (prn:Int),.int .u64 (prs:Int),.str prh,.str prd,.bool pxi,.int .u64 (pxn:Int),.int .u64 (pxs:Int),.str pxh,.str pxd,.int .u64 (pt:Int),.int .u64 (pq:Int),.int .u64 (plife:Int)]] (.bool false) [])
  (hH:AP Tryz.prog 13 [.agg (itC zk zn zb zl),.int .i64 1,.int .i64 300] (.int .i64 g) [])
  (t0:decide (g<0)=true) :
  AP Tryz.prog 3 [.agg [.int .u64 (pfl:Int),.int .i64 psum,.bool pdi,.int .u64 (pdn:Int),.int .u64 (pds:Int),.str pdh,.str pdd,.bool pri,.int .u64 (prn:Int),.int .u64 (prs:Int),.str prh,.str prd,.bool pxi,.int .u64 (pxn:Int),.int .u64 (pxs:Int),.str pxh,.str pxd,.int .u64 (pt:Int),.int .u64 (pq:Int),.int .u64 (plife:Int)],.agg (itC zk zn zb zl)] (.bool true) []:=by
 refine AP.ofA ?_
 refine Zap Tryz.func3 rfl Tryz.ntmps3 rfl rfl ?_
 repeat'(first|(apply Zaa (hA);kernel_rfl;(iterate 4 exact Z))|(apply Zaa (hG);kernel_rfl;(iterate 4 exact Z))|(apply Zaa (hH);kernel_rfl;(iterate 4 exact Z))|(apply Zaj Zab;exact Z)|(apply Zai Zab;exact Z)|(apply Zay Zab;exact Z)|(apply Zaf;(iterate 3 exact Z);exact Go.Zqn)|(apply Zah;exact Z;exact Go.Zqn;exact Z;exact Z)|(apply Zac;exact Z;exact Go.Zqn))
 all_goals(apply Zax [];(apply Zad Zab;exact Z);(iterate 4 exact Z))
 all_goals rfl
theorem Zqi [Known](pfl pdn pds prn prs pxn pxs pt pq plife:Nat)(psum:Int)(pdi pri pxi:Bool)(pdh pdd prh prd pxh pxd:List UInt8)(zk:Int)(zn:Nat)(zb:List UInt8)(zl:List It)(g f:Int)(cfl cdn cds crn crs cxn cxs ct cq clife:Nat)(csum:Int)(cdi cri cxi:Bool)(cdh cdd crh crd cxh cxd:List UInt8)
  (hA:AP Tryz.prog 14 [] (.bool true) [])
  (hG:AP Tryz.prog 12 [.agg [.int .u64 (pfl:Int),.int .i64 psum,.bool pdi,.int .u64 (pdn:Int),.int .u64 (pds:Int),.str pdh,.str pdd,.bool pri,.int .u64 (prn:Int),.int .u64 (prs:Int),.str prh,.str prd,.bool pxi,.int .u64 (pxn:Int),.int .u64 (pxs:Int),.str pxh,.str pxd,.int .u64 (pt:Int),.int .u64 (pq:Int),.int .u64 (plife:Int)]] (.bool false) [])
  (hH:AP Tryz.prog 13 [.agg (itC zk zn zb zl),.int .i64 1,.int .i64 300] (.int .i64 g) [])
  (t0:decide (g<0)=false)
  (hSp:AP Tryz.prog 15 [.agg [.int .u64 (pfl:Int),.int .i64 psum,.bool pdi,.int .u64 (pdn:Int),.int .u64 (pds:Int),.str pdh,.str pdd,.bool pri,.int .u64 (prn:Int),.int .u64 (prs:Int),.str prh,.str prd,.bool pxi,.int .u64 (pxn:Int),.int .u64 (pxs:Int),.str pxh,.str pxd,.int .u64 (pt:Int),.int .u64 (pq:Int),.int .u64 (plife:Int)]] (.agg [.int .u64 (pfl:Int),.int .i64 psum,.bool pdi,.int .u64 (pdn:Int),.int .u64 (pds:Int),.str pdh,.str pdd,.bool pri,.int .u64 (prn:Int),.int .u64 (prs:Int),.str prh,.str prd,.bool pxi,.int .u64 (pxn:Int),.int .u64 (pxs:Int),.str pxh,.str pxd,.int .u64 (pt:Int),.int .u64 (pq:Int),.int .u64 (plife:Int)]) [])
  (hSq:AP Tryz.prog 15 [.agg [.int .u64 (cfl:Int),.int .i64 csum,.bool cdi,.int .u64 (cdn:Int),.int .u64 (cds:Int),.str cdh,.str cdd,.bool cri,.int .u64 (crn:Int),.int .u64 (crs:Int),.str crh,.str crd,.bool cxi,.int .u64 (cxn:Int),.int .u64 (cxs:Int),.str cxh,.str cxd,.int .u64 (ct:Int),.int .u64 (cq:Int),.int .u64 (clife:Int)]] (.agg [.int .u64 (cfl:Int),.int .i64 csum,.bool cdi,.int .u64 (cdn:Int),.int .u64 (cds:Int),.str cdh,.str cdd,.bool cri,.int .u64 (crn:Int),.int .u64 (crs:Int),.str crh,.str crd,.bool cxi,.int .u64 (cxn:Int),.int .u64 (cxs:Int),.str cxh,.str cxd,.int .u64 (ct:Int),.int .u64 (cq:Int),.int .u64 (clife:Int)]) [])
  (hRd:AP Tryz.prog 17 [.agg (itC zk zn zb zl)] (.tup [.agg [.int .u64 (cfl:Int),.int .i64 csum,.bool cdi,.int .u64 (cdn:Int),.int .u64 (cds:Int),.str cdh,.str cdd,.bool cri,.int .u64 (crn:Int),.int .u64 (crs:Int),.str crh,.str crd,.bool cxi,.int .u64 (cxn:Int),.int .u64 (cxs:Int),.str cxh,.str cxd,.int .u64 (ct:Int),.int .u64 (cq:Int),.int .u64 (clife:Int)],.int .i64 f]) [])
  (hAx:AP Tryz.prog 19 [.agg (itC zk zn zb zl),.int .i64 10] (.agg (itC zk zn zb zl)) [])
  (hDd:AP Tryz.prog 18 [.agg (itC zk zn zb zl)] (.tup [.agg [.int .u64 (cfl:Int),.int .i64 csum,.bool cdi,.int .u64 (cdn:Int),.int .u64 (cds:Int),.str cdh,.str cdd,.bool cri,.int .u64 (crn:Int),.int .u64 (crs:Int),.str crh,.str crd,.bool cxi,.int .u64 (cxn:Int),.int .u64 (cxs:Int),.str cxh,.str cxd,.int .u64 (ct:Int),.int .u64 (cq:Int),.int .u64 (clife:Int)],.int .i64 f]) [])
  (y1:(f != f)=false)
  (y2:(!(((cfl:Int)==(cfl:Int))&&((csum==csum)&&((cdi==cdi)&&(((cdn:Int)==(cdn:Int))&&(((cds:Int)==(cds:Int))&&((cdh==cdh)&&((cdd==cdd)&&((cri==cri)&&(((crn:Int)==(crn:Int))&&(((crs:Int)==(crs:Int))&&((crh==crh)&&((crd==crd)&&((cxi==cxi)&&(((cxn:Int)==(cxn:Int))&&(((cxs:Int)==(cxs:Int))&&((cxh==cxh)&&((cxd==cxd)&&(((ct:Int)==(ct:Int))&&(((cq:Int)==(cq:Int))&&(((clife:Int)==(clife:Int))&&true)))))))))))))))))))))=false)
  (hW:AP Tryz.prog 16 [.agg [.int .u64 (pfl:Int),.int .i64 psum,.bool pdi,.int .u64 (pdn:Int),.int .u64 (pds:Int),.str pdh,.str pdd,.bool pri,.int .u64 (prn:Int),.int .u64 (prs:Int),.str prh,.str prd,.bool pxi,.int .u64 (pxn:Int),.int .u64 (pxs:Int),.str pxh,.str pxd,.int .u64 (pt:Int),.int .u64 (pq:Int),.int .u64 (plife:Int)]] (.tup [.agg [.int .i64 0,.int .u64 0,.sl .ext [],.sl .ext []],.int .i64 3]) [])
  (hR1:AP Tryz.prog 20 [.agg [.int .u64 (pfl:Int),.int .i64 psum,.bool pdi,.int .u64 (pdn:Int),.int .u64 (pds:Int),.str pdh,.str pdd,.bool pri,.int .u64 (prn:Int),.int .u64 (prs:Int),.str prh,.str prd,.bool pxi,.int .u64 (pxn:Int),.int .u64 (pxs:Int),.str pxh,.str pxd,.int .u64 (pt:Int),.int .u64 (pq:Int),.int .u64 (plife:Int)]] (.bool false) [])
  (hR2:AP Tryz.prog 21 [.agg [.int .u64 (pfl:Int),.int .i64 psum,.bool pdi,.int .u64 (pdn:Int),.int .u64 (pds:Int),.str pdh,.str pdd,.bool pri,.int .u64 (prn:Int),.int .u64 (prs:Int),.str prh,.str prd,.bool pxi,.int .u64 (pxn:Int),.int .u64 (pxs:Int),.str pxh,.str pxd,.int .u64 (pt:Int),.int .u64 (pq:Int),.int .u64 (plife:Int)]] (.bool false) []) :
  AP Tryz.prog 3 [.agg [.int .u64 (pfl:Int),.int .i64 psum,.bool pdi,.int .u64 (pdn:Int),.int .u64 (pds:Int),.str pdh,.str pdd,.bool pri,.int .u64 (prn:Int),.int .u64 (prs:Int),.str prh,.str prd,.bool pxi,.int .u64 (pxn:Int),.int .u64 (pxs:Int),.str pxh,.str pxd,.int .u64 (pt:Int),.int .u64 (pq:Int),.int .u64 (plife:Int)],.agg (itC zk zn zb zl)] (.bool true) []:=by
 refine AP.ofA ?_
 refine Zap Tryz.func3 rfl Tryz.ntmps3 rfl rfl ?_
 repeat'(first|(apply Zaa (hA);kernel_rfl;(iterate 4 exact Z))|(apply Zaa (hG);kernel_rfl;(iterate 4 exact Z))|(apply Zaa (hH);kernel_rfl;(iterate 4 exact Z))|(apply Zaa (hSp);kernel_rfl;(iterate 4 exact Z))|(apply Zaa (hSq);kernel_rfl;(iterate 4 exact Z))|(apply Zaa (hRd);kernel_rfl;(iterate 4 exact Z))|(apply Zaa (hAx);kernel_rfl;(iterate 4 exact Z))|(apply Zaa (hDd);kernel_rfl;(iterate 4 exact Z))|(apply Zaa (hW);kernel_rfl;(iterate 4 exact Z))|(apply Zaa (hR1);kernel_rfl;(iterate 4 exact Z))|(apply Zaa (hR2);kernel_rfl;(iterate 4 exact Z))|(apply Zaj Zab;exact Z)|(apply Zai Zab;exact Z)|(apply Zay Zab;exact Z)|(apply Zaf;(iterate 3 exact Z);exact Go.Zqn)|(apply Zak;exact Z;exact Go.Zqn;exact Z;exact Z)|(apply Zah;exact Z;exact Go.Zqn;exact Z;exact Z)|(apply Zac;exact Z;exact Go.Zqn)|(apply Zae;exact Z;exact Go.Zqn)|(apply Zal Zab;(iterate 4 exact Z))|(apply ZdQ Zab;(iterate 4 exact Z);kernel_rfl;kernel_rfl;(iterate 3 exact Z))|(apply Zam 14 ZaR;decide +kernel;kernel_rfl;kernel_rfl;kernel_rfl;exact Z;exact Z)|(apply Zar;(iterate 4 exact Z))|exact AE.nil _ _ _ _|(apply Zav;exact Z)|(apply Zaz;exact Z;exact Z;decide +kernel;exact Z)|(apply ZaA;exact Z)|exact AO.nil _ _ _|(apply Zaq;(decide +kernel))|exact AOs.nil|exact ZaI rfl rfl)
 all_goals(apply Zax [];(apply Zad Zab;exact Z);(iterate 4 exact Z))
 all_goals rfl
theorem Zqj [Known](pfl pdn pds prn prs pxn pxs pt pq plife:Nat)(psum:Int)(pdi pri pxi:Bool)(pdh pdd prh prd pxh pxd:List UInt8)(zk:Int)(zn:Nat)(zb:List UInt8)(zl:List It)(g f:Int)(cfl cdn cds crn crs cxn cxs ct cq clife:Nat)(csum:Int)(cdi cri cxi:Bool)(cdh cdd crh crd cxh cxd:List UInt8)(yk:Int)(yn:Nat)(yb:List UInt8)(yl:List It)
  (hA:AP Tryz.prog 14 [] (.bool true) [])
  (hG:AP Tryz.prog 12 [.agg [.int .u64 (pfl:Int),.int .i64 psum,.bool pdi,.int .u64 (pdn:Int),.int .u64 (pds:Int),.str pdh,.str pdd,.bool pri,.int .u64 (prn:Int),.int .u64 (prs:Int),.str prh,.str prd,.bool pxi,.int .u64 (pxn:Int),.int .u64 (pxs:Int),.str pxh,.str pxd,.int .u64 (pt:Int),.int .u64 (pq:Int),.int .u64 (plife:Int)]] (.bool false) [])
  (hH:AP Tryz.prog 13 [.agg (itC zk zn zb zl),.int .i64 1,.int .i64 300] (.int .i64 g) [])
  (t0:decide (g<0)=false)
  (hSp:AP Tryz.prog 15 [.agg [.int .u64 (pfl:Int),.int .i64 psum,.bool pdi,.int .u64 (pdn:Int),.int .u64 (pds:Int),.str pdh,.str pdd,.bool pri,.int .u64 (prn:Int),.int .u64 (prs:Int),.str prh,.str prd,.bool pxi,.int .u64 (pxn:Int),.int .u64 (pxs:Int),.str pxh,.str pxd,.int .u64 (pt:Int),.int .u64 (pq:Int),.int .u64 (plife:Int)]] (.agg [.int .u64 (pfl:Int),.int .i64 psum,.bool pdi,.int .u64 (pdn:Int),.int .u64 (pds:Int),.str pdh,.str pdd,.bool pri,.int .u64 (prn:Int),.int .u64 (prs:Int),.str prh,.str prd,.bool pxi,.int .u64 (pxn:Int),.int .u64 (pxs:Int),.str pxh,.str pxd,.int .u64 (pt:Int),.int .u64 (pq:Int),.int .u64 (plife:Int)]) [])
  (hSq:AP Tryz.prog 15 [.agg [.int .u64 (cfl:Int),.int .i64 csum,.bool cdi,.int .u64 (cdn:Int),.int .u64 (cds:Int),.str cdh,.str cdd,.bool cri,.int .u64 (crn:Int),.int .u64 (crs:Int),.str crh,.str crd,.bool cxi,.int .u64 (cxn:Int),.int .u64 (cxs:Int),.str cxh,.str cxd,.int .u64 (ct:Int),.int .u64 (cq:Int),.int .u64 (clife:Int)]] (.agg [.int .u64 (cfl:Int),.int .i64 csum,.bool cdi,.int .u64 (cdn:Int),.int .u64 (cds:Int),.str cdh,.str cdd,.bool cri,.int .u64 (crn:Int),.int .u64 (crs:Int),.str crh,.str crd,.bool cxi,.int .u64 (cxn:Int),.int .u64 (cxs:Int),.str cxh,.str cxd,.int .u64 (ct:Int),.int .u64 (cq:Int),.int .u64 (clife:Int)]) [])
  (hRd:AP Tryz.prog 17 [.agg (itC zk zn zb zl)] (.tup [.agg [.int .u64 (cfl:Int),.int .i64 csum,.bool cdi,.int .u64 (cdn:Int),.int .u64 (cds:Int),.str cdh,.str cdd,.bool cri,.int .u64 (crn:Int),.int .u64 (crs:Int),.str crh,.str crd,.bool cxi,.int .u64 (cxn:Int),.int .u64 (cxs:Int),.str cxh,.str cxd,.int .u64 (ct:Int),.int .u64 (cq:Int),.int .u64 (clife:Int)],.int .i64 f]) [])
  (hAx:AP Tryz.prog 19 [.agg (itC zk zn zb zl),.int .i64 10] (.agg (itC zk zn zb zl)) [])
  (hDd:AP Tryz.prog 18 [.agg (itC zk zn zb zl)] (.tup [.agg [.int .u64 (cfl:Int),.int .i64 csum,.bool cdi,.int .u64 (cdn:Int),.int .u64 (cds:Int),.str cdh,.str cdd,.bool cri,.int .u64 (crn:Int),.int .u64 (crs:Int),.str crh,.str crd,.bool cxi,.int .u64 (cxn:Int),.int .u64 (cxs:Int),.str cxh,.str cxd,.int .u64 (ct:Int),.int .u64 (cq:Int),.int .u64 (clife:Int)],.int .i64 f]) [])
  (y1:(f != f)=false)
  (y2:(!(((cfl:Int)==(cfl:Int))&&((csum==csum)&&((cdi==cdi)&&(((cdn:Int)==(cdn:Int))&&(((cds:Int)==(cds:Int))&&((cdh==cdh)&&((cdd==cdd)&&((cri==cri)&&(((crn:Int)==(crn:Int))&&(((crs:Int)==(crs:Int))&&((crh==crh)&&((crd==crd)&&((cxi==cxi)&&(((cxn:Int)==(cxn:Int))&&(((cxs:Int)==(cxs:Int))&&((cxh==cxh)&&((cxd==cxd)&&(((ct:Int)==(ct:Int))&&(((cq:Int)==(cq:Int))&&(((clife:Int)==(clife:Int))&&true)))))))))))))))))))))=false)
  (hW:AP Tryz.prog 16 [.agg [.int .u64 (pfl:Int),.int .i64 psum,.bool pdi,.int .u64 (pdn:Int),.int .u64 (pds:Int),.str pdh,.str pdd,.bool pri,.int .u64 (prn:Int),.int .u64 (prs:Int),.str prh,.str prd,.bool pxi,.int .u64 (pxn:Int),.int .u64 (pxs:Int),.str pxh,.str pxd,.int .u64 (pt:Int),.int .u64 (pq:Int),.int .u64 (plife:Int)]] (.tup [.agg (itC yk yn yb yl),.int .i64 0]) [])
  (hR1:AP Tryz.prog 20 [.agg [.int .u64 (pfl:Int),.int .i64 psum,.bool pdi,.int .u64 (pdn:Int),.int .u64 (pds:Int),.str pdh,.str pdd,.bool pri,.int .u64 (prn:Int),.int .u64 (prs:Int),.str prh,.str prd,.bool pxi,.int .u64 (pxn:Int),.int .u64 (pxs:Int),.str pxh,.str pxd,.int .u64 (pt:Int),.int .u64 (pq:Int),.int .u64 (plife:Int)]] (.bool true) [])
  (hR2:AP Tryz.prog 21 [.agg [.int .u64 (pfl:Int),.int .i64 psum,.bool pdi,.int .u64 (pdn:Int),.int .u64 (pds:Int),.str pdh,.str pdd,.bool pri,.int .u64 (prn:Int),.int .u64 (prs:Int),.str prh,.str prd,.bool pxi,.int .u64 (pxn:Int),.int .u64 (pxs:Int),.str pxh,.str pxd,.int .u64 (pt:Int),.int .u64 (pq:Int),.int .u64 (plife:Int)]] (.bool true) [])
  (hAy:AP Tryz.prog 19 [.agg (itC yk yn yb yl),.int .i64 9] (.agg (itC yk yn yb yl)) [])
  (hWr:AP Tryz.prog 23 [.agg [.int .u64 (pfl:Int),.int .i64 psum,.bool pdi,.int .u64 (pdn:Int),.int .u64 (pds:Int),.str pdh,.str pdd,.bool pri,.int .u64 (prn:Int),.int .u64 (prs:Int),.str prh,.str prd,.bool pxi,.int .u64 (pxn:Int),.int .u64 (pxs:Int),.str pxh,.str pxd,.int .u64 (pt:Int),.int .u64 (pq:Int),.int .u64 (plife:Int)]] (.agg (itC yk yn yb yl)) [])
  (hFin:AP Tryz.prog 22 [.agg (itC yk yn yb yl),.agg (itC yk yn yb yl)] (.bool true) []) :
  AP Tryz.prog 3 [.agg [.int .u64 (pfl:Int),.int .i64 psum,.bool pdi,.int .u64 (pdn:Int),.int .u64 (pds:Int),.str pdh,.str pdd,.bool pri,.int .u64 (prn:Int),.int .u64 (prs:Int),.str prh,.str prd,.bool pxi,.int .u64 (pxn:Int),.int .u64 (pxs:Int),.str pxh,.str pxd,.int .u64 (pt:Int),.int .u64 (pq:Int),.int .u64 (plife:Int)],.agg (itC zk zn zb zl)] (.bool true) []:=by
 refine AP.ofA ?_
 refine Zap Tryz.func3 rfl Tryz.ntmps3 rfl rfl ?_
 repeat'(first|(apply Zaa (hA);kernel_rfl;(iterate 4 exact Z))|(apply Zaa (hG);kernel_rfl;(iterate 4 exact Z))|(apply Zaa (hH);kernel_rfl;(iterate 4 exact Z))|(apply Zaa (hSp);kernel_rfl;(iterate 4 exact Z))|(apply Zaa (hSq);kernel_rfl;(iterate 4 exact Z))|(apply Zaa (hRd);kernel_rfl;(iterate 4 exact Z))|(apply Zaa (hAx);kernel_rfl;(iterate 4 exact Z))|(apply Zaa (hDd);kernel_rfl;(iterate 4 exact Z))|(apply Zaa (hW);kernel_rfl;(iterate 4 exact Z))|(apply Zaa (hR1);kernel_rfl;(iterate 4 exact Z))|(apply Zaa (hR2);kernel_rfl;(iterate 4 exact Z))|(apply Zaa (hAy);kernel_rfl;(iterate 4 exact Z))|(apply Zaa (hWr);kernel_rfl;(iterate 4 exact Z))|(apply Zaa (hFin);kernel_rfl;(iterate 4 exact Z))|(apply Zaj Zab;exact Z)|(apply Zai Zab;exact Z)|(apply Zay Zab;exact Z)|(apply Zaf;(iterate 3 exact Z);exact Go.Zqn)|(apply Zak;exact Z;exact Go.Zqn;exact Z;exact Z)|(apply Zah;exact Z;exact Go.Zqn;exact Z;exact Z)|(apply Zae;exact Z;exact Go.Zqn)|(apply ZdQ Zab;(iterate 4 exact Z);kernel_rfl;kernel_rfl;(iterate 3 exact Z))|(apply Zam 9 ZaR;decide +kernel;kernel_rfl;kernel_rfl;kernel_rfl;exact Z;exact Z)|(apply Zam 14 ZaR;decide +kernel;kernel_rfl;kernel_rfl;kernel_rfl;exact Z;exact Z)|(apply Zar;(iterate 4 exact Z))|exact AE.nil _ _ _ _|(apply Zav;exact Z)|(apply Zaz;exact Z;exact Z;decide +kernel;exact Z)|(apply ZaA;exact Z)|exact AO.nil _ _ _|(apply Zaq;(decide +kernel))|exact AOs.nil|exact ZaI rfl rfl)
 all_goals(apply Zax [];(apply Zad Zab;exact Z);(iterate 4 exact Z))
 all_goals rfl
end Go.Proofs.YtakblclkflnnpaaGreatDoor
end
section
open Go.RowKit Go.Pl Go.Av
namespace Go.Proofs.YtakblclkflnnpaaGreatDoor
set_option maxHeartbeats 4000000
theorem Zm1 (k:Int)(n:Nat)(b:List UInt8)(l:List It):(Za0 l).length<=(Za1 (.mk k n b l)).length:=by
 rw[Za1,List.length_append,List.length_append]
 omega
mutual
theorem Zjm:∀(x:It) (d:Nat) (m:Int),0<=Za3 x d m->(Zbt x:Int)<=m-Za3 x d m
 | .mk k n b l,d,m,h=>by
  rw[Za3]at h ⊢
  split at h
  ·omega
  split at h
  ·omega
  rename_i h1 h2
  rw[if_neg h1,if_neg h2]
  have:=ZhI l (d+1) (m-1) h
  rw[Zbt]
  omega
theorem ZhI:∀(l:List It) (d:Nat) (m:Int),0<=Zbg l d m->(Za9 l:Int)<=m-Zbg l d m
 | [],_,m,h=>by simp[Zbg,Za9]
 | x::l,d,m,h=>by
  rw[Zbg]at h ⊢
  split at h
  ·omega
  rename_i h1
  rw[if_neg h1]
  have h0:0<=Za3 x d m:=by
   rcases Int.lt_or_le (Za3 x d m) 0 with hlt|hge
   ·have:=Zc0 l d (Za3 x d m) (by have:=ZcZ x d m (by omega);omega);omega
   ·exact hge
  have q:=Zjm x d m h0
  have r:=ZhI l d _ h
  rw[Za9]
  omega
end
theorem Zlz {x:It}(h:0<=Za3 x 1 300)(hn:nI x):wfI x/\x.l.length<=1000000/\Za9 x.l<=900/\(∀ y ∈ x.l,y.b.length<=3000)/\(∀ s m,s<=2->(Za1 (ZaJ s (x.l.take m))).length<=1000000000)/\Zbr x 11=true:=by
 obtain⟨h1,h2,h3,h4⟩:=Zif h hn
 have hs:=Zjm x 1 300 h
 obtain⟨_,_,_,hd⟩:=ZeU x 1 300 (by omega) h hn
 refine⟨h1,h2,?_,h3,fun s m hs2=>?_,ZdH x 9 11 hd (by omega)⟩
 ·obtain⟨k,n,b,l⟩:=x
  rw[Zbt]at hs
  show Za9 l<=900
  omega
 ·match s,hs2 with
  | 0,_=>
   have h5:=h4 1 m (.inl rfl)
   have p:=Zbi 4 0 [] (x.l.take m++[.mk 2 0 (List.replicate (2*0) 0) []])
   have q:=Zm1 4 0 [] (x.l.take m++[.mk 2 0 (List.replicate (2*1) 0) []])
   have e:∀ y:List It,Za0 (x.l.take m++y)=Za0 (x.l.take m)++Za0 y:=fun y=>Zeb _ _
   rw[e]at p q
   have r:(Za0 [It.mk 2 0 (List.replicate (2*0) 0) []]).length<=20:=by decide
   unfold ZaJ at h5 ⊢
   have h6:(Za1 (.mk 4 0 [] (x.l.take m++[.mk 2 0 (List.replicate (2*1) 0) []]))).length<=3009*400:=by
    have hp:=(ZeU x 1 300 (by omega) h hn).2.1
    obtain⟨k,n,b,l⟩:=x
    have h7:=ZaG l m
    have h8:=Zm1 k n b l
    have h9:=Zbi 4 0 [] (l.take m++[.mk 2 0 (List.replicate (2*1) 0) []])
    have h10:Za0 (l.take m++[.mk 2 0 (List.replicate (2*1) 0) []])=Za0 (l.take m)++Za0 [.mk 2 0 (List.replicate (2*1) 0) []]:=Zeb _ _
    have r2:(Za0 [It.mk 2 0 (List.replicate (2*1) 0) []]).length<=20:=by decide
    rw[h10]at h9
    simp only[List.length_append,List.length_nil,It.l]at h9 ⊢
    omega
   simp only[List.length_append,List.length_nil]at p q h6 ⊢
   omega
  | s+1,hs2=>exact h4 (s+1) m (by omega)
theorem ZfH:∀(l:List It) (d:Nat) (m:Int),0<=Zbg l d m->∀ y ∈ l,∃ d2 m2,0<=Za3 y d2 m2
 | [],_,_,_,y,hy=>by simp at hy
 | x::l,d,m,h,y,hy=>by
  rw[Zbg]at h
  split at h
  ·omega
  ·rename_i hm
   have h1:0<=Za3 x d m:=by
    rcases Int.lt_or_le (Za3 x d m) 0 with h2|h2
    ·exfalso
     cases l with
     | nil=>rw[Zbg]at h;omega
     | cons y l=>rw[Zbg,if_pos h2]at h;omega
    ·exact h2
   rcases List.mem_cons.1 hy with rfl|hy
   ·exact⟨d,m,h1⟩
   ·exact ZfH l d _ h y hy
theorem ZhJ {x:It}{d:Nat}{m:Int}(h:0<=Za3 x d m):∀ y ∈ x.l,y.b.length<=3000/\∃ d2 m2,0<=Za3 y d2 m2:=by
 obtain⟨k,n,b,l⟩:=x
 rw[Za3]at h
 split at h
 ·omega
 split at h
 ·omega
 intro y hy
 exact⟨ZgE l _ _ h y hy,ZfH l _ _ h y hy⟩
theorem ZmG {x:It}(h:0<=Za3 x 1 300):∀ y ∈ x.l,∀ z ∈ y.l,z.b.length<=3000:=by
 intro y hy z hz
 obtain⟨_,d2,m2,h2⟩:=ZhJ h y hy
 exact(ZhJ h2 z hz).1
end Go.Proofs.YtakblclkflnnpaaGreatDoor
end

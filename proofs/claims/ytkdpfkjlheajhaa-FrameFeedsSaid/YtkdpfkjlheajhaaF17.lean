/- FrameFeeds: the walk, joined (fsgen.py). -/
import Derived.Test.YtkdpfkjlheajhaaF14
import Derived.Test.YtkdpfkjlheajhaaF15
import Derived.Test.YtkdpfkjlheajhaaF16
import Derived.Test.YtkdpfkjlheajhaaF01
import Derived.Test.YtkdpfkjlheajhaaF06
import Derived.Test.YtkdpfkjlheajhaaF09
set_option linter.unusedVariables false
set_option linter.unusedSimpArgs false
section
open Go.RowKit Go.Pl Go.Av
namespace Go.Proofs.Ytkdpfkjlheajhaa
set_option maxHeartbeats 4000000
theorem Va [Known](l:List (List UInt8))(w:List UInt8):AP Try.prog 4 [ZN l,byE w] (.bool true) []:=by
 have hll:(l.map E.bys).length=l.length:=List.length_map ..
 have hwl:(w.map E.byte).length=w.length:=List.length_map ..
 have hUl:=Z5 l
 have hUw:=ZD w
 refine AP.ofA (ZG Try.func4 Z Try.ntmps4 Z Z ?_)
 repeat'(first|(apply Zb [] (QO);kernel_rfl;(iterate 7 exact Z))|(apply Zj Za;exact Z)|(apply Zf Za;exact Z))
 refine ZT (FfJ l w) 61 (Lands.mk' (m:=60) (by omega) ⟨0,[],[],[],0,.sl .nil [],rfl,ZZ (by decide),.inl ⟨rfl,rfl,rfl⟩,rfl,rfl⟩ ?_ rfl rfl rfl rfl rfl rfl) ?_
 ·exact .cons rfl (.cons rfl (.cons rfl (.cons rfl (.cons rfl (.cons rfl .nil)))))
 rintro k tm bx fr ⟨i,p,left,W,br,a,hk,hp,hall,rfl,rfl⟩
 by_cases hlt:i<l.length/\i<60
 ·have hd1:decide ((i:Int)<((l.map E.bys).length:Int))=true:=decide_eq_true (by rw[hll];omega)
  have hd2:decide ((i:Int)<60)=true:=decide_eq_true (by omega)
  have ei:IntKind.i64.wrap ((i:Int)+1)=((i+1:Nat):Int):=by rw[IntWalk.i64_in _ (by omega)];omega
  obtain⟨x,hx⟩:∃ x,l[i]?=some x:=⟨_,List.getElem?_eq_getElem hlt.1⟩
  have hxe:(l.map E.bys)[((i:Nat):Int).toNat]?=some (E.bys x):=by rw[Int.toNat_natCast,List.getElem?_map,hx];rfl
  have hUx:=ZD x
  have hxl:(x.map E.byte).length=x.length:=List.length_map ..
  have hUp:=ZD p
  have hpl:(p.map E.byte).length=p.length:=List.length_map ..
  cases g1:decide (((x.map E.byte).length:Int)>1500) with
  | true=>
   rcases hall with⟨rfl,rfl,rfl⟩ | ⟨hne,c,hc,rfl,rfl⟩
   all_goals
    repeat'(first|(apply Zi (Y5);kernel_rfl;(iterate 4 exact Z))|(apply Zj Za;exact Z)|(apply Zf Za;exact Z)|(apply Zv Za;exact Z)|(apply Zo;(iterate 3 exact Z);(first|with_reducible assumption|decide +kernel|(solve|simp only[bn])))|(apply YG;(iterate 3 exact Z);(first|with_reducible assumption|decide +kernel|(solve|simp only[bn])))|(apply ZB;exact Z;(first|with_reducible assumption|decide +kernel|(solve|simp only[bn]));exact Z;exact Z)|(apply Zd;exact Z;(first|with_reducible assumption|decide +kernel|(solve|simp only[bn])))|refine Zk Za Z Z Z Z ?_|(apply Zp Za;(iterate 6 exact Z);(first|exact Qt|rotate_left);(first|with_reducible assumption|decide +kernel|exact Z);(first|exact Zc rfl|with_reducible assumption|decide +kernel|rotate_left)))
    all_goals exact Qe
  | false=>
  cases g2:decide (((p.map E.byte).length:Int)>9000) with
  | true=>
   rcases hall with⟨rfl,rfl,rfl⟩ | ⟨hne,c,hc,rfl,rfl⟩
   ·cases g2
   ·repeat'(first|(apply Zi (Y5);kernel_rfl;(iterate 4 exact Z))|(apply Zj Za;exact Z)|(apply Zf Za;exact Z)|(apply Zv Za;exact Z)|(apply Zo;(iterate 3 exact Z);(first|with_reducible assumption|decide +kernel|(solve|simp only[bn])))|(apply ZB;exact Z;(first|with_reducible assumption|decide +kernel|(solve|simp only[bn]));exact Z;exact Z)|(apply Zt;exact Z;(first|with_reducible assumption|decide +kernel|(solve|simp only[bn]));exact Z;exact Z)|(apply Zd;exact Z;(first|with_reducible assumption|decide +kernel|(solve|simp only[bn])))|refine Zk Za Z Z Z Z ?_|(apply Zp Za;(iterate 6 exact Z);(first|exact Qt|rotate_left);(first|with_reducible assumption|decide +kernel|exact Z);(first|exact Zc rfl|with_reducible assumption|decide +kernel|rotate_left)))
    all_goals exact Qe
  | false=>
  by_cases hbr:br=0
  ·rcases hall with⟨hpe,rfl,rfl⟩ | ⟨hne,c,hc,rfl,rfl⟩
   ·by_cases hx0:x=[]
    ·exact JG l w x p left W br i k 0 hk hlt hx g1 g2 hp hbr hx0 hpe trivial _
    ·exact JK l w x p left W br i k 0 hk hlt hx g1 g2 hp hbr hx0 hpe trivial _
   ·by_cases hx0:x=[]
    ·exact JH l w x p left W br i k c hk hlt hx g1 g2 hp hbr hx0 hne hc _
    ·exact JL l w x p left W br i k c hk hlt hx g1 g2 hp hbr hx0 hne hc _
  ·rcases hall with⟨hpe,rfl,rfl⟩ | ⟨hne,c,hc,rfl,rfl⟩
   ·by_cases hx0:x=[]
    ·exact JI l w x p left W br i k 0 hk hlt hx g1 g2 hp hbr hx0 hpe trivial _
    ·exact JM l w x p left W br i k 0 hk hlt hx g1 g2 hp hbr hx0 hpe trivial _
   ·by_cases hx0:x=[]
    ·exact JJ l w x p left W br i k c hk hlt hx g1 g2 hp hbr hx0 hne hc _
    ·exact JN l w x p left W br i k c hk hlt hx g1 g2 hp hbr hx0 hne hc _
 ·have hd:(decide ((i:Int)<((l.map E.bys).length:Int))=false)\/(decide ((i:Int)<((l.map E.bys).length:Int))=true/\decide ((i:Int)<60)=false):=by
   rcases Nat.lt_or_ge i l.length with h|h
   ·exact .inr ⟨decide_eq_true (by rw[hll];omega),decide_eq_false (by omega)⟩
   ·exact .inl (decide_eq_false (by rw[hll];omega))
  have hFN:=Ux w
  have hFZ:=QS w
  have hLN:=QR
  have hBZ:=Us [] 0
  have z6:((6:Int)==6)=true:=rfl
  by_cases hw:w.length<1\/1000<w.length
  ·have hW:=Uu w hw
   rcases hd with hd1|⟨hd1,hd2⟩<;>rcases hall with⟨rfl,rfl,rfl⟩ | ⟨hne,c,hc,rfl,rfl⟩<;>rcases Nat.lt_or_ge w.length 1 with hw1|hw1
   all_goals
    first|have w1:decide (((w.map E.byte).length:Int)<1)=true:=decide_eq_true (by rw[hwl];omega)|(have w1:decide (((w.map E.byte).length:Int)<1)=false:=decide_eq_false (by rw[hwl];omega);have w2:decide (((w.map E.byte).length:Int)>1000)=true:=decide_eq_true (by rw[hwl];omega))
    repeat'(first|(apply Zi (Y5);kernel_rfl;(iterate 4 exact Z))|(apply Zi (hFN);kernel_rfl;(iterate 4 exact Z))|(apply Zb [1] (hFZ);kernel_rfl;(iterate 7 exact Z))|(apply Zi (hW);kernel_rfl;(iterate 4 exact Z))|(apply Zj Za;exact Z)|(apply Zf Za;exact Z)|(apply Zv Za;exact Z)|(apply Zo;(iterate 3 exact Z);(first|with_reducible assumption|decide +kernel|(solve|simp only[bn])))|(apply WX;(iterate 3 exact Z);(first|with_reducible assumption|decide +kernel|(solve|simp only[bn])))|(apply YG;(iterate 3 exact Z);(first|with_reducible assumption|decide +kernel|(solve|simp only[bn])))|(apply ZB;exact Z;(first|with_reducible assumption|decide +kernel|(solve|simp only[bn]));exact Z;exact Z)|(apply Zt;exact Z;(first|with_reducible assumption|decide +kernel|(solve|simp only[bn]));exact Z;exact Z)|(apply Zd;exact Z;(first|with_reducible assumption|decide +kernel|(solve|simp only[bn])))|(apply Ze;exact Z;(first|with_reducible assumption|decide +kernel|(solve|simp only[bn])))|refine Zk Za Z Z Z Z ?_)
    all_goals exact Qe
  ·have hW:=Vr w (by omega) (by omega)
   have hR:=Ua w (by omega) (by omega)
   have w1:decide (((w.map E.byte).length:Int)<1)=false:=decide_eq_false (by rw[hwl];omega)
   have w2:decide (((w.map E.byte).length:Int)>1000)=false:=decide_eq_false (by rw[hwl];omega)
   have hss:(VF w==VF w)=true:=by simp
   rcases hd with hd1|⟨hd1,hd2⟩<;>rcases hall with⟨rfl,rfl,rfl⟩ | ⟨hne,c,hc,rfl,rfl⟩
   all_goals
    repeat'(first|(apply Zi (Y5);kernel_rfl;(iterate 4 exact Z))|(apply Zi (hFN);kernel_rfl;(iterate 4 exact Z))|(apply Zb [1] (hFZ);kernel_rfl;(iterate 7 exact Z))|(apply Zi (hW);kernel_rfl;(iterate 4 exact Z))|(apply Zi (hR);kernel_rfl;(iterate 4 exact Z))|(apply Zi (hLN);kernel_rfl;(iterate 4 exact Z))|(apply Zb [1] (hBZ);kernel_rfl;(iterate 7 exact Z))|(apply Zj Za;exact Z)|(apply Zf Za;exact Z)|(apply Zv Za;exact Z)|(apply Zo;(iterate 3 exact Z);(first|with_reducible assumption|decide +kernel|(solve|simp only[bn])))|(apply WX;(iterate 3 exact Z);(first|with_reducible assumption|decide +kernel|(solve|simp only[bn])))|(apply ZB;exact Z;(first|with_reducible assumption|decide +kernel|(solve|simp only[bn]));exact Z;exact Z)|(apply Zt;exact Z;(first|with_reducible assumption|decide +kernel|(solve|simp only[bn]));exact Z;exact Z)|(apply Ze;exact Z;(first|with_reducible assumption|decide +kernel|(solve|simp only[bn])))|refine Zk Za Z Z Z Z ?_|(apply QE 28 Yj;decide +kernel;kernel_rfl;kernel_rfl;kernel_rfl;exact Z;exact Z)|(apply QG;(iterate 4 exact Z))|exact AE.nil _ _ _ _|(apply Jb;exact Z)|(apply Jy;exact Z;exact Z;decide +kernel;exact Z)|(apply JB;exact Z)|exact AO.nil _ _ _|(apply QF;(decide +kernel))|exact AOs.nil|exact JX rfl rfl|refine VC Za Z Z Z Z Z Z Z Z Z ?_)
    all_goals(apply Yh [];(apply Zg Za;exact Z);(iterate 4 exact Z))
    all_goals first|rfl|exact congrArg D.bool hss
theorem Jg {W:World}{v:Value}{b:List UInt8}(h:Sl Rep.byte W (· < W.heap.size) v b):V W (g0 W) [] (byE b) v:=.sl .ext _ _ (ToE.byte.sl (C:=(g0 W).C) (fun k hk o=>hk) h) trivial
abbrev VI:Known:=⟨[]⟩
theorem JT (W:World) : @Gls VI (g0 W).C W:=⟨fun k cs h=>absurd h.1 (by intro hk;cases hk),fun k t h=>absurd h.1 (by intro hk;cases hk)⟩
theorem WC (v0 v1:Value)(x0:List (List UInt8))(x1:List UInt8)(W:World)(h0:Sl (Rep.slice Rep.byte (by decide)) W (· < W.heap.size) v0 x0)(h1:Sl Rep.byte W (· < W.heap.size) v1 x1) :
  Calls Try.prog 4 #[v0,v1] W fun e w'=>e=.returned (.bool true)/\Below W.heap.size W w':=by
 have h:=@Va VI x0 x1
 refine @J8 VI Try.prog 4 _ (@AC.mono VI _ _ _ _ _ _ _ h fun r b t h=>h.1) W [v0,v1] (JT W) rfl ?_
 intro j d v hd hv
 match j,hd,hv with
 | 0,hd,hv=>cases hd;cases hv;exact JY h0
 | 1,hd,hv=>cases hd;cases hv;exact Jg h1
 | j+2,hd,hv=>cases hd
end Go.Proofs.Ytkdpfkjlheajhaa
end

/- The reader of items: bytes and texts. -/
import Derived.Test.YtakblclkflnnpaaGreatDoorH16
import Derived.Test.YtakblclkflnnpaaGreatDoorH17
set_option linter.unusedVariables false
set_option linter.unusedSimpArgs false
section
open Go.RowKit Go.Pl Go.Av
namespace Go.Proofs.YtakblclkflnnpaaGreatDoor
set_option maxHeartbeats 4000000
theorem ZbT {b pre r:List UInt8}{p:Nat}(hp:p<=b.length)(h:b.drop p=pre++r):b.drop (b.length-r.length)=r/\b.length-r.length<=b.length/\p+pre.length=b.length-r.length:=by
 have hl:=congrArg List.length h
 rw[List.length_drop,List.length_append]at hl
 have e:b.length-r.length=p+pre.length:=by omega
 refine⟨?_,by omega,e.symm⟩
 rw[e,<- List.drop_drop,h,List.drop_left]
theorem Zlv {h:Hd}{s:List UInt8}{e:Nat}(x:Zb1 h s=.error e):e=8\/e=3:=by
 unfold Zb1 at x
 split at x
 ·split at x
  ·injection x with x;exact .inr x.symm
  ·cases x
 ·injection x with x;exact .inl x.symm
abbrev txB (b:List UInt8)(p m:Nat)(k:Int)(n:Nat)(tk:Tok)(acc:List E):List (List D):=[rdC b p m,[.int .i64 k,.int .u64 (n:Int),.bool true],[.int .i64 0,.int .u64 0,.sl .nil [],.sl .nil []],[.int .i64 k,.int .u64 0,.sl tk acc,.sl .nil []]]
theorem Ziy [Known][KnownU8](h:Hd)(b:List UInt8)(p m:Nat)(hb:b.length<=1099511627776)(hp:p<=b.length)(hn:h.2.1<18446744073709551616):AR Tryz.prog 188 [.ptr 0 0,hd h] [rdC b p m] (match ZhC h (b.drop p) with
  | .error e=>.error (ZdX e)
  | .ok (c,r)=>.ok (itD (.mk h.1 0 c []),[rdC b (b.length-r.length) m])):=by
 obtain⟨k,n,o⟩:=h
 dsimp only at hn
 show AR Tryz.prog _ [.ptr 0 0,.agg [.int .i64 k,.int .u64 (n:Int),.bool o]] _ _
 cases o with
 | false=>
  have hpc:=ZkA (k,n,false) b p m hb hp hn
  unfold ZhC
  dsimp only at hpc ⊢
  cases hc:Zb1 (k,n,false) (b.drop p) with
  | error e=>
   rw[hc]at hpc
   refine Zam Tryz.func188 rfl Tryz.ntmps188 rfl rfl ?_
   repeat'(first|(apply Zbb [0] (hpc.x rfl);kernel_rfl;(iterate 6 exact U);intro bx2 fr2 hle2)|(apply Zag Zab;exact U)|(apply Zau Zab;exact U)|refine Zad U Qt ?_)
   all_goals(apply ZfP;exact U;(first|exact Nat.zero_le _|exact Nat.le_trans (Nat.le_of_ble_eq_true rfl) (by assumption));exact U)
  | ok y=>
   obtain⟨c,r⟩:=y
   rw[hc]at hpc
   refine Zam Tryz.func188 rfl Tryz.ntmps188 rfl rfl ?_
   repeat'(first|(apply Zax [0] (hpc.q rfl);kernel_rfl;(iterate 7 exact U))|(apply Zai Zab;exact U)|(apply Zag Zab;exact U)|(apply Zau Zab;exact U)|refine Zbm ?_|refine Zad U Qt ?_)
   all_goals(apply Zkh (rfl) [0];(apply Zac Zab;exact U);(iterate 4 exact U))
   all_goals rfl
 | true=>
  unfold ZhC
  dsimp only
  generalize ho:Zkn k ((b.drop p).length+1) [] (b.drop p)=o
  refine Zam Tryz.func188 rfl Tryz.ntmps188 rfl rfl ?_
  repeat'(first|(apply Zag Zab;exact U)|refine Zaf U Qt ?_)
  refine ZaB (fun f tm bx fr=>∃(acc:List UInt8) (p' c:Nat) (L:List E),p'<=b.length/\c=L.length/\L=acc.map E.byte/\acc.length+(b.length-p')<=b.length/\(b.drop p').length<f/\Zkn k f acc (b.drop p')=o/\tm=[(0,.ptr 0 0),(3,.ptr 1 0),(4,.ptr 2 0),(5,.ptr 3 0)] /\
   ((acc=[]/\bx=txB b p' m k n .nil []/\fr=[])\/(bx=txB b p' m k n (.own 0) L/\fr=[⟨c,1,5⟩]))) ((b.drop p).length+2) (Lands.mk' (m:=(b.drop p).length+1) (Nat.lt_succ_self _) ⟨[],p,0,[],hp,rfl,rfl,by simp,by omega,ho,rfl,.inl ⟨rfl,rfl,rfl⟩⟩ ?_ rfl rfl rfl rfl rfl rfl) ?_
  ·exact .cons rfl (.cons rfl (.cons rfl (.cons rfl .nil)))
  rintro f tm bx fr ⟨acc,p',c,L,hp',hc,hL,hsum,hf,hS,rfl,hst⟩
  obtain⟨f,rfl⟩:∃ g,f=g+1:=⟨f-1,by omega⟩
  have hends:=ZmX b p' m hb hp'
  rw[Zkn]at hS
  have hlp:(b.drop p').length=b.length-p':=List.length_drop ..
  cases he:Zg4 (b.drop p') with
  | true=>
   rw[he]at hS hends
   dsimp only at hS
   rw[if_pos rfl]at hends
   subst hS
   dsimp only
   obtain⟨x,hx⟩:=Zc0 _ he
   obtain⟨q1,q2,q3⟩:=ZbT (pre:=[x]) hp' hx
   have q3:b.length-(b.drop p').tail.length=p'+1:=q3.symm
   rw[q3]
   subst hL
   rcases hst with⟨rfl,rfl,rfl⟩ | ⟨rfl,rfl⟩
   ·repeat'(first|(apply Zax [0] (hends);kernel_rfl;(iterate 7 exact U))|(apply Zai Zab;exact U)|(apply Zag Zab;exact U)|(apply Zau Zab;exact U)|refine Zbm ?_|refine Zaf U Qt ?_)
    all_goals(apply Zkh (rfl) [0];(apply Zac Zab;exact U);(iterate 4 exact U))
    all_goals rfl
   ·repeat'(first|(apply Zax [0] (hends);kernel_rfl;(iterate 7 exact U))|(apply Zai Zab;exact U)|(apply Zag Zab;exact U)|(apply Zau Zab;exact U)|refine Zbm ?_|refine Zaf U Qt ?_)
    all_goals(apply Zkh (rfl) [0];(apply Zac Zab;exact U);(iterate 4 exact U))
    all_goals rfl
  | false=>
   rw[he]at hS hends
   dsimp only at hS
   rw[if_neg (by simp)]at hends
   have hhd:=Zkz b p' m hb hp'
   cases hr:rdS (b.drop p') with
   | error e=>
    rw[hr]at hS hhd
    dsimp only at hS hhd
    subst hS
    dsimp only
    rcases hst with⟨rfl,rfl,rfl⟩ | ⟨rfl,rfl⟩
    ·repeat'(first|(apply Zax [0] (hends);kernel_rfl;(iterate 7 exact U))|(apply Zbb [0] (hhd.x rfl);kernel_rfl;(iterate 6 exact U);intro bx2 fr2 hle2)|(apply Zai Zab;exact U)|(apply Zag Zab;exact U)|(apply Zau Zab;exact U)|refine Zbm ?_|refine Zad U Qt ?_)
     all_goals(apply ZfP;exact U;(first|exact Nat.zero_le _|exact Nat.le_trans (Nat.le_of_ble_eq_true rfl) (by assumption));exact U)
    ·repeat'(first|(apply Zax [0] (hends);kernel_rfl;(iterate 7 exact U))|(apply Zbb [0] (hhd.x rfl);kernel_rfl;(iterate 6 exact U);intro bx2 fr2 hle2)|(apply Zai Zab;exact U)|(apply Zag Zab;exact U)|(apply Zau Zab;exact U)|refine Zbm ?_|refine Zad U Qt ?_)
     all_goals(apply ZfP;exact U;(first|exact Nat.zero_le _|exact Nat.le_trans (Nat.le_of_ble_eq_true rfl) (by assumption));exact U)
   | ok y=>
    obtain⟨⟨k1,n1,o1⟩,r⟩:=y
    rw[hr]at hS hhd
    dsimp only at hS hhd
    obtain⟨_,hn1,pre,hpre,_,hpos⟩:=Zg7 hr
    obtain⟨q1,q2,q3⟩:=ZbT hp' hpre
    generalize hp2:b.length-r.length=p2 at q1 q2 q3 hhd
    by_cases hcond:k1=k/\o1=false
    ·rw[if_pos hcond]at hS
     obtain⟨rfl,rfl⟩:=hcond
     have tk:(k1==k1)=true:=beq_self_eq_true k1
     have hpc:=ZkA (k1,n1,false) b p2 m hb q2 hn1
     rw[q1]at hpc
     cases hc1:Zb1 (k1,n1,false) r with
     | error e=>
      rw[hc1]at hS hpc
      dsimp only at hS hpc
      subst hS
      dsimp only
      rcases hst with⟨rfl,rfl,rfl⟩ | ⟨rfl,rfl⟩
      ·repeat'(first|(apply Zax [0] (hends);kernel_rfl;(iterate 7 exact U))|(apply Zax [0] (hhd.q rfl);kernel_rfl;(iterate 7 exact U))|(apply Zaa (ZaY 3);kernel_rfl;(iterate 4 exact U))|(apply Zbb [0] (hpc.x rfl);kernel_rfl;(iterate 6 exact U);intro bx2 fr2 hle2)|(apply Zef 7 4 ZaQ;decide +kernel;kernel_rfl;decide +kernel;exact U;exact U)|exact ADX.nil _ _|(apply Zeg;decide +kernel;exact U)|(apply Zfd;(iterate 3 exact U))|(apply Zg2;(iterate 4 exact U))|exact Zg1 rfl (by assumption)|intro tm2 bx2 fr2 hle2|(apply Zai Zab;exact U)|(apply Zag Zab;exact U)|(apply Zau Zab;exact U)|refine Zbm ?_|refine Zae U U U Qt ?_|refine Zak U Qt U U ?_|refine Zad U Qt ?_|exact ZbG rfl)
       all_goals(apply ZfP;exact U;(first|exact Nat.zero_le _|exact Nat.le_trans (Nat.le_of_ble_eq_true rfl) (by assumption));exact U)
      ·repeat'(first|(apply Zax [0] (hends);kernel_rfl;(iterate 7 exact U))|(apply Zax [0] (hhd.q rfl);kernel_rfl;(iterate 7 exact U))|(apply Zaa (ZaY 3);kernel_rfl;(iterate 4 exact U))|(apply Zbb [0] (hpc.x rfl);kernel_rfl;(iterate 6 exact U);intro bx2 fr2 hle2)|(apply Zef 7 4 ZaQ;decide +kernel;kernel_rfl;decide +kernel;exact U;exact U)|exact ADX.nil _ _|(apply Zeg;decide +kernel;exact U)|(apply Zfd;(iterate 3 exact U))|(apply Zg2;(iterate 4 exact U))|exact Zg1 rfl (by assumption)|intro tm2 bx2 fr2 hle2|(apply Zai Zab;exact U)|(apply Zag Zab;exact U)|(apply Zau Zab;exact U)|refine Zbm ?_|refine Zae U U U Qt ?_|refine Zak U Qt U U ?_|refine Zad U Qt ?_|exact ZbG rfl)
       all_goals(apply ZfP;exact U;(first|exact Nat.zero_le _|exact Nat.le_trans (Nat.le_of_ble_eq_true rfl) (by assumption));exact U)
     | ok y=>
      obtain⟨c1,r2⟩:=y
      rw[hc1]at hS hpc
      dsimp only at hS hpc
      obtain⟨w1,w2,w3⟩:=ZeP hc1
      obtain⟨z1,z2,z3⟩:=ZbT q2 (q1.trans w1)
      generalize hp3:b.length-r2.length=p3 at z1 z2 z3 hpc
      have hpl:=congrArg List.length hpre
      have hrl:=congrArg List.length w1
      have hdl:(b.drop p3).length=r2.length:=by rw[z1]
      rw[List.length_append]at hpl hrl
      rw[<- z1]at hS
      rw[List.length_drop]at hdl
      have hf3:(b.drop p3).length<f:=by rw[List.length_drop];omega
      have hsum3:(acc++c1).length+(b.length-p3)<=b.length:=by rw[List.length_append];omega
      cases c1 with
      | nil=>
       rw[List.append_nil]at hS hsum3
       rcases hst with⟨rfl,rfl,rfl⟩ | ⟨rfl,rfl⟩
       ·repeat'(first|(apply Zax [0] (hends);kernel_rfl;(iterate 7 exact U))|(apply Zax [0] (hhd.q rfl);kernel_rfl;(iterate 7 exact U))|(apply Zaa (ZaY 3);kernel_rfl;(iterate 4 exact U))|(apply Zax [0] (hpc.q rfl);kernel_rfl;(iterate 7 exact U))|(apply Zai Zab;exact U)|(apply Zag Zab;exact U)|(apply Zau Zab;exact U)|refine Zbm ?_|refine Zae U U U Qt ?_|refine Zak U Qt U U ?_|refine Zad U Qt ?_|refine Za9 ?_|(apply Zao 5 ZaQ;decide +kernel;kernel_rfl;kernel_rfl;kernel_rfl;exact U;exact U)|(apply Zas;(iterate 4 exact U))|exact AE.nil _ _ _ _|(apply Zaw;exact U)|(apply Zbl;exact U)|(apply Zay;exact U;exact U;decide +kernel;exact U)|(apply Zaz;exact U)|(apply ZbH;exact U)|exact AO.nil _ _ _|(apply Zar;(decide +kernel))|(apply Za6;(iterate 3 exact U))|exact AOs.nil|exact ZaJ rfl rfl|exact ZcD rfl rfl|refine ZaI Zab U U U U U U ?_)
        refine Lands.mk' (m:=f) (Nat.lt_succ_self _) ⟨[],p3,0,[],z2,rfl,rfl,hsum3,hf3,hS,rfl,.inl ⟨rfl,rfl,rfl⟩⟩ ?_ rfl rfl rfl rfl rfl rfl
        exact .cons rfl (.cons rfl (.cons rfl (.cons rfl .nil)))
       ·subst hc
        repeat'(first|(apply Zax [0] (hends);kernel_rfl;(iterate 7 exact U))|(apply Zax [0] (hhd.q rfl);kernel_rfl;(iterate 7 exact U))|(apply Zaa (ZaY 3);kernel_rfl;(iterate 4 exact U))|(apply Zax [0] (hpc.q rfl);kernel_rfl;(iterate 7 exact U))|(apply Zai Zab;exact U)|(apply Zag Zab;exact U)|(apply Zau Zab;exact U)|refine Zbm ?_|refine Zae U U U Qt ?_|refine Zak U Qt U U ?_|refine Zad U Qt ?_|refine Za9 ?_|(apply Zao 5 ZaQ;decide +kernel;kernel_rfl;kernel_rfl;kernel_rfl;exact U;exact U)|(apply Zas;(iterate 4 exact U))|exact AE.nil _ _ _ _|(apply Zaw;exact U)|(apply Zbl;exact U)|(apply Zay;exact U;exact U;decide +kernel;exact U)|(apply Zaz;exact U)|(apply ZbH;exact U)|exact AO.nil _ _ _|(apply Zar;(decide +kernel))|(apply Za6;(iterate 3 exact U))|exact AOs.nil|exact ZaJ rfl rfl|exact ZcD rfl rfl|refine ZaI Zab U U U U U U ?_)
        refine Lands.mk' (m:=f) (Nat.lt_succ_self _) ⟨acc,p3,_,L,z2,rfl,hL,hsum3,hf3,hS,rfl,.inr ⟨rfl,rfl⟩⟩ ?_ rfl rfl rfl rfl rfl rfl
        exact .cons rfl (.cons rfl (.cons rfl (.cons rfl .nil)))
      | cons x c1=>
       have hU1:=Zbh (x::c1)
       rcases hst with⟨rfl,rfl,rfl⟩ | ⟨rfl,rfl⟩
       ·repeat'(first|(apply Zax [0] (hends);kernel_rfl;(iterate 7 exact U))|(apply Zax [0] (hhd.q rfl);kernel_rfl;(iterate 7 exact U))|(apply Zaa (ZaY 3);kernel_rfl;(iterate 4 exact U))|(apply Zax [0] (hpc.q rfl);kernel_rfl;(iterate 7 exact U))|(apply Zai Zab;exact U)|(apply Zag Zab;exact U)|(apply Zau Zab;exact U)|refine Zbm ?_|refine Zae U U U Qt ?_|refine Zak U Qt U U ?_|refine Zad U Qt ?_|refine Za9 ?_|(apply Zao 5 ZaQ;decide +kernel;kernel_rfl;kernel_rfl;kernel_rfl;exact U;exact U)|(apply Zas;(iterate 4 exact U))|exact AE.nil _ _ _ _|(apply Zaw;exact U)|(apply Zbl;exact U)|(apply Zay;exact U;exact U;decide +kernel;exact U)|(apply Zaz;exact U)|(apply ZbH;exact U)|exact AO.nil _ _ _|(apply Zar;(decide +kernel))|(apply Za6;(iterate 3 exact U))|exact AOs.nil|exact ZaJ rfl rfl|exact ZcD rfl rfl|(apply Zba Zab;(iterate 6 exact U);(first|exact Zaj rfl|with_reducible assumption|decide +kernel|rotate_left);(first|exact Qt|rotate_left);(first|exact Qt|rotate_left);(first|exact Qt|rotate_left);(iterate 3 exact U)))
        ·refine Lands.mk' (m:=f) (Nat.lt_succ_self _) ⟨x::c1,p3,_,_,z2,rfl,rfl,hsum3,hf3,hS,rfl,.inr ⟨rfl,rfl⟩⟩ ?_ rfl rfl rfl rfl rfl rfl
         exact .cons rfl (.cons rfl (.cons rfl (.cons rfl .nil)))
        all_goals(first|rfl|(simp only[List.length_append,List.length_cons,List.length_nil,List.length_map,Zaq];done)|(simp only[List.length_append,List.length_cons,List.length_nil,List.length_map,Zaq]at *;(try unfold maxLen);(try simp only[Nat.add_mul]);omega))
       ·subst hc
        have hUa:Uni 1 L:=hL ▸ Zbh acc
        have hLl:L.length=acc.length:=by rw[hL,List.length_map]
        repeat'(first|(apply Zax [0] (hends);kernel_rfl;(iterate 7 exact U))|(apply Zax [0] (hhd.q rfl);kernel_rfl;(iterate 7 exact U))|(apply Zaa (ZaY 3);kernel_rfl;(iterate 4 exact U))|(apply Zax [0] (hpc.q rfl);kernel_rfl;(iterate 7 exact U))|(apply Zai Zab;exact U)|(apply Zag Zab;exact U)|(apply Zau Zab;exact U)|refine Zbm ?_|refine Zae U U U Qt ?_|refine Zak U Qt U U ?_|refine Zad U Qt ?_|refine Za9 ?_|(apply Zao 5 ZaQ;decide +kernel;kernel_rfl;kernel_rfl;kernel_rfl;exact U;exact U)|(apply Zas;(iterate 4 exact U))|exact AE.nil _ _ _ _|(apply Zaw;exact U)|(apply Zbl;exact U)|(apply Zay;exact U;exact U;decide +kernel;exact U)|(apply Zaz;exact U)|(apply ZbH;exact U)|exact AO.nil _ _ _|(apply Zar;(decide +kernel))|(apply Za6;(iterate 3 exact U))|exact AOs.nil|exact ZaJ rfl rfl|exact ZcD rfl rfl|(apply ZaF Zab;(iterate 6 exact U);(first|with_reducible assumption|decide +kernel|exact U|rotate_left);exact U;exact U;(first|exact Zaj rfl|with_reducible assumption|decide +kernel|rotate_left);(first|exact Zaj rfl|with_reducible assumption|decide +kernel|rotate_left);(first|exact Qt|rotate_left);(first|exact Qt|rotate_left);(first|exact Qt|rotate_left);exact U;exact U))
        ·refine Lands.mk' (m:=f) (Nat.lt_succ_self _) ⟨acc++(x::c1),p3,L.length+((x::c1).map E.byte).length,L++(x::c1).map E.byte,z2,by rw[List.length_append],by rw[hL,List.map_append],hsum3,hf3,hS,rfl,.inr ⟨rfl,rfl⟩⟩ ?_ rfl rfl rfl rfl rfl rfl
         exact .cons rfl (.cons rfl (.cons rfl (.cons rfl .nil)))
        all_goals(first|rfl|(simp only[List.length_append,List.length_cons,List.length_nil,List.length_map,Zaq];done)|(simp only[List.length_append,List.length_cons,List.length_nil,List.length_map,Zaq]at *;(try unfold maxLen);(try simp only[Nat.add_mul]);omega))
    ·rw[if_neg hcond]at hS
     subst hS
     dsimp only
     cases o1 with
     | true=>
      rcases hst with⟨rfl,rfl,rfl⟩ | ⟨rfl,rfl⟩
      ·repeat'(first|(apply Zax [0] (hends);kernel_rfl;(iterate 7 exact U))|(apply Zax [0] (hhd.q rfl);kernel_rfl;(iterate 7 exact U))|(apply Zbb [] (Zc1 3);kernel_rfl;(iterate 6 exact U);intro bx2 fr2 hle2)|(apply Zai Zab;exact U)|(apply Zag Zab;exact U)|(apply Zau Zab;exact U)|refine Zbm ?_|refine Zae U U U Qt ?_|refine Zap U U U Qt ?_|(apply Zbo;exact U;exact U;all_goals intro hb)|refine Zak U Qt U U ?_|refine Zah U Qt U U ?_|refine Zad U Qt ?_)
       all_goals(apply ZfP;exact U;(first|exact Nat.zero_le _|exact Nat.le_trans (Nat.le_of_ble_eq_true rfl) (by assumption));exact U)
      ·repeat'(first|(apply Zax [0] (hends);kernel_rfl;(iterate 7 exact U))|(apply Zax [0] (hhd.q rfl);kernel_rfl;(iterate 7 exact U))|(apply Zbb [] (Zc1 3);kernel_rfl;(iterate 6 exact U);intro bx2 fr2 hle2)|(apply Zai Zab;exact U)|(apply Zag Zab;exact U)|(apply Zau Zab;exact U)|refine Zbm ?_|refine Zae U U U Qt ?_|refine Zap U U U Qt ?_|(apply Zbo;exact U;exact U;all_goals intro hb)|refine Zak U Qt U U ?_|refine Zah U Qt U U ?_|refine Zad U Qt ?_)
       all_goals(apply ZfP;exact U;(first|exact Nat.zero_le _|exact Nat.le_trans (Nat.le_of_ble_eq_true rfl) (by assumption));exact U)
     | false=>
      have tk:(k1==k)=false:=by simpa using fun h=>hcond ⟨h,rfl⟩
      rcases hst with⟨rfl,rfl,rfl⟩ | ⟨rfl,rfl⟩
      ·repeat'(first|(apply Zax [0] (hends);kernel_rfl;(iterate 7 exact U))|(apply Zax [0] (hhd.q rfl);kernel_rfl;(iterate 7 exact U))|(apply Zbb [] (Zc1 3);kernel_rfl;(iterate 6 exact U);intro bx2 fr2 hle2)|(apply Zai Zab;exact U)|(apply Zag Zab;exact U)|(apply Zau Zab;exact U)|refine Zbm ?_|refine Zap U U U Qt ?_|refine Zah U Qt U U ?_|refine Zad U Qt ?_)
       all_goals(apply ZfP;exact U;(first|exact Nat.zero_le _|exact Nat.le_trans (Nat.le_of_ble_eq_true rfl) (by assumption));exact U)
      ·repeat'(first|(apply Zax [0] (hends);kernel_rfl;(iterate 7 exact U))|(apply Zax [0] (hhd.q rfl);kernel_rfl;(iterate 7 exact U))|(apply Zbb [] (Zc1 3);kernel_rfl;(iterate 6 exact U);intro bx2 fr2 hle2)|(apply Zai Zab;exact U)|(apply Zag Zab;exact U)|(apply Zau Zab;exact U)|refine Zbm ?_|refine Zap U U U Qt ?_|refine Zah U Qt U U ?_|refine Zad U Qt ?_)
       all_goals(apply ZfP;exact U;(first|exact Nat.zero_le _|exact Nat.le_trans (Nat.le_of_ble_eq_true rfl) (by assumption));exact U)
abbrev itR (b:List UInt8)(d p m:Nat):Except D (D × List (List D)):=match ZaV d m (b.drop p) with
 | .error e=>.error (ZdX e)
 | .ok (x,r,m')=>.ok (itD x,[rdC b (b.length-r.length) m'])
abbrev liB (b:List UInt8)(p m n:Nat)(o:Bool)(tk:Tok)(acc:List E):List (List D):=[rdC b p m,[.int .i64 4,.int .u64 (n:Int),.bool o],[.int .i64 0,.int .u64 0,.sl .nil [],.sl .nil []],[.int .i64 4,.int .u64 0,.sl .nil [],.sl tk acc]]
theorem ZoN [Known][KnownU8](d deep:Nat)(hdd:deep+d=6)(b:List UInt8)(hb:b.length<=1099511627776)
  (IH:∀ p m,p<=b.length->m<=256->AR Tryz.prog 161 [.ptr 0 0,.int .i64 ((deep+1:Nat):Int)] [rdC b p m] (itR b d p m))
  (n:Nat) (o:Bool) (p m:Nat) (hp:p<=b.length) (hm:m<=256) (hn:n<18446744073709551616):AR Tryz.prog 187 [.ptr 0 0,hd (4,n,o),.int .i64 (deep:Int)] [rdC b p m] (match Zju (ZaV d) (4,n,o) m (b.drop p) with
  | .error e=>.error (ZdX e)
  | .ok (l,r,m')=>.ok (itD (.mk 4 0 [] l),[rdC b (b.length-r.length) m'])):=by
 show AR Tryz.prog _ [.ptr 0 0,.agg [.int .i64 4,.int .u64 (n:Int),.bool o],.int .i64 (deep:Int)] _ _
 have hR:=Zfh d (by omega)
 have ed:IntKind.i64.wrap ((deep:Int)+1)=((deep+1:Nat):Int):=by rw[IntWalk.i64_in _ (by omega)];omega
 cases o with
 | true=>
  unfold Zju
  dsimp only
  generalize ho:Zko (ZaV d) ((b.drop p).length+1) [] m (b.drop p)=o
  refine Zam Tryz.func187 rfl Tryz.ntmps187 rfl rfl ?_
  repeat'(first|(apply Zag Zab;exact U)|refine Zad U Qt ?_)
  refine ZaB (fun f tm bx fr=>∃(acc:List It) (p' m' c:Nat) (L:List E),p'<=b.length/\m'<=256/\c=L.length/\L=ZaC acc/\acc.length+(b.length-p')<=b.length/\(b.drop p').length<f/\Zko (ZaV d) f acc m' (b.drop p')=o/\tm=[(0,.ptr 0 0),(2,.int .i64 (deep:Int)),(4,.ptr 1 0),(6,.ptr 2 0),(7,.ptr 3 0)] /\
   ((acc=[]/\bx=liB b p' m' n true .nil []/\fr=[])\/(bx=liB b p' m' n true (.own 0) L/\fr=[⟨c,4,32⟩]))) ((b.drop p).length+2) (Lands.mk' (m:=(b.drop p).length+1) (Nat.lt_succ_self _) ⟨[],p,m,0,[],hp,hm,rfl,rfl,by simp,by omega,ho,rfl,.inl ⟨rfl,rfl,rfl⟩⟩ ?_ rfl rfl rfl rfl rfl rfl) ?_
  ·exact .cons rfl (.cons rfl (.cons rfl (.cons rfl (.cons rfl .nil))))
  rintro f tm bx fr ⟨acc,p',m',c,L,hp',hm',hc,hL,hsum,hf,hS,rfl,hst⟩
  obtain⟨f,rfl⟩:∃ g,f=g+1:=⟨f-1,by omega⟩
  have hends:=ZmX b p' m' hb hp'
  rw[Zko]at hS
  have hlp:(b.drop p').length=b.length-p':=List.length_drop ..
  cases he:Zg4 (b.drop p') with
  | true=>
   rw[he]at hS hends
   dsimp only at hS
   rw[if_pos rfl]at hends
   subst hS
   dsimp only
   obtain⟨x,hx⟩:=Zc0 _ he
   obtain⟨q1,q2,q3⟩:=ZbT (pre:=[x]) hp' hx
   have q3:b.length-(b.drop p').tail.length=p'+1:=q3.symm
   rw[q3]
   subst hL
   rcases hst with⟨rfl,rfl,rfl⟩ | ⟨rfl,rfl⟩
   ·repeat'(first|(apply Zax [0] (hends);kernel_rfl;(iterate 7 exact U))|(apply Zai Zab;exact U)|(apply Zag Zab;exact U)|(apply Zau Zab;exact U)|refine Zbm ?_|refine Zaf U Qt ?_)
    all_goals(apply Zkh (rfl) [0];(apply Zac Zab;exact U);(iterate 4 exact U))
    all_goals rfl
   ·repeat'(first|(apply Zax [0] (hends);kernel_rfl;(iterate 7 exact U))|(apply Zai Zab;exact U)|(apply Zag Zab;exact U)|(apply Zau Zab;exact U)|refine Zbm ?_|refine Zaf U Qt ?_)
    all_goals(apply Zkh (rfl) [0];(apply Zac Zab;exact U);(iterate 4 exact U))
    all_goals rfl
  | false=>
   rw[he]at hS hends
   dsimp only at hS
   rw[if_neg (by simp)]at hends
   have hit:=IH p' m' hp' hm'
   unfold itR at hit
   cases hr:ZaV d m' (b.drop p') with
   | error e=>
    rw[hr]at hS hit
    dsimp only at hS hit
    subst hS
    dsimp only
    rcases hst with⟨rfl,rfl,rfl⟩ | ⟨rfl,rfl⟩
    ·repeat'(first|rw[ed]|(apply Zax [0] (hends);kernel_rfl;(iterate 7 exact U))|(apply Zbb [0] (hit.x rfl);kernel_rfl;(iterate 6 exact U);intro bx2 fr2 hle2)|(apply Zef 9 5 ZaQ;decide +kernel;kernel_rfl;decide +kernel;exact U;exact U)|exact ADX.nil _ _|(apply Zeg;decide +kernel;exact U)|(apply Zfd;(iterate 3 exact U))|(apply Zg2;(iterate 4 exact U))|exact Zg1 rfl (by assumption)|intro tm2 bx2 fr2 hle2|(apply Zai Zab;exact U)|(apply Zag Zab;exact U)|(apply Zau Zab;exact U)|refine Zbm ?_|refine Zad U Qt ?_|exact ZbG rfl)
     all_goals(apply ZfP;exact U;(first|exact Nat.zero_le _|exact Nat.le_trans (Nat.le_of_ble_eq_true rfl) (by assumption));exact U)
    ·repeat'(first|rw[ed]|(apply Zax [0] (hends);kernel_rfl;(iterate 7 exact U))|(apply Zbb [0] (hit.x rfl);kernel_rfl;(iterate 6 exact U);intro bx2 fr2 hle2)|(apply Zef 9 5 ZaQ;decide +kernel;kernel_rfl;decide +kernel;exact U;exact U)|exact ADX.nil _ _|(apply Zeg;decide +kernel;exact U)|(apply Zfd;(iterate 3 exact U))|(apply Zg2;(iterate 4 exact U))|exact Zg1 rfl (by assumption)|intro tm2 bx2 fr2 hle2|(apply Zai Zab;exact U)|(apply Zag Zab;exact U)|(apply Zau Zab;exact U)|refine Zbm ?_|refine Zad U Qt ?_|exact ZbG rfl)
     all_goals(apply ZfP;exact U;(first|exact Nat.zero_le _|exact Nat.le_trans (Nat.le_of_ble_eq_true rfl) (by assumption));exact U)
   | ok y=>
    obtain⟨⟨k1,n1,b1,l1⟩,r,m1⟩:=y
    rw[hr]at hS hit
    dsimp only at hS hit
    obtain⟨hwk,_,pre,hpre,hpos,_⟩:=hR _ _ _ _ _ hr (by omega)
    have hm1:=Zde hwk
    obtain⟨z1,z2,z3⟩:=ZbT hp' hpre
    generalize hp3:b.length-r.length=p3 at z1 z2 z3 hit
    have hpl:=congrArg List.length hpre
    have hdl:(b.drop p3).length=r.length:=by rw[z1]
    rw[List.length_append]at hpl
    rw[<- z1]at hS
    rw[List.length_drop]at hdl
    have hf3:(b.drop p3).length<f:=by rw[List.length_drop];omega
    have hsum3:(acc++[It.mk k1 n1 b1 l1]).length+(b.length-p3)<=b.length:=by rw[List.length_append];simp;omega
    rcases hst with⟨rfl,rfl,rfl⟩ | ⟨rfl,rfl⟩
    ·repeat'(first|rw[ed]|(apply Zax [0] (hends);kernel_rfl;(iterate 7 exact U))|(apply Zax [0] (hit.q rfl);kernel_rfl;(iterate 7 exact U))|refine ZaO Zab U U U U U U (Zaj rfl) (List.cons_ne_nil _ _) U Qd Qd U U U ?_|(apply Zai Zab;exact U)|(apply Zag Zab;exact U)|(apply Zau Zab;exact U)|refine Zbm ?_|refine Zad U Qt ?_|refine Za9 ?_|refine ZaL Zab U U U U U U U U U U U U ?_|(apply Zao 7 ZaQ;decide +kernel;kernel_rfl;kernel_rfl;kernel_rfl;exact U;exact U)|(apply Zas;(iterate 4 exact U))|exact AE.nil _ _ _ _|(apply Zaw;exact U)|(apply Zbl;exact U)|(apply Zay;exact U;exact U;decide +kernel;exact U)|(apply Zaz;exact U)|(apply ZbH;exact U)|exact AO.nil _ _ _|(apply Zar;(decide +kernel))|(apply Za6;(iterate 3 exact U))|exact AOs.nil|exact ZaJ rfl rfl|exact Zdh rfl rfl rfl rfl rfl|exact ZcD rfl rfl)
     refine Lands.mk' (m:=f) (Nat.lt_succ_self _) ⟨[It.mk k1 n1 b1 l1],p3,m1,1,ZaC [It.mk k1 n1 b1 l1],z2,by omega,rfl,rfl,hsum3,hf3,hS,rfl,.inr ⟨rfl,rfl⟩⟩ ?_ rfl rfl rfl rfl rfl rfl
     exact .cons rfl (.cons rfl (.cons rfl (.cons rfl (.cons rfl .nil))))
    ·subst hc
     have hUa:Uni 4 L:=hL ▸ ZcF acc
     have hLl:L.length=acc.length:=by rw[hL,Zaq]
     repeat'(first|rw[ed]|(apply Zax [0] (hends);kernel_rfl;(iterate 7 exact U))|(apply Zax [0] (hit.q rfl);kernel_rfl;(iterate 7 exact U))|(apply Zai Zab;exact U)|(apply Zag Zab;exact U)|(apply Zau Zab;exact U)|refine Zbm ?_|refine Zad U Qt ?_|refine Za9 ?_|refine ZaL Zab U U U U U U U U U U U U ?_|(apply Zao 7 ZaQ;decide +kernel;kernel_rfl;kernel_rfl;kernel_rfl;exact U;exact U)|(apply Zas;(iterate 4 exact U))|exact AE.nil _ _ _ _|(apply Zaw;exact U)|(apply Zbl;exact U)|(apply Zay;exact U;exact U;decide +kernel;exact U)|(apply Zaz;exact U)|(apply ZbH;exact U)|exact AO.nil _ _ _|(apply Zar;(decide +kernel))|(apply Za6;(iterate 3 exact U))|exact AOs.nil|exact ZaJ rfl rfl|exact Zdh rfl rfl rfl rfl rfl|exact ZcD rfl rfl|(apply ZaF Zab;(iterate 6 exact U);(first|with_reducible assumption|decide +kernel|exact U|rotate_left);exact U;exact U;(first|exact Zaj rfl|with_reducible assumption|decide +kernel|rotate_left);(first|exact Zaj rfl|with_reducible assumption|decide +kernel|rotate_left);(first|exact Qt|rotate_left);(first|exact Qt|rotate_left);(first|exact Qt|rotate_left);exact U;exact U))
     ·refine Lands.mk' (m:=f) (Nat.lt_succ_self _) ⟨acc++[It.mk k1 n1 b1 l1],p3,m1,L.length+1,L++[E.agg [.int .i64 k1,.int .u64 (n1:Int),.sl (b1.map E.byte),.sl (ZaC l1)]],z2,by omega,by rw[List.length_append];rfl,by rw[hL];exact(Zcx _ [It.mk k1 n1 b1 l1]).symm,hsum3,hf3,hS,rfl,.inr ⟨rfl,rfl⟩⟩ ?_ rfl rfl rfl rfl rfl rfl
      exact .cons rfl (.cons rfl (.cons rfl (.cons rfl (.cons rfl .nil))))
     all_goals(first|rfl|(simp only[List.length_append,List.length_cons,List.length_nil,List.length_map,Zaq];done)|(simp only[List.length_append,List.length_cons,List.length_nil,List.length_map,Zaq]at *;(try unfold maxLen);(try simp only[Nat.add_mul]);omega))
 | false=>
  unfold Zju
  dsimp only
  have e1:IntKind.i64.wrap (((b.map E.byte).length:Int)-(p:Int))=((b.length-p:Nat):Int):=by rw[List.length_map,IntWalk.i64_in _ (by omega)];omega
  have e2:IntKind.u64.wrap ((b.length-p:Nat):Int)=((b.length-p:Nat):Int):=by rw[IntKind.wrap_u64];omega
  have hl:(b.drop p).length=b.length-p:=List.length_drop ..
  rw[hl]
  by_cases hle:n<=b.length-p
  ·rw[if_pos hle]
   have d1:decide ((n:Int)<=((b.length-p:Nat):Int))=true:=by simp;omega
   generalize ho:Zg5 (ZaV d) n [] m (b.drop p)=o
   refine Zam Tryz.func187 rfl Tryz.ntmps187 rfl rfl ?_
   repeat'(first|rw[d1]|rw[e1]|rw[e2]|(apply Zaa (ZaY 8);kernel_rfl;(iterate 4 exact U))|(apply Zai Zab;exact U)|(apply Zag Zab;exact U)|refine Zaf U Qt ?_|refine Zan Zab U U U U ?_|(apply Zao 13 ZaQ;decide +kernel;kernel_rfl;kernel_rfl;kernel_rfl;exact U;exact U)|(apply Zas;(iterate 4 exact U))|exact AE.nil _ _ _ _|(apply Zaw;exact U)|(apply Zay;exact U;exact U;decide +kernel;exact U)|(apply Zaz;exact U)|exact AO.nil _ _ _|(apply Zar;(decide +kernel))|exact AOs.nil|exact ZaJ rfl rfl)
   refine ZaB (fun f tm bx fr=>∃(i:Nat) (acc:List It) (p' m' c:Nat) (L:List E),f+i=n/\p'<=b.length/\m'<=256/\c=L.length/\L=ZaC acc/\acc.length+(b.length-p')<=b.length/\Zg5 (ZaV d) f acc m' (b.drop p')=o/\tm=[(0,.ptr 0 0),(2,.int .i64 (deep:Int)),(4,.ptr 1 0),(6,.ptr 2 0),(7,.ptr 3 0),(40,.int .u64 (n:Int)),(41,.int .u64 (i:Int))] /\
    ((acc=[]/\bx=liB b p' m' n false .nil []/\fr=[])\/(bx=liB b p' m' n false (.own 0) L/\fr=[⟨c,4,32⟩]))) (n+1) (Lands.mk' (m:=n) (Nat.lt_succ_self _) ⟨0,[],p,m,0,[],rfl,hp,hm,rfl,rfl,by simp,ho,rfl,.inl ⟨rfl,rfl,rfl⟩⟩ ?_ rfl rfl rfl rfl rfl rfl) ?_
   ·exact .cons rfl (.cons rfl (.cons rfl (.cons rfl (.cons rfl (.cons rfl (.cons rfl .nil))))))
   rintro f tm bx fr ⟨i,acc,p',m',c,L,hfi,hp',hm',hc,hL,hsum,hS,rfl,hst⟩
   cases f with
   | zero=>
    have dn:decide ((i:Int)<(n:Int))=false:=by simp;omega
    rw[Zg5]at hS
    subst hS
    dsimp only
    have q3:b.length-(b.drop p').length=p':=by rw[List.length_drop];omega
    rw[q3]
    subst hL
    rcases hst with⟨rfl,rfl,rfl⟩ | ⟨rfl,rfl⟩
    ·repeat'(first|(apply Zag Zab;exact U)|refine Zbm ?_|refine Zaf U Qt ?_)
     all_goals(apply Zkh (rfl) [0];(apply Zac Zab;exact U);(iterate 4 exact U))
     all_goals rfl
    ·repeat'(first|(apply Zag Zab;exact U)|refine Zbm ?_|refine Zaf U Qt ?_)
     all_goals(apply Zkh (rfl) [0];(apply Zac Zab;exact U);(iterate 4 exact U))
     all_goals rfl
   | succ f=>
    have dn:decide ((i:Int)<(n:Int))=true:=by simp;omega
    have ei:IntKind.u64.wrap ((i:Int)+1)=((i+1:Nat):Int):=by rw[IntKind.wrap_u64];omega
    rw[Zg5]at hS
    have hlp:(b.drop p').length=b.length-p':=List.length_drop ..
    have hit:=IH p' m' hp' hm'
    unfold itR at hit
    cases hr:ZaV d m' (b.drop p') with
    | error e=>
     rw[hr]at hS hit
     dsimp only at hS hit
     subst hS
     dsimp only
     rcases hst with⟨rfl,rfl,rfl⟩ | ⟨rfl,rfl⟩
     ·repeat'(first|rw[ed]|(apply Zbb [0] (hit.x rfl);kernel_rfl;(iterate 6 exact U);intro bx2 fr2 hle2)|(apply Zef 9 5 ZaQ;decide +kernel;kernel_rfl;decide +kernel;exact U;exact U)|exact ADX.nil _ _|(apply Zeg;decide +kernel;exact U)|(apply Zfd;(iterate 3 exact U))|(apply Zg2;(iterate 4 exact U))|exact Zg1 rfl (by assumption)|intro tm2 bx2 fr2 hle2|(apply Zai Zab;exact U)|(apply Zag Zab;exact U)|(apply Zau Zab;exact U)|refine Zbm ?_|refine Zad U Qt ?_|exact ZbG rfl)
      all_goals(apply ZfP;exact U;(first|exact Nat.zero_le _|exact Nat.le_trans (Nat.le_of_ble_eq_true rfl) (by assumption));exact U)
     ·repeat'(first|rw[ed]|(apply Zbb [0] (hit.x rfl);kernel_rfl;(iterate 6 exact U);intro bx2 fr2 hle2)|(apply Zef 9 5 ZaQ;decide +kernel;kernel_rfl;decide +kernel;exact U;exact U)|exact ADX.nil _ _|(apply Zeg;decide +kernel;exact U)|(apply Zfd;(iterate 3 exact U))|(apply Zg2;(iterate 4 exact U))|exact Zg1 rfl (by assumption)|intro tm2 bx2 fr2 hle2|(apply Zai Zab;exact U)|(apply Zag Zab;exact U)|(apply Zau Zab;exact U)|refine Zbm ?_|refine Zad U Qt ?_|exact ZbG rfl)
      all_goals(apply ZfP;exact U;(first|exact Nat.zero_le _|exact Nat.le_trans (Nat.le_of_ble_eq_true rfl) (by assumption));exact U)
    | ok y=>
     obtain⟨⟨k1,n1,b1,l1⟩,r,m1⟩:=y
     rw[hr]at hS hit
     dsimp only at hS hit
     obtain⟨hwk,_,pre,hpre,hpos,_⟩:=hR _ _ _ _ _ hr (by omega)
     have hm1:=Zde hwk
     obtain⟨z1,z2,z3⟩:=ZbT hp' hpre
     generalize hp3:b.length-r.length=p3 at z1 z2 z3 hit
     have hpl:=congrArg List.length hpre
     have hdl:(b.drop p3).length=r.length:=by rw[z1]
     rw[List.length_append]at hpl
     rw[<- z1]at hS
     rw[List.length_drop]at hdl
     have hsum3:(acc++[It.mk k1 n1 b1 l1]).length+(b.length-p3)<=b.length:=by rw[List.length_append];simp;omega
     rcases hst with⟨rfl,rfl,rfl⟩ | ⟨rfl,rfl⟩
     ·repeat'(first|rw[ed]|rw[ei]|(apply Zax [0] (hit.q rfl);kernel_rfl;(iterate 7 exact U))|refine ZaO Zab U U U U U U (Zaj rfl) (List.cons_ne_nil _ _) U Qd Qd U U U ?_|(apply Zai Zab;exact U)|(apply Zag Zab;exact U)|refine Zbm ?_|refine Zad U Qt ?_|refine Za9 ?_|refine ZaL Zab U U U U U U U U U U U U ?_|(apply Zao 7 ZaQ;decide +kernel;kernel_rfl;kernel_rfl;kernel_rfl;exact U;exact U)|(apply Zas;(iterate 4 exact U))|exact AE.nil _ _ _ _|(apply Zaw;exact U)|(apply Zbl;exact U)|(apply Zay;exact U;exact U;decide +kernel;exact U)|(apply Zaz;exact U)|(apply ZbH;exact U)|exact AO.nil _ _ _|(apply Zar;(decide +kernel))|(apply Za6;(iterate 3 exact U))|exact AOs.nil|exact ZaJ rfl rfl|exact Zdh rfl rfl rfl rfl rfl|exact ZcD rfl rfl)
      refine Lands.mk' (m:=f) (Nat.lt_succ_self _) ⟨i+1,[It.mk k1 n1 b1 l1],p3,m1,1,ZaC [It.mk k1 n1 b1 l1],by omega,z2,by omega,rfl,rfl,hsum3,hS,rfl,.inr ⟨rfl,rfl⟩⟩ ?_ rfl rfl rfl rfl rfl rfl
      exact .cons rfl (.cons rfl (.cons rfl (.cons rfl (.cons rfl (.cons rfl (.cons rfl .nil))))))
     ·subst hc
      have hUa:Uni 4 L:=hL ▸ ZcF acc
      have hLl:L.length=acc.length:=by rw[hL,Zaq]
      repeat'(first|rw[ed]|rw[ei]|(apply Zax [0] (hit.q rfl);kernel_rfl;(iterate 7 exact U))|(apply Zai Zab;exact U)|(apply Zag Zab;exact U)|refine Zbm ?_|refine Zad U Qt ?_|refine Za9 ?_|refine ZaL Zab U U U U U U U U U U U U ?_|(apply Zao 7 ZaQ;decide +kernel;kernel_rfl;kernel_rfl;kernel_rfl;exact U;exact U)|(apply Zas;(iterate 4 exact U))|exact AE.nil _ _ _ _|(apply Zaw;exact U)|(apply Zbl;exact U)|(apply Zay;exact U;exact U;decide +kernel;exact U)|(apply Zaz;exact U)|(apply ZbH;exact U)|exact AO.nil _ _ _|(apply Zar;(decide +kernel))|(apply Za6;(iterate 3 exact U))|exact AOs.nil|exact ZaJ rfl rfl|exact Zdh rfl rfl rfl rfl rfl|exact ZcD rfl rfl|(apply ZaF Zab;(iterate 6 exact U);(first|with_reducible assumption|decide +kernel|exact U|rotate_left);exact U;exact U;(first|exact Zaj rfl|with_reducible assumption|decide +kernel|rotate_left);(first|exact Zaj rfl|with_reducible assumption|decide +kernel|rotate_left);(first|exact Qt|rotate_left);(first|exact Qt|rotate_left);(first|exact Qt|rotate_left);exact U;exact U))
      ·refine Lands.mk' (m:=f) (Nat.lt_succ_self _) ⟨i+1,acc++[It.mk k1 n1 b1 l1],p3,m1,L.length+1,L++[E.agg [.int .i64 k1,.int .u64 (n1:Int),.sl (b1.map E.byte),.sl (ZaC l1)]],by omega,z2,by omega,by rw[List.length_append];rfl,by rw[hL];exact(Zcx _ [It.mk k1 n1 b1 l1]).symm,hsum3,hS,rfl,.inr ⟨rfl,rfl⟩⟩ ?_ rfl rfl rfl rfl rfl rfl
       exact .cons rfl (.cons rfl (.cons rfl (.cons rfl (.cons rfl (.cons rfl (.cons rfl .nil))))))
      all_goals(first|rfl|(simp only[List.length_append,List.length_cons,List.length_nil,List.length_map,Zaq];done)|(simp only[List.length_append,List.length_cons,List.length_nil,List.length_map,Zaq]at *;(try unfold maxLen);(try simp only[Nat.add_mul]);omega))
  ·rw[if_neg hle]
   dsimp only
   have d1:decide ((n:Int)<=((b.length-p:Nat):Int))=false:=by simp;omega
   refine Zam Tryz.func187 rfl Tryz.ntmps187 rfl rfl ?_
   repeat'(first|rw[d1]|rw[e1]|rw[e2]|(apply Zbb [] (Zc1 8);kernel_rfl;(iterate 6 exact U);intro bx2 fr2 hle2)|(apply Zai Zab;exact U)|(apply Zag Zab;exact U)|(apply Zau Zab;exact U)|refine Zbm ?_|refine Zaf U Qt ?_|refine Zan Zab U U U U ?_|(apply Zao 13 ZaQ;decide +kernel;kernel_rfl;kernel_rfl;kernel_rfl;exact U;exact U)|(apply Zas;(iterate 4 exact U))|exact AE.nil _ _ _ _|(apply Zaw;exact U)|(apply Zay;exact U;exact U;decide +kernel;exact U)|(apply Zaz;exact U)|exact AO.nil _ _ _|(apply Zar;(decide +kernel))|exact AOs.nil|exact ZaJ rfl rfl)
   all_goals(apply ZfP;exact U;(first|exact Nat.zero_le _|exact Nat.le_trans (Nat.le_of_ble_eq_true rfl) (by assumption));exact U)
end Go.Proofs.YtakblclkflnnpaaGreatDoor
end

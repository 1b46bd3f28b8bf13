/- Words for the walk over abstract states. -/
import Derived.Test.YtchlgagdbflkmaaDoorS02
set_option linter.unusedSimpArgs false
set_option linter.unusedVariables false
section
open Go.RowKit Go.Pl
namespace Go.Av
section
variable {P:Program} {Q:X->St->Prop} {S:St}
theorem IN [Known][Dfr]{x y:Code}(h:AW P x S (X.then (fun S=>AW P y S Q) Q)):AW P (.seq x y) S Q:=GI fun K hK=>Kj h fun x S h=>by
 cases x<;>simp only[X.then]at h ⊢
 ·exact hK _ h
 all_goals exact h
theorem KM {K:St->Prop}(h:K S):X.then K Q .norm S:=h
theorem KN {K:St->Prop}{i:Nat}(h:Q (.exit i) S):X.then K Q (.exit i) S:=h
theorem KO {K:St->Prop}{i:Nat}(h:Q (.goto i) S):X.then K Q (.goto i) S:=h
theorem V2 {K:St->Prop}(h:Q .ret S):X.then K Q .ret S:=h
theorem Ow {K:St->Prop}{d:D}(h:Q (.pan d) S):X.then K Q (.pan d) S:=h
theorem Ox {id:Nat}(h:Q .norm S):X.inBlock id Q (.exit id) S:=by simpa[X.inBlock]using h
theorem IP {id i:Nat}(hne:Nat.beq i id=false)(h:Q (.exit i) S):X.inBlock id Q (.exit i) S:=by
 have:i ≠ id:=fun e=>by subst e;simp at hne
 simpa[X.inBlock,this]using h
theorem Oy {id i:Nat}(h:Q (.goto i) S):X.inBlock id Q (.goto i) S:=h
theorem IQ {id:Nat}(h:Q .ret S):X.inBlock id Q .ret S:=h
theorem IR {id:Nat}{d:D}(h:Q (.pan d) S):X.inBlock id Q (.pan d) S:=h
theorem WN [Known][Dfr]{n:Nat}{ee:Nat × Nat}{tm:List (Nat × D)}{bx:List (List D)}{fr:List Fr}{x y:Code}{b:Bool}{t:Nat}(hd:look tm t=.bool b)(h1:b=true->AW P x ⟨n,tm,bx,fr,ee⟩ Q)(h2:b=false->AW P y ⟨n,tm,bx,fr,ee⟩ Q):AW P (.cond (.tmp t) x y) ⟨n,tm,bx,fr,ee⟩ Q:=Jq rfl hd h1 h2
theorem Oz [Known][Dfr]{n:Nat}{ee:Nat × Nat}{tm:List (Nat × D)}{bx:List (List D)}{fr:List Fr}{x y:Code}{t:Nat}(hd:look tm t=.bool true)(h1:AW P x ⟨n,tm,bx,fr,ee⟩ Q):AW P (.cond (.tmp t) x y) ⟨n,tm,bx,fr,ee⟩ Q:=Jq rfl hd (fun _=>h1) (fun h=>by cases h)
theorem OA [Known][Dfr]{n:Nat}{ee:Nat × Nat}{tm:List (Nat × D)}{bx:List (List D)}{fr:List Fr}{x y:Code}{t:Nat}(hd:look tm t=.bool false)(h1:AW P y ⟨n,tm,bx,fr,ee⟩ Q):AW P (.cond (.tmp t) x y) ⟨n,tm,bx,fr,ee⟩ Q:=Jq rfl hd (fun h=>by cases h) (fun _=>h1)
end
def AP [Known](P:Program)(f:FuncId)(args:List D)(d:D)(frs:List Fr):Prop:=AC P f args [] [] fun r bx fr=>r=.ret d/\bx=[]/\fr=frs
theorem IS {P:Program}{rs:List ResultVar}{S:St}{d d':D}{frs:List Fr}{ts:List Nat}{ds:List D}(h:ResL P S rs ds)(ht:YL ts S.fr.length)(hn:nf ((JM ds).ren (idx []) (idx ts))=some d')(hd:d'=d)(hf:WX ts S.fr=frs) :
  VT P rs 0 0 (fun r bx fr=>r=.ret d/\bx=[]/\fr=frs) .ret S:=
 ⟨ds,[],ts,h,Z2 _,ht,fun i h=>by omega,fun i h=>by omega,by rw[Yj hn,hd],rfl,hf⟩
theorem WO [Known][Dfr]{P:Program}{Q:X->St->Prop}{n:Nat}{ee:Nat × Nat}{tm:List (Nat × D)}{bx:List (List D)}{fr:List Fr}{ops:Array Oper}{rest:List Oper}{t:Nat}{ty:Nat}{pos:String}{after:Array Edge}{f:FuncId}{ars:Array Operand}{ats:Array TypeId}
  {cds:List D} {d d':D} {frs fr':List Fr} (hAC:AP P f cds d frs) (hf:Ur P f=true)
  (hc:(ars.toList.map (ev tm)).map (D.ren (idx []) (idx []))=cds) (htd:Nat.blt t n=true) (hd:nf (d.ren (upN [] bx.length) (upN [] fr.length))=some d') (hfr:nfl (fr++frs)=some fr')
  (k:AL P ops rest ⟨n,(t,d')::tm,bx,fr',ee⟩ Q):AL P ops (⟨some t,.call { callee:=.value (.func f),args:=ars,argTypes:=ats },ty,pos,after,none⟩::rest) ⟨n,tm,bx,fr,ee⟩ Q:=by
 refine UY [] [] hf hAC hc (Z2 _) (Z2 _) rfl rfl htd (fun _ _ _ h=>by cases h.1) fun d0 bx' fr' h=>?_
 obtain⟨h1,rfl,rfl⟩:=h
 injection h1 with h1
 subst h1
 refine⟨Nat.le_refl _,?_⟩
 have e1:=Yj hd
 have e2:=Yq hfr
 subst e1 e2
 simpa[St.aft,VU,WK,YW]using k
end Go.Av
end
section
open Go.RowKit Go.Pl
namespace Go.Av

inductive ZK where
 | b|i (k:IntKind)|s|p|l|f|n
 deriving DecidableEq,Repr
def ZK.d:ZK->D
 | .b=>.bool false
 | .i k=>.int k 0
 | .s=>.str []
 | .p=>.nilp
 | .l=>.sl .nil []
 | .f=>.nilf
 | .n=>.nili
def zk:Value->Option ZK
 | .bool false=>some .b
 | .int k n=>if n=0 then some (.i k) else none
 | .string s=>if s.size=0 then some .s else none
 | .pointer none=>some .p
 | .slice none 0 0=>some .l
 | .nilFunc=>some .f
 | .nilIface=>some .n
 | _=>none
theorem Hl {w:World}{g:G}{fr:List Fr}{v:Value}{z:ZK}(h:zk v=some z):V w g fr z.d v/\v.oneCell'=true:=by
 unfold zk at h
 split at h
 ·cases h;exact⟨.bool _,rfl⟩
 ·split at h
  ·cases h;rename_i k n h0;subst h0;exact⟨.int _ _,rfl⟩
  ·cases h
 ·split at h
  ·cases h
   rename_i s h0
   have e:s=⟨([]:List UInt8).toArray⟩:=by
    obtain⟨a⟩:=s
    have:a = #[]:=Array.eq_empty_of_size_eq_zero h0
    rw[this]
   rw[e]
   exact⟨.str [] (Nat.zero_le _),rfl⟩
  ·cases h
 ·cases h;exact⟨.nilp,rfl⟩
 ·cases h;exact⟨.sl .nil [] _ (.slE _ _ (Nat.zero_le _)) rfl,rfl⟩
 ·cases h;exact⟨.nilf,rfl⟩
 ·cases h;exact⟨.nili,rfl⟩
 ·cases h
def zks:List Value->Option (List ZK)
 | []=>some []
 | v::l=>match zk v,zks l with
  | some z,some zs=>some (z::zs)
  | _,_=>none
theorem YX {w:World}{g:G}{fr:List Fr}:∀ {l:List Value} {zs:List ZK},zks l=some zs->l.length=zs.length/\∀(j:Nat) (d:D) (v:Value),(zs.map ZK.d)[j]?=some d->l[j]?=some v->V w g fr d v/\v.oneCell'=true
 | [],zs,h=>by simp[zks]at h;subst h;simp
 | v::l,zs,h=>by
  cases hv:zk v with
  | none=>simp[zks,hv]at h
  | some z=>
   cases hl:zks l with
   | none=>simp[zks,hv,hl]at h
   | some zs'=>
    simp[zks,hv,hl]at h;subst h
    obtain⟨h1,h2⟩:=YX (w:=w) (g:=g) (fr:=fr) hl
    refine⟨by simp[h1],fun j d u hd hu=>?_⟩
    cases j with
    | zero=>simp at hd hu;subst hd hu;exact Hl hv
    | succ j=>simp only[List.map_cons,List.getElem?_cons_succ]at hd hu;exact h2 j d u hd hu
structure Fd where
 off:Nat
 size:Nat
 agg:Bool
 ty:Nat
 deriving DecidableEq,Repr
inductive Kd where
 | bool|int (k:IntKind)|str|ptr (e:Nat)|slice (e:Nat)|struct (fs:List Fd)|array (n e:Nat)|iface|func|other
 deriving DecidableEq,Repr
structure Ti where
 kd:Kd
 size:Nat
 bytes:Nat
 zero:List ZK
 deriving DecidableEq,Repr
def UX (P:Program):TypeDesc->Kd
 | .bool=>.bool
 | .int k=>.int k
 | .string=>.str
 | .pointer e=>.ptr e
 | .slice e=>.slice e
 | .struct fs=>if fs.toList.all (fun f=>(tSize P f.type).isSome&&(tAgg P f.type).isSome) then .struct (fs.toList.map fun f=>⟨f.offset,(tSize P f.type).getD 0,(tAgg P f.type).getD false,f.type⟩) else .other
 | .array n e=>.array n e
 | .interface _=>.iface
 | .func .. => .func
 | _=>.other
def OB (P:Program)(t:TypeId):Option Ti:=
 match P.info? t,P.underlying t with
 | some i,some u=>match i.zero with
  | some z=>match zks z.cells.toList with
   | some zs=>if zs.length=i.size/\UX P u ≠ .other then some ⟨UX P u,i.size,i.bytes,zs⟩ else none
   | none=>none
  | none=>none
 | _,_=>none
abbrev Tab:=List (Nat × Ti)
def tl:Tab->Nat->Option Ti
 | [],_=>none
 | (k,i)::l,t=>match Nat.beq k t with
  | true=>some i
  | false=>tl l t
def chk (P:Program)(T:Tab):Bool:=T.all fun p=>decide (OB P p.1=some p.2)
structure TiOk (P:Program) (t:TypeId) (ti:Ti):Prop where
 out:∃ i u z,P.info? t=some i/\P.underlying t=some u/\i.zero=some z/\ti.kd=UX P u/\ti.size=i.size/\ti.bytes=i.bytes/\zks z.cells.toList=some ti.zero
 len:ti.zero.length=ti.size
 ne:ti.kd ≠ .other
theorem ZF {P:Program}{T:Tab}(hT:chk P T=true){t:Nat}{ti:Ti}(h:tl T t=some ti):TiOk P t ti:=by
 have key:∀ T:Tab,chk P T=true->tl T t=some ti->OB P t=some ti:=by
  intro T
  induction T with
  | nil=>intro _ h;simp[tl]at h
  | cons p l ih=>
   obtain⟨k,i⟩:=p
   intro hT h
   simp only[chk,List.all_cons,Bool.and_eq_true,decide_eq_true_eq]at hT
   simp only[tl]at h
   cases hb:Nat.beq k t with
   | true=>
    have:=Nat.eq_of_beq_eq_true hb
    subst this
    simp only[hb,Option.some.injEq]at h
    subst h
    exact hT.1
   | false=>simp only[hb]at h;exact ih hT.2 h
 have h:=key T hT h
 unfold OB at h
 cases hi:P.info? t with
 | none=>simp[hi]at h
 | some i=>
  cases hu:P.underlying t with
  | none=>simp[hi,hu]at h
  | some u=>
   cases hz:i.zero with
   | none=>simp[hi,hu,hz]at h
   | some z=>
    cases hzs:zks z.cells.toList with
    | none=>simp only[hi,hu,hz,hzs]at h;cases h
    | some zs=>
     simp only[hi,hu,hz,hzs]at h
     split at h
     ·injection h with h
      subst h
      exact⟨⟨i,u,z,hi,hu,hz,rfl,rfl,rfl,hzs⟩,‹_/\_›.1,‹_/\_›.2⟩
     ·cases h
theorem VD {P:Program}{T:Tab}(hT:chk P T=true){t:Nat}{ti:Ti}(h:tl T t=some ti):ti.size=ti.zero.length:=(ZF hT h).len.symm
section
variable {P:Program} {t:TypeId} {ti:Ti}
def Kd.agg:Kd->Bool
 | .struct _ | .array _ _=>true
 | _=>false
theorem TiOk.tAgg (h:TiOk P t ti):tAgg P t=some ti.kd.agg:=by
 obtain⟨i,u,z,h1,h2,h3,h4,h5,h6,h7⟩:=h.out
 unfold Go.Av.tAgg
 rw[h2,h4]
 have hne:=h.ne
 rw[h4]at hne
 cases u<;>first|rfl|skip
 rename_i fs
 simp only[UX]at hne ⊢
 split
 ·rfl
 ·rename_i hh;rw[if_neg hh]at hne;exact(hne rfl).elim
theorem TiOk.tSize (h:TiOk P t ti):tSize P t=some ti.size:=by
 obtain⟨i,u,z,h1,h2,h3,h4,h5,h6,h7⟩:=h.out
 simp[Go.Av.tSize,h1,h5]
theorem TiOk.slice (h:TiOk P t ti){e:Nat}(hk:ti.kd=.slice e):P.underlying t=some (.slice e):=by
 obtain⟨i,u,z,h1,h2,h3,h4,h5,h6,h7⟩:=h.out
 rw[h2];rw[hk]at h4
 cases u<;>simp only[UX]at h4<;>first|(split at h4<;>cases h4;done)|cases h4
 rfl
theorem TiOk.str (h:TiOk P t ti)(hk:ti.kd=.str):P.underlying t=some .string:=by
 obtain⟨i,u,z,h1,h2,h3,h4,h5,h6,h7⟩:=h.out
 rw[h2];rw[hk]at h4
 cases u<;>simp only[UX]at h4<;>first|(split at h4<;>cases h4;done)|cases h4
 rfl
theorem TiOk.int (h:TiOk P t ti){k:IntKind}(hk:ti.kd=.int k):P.underlying t=some (.int k):=by
 obtain⟨i,u,z,h1,h2,h3,h4,h5,h6,h7⟩:=h.out
 rw[h2];rw[hk]at h4
 cases u<;>simp only[UX]at h4<;>first|(split at h4<;>cases h4;done)|cases h4
 rfl
theorem TiOk.struct' (h:TiOk P t ti){fs:List Fd}(hk:ti.kd=.struct fs):∃ fields,P.underlying t=some (.struct fields)/\(fs=fields.toList.map fun f=>⟨f.offset,(Go.Av.tSize P f.type).getD 0,(Go.Av.tAgg P f.type).getD false,f.type⟩)/\∀ f ∈ fields.toList,(Go.Av.tSize P f.type).isSome=true/\(Go.Av.tAgg P f.type).isSome=true:=by
 obtain⟨i,u,z,h1,h2,h3,h4,h5,h6,h7⟩:=h.out
 rw[hk]at h4
 cases u<;>simp only[UX]at h4<;>first|cases h4|skip
 split at h4
 ·rename_i fs' hall
  injection h4 with h4
  refine⟨_,h2,h4,fun f hf=>?_⟩
  have:=List.all_eq_true.1 hall f hf
  simpa using this
 ·cases h4
theorem TiOk.struct (h:TiOk P t ti){fs:List Fd}(hk:ti.kd=.struct fs):∃ fields,P.underlying t=some (.struct fields)/\fs=fields.toList.map fun f=>⟨f.offset,(Go.Av.tSize P f.type).getD 0,(Go.Av.tAgg P f.type).getD false,f.type⟩:=by
 obtain⟨fields,h1,h2,_⟩:=h.struct' hk
 exact⟨fields,h1,h2⟩
theorem TiOk.under (h:TiOk P t ti):∃ u,P.underlying t=some u/\ti.kd=UX P u:=by
 obtain⟨i,u,z,h1,h2,h3,h4,h5,h6,h7⟩:=h.out
 exact⟨u,h2,h4⟩
theorem TiOk.zero (h:TiOk P t ti)(w:World):∃ z,(zeroValue t).run P w=.ok z w/\zks z.cells.toList=some ti.zero:=by
 obtain⟨i,u,z,h1,h2,h3,h4,h5,h6,h7⟩:=h.out
 exact⟨z,by simp[zeroValue,typeInfo,Sem.run_bind,h1,h3],h7⟩
end
section
variable {P:Program} {Q:X->St->Prop} {n:Nat} {ee:Nat × Nat} {tm:List (Nat × D)} {bx:List (List D)} {fr:List Fr} {b0:Bs} {g:G} {w:World} {a:Act} {T:Tab}
variable {ops:Array Oper} {rest:List Oper} {t ty:Nat} {pos:String} {after:Array Edge}
theorem OC [Known][Dfr](hT:chk P T=true){x:Operand}{lt b o:Nat}{cs:List D}{d:D}{ti:Ti}(hx:ev tm x=.ptr b o)(ht:tl T lt=some ti)(ha:ti.kd.agg=false)(hb:bx[b]?=some cs)(hd:cs[o]?=some d)(htd:Nat.blt t n=true)
  (k:AL P ops rest ⟨n,(t,d)::tm,bx,fr,ee⟩ Q):AL P ops (⟨some t,.load lt x,ty,pos,after,none⟩::rest) ⟨n,tm,bx,fr,ee⟩ Q:=
 ZR d htd (fun g a w hi=>by
  have h1:V w g fr (ev tm x) (a.eval x):=hi.ev x
  rw[hx]at h1
  obtain⟨u,h2,h3⟩:=QS (P:=P) hi.mem (by rw[(ZF hT ht).tAgg,ha]) h1 hb hd
  exact⟨u,by simp[execOp,Sem.run_bind,h2],h3⟩) k
theorem OD [Known][Dfr](hT:chk P T=true){x:Operand}{lt b o:Nat}{cs cs':List D}{ti:Ti}(hx:ev tm x=.ptr b o)(ht:tl T lt=some ti)(ha:ti.kd.agg=true)(hb:bx[b]?=some cs)(ho:Nat.ble (o+ti.size) cs.length=true)(hd:nfs ((cs.drop o).take ti.size)=some cs')(htd:Nat.blt t n=true)
  (k:AL P ops rest ⟨n,(t,.agg cs')::tm,bx,fr,ee⟩ Q):AL P ops (⟨some t,.load lt x,ty,pos,after,none⟩::rest) ⟨n,tm,bx,fr,ee⟩ Q:=
 ZR _ htd (fun g a w hi=>by
  have h1:V w g fr (ev tm x) (a.eval x):=hi.ev x
  rw[hx]at h1
  have ti:=ZF hT ht
  obtain⟨u,h2,h3⟩:=QT (P:=P) hi.mem (by rw[ti.tAgg,ha]) ti.tSize h1 hb (Nat.le_of_ble_eq_true ho)
  rw[Y7 hd]at h3
  exact⟨u,by simp[execOp,Sem.run_bind,h2],h3⟩) k
theorem KP [Known][Dfr](hT:chk P T=true){x:Operand}{lt o:Nat}{cs:List E}{e:E}{d:D}{ti:Ti}(hx:ev tm x=.eptr cs o)(ht:tl T lt=some ti)(ha:ti.kd.agg=false)(he:cs[o]?=some e)(hd:nf (.ofE e)=some d)(htd:Nat.blt t n=true)
  (k:AL P ops rest ⟨n,(t,d)::tm,bx,fr,ee⟩ Q):AL P ops (⟨some t,.load lt x,ty,pos,after,none⟩::rest) ⟨n,tm,bx,fr,ee⟩ Q:=
 ZR d htd (fun g a w hi=>by
  have h1:V w g fr (ev tm x) (a.eval x):=hi.ev x
  rw[hx]at h1
  obtain⟨u,h2,h3⟩:=XK (P:=P) (by rw[(ZF hT ht).tAgg,ha]) h1 he
  rw[Yj hd]at h3
  exact⟨u,by simp[execOp,Sem.run_bind,h2],h3⟩) k
theorem KQ [Known][Dfr](hT:chk P T=true){x:Operand}{lt o:Nat}{cs:List E}{cs':List D}{ti:Ti}(hx:ev tm x=.eptr cs o)(ht:tl T lt=some ti)(ha:ti.kd.agg=true)(ho:Nat.ble (o+ti.size) cs.length=true)(hd:nfs (((cs.drop o).take ti.size).map .ofE)=some cs')(htd:Nat.blt t n=true)
  (k:AL P ops rest ⟨n,(t,.agg cs')::tm,bx,fr,ee⟩ Q):AL P ops (⟨some t,.load lt x,ty,pos,after,none⟩::rest) ⟨n,tm,bx,fr,ee⟩ Q:=
 ZR _ htd (fun g a w hi=>by
  have h1:V w g fr (ev tm x) (a.eval x):=hi.ev x
  rw[hx]at h1
  have ti:=ZF hT ht
  obtain⟨u,h2,h3⟩:=XL (P:=P) (by rw[ti.tAgg,ha]) ti.tSize h1 (Nat.le_of_ble_eq_true ho)
  rw[Y7 hd]at h3
  exact⟨u,by simp[execOp,Sem.run_bind,h2],h3⟩) k
theorem UM {st:TypeId}{f:Nat}{ti:Ti}{fs:List Fd}{fd:Fd}(hti:TiOk P st ti)(hk:ti.kd=.struct fs)(hf:fs[f]?=some fd)(hs:Nat.beq fd.size 0=false)(w:World)(b o:Nat) :
  (Instr.fieldAt st (.pointer (some ⟨b,o,none⟩)) f).run P w=.ok (.pointer (some ⟨b,o+fd.off,none⟩)) w:=by
 obtain⟨fields,h1,rfl⟩:=hti.struct hk
 rw[List.getElem?_map]at hf
 cases hff:fields[f]? with
 | none=>simp[hff]at hf
 | some fl=>
  have hff':fields.toList[f]?=some fl:=by simpa using hff
  rw[hff']at hf
  simp only[Option.map_some,Option.some.injEq]at hf
  subst hf
  cases hsz:Go.Av.tSize P fl.type with
  | none=>simp[hsz]at hs
  | some k=>
   have hk0:k ≠ 0:=fun e=>by simp[hsz,e]at hs
   have hadd:(⟨b,o,none⟩:Addr).add fl.offset=⟨b,o+fl.offset,none⟩:=by unfold Addr.add;split<;>simp_all
   simp[Instr.fieldAt,Instr.sureAddr,fieldPlace,Sem.run_bind,run_underlying h1,hff,Z1 hsz,hk0,hadd]
theorem V3 [Known][Dfr](hT:chk P T=true){x:Operand}{st f b o o':Nat}{ti:Ti}{fs:List Fd}{fd:Fd}(hx:ev tm x=.ptr b o)(ht:tl T st=some ti)(hk:ti.kd=.struct fs)(hf:fs[f]?=some fd)(hs:Nat.beq fd.size 0=false)(ho:o+fd.off=o')(htd:Nat.blt t n=true)
  (k:AL P ops rest ⟨n,(t,.ptr b o')::tm,bx,fr,ee⟩ Q):AL P ops (⟨some t,.fieldAddr st x f,ty,pos,after,none⟩::rest) ⟨n,tm,bx,fr,ee⟩ Q:=
 ZR _ htd (fun g a w hi=>by
  have h1:V w g fr (ev tm x) (a.eval x):=hi.ev x
  rw[hx]at h1
  obtain⟨blk,h2,h3⟩:=VC h1
  subst ho
  exact⟨.pointer (some ⟨blk,o+fd.off,none⟩),by simp[execOp,Sem.run_bind,h3,UM (ZF hT ht) hk hf hs],.ptr _ _ blk h2⟩) k
theorem QO [Known][Dfr](hT:chk P T=true){x:Operand}{st f o o':Nat}{cs:List E}{ti:Ti}{fs:List Fd}{fd:Fd}(hx:ev tm x=.eptr cs o)(ht:tl T st=some ti)(hk:ti.kd=.struct fs)(hf:fs[f]?=some fd)(hs:Nat.beq fd.size 0=false)(ho:o+fd.off=o')(htd:Nat.blt t n=true)
  (k:AL P ops rest ⟨n,(t,.eptr cs o')::tm,bx,fr,ee⟩ Q):AL P ops (⟨some t,.fieldAddr st x f,ty,pos,after,none⟩::rest) ⟨n,tm,bx,fr,ee⟩ Q:=
 ZR _ htd (fun g a w hi=>by
  have h1:V w g fr (ev tm x) (a.eval x):=hi.ev x
  rw[hx]at h1
  subst ho
  obtain⟨p,hp⟩:∃ p,p=a.eval x:=⟨_,rfl⟩
  rw[<- hp]at h1
  cases h1 with
  | eptr _ _ blk off us hc hw he=>
   exact⟨.pointer (some ⟨blk,off+(o+fd.off),none⟩),by simp[execOp,Sem.run_bind,<- hp,UM (ZF hT ht) hk hf hs,Nat.add_assoc],.eptr _ _ blk off us hc hw he⟩) k
theorem JO [Known][Dfr]{x:Operand}{b o:Nat}(hx:ev tm x=.ptr b o)(htd:Nat.blt t n=true)
  (k:AL P ops rest ⟨n,(t,.ptr b o)::tm,bx,fr,ee⟩ Q):AL P ops (⟨some t,.nilCheck x,ty,pos,after,none⟩::rest) ⟨n,tm,bx,fr,ee⟩ Q:=
 ZR _ htd (fun g a w hi=>by
  have h1:V w g fr (ev tm x) (a.eval x):=hi.ev x
  rw[hx]at h1
  obtain⟨blk,h2,h3⟩:=VC h1
  exact⟨.pointer (some ⟨blk,o,none⟩),by simp[execOp,h3],.ptr _ _ blk h2⟩) k
theorem Jt [Known][Dfr]{x:Operand}{cs:List E}{o:Nat}(hx:ev tm x=.eptr cs o)(htd:Nat.blt t n=true)
  (k:AL P ops rest ⟨n,(t,.eptr cs o)::tm,bx,fr,ee⟩ Q):AL P ops (⟨some t,.nilCheck x,ty,pos,after,none⟩::rest) ⟨n,tm,bx,fr,ee⟩ Q:=
 ZR _ htd (fun g a w hi=>by
  have h1:V w g fr (ev tm x) (a.eval x):=hi.ev x
  rw[hx]at h1
  obtain⟨p,hp⟩:∃ p,p=a.eval x:=⟨_,rfl⟩
  rw[<- hp]at h1
  refine⟨p,?_,h1⟩
  cases h1
  simp[execOp,<- hp]) k
theorem V4 {l:List D}{v:Value}(h:V w g fr (.agg l) v):∃ vs:List Value,v=.agg vs.toArray/\vs.length=l.length/\∀(j:Nat) (d:D) (v:Value),l[j]?=some d->vs[j]?=some v->V w g fr d v:=by
 cases h;exact⟨_,rfl,‹_›,‹_›⟩
theorem IT {l:List D}{v:Value}(h:V w g fr (.tup l) v):∃ vs:List Value,v=.tuple vs.toArray/\vs.length=l.length/\∀(j:Nat) (d:D) (v:Value),l[j]?=some d->vs[j]?=some v->V w g fr d v:=by
 cases h;exact⟨_,rfl,‹_›,‹_›⟩
theorem XO [Known][Dfr]{x:Operand}{i:Nat}{l:List D}{d:D}(hx:ev tm x=.tup l)(hd:l[i]?=some d)(htd:Nat.blt t n=true)
  (k:AL P ops rest ⟨n,(t,d)::tm,bx,fr,ee⟩ Q):AL P ops (⟨some t,.extract x i,ty,pos,after,none⟩::rest) ⟨n,tm,bx,fr,ee⟩ Q:=
 ZR _ htd (fun g a w hi=>by
  have h1:V w g fr (ev tm x) (a.eval x):=hi.ev x
  rw[hx]at h1
  obtain⟨vs,h2,h3,h4⟩:=IT h1
  have hlt:i<vs.length:=by rw[h3];exact(List.getElem?_eq_some_iff.1 hd).1
  exact⟨vs[i],by simp[execOp,h2,Instr.extract,hlt],h4 i d _ hd (List.getElem?_eq_getElem hlt)⟩) k
theorem KR {st:TypeId}{f:Nat}{ti:Ti}{fs:List Fd}{fd:Fd}(hti:TiOk P st ti)(hk:ti.kd=.struct fs)(hf:fs[f]?=some fd)(hs:Nat.beq fd.size 0=false) :
  ∃ fields fl,P.underlying st=some (.struct fields)/\fields[f]?=some fl/\fd=⟨fl.offset,(Go.Av.tSize P fl.type).getD 0,(Go.Av.tAgg P fl.type).getD false,fl.type⟩/\Go.Av.tSize P fl.type=some fd.size:=by
 obtain⟨fields,h1,rfl⟩:=hti.struct hk
 rw[List.getElem?_map]at hf
 cases hff:fields[f]? with
 | none=>simp[hff]at hf
 | some fl=>
  have hff':fields.toList[f]?=some fl:=by simpa using hff
  rw[hff']at hf
  simp only[Option.map_some,Option.some.injEq]at hf
  subst hf
  refine⟨fields,fl,h1,hff,rfl,?_⟩
  cases hsz:Go.Av.tSize P fl.type with
  | none=>simp[hsz]at hs
  | some k=>rfl
theorem KS [Known][Dfr](hT:chk P T=true){x:Operand}{st f:Nat}{l:List D}{d:D}{ti ti':Ti}{fs:List Fd}{fd:Fd}(hx:ev tm x=.agg l)(ht:tl T st=some ti)(hk:ti.kd=.struct fs)(hf:fs[f]?=some fd)(hs:Nat.beq fd.size 0=false)(ht2:tl T fd.ty=some ti')(ha:ti'.kd.agg=false)(hd:l[fd.off]?=some d)(htd:Nat.blt t n=true)
  (k:AL P ops rest ⟨n,(t,d)::tm,bx,fr,ee⟩ Q):AL P ops (⟨some t,.field st x f,ty,pos,after,none⟩::rest) ⟨n,tm,bx,fr,ee⟩ Q:=
 ZR _ htd (fun g a w hi=>by
  have h1:V w g fr (ev tm x) (a.eval x):=hi.ev x
  rw[hx]at h1
  obtain⟨vs,h2,h3,h4⟩:=V4 h1
  obtain⟨fields,fl,k1,k2,k3,k4⟩:=KR (ZF hT ht) hk hf hs
  have hfo:fd.off=fl.offset:=by rw[k3]
  have hft:fd.ty=fl.type:=by rw[k3]
  have hlt:fl.offset<vs.length:=by rw[h3,<- hfo];exact(List.getElem?_eq_some_iff.1 hd).1
  have hagg:=Y8 (P:=P) (t:=fl.type) (b:=false) (by rw[<- hft,(ZF hT ht2).tAgg,ha]) w
  refine⟨vs[fl.offset],?_,h4 _ d _ (hfo ▸ hd) (List.getElem?_eq_getElem hlt)⟩
  simp[execOp,h2,Instr.field,Sem.run_bind,run_underlying k1,k2,part,asAgg,hagg,hlt]) k
end
end Go.Av
end
section
open Go.RowKit Go.Pl
namespace Go.Av
section
variable {P:Program} {Q:X->St->Prop} {n:Nat} {ee:Nat × Nat} {tm:List (Nat × D)} {bx bx':List (List D)} {fr fr':List Fr} {b0:Bs} {g:G} {w:World} {a:Act} {T:Tab}
variable {ops:Array Oper} {rest:List Oper} {t ty:Nat} {pos:String} {after:Array Edge}
theorem Vj [Known][Dfr]{o:Op}(d:D)(htd:Nat.blt t n=true)
  (h:∀ g a w,Inv ⟨g,fr,w⟩ ⟨n,tm,bx,fr,(g.ρ.length,fr.length)⟩ g a w->∃ v w' g',(execOp a.eval ⟨some t,o,ty,pos,after,none⟩).run P w=.ok (.value v) w'/\Evo ⟨g,fr,w⟩ ⟨g',fr',w'⟩/\Mem g' bx' fr' w'/\V w' g' fr' d v)
  (k:AL P ops rest ⟨n,(t,d)::tm,bx',fr',ee⟩ Q):AL P ops (⟨some t,o,ty,pos,after,none⟩::rest) ⟨n,tm,bx,fr,ee⟩ Q:=⟨fun b0 g a w hi=>
 wpList_plain rfl fun K hK=>by
  obtain⟨v,w',g',hr,he,hm,hv⟩:=h g a w ⟨hi.size,hi.defers,hi.mem,hi.tm,Evo.refl _,Nat.le_refl _,Nat.le_refl _⟩
  unfold Oper.wp
  rw[hr]
  have hi2:Inv b0 ⟨n,tm,bx',fr',ee⟩ g' a w':=⟨hi.size,hi.defers,hm,fun t=>(hi.tm t).evo he,hi.evo.trans he,hi.bd⟩
  exact hK _ _ (k.run b0 g' _ w' (hi2.put htd hv))⟩
theorem Kl [Known][Dfr]{o:Op}
  (h:∀ g a w,Inv ⟨g,fr,w⟩ ⟨n,tm,bx,fr,(g.ρ.length,fr.length)⟩ g a w->∃ w' g',(execOp a.eval ⟨none,o,ty,pos,after,none⟩).run P w=.ok .skip w'/\Evo ⟨g,fr,w⟩ ⟨g',fr',w'⟩/\Mem g' bx' fr' w')
  (k:AL P ops rest ⟨n,tm,bx',fr',ee⟩ Q):AL P ops (⟨none,o,ty,pos,after,none⟩::rest) ⟨n,tm,bx,fr,ee⟩ Q:=⟨fun b0 g a w hi=>
 wpList_plain rfl fun K hK=>by
  obtain⟨w',g',hr,he,hm⟩:=h g a w ⟨hi.size,hi.defers,hi.mem,hi.tm,Evo.refl _,Nat.le_refl _,Nat.le_refl _⟩
  unfold Oper.wp
  rw[hr]
  exact hK _ _ (k.run b0 g' _ w' ⟨hi.size,hi.defers,hm,fun t=>(hi.tm t).evo he,hi.evo.trans he,hi.bd⟩)⟩
theorem Mem.lt [Known](hm:Mem g bx fr w){k:Nat}(h:M g k):k<w.heap.size:=by
 rcases h with hk|⟨c,hk⟩
 ·obtain⟨i,hi⟩:=List.getElem?_of_mem hk
  have hlt:i<bx.length:=by rw[<- hm.bl];exact(List.getElem?_eq_some_iff.1 hi).1
  obtain⟨vs,ty,h1,_⟩:=hm.bat i k _ hi (List.getElem?_eq_getElem hlt)
  exact(Array.getElem?_eq_some_iff.1 h1).1
 ·obtain⟨i,hi⟩:=List.getElem?_of_mem hk
  have hlt:i<fr.length:=by rw[<- hm.tl];exact(List.getElem?_eq_some_iff.1 hi).1
  obtain⟨cur,h1,_⟩:=(hm.tat i k c _ hi (List.getElem?_eq_getElem hlt)).row
  exact(Array.getElem?_eq_some_iff.1 h1).1
theorem Y9 (w:World)(o:Obj){b:Nat}(h:b<w.heap.size)(p:Nat):(w.alloc o).cell? ⟨b,p,none⟩=w.cell? ⟨b,p,none⟩:=
 World.cell?_of_block (w:=w) (Below.heap_alloc w o b h)
theorem Mem.box0 [Known](hm:Mem g bx fr w)(vs:List Value)(cs:List D)(e:TypeId)(hl:D.fits cs vs.length)(hv:∀(j:Nat) (d:D) (v:Value),(D.ex cs)[j]?=some d->vs[j]?=some v->V w g fr d v) :
  Evo ⟨g,fr,w⟩ ⟨⟨g.C,g.ρ++[w.heap.size],g.τ⟩,fr,w.alloc (.cells vs.toArray e)⟩/\Mem ⟨g.C,g.ρ++[w.heap.size],g.τ⟩ (bx++[cs]) fr (w.alloc (.cells vs.toArray e)):=by
 have hevo:Evo ⟨g,fr,w⟩ ⟨⟨g.C,g.ρ++[w.heap.size],g.τ⟩,fr,w.alloc (.cells vs.toArray e)⟩:=by
  refine⟨rfl,rfl,rfl,by simp,fun k hk _=>Below.heap_alloc w _ k hk,fun _ _ h=>h,fun k o h=>Y9 w _ (hm.Clt k o h) o,fun _ _ h=>.inl h,fun i k h=>?_,fun k h=>?_,fun k c h=>.inl ⟨c,h⟩,YK.refl _ _⟩
  ·exact(List.getElem?_append_left (List.getElem?_eq_some_iff.1 h).1).trans h
  ·rcases List.mem_append.1 h with h|h
   ·exact .inl h
   ·simp at h;exact .inr (by simp[h])
 refine⟨hevo,?_⟩
 have hget:∀(i k:Nat),(g.ρ++[w.heap.size])[i]?=some k->g.ρ[i]?=some k\/(i=g.ρ.length/\k=w.heap.size):=fun i k h=>by
  rcases Nat.lt_or_ge i g.ρ.length with hlt|hge
  ·rw[List.getElem?_append_left hlt]at h;exact .inl h
  ·rw[List.getElem?_append_right hge]at h
   have h0:i-g.ρ.length=0:=by have:=(List.getElem?_eq_some_iff.1 h).1;simp at this;omega
   simp[h0]at h
   exact .inr ⟨by omega,h.symm⟩
 constructor
 ·simp[hm.bl]
 ·intro i k cs' h1 h2
  rcases hget i k h1 with h3|⟨rfl,rfl⟩
  ·have hlt:i<bx.length:=by rw[<- hm.bl];exact(List.getElem?_eq_some_iff.1 h3).1
   rw[List.getElem?_append_left hlt]at h2
   obtain⟨us,ty,k1,k2,k3⟩:=hm.bat i k cs' h3 h2
   exact⟨us,ty,(Below.heap_alloc w _ k (Array.getElem?_eq_some_iff.1 k1).1).trans k1,k2,fun j d v hd hv=>(k3 j d v hd hv).evo hevo⟩
  ·rw[List.getElem?_append_right (by rw[hm.bl];exact Nat.le_refl _),hm.bl]at h2
   simp at h2;subst h2
   exact⟨vs.toArray,e,heap_alloc_new w _,by simpa using hl,fun j d v hd hv'=>(hv j d v hd (by simpa using hv')).evo hevo⟩
 ·intro k o hk hC
  rcases List.mem_append.1 hk with h|h
  ·exact hm.bC k o h hC
  ·simp at h;subst h
   have:=hm.Clt _ o hC;omega
 ·intro i j k h1 h2
  have cross:∀ i:Nat,g.ρ[i]?=some k->k=w.heap.size->False:=fun i h3 e=>by
   have:=hm.lt (.inl (List.mem_of_getElem? h3));omega
  rcases hget i k h1 with h3|⟨e3,h3⟩<;>rcases hget j k h2 with h4|⟨e4,h4⟩
  ·exact hm.bN i j k h3 h4
  ·exact(cross i h3 h4).elim
  ·exact(cross j h4 h3).elim
  ·omega
 ·exact hm.tl
 ·intro i k c f h1 h2
  have hT:=hm.tat i k c f h1 h2
  obtain⟨cur,r1,r2⟩:=hT.row
  exact⟨⟨cur,(Below.heap_alloc w _ k (Array.getElem?_eq_some_iff.1 r1).1).trans r1,r2⟩,hT.le,hT.max,hT.pos,hT.far⟩
 ·exact hm.tN
 ·intro k c hk hr
  rcases List.mem_append.1 hr with h|h
  ·exact hm.tρ k c hk h
  ·simp at h;subst h
   have:=hm.lt (.inr ⟨c,hk⟩);omega
 ·intro k o hC
  have:=hm.Clt k o hC
  simp;omega
 ·exact hm.gl.evo hevo
theorem Mem.box [Known](hm:Mem g bx fr w)(vs:List Value)(cs:List D)(e:TypeId)(hl:vs.length=cs.length)(hnr:D.isRow cs=false)(hv:∀(j:Nat) (d:D) (v:Value),cs[j]?=some d->vs[j]?=some v->V w g fr d v) :
  Evo ⟨g,fr,w⟩ ⟨⟨g.C,g.ρ++[w.heap.size],g.τ⟩,fr,w.alloc (.cells vs.toArray e)⟩/\Mem ⟨g.C,g.ρ++[w.heap.size],g.τ⟩ (bx++[cs]) fr (w.alloc (.cells vs.toArray e)):=
 hm.box0 vs cs e (Ki hl hnr) fun j d v hd hv'=>hv j d v (by rw[VN hnr]at hd;exact hd) hv'
def D.cellsOf:D->List D
 | .agg l=>l
 | d=>[d]
def D.one:D->Bool
 | .agg _ | .tup _ | .junk | .row _ _ | .mix _ _=>false
 | _=>true
def D.ones:List D->Bool
 | []=>true
 | d::l=>match d.one with
  | true=>D.ones l
  | false=>false
theorem V.one {d:D}{v:Value}(h:V w g fr d v)(ho:d.one=true):v.oneCell'=true:=by
 cases h<;>first|rfl|simp[D.one]at ho|skip
 exact VE.one ‹_›
theorem Wx:∀ {l:List D} {j:Nat} {d:D},D.ones l=true->l[j]?=some d->d.one=true
 | [],j,d,_,h=>by simp at h
 | x::l,j,d,ho,h=>by
  simp only[D.ones]at ho
  cases hx:x.one with
  | false=>simp[hx]at ho
  | true=>
   simp only[hx]at ho
   cases j with
   | zero=>simp at h;subst h;exact hx
   | succ j=>simp at h;exact Wx ho h
theorem U5 {l:List D}(h:D.ones l=true):D.isRow l=false:=by
 cases hr:D.isRow l with
 | false=>rfl
 | true=>
  rcases VR hr with⟨z,x,rfl⟩ | ⟨z,x,rfl⟩<;>simp[D.ones,D.one]at h
theorem JP (l:List ZK):D.isRow (l.map ZK.d)=false:=by
 cases hr:D.isRow (l.map ZK.d) with
 | false=>rfl
 | true=>
  rcases VR hr with⟨y,x,hx⟩ | ⟨y,x,hx⟩ <;>
  ·cases l with
   | nil=>cases hx
   | cons z l=>
    rw[List.map_cons]at hx
    injection hx with hx _
    cases z<;>cases hx
theorem V.cells {d:D}{v:Value}(h:V w g fr d v)(hne:D.ones d.cellsOf=true):∃ vs:List Value,v.cells=vs.toArray/\vs.length=d.cellsOf.length/\∀(j:Nat) (c:D) (u:Value),d.cellsOf[j]?=some c->vs[j]?=some u->V w g fr c u:=by
 by_cases hd:∃ l,d=.agg l
 ·obtain⟨l,rfl⟩:=hd
  obtain⟨vs,rfl,h2,h3⟩:=V4 h
  exact⟨vs,rfl,h2,h3⟩
 ·have hc:d.cellsOf=[d]:=by cases d<;>first|rfl|exact(hd ⟨_,rfl⟩).elim
  rw[hc]at hne ⊢
  have h1:d.one=true:=Wx hne (j:=0) rfl
  have hv:=h.one h1
  refine⟨[v],?_,rfl,fun j c u hc hu=>?_⟩
  ·cases v<;>first|rfl|simp[Value.oneCell']at hv
  ·cases j with
   | zero=>simp at hc hu;subst hc hu;exact h
   | succ j=>simp at hc
def nfb:List (List D)->Option (List (List D))
 | []=>some []
 | x::l=>match nfs x,nfb l with
  | some x',some l'=>some (x'::l')
  | _,_=>none
theorem Yv:∀ {l l':List (List D)},nfb l=some l'->l=l'
 | [],l',h=>by simpa[nfb]using h
 | x::l,l',h=>by
  cases hx:nfs x with
  | none=>simp[nfb,hx]at h
  | some x'=>
   cases hl:nfb l with
   | none=>simp[nfb,hx,hl]at h
   | some l''=>simp[nfb,hx,hl]at h;rw[<- h,Y7 hx,Yv hl]
theorem GL [Known][Dfr]{x:Operand}{e:TypeId}{d:D}{m:Nat}(hx:nf (ev tm x)=some d)(ho:D.ones d.cellsOf=true)(hb:nfb (bx++[d.cellsOf])=some bx')(hm:bx.length=m)(htd:Nat.blt t n=true)
  (k:AL P ops rest ⟨n,(t,.ptr m 0)::tm,bx',fr,ee⟩ Q):AL P ops (⟨some t,.box e x,ty,pos,after,none⟩::rest) ⟨n,tm,bx,fr,ee⟩ Q:=
 Vj _ htd (fun g a w hi=>by
  have h1:V w g fr (ev tm x) (a.eval x):=hi.ev x
  rw[Yj hx]at h1
  obtain⟨vs,h2,h3,h4⟩:=h1.cells ho
  obtain⟨k1,k2⟩:=hi.mem.box vs d.cellsOf e h3 (U5 ho) h4
  refine⟨.pointer (some ⟨w.heap.size,0,none⟩),_,_,by simp[execOp,Instr.box,newVar,newRow,Sem.run_bind,h2],k1,(Yv hb) ▸ k2,.ptr _ _ _ ?_⟩
  subst hm
  have:=hi.mem.bl
  simp at this
  simp[this]) k
theorem OE [Known][Dfr](hT:chk P T=true){e:TypeId}{ti:Ti}{m:Nat}(ht:tl T e=some ti)(hb:nfb (bx++[ti.zero.map ZK.d])=some bx')(hm:bx.length=m)(htd:Nat.blt t n=true)
  (k:AL P ops rest ⟨n,(t,.ptr m 0)::tm,bx',fr,ee⟩ Q):AL P ops (⟨some t,.alloc e,ty,pos,after,none⟩::rest) ⟨n,tm,bx,fr,ee⟩ Q:=
 Vj _ htd (fun g a w hi=>by
  obtain⟨z,h1,h2⟩:=(ZF hT ht).zero w
  obtain⟨h3,h4⟩:=YX (w:=w) (g:=g) (fr:=fr) h2
  obtain⟨k1,k2⟩:=hi.mem.box z.cells.toList (ti.zero.map ZK.d) e (by simpa using h3) (JP _) (fun j d v hd hv=>(h4 j d v hd hv).1)
  refine⟨.pointer (some ⟨w.heap.size,0,none⟩),_,_,?_,k1,(Yv hb) ▸ k2,.ptr _ _ _ ?_⟩
  ·simp[execOp,Instr.alloc,newVar,newRow,Sem.run_bind,h1]
  ·subst hm
   have:=hi.mem.bl
   simp at this
   simp[this]) k
def YY (cs:List D)(o:Nat)(l:List D):List D:=cs.take o++(l++cs.drop (o+l.length))
theorem OF [Known][Dfr](hT:chk P T=true){x y:Operand}{lt b o:Nat}{cs:List D}{d:D}{ti:Ti}(hx:ev tm x=.ptr b o)(hy:nf (ev tm y)=some d)(ho:D.ones d.cellsOf=true)(ht:tl T lt=some ti)(hs:Nat.beq d.cellsOf.length ti.size=true)(hb:bx[b]?=some cs)
  (hle:Nat.ble (o+d.cellsOf.length) cs.length=true) (hb':nfb (bx.set b (YY cs o d.cellsOf))=some bx')
  (k:AL P ops rest ⟨n,tm,bx',fr,ee⟩ Q):AL P ops (⟨none,.store lt x y,ty,pos,after,none⟩::rest) ⟨n,tm,bx,fr,ee⟩ Q:=
 Kl (fun g a w hi=>by
  have h1:V w g fr (ev tm x) (a.eval x):=hi.ev x
  rw[hx]at h1
  obtain⟨blk,h2,h3⟩:=VC h1
  have hv:V w g fr (ev tm y) (a.eval y):=hi.ev y
  rw[Yj hy]at hv
  obtain⟨vs,q2,q3,q4⟩:=hv.cells ho
  have hm:=hi.mem
  obtain⟨us,ut,r1,r2,r3⟩:=hm.bat0 b blk cs h2 hb
  have hle':=Nat.le_of_ble_eq_true hle
  have hs':=Nat.eq_of_beq_eq_true hs
  have hvs1:∀ v ∈ vs,v.oneCell'=true:=fun v hv=>by
   obtain⟨j,hj⟩:=List.getElem?_of_mem hv
   have hlt:j<d.cellsOf.length:=by rw[<- q3];exact(List.getElem?_eq_some_iff.1 hj).1
   exact(q4 j _ v (List.getElem?_eq_getElem hlt) hj).one (Wx ho (List.getElem?_eq_getElem hlt))
  have hrun:=run_storeCells_at (P:=P) blk o ut vs 0 us w r1 (by omega) hvs1
  have hag:=(ZF hT ht)
  obtain⟨w',hw'⟩:∃ w',w'=w.setRow blk (us.toList.take (o+0)++vs++us.toList.drop (o+0+vs.length)).toArray:=⟨_,rfl⟩
  have hheap:w'.heap[blk]?=some (.cells (us.toList.take (o+0)++vs++us.toList.drop (o+0+vs.length)).toArray ut (0,0)):=by
   rw[hw'];exact setRow_heap w blk us _ ut _ r1
  have hfar:∀ k,k ≠ blk->w'.heap[k]?=w.heap[k]? := fun k hk=>by
   rw[hw'];simp only[World.setRow,Array.getElem?_modify];rw[if_neg (fun e=>hk e.symm)]
  have hsize:w'.heap.size=w.heap.size:=by rw[hw'];simp[World.setRow]
  have hcell:∀ k p,g.C k p->w'.cell? ⟨k,p,none⟩=w.cell? ⟨k,p,none⟩:=fun k p hC=>World.cell?_of_block (w:=w) (hfar k fun e=>by
   subst e;exact hm.bC k p (List.mem_of_getElem? h2) hC)
  have hevo:Evo ⟨g,fr,w⟩ ⟨g,fr,w'⟩:=⟨by rw[hw'];rfl,by rw[hw'];rfl,by rw[hw'];rfl,by rw[hsize];exact Nat.le_refl _,fun k hk hn=>hfar k fun e=>hn (.inl (e ▸ List.mem_of_getElem? h2)),fun _ _ h=>h,hcell,fun _ _ h=>.inl h,fun _ _ h=>h,fun _ h=>.inl h,fun _ c h=>.inl ⟨c,h⟩,YK.refl _ _⟩
  refine⟨w',g,?_,hevo,?_⟩
  ·rw[<- hw']at hrun
   have hsz:(sizeOf lt).run P w=.ok vs.length w:=Z1 (by rw[hag.tSize,q3,hs']) w
   simp[execOp,h3,Instr.storeAt,Instr.sureAddr,storeVar,Sem.run_bind,q2,hsz,hrun]
  ·rw[<- Yv hb']
   constructor
   ·simp[hm.bl]
   ·intro i k cs' e1 e2
    by_cases hib:i=b
    ·subst hib
     rw[h2]at e1
     injection e1 with e1
     subst e1
     have hlt:i<bx.length:=(List.getElem?_eq_some_iff.1 hb).1
     rw[List.getElem?_set_self hlt]at e2
     injection e2 with e2
     subst e2
     cases hr:D.isRow (YY cs o d.cellsOf) with
     | true=>
      have hnil:d.cellsOf=[]:=by
       cases hcl:d.cellsOf with
       | nil=>rfl
       | cons c0 r0=>
        have hc0:c0.one=true:=Wx (j:=0) ho (by rw[hcl];rfl)
        have hmem:c0 ∈ YY cs o d.cellsOf:=by rw[hcl];simp[YY]
        rcases VR hr with⟨z0,l0,hl0⟩ | ⟨z0,l0,hl0⟩ <;>
        ·rw[hl0]at hmem
         simp at hmem;subst hmem
         simp[D.one]at hc0
      have hvn:vs=[]:=List.length_eq_zero_iff.1 (by rw[q3,hnil];rfl)
      have hsp:YY cs o d.cellsOf=cs:=by rw[hnil];simp[YY]
      obtain⟨us2,ut2,p1,p2,p3⟩:=hm.bat i blk cs h2 hb
      rw[r1]at p1
      injection p1 with p1
      injection p1 with p1 p4
      subst p1 p4
      rw[hsp]
      subst hvn
      refine⟨_,ut,hheap,?_,fun j c u hc hu=>?_⟩
      ·simpa using p2
      ·exact(p3 j c u hc (by simpa using hu)).evo hevo
     | false=>
     refine⟨_,ut,hheap,Kh (by simp[YY,q3]<;>omega) hr,fun j c u hc hu=>?_⟩
     rw[VN hr]at hc
     simp only[YY]at hc
     have hu:(us.toList.take o++vs++us.toList.drop (o+vs.length))[j]?=some u:=by simpa using hu
     rw[List.append_assoc]at hu
     have hus:cs.length<=us.toList.length:=by simpa using r2
     rcases Nat.lt_or_ge j o with hjo|hjo
     ·rw[List.getElem?_append_left (by simp;omega),List.getElem?_take,if_pos hjo]at hc hu
      exact(r3 j c u hc (by simpa using hu)).evo hevo
     ·rw[List.getElem?_append_right (by simp;omega)]at hc hu
      simp only[List.length_take,Nat.min_eq_left (show o<=cs.length by omega)]at hc
      simp only[List.length_take,Nat.min_eq_left (show o<=us.toList.length by omega)]at hu
      rcases Nat.lt_or_ge (j-o) vs.length with hj2|hj2
      ·rw[List.getElem?_append_left (by omega)]at hc
       rw[List.getElem?_append_left hj2]at hu
       exact(q4 (j-o) c u hc hu).evo hevo
      ·rw[List.getElem?_append_right (by omega),List.getElem?_drop]at hc
       rw[List.getElem?_append_right hj2,List.getElem?_drop]at hu
       rw[q3]at hu
       exact(r3 _ c u hc (by simpa using hu)).evo hevo
    ·rw[List.getElem?_set_ne (Ne.symm hib)]at e2
     obtain⟨us',ut',t1,t2,t3⟩:=hm.bat i k cs' e1 e2
     have hne:k ≠ blk:=fun e=>by
      subst e
      exact hib (hm.bN i b k e1 h2)
     exact⟨us',ut',(hfar k hne).trans t1,t2,fun j c u hc hu=>(t3 j c u hc hu).evo hevo⟩
   ·exact hm.bC
   ·exact hm.bN
   ·exact hm.tl
   ·intro i k c f e1 e2
    have hTk:=hm.tat i k c f e1 e2
    obtain⟨cur,s1,s2⟩:=hTk.row
    have hne:k ≠ blk:=fun e=>by
     subst e
     exact hm.tρ k c (List.mem_of_getElem? e1) (List.mem_of_getElem? h2)
    exact⟨⟨cur,(hfar k hne).trans s1,s2⟩,hTk.le,hTk.max,hTk.pos,hTk.far⟩
   ·exact hm.tN
   ·exact hm.tρ
   ·intro k p hC
    rw[hsize];exact hm.Clt k p hC
   ·exact hm.gl.evo hevo) k
end
end Go.Av
end
section
open Go.RowKit Go.Pl
namespace Go.Av
def Uni (sz:Nat)(l:List E):Prop:=∀ e ∈ l,e.cells.length=sz
theorem Uni.nil (sz:Nat):Uni sz []:=fun e h=>by cases h
theorem Uni.cons {sz:Nat}{e:E}{l:List E}(h:e.cells.length=sz)(t:Uni sz l):Uni sz (e::l):=fun x hx=>by
 rcases List.mem_cons.1 hx with rfl|hx
 ·exact h
 ·exact t x hx
theorem Uni.append {sz:Nat}{l l':List E}(h:Uni sz l)(h':Uni sz l'):Uni sz (l++l'):=fun x hx=>(List.mem_append.1 hx).elim (h x) (h' x)
theorem Uni.map {α:Type}{sz:Nat}{f:α->E}(h:∀ x,(f x).cells.length=sz)(l:List α):Uni sz (l.map f):=fun x hx=>by
 obtain⟨y,_,rfl⟩:=List.mem_map.1 hx
 exact h y
theorem Uni.sub {sz:Nat}{l l':List E}(h:Uni sz l)(hs:∀ e ∈ l',e ∈ l):Uni sz l':=fun x hx=>h x (hs x hx)
theorem Uni.flat {sz:Nat}{l:List E}(h:Uni sz l):(flat l).length=l.length*sz:=by
 induction l with
 | nil=>simp
 | cons e l ih=>
  simp only[YE,List.length_append,List.length_cons]
  rw[h e (by simp),ih fun x hx=>h x (by simp[hx]),Nat.add_mul]
  omega
theorem Uni.at_ {sz:Nat}:∀ {l:List E} {i:Nat} {e:E},Uni sz l->l[i]?=some e->∀ j,j<sz->(Go.Av.flat l)[i*sz+j]?=e.cells[j]?
 | [],i,e,_,hi,j,hj=>by simp at hi
 | x::l,0,e,h,hi,j,hj=>by
  simp at hi;subst hi
  simp only[YE,Nat.zero_mul,Nat.zero_add]
  rw[List.getElem?_append_left (by rw[h x (by simp)];exact hj)]
 | x::l,i+1,e,h,hi,j,hj=>by
  simp at hi
  have:=Uni.at_ (l:=l) (fun x hx=>h x (by simp[hx])) hi j hj
  rw[YE,List.getElem?_append_right (by rw[h x (by simp),Nat.add_mul];omega),h x (by simp),Nat.add_mul]
  rw[<- this];congr 1;omega
theorem Uni.drop_flat {sz:Nat}:∀ {l:List E} (k:Nat),Uni sz l->Go.Av.flat (l.drop k)=(Go.Av.flat l).drop (k*sz)
 | l,0,h=>by simp
 | [],k+1,h=>by simp
 | x::l,k+1,h=>by
  rw[List.drop_succ_cons,YE,Uni.drop_flat k (fun x hx=>h x (by simp[hx])),Nat.add_mul,Nat.one_mul,Nat.add_comm,<- List.drop_drop]
  congr 1
  rw[List.drop_append_of_le_length (by rw[h x (by simp)];exact Nat.le_refl _),List.drop_of_length_le (by rw[h x (by simp)];exact Nat.le_refl _),List.nil_append]
theorem Uni.take_flat {sz:Nat}:∀ {l:List E} (k:Nat),Uni sz l->Go.Av.flat (l.take k)=(Go.Av.flat l).take (k*sz)
 | l,0,h=>by simp
 | [],k+1,h=>by simp
 | x::l,k+1,h=>by
  have hx:=h x (by simp)
  rw[List.take_succ_cons,YE,YE,Uni.take_flat k (fun x hx=>h x (by simp[hx])),Nat.add_mul,Nat.one_mul,List.take_append,hx,List.take_of_length_le (l:=x.cells) (by rw[hx];omega),show k*sz+sz-sz=k*sz from by omega]

section
variable {P:Program} {Q:X->St->Prop} {n:Nat} {ee:Nat × Nat} {tm:List (Nat × D)} {bx bx':List (List D)} {fr fr':List Fr} {b0:Bs} {g:G} {w:World} {a:Act} {T:Tab}
variable {ops:Array Oper} {rest:List Oper} {t ty:Nat} {pos:String} {after:Array Edge}
def G.row (g:G)(w:World)(m cap:Nat):G:=⟨fun b o=>g.C b o\/(b=w.heap.size/\o<m),g.ρ,g.τ++[(w.heap.size,cap)]⟩
theorem Mem.row [Known](hm:Mem g bx fr w)(cur:List Value)(l:List E)(cap sz:Nat)(e:TypeId)(hsz:0<sz)(hcur:cur.length=cap*sz)(hl:l.length<=cap)(hcap:cap<=maxLen)(hU:Uni sz l)
  (hv:∀(j:Nat) (x:E) (u:Value),(flat l)[j]?=some x->cur[j]?=some u->VE w g.C x u) :
  Evo ⟨g,fr,w⟩ ⟨g.row w (l.length*sz) cap,fr++[⟨l.length,sz,e⟩],w.alloc (.cells cur.toArray e)⟩/\Mem (g.row w (l.length*sz) cap) bx (fr++[⟨l.length,sz,e⟩]) (w.alloc (.cells cur.toArray e)) /\
   V (w.alloc (.cells cur.toArray e)) (g.row w (l.length*sz) cap) (fr++[⟨l.length,sz,e⟩]) (.sl (.own fr.length) l) (.slice (some ⟨w.heap.size,0,none⟩) l.length cap):=by
 have hevo:Evo ⟨g,fr,w⟩ ⟨g.row w (l.length*sz) cap,fr++[⟨l.length,sz,e⟩],w.alloc (.cells cur.toArray e)⟩:=by
  refine⟨rfl,rfl,rfl,by simp,fun k hk _=>Below.heap_alloc w _ k hk,fun _ _ h=>.inl h,fun k o h=>Y9 w _ (hm.Clt k o h) o,fun k o h=>?_,fun _ _ h=>h,fun _ h=>.inl h,fun k c h=>?_,fun i f hf=>?_⟩
  ·rcases h with h|⟨h,_⟩
   ·exact .inl h
   ·exact .inr (.inl (by simp[h]))
  ·rcases List.mem_append.1 h with h|h
   ·exact .inl ⟨c,h⟩
   ·simp at h;exact .inr (by simp[h.1])
  ·have hlt:=(List.getElem?_eq_some_iff.1 hf).1
   refine⟨f,by rw[List.getElem?_append_left hlt];exact hf,Nat.le_refl _,fun _=>?_⟩
   show(g.τ++[(w.heap.size,cap)])[i]?=g.τ[i]?
   rw[List.getElem?_append_left (by rw[hm.tl];exact hlt)]
 have hflat:=hU.flat
 have hle:l.length*sz<=cap*sz:=Nat.mul_le_mul_right _ hl
 have hnew:(w.alloc (.cells cur.toArray e)).heap[w.heap.size]?=some (.cells cur.toArray e (0,0)):=heap_alloc_new w _
 have hτ:(g.τ++[(w.heap.size,cap)])[fr.length]?=some (w.heap.size,cap):=by
  rw[List.getElem?_append_right (by rw[hm.tl];exact Nat.le_refl _),hm.tl];simp
 refine⟨hevo,?_,?_⟩
 ·constructor
  ·exact hm.bl
  ·intro i k cs h1 h2
   obtain⟨us,ut,k1,k2,k3⟩:=hm.bat i k cs h1 h2
   exact⟨us,ut,(Below.heap_alloc w _ k (Array.getElem?_eq_some_iff.1 k1).1).trans k1,k2,fun j d v hd hv=>(k3 j d v hd hv).evo hevo⟩
  ·intro k o hk hC
   rcases hC with hC|⟨hC,_⟩
   ·exact hm.bC k o hk hC
   ·have:=hm.lt (.inl hk);omega
  ·exact hm.bN
  ·simp[G.row,hm.tl]
  ·intro i k c f h1 h2
   rcases Nat.lt_or_ge i fr.length with hlt|hge
   ·have h1:g.τ[i]?=some (k,c):=by
     have:=h1;simp only[G.row]at this
     rwa [List.getElem?_append_left (by rw[hm.tl];exact hlt)]at this
    rw[List.getElem?_append_left hlt]at h2
    have hTk:=hm.tat i k c f h1 h2
    obtain⟨cur',s1,s2⟩:=hTk.row
    have hklt:=(Array.getElem?_eq_some_iff.1 s1).1
    refine⟨⟨cur',(Below.heap_alloc w _ k hklt).trans s1,s2⟩,hTk.le,hTk.max,hTk.pos,fun o ho hC=>?_⟩
    rcases hC with hC|⟨hC,_⟩
    ·exact hTk.far o ho hC
    ·omega
   ·have hi:i=fr.length:=by
     have:=(List.getElem?_eq_some_iff.1 h2).1;simp at this;omega
    subst hi
    simp only[G.row]at h1
    rw[hτ]at h1
    injection h1 with h1
    injection h1 with h1 h3
    subst h1 h3
    rw[List.getElem?_append_right (Nat.le_refl _)]at h2
    simp at h2;subst h2
    refine⟨⟨cur.toArray,hnew,by simpa using hcur⟩,hl,hcap,hsz,fun o ho hC=>?_⟩
    rcases hC with hC|⟨_,hC⟩
    ·have:=hm.Clt _ o hC;omega
    ·have ho:l.length*sz<=o:=ho
     omega
  ·intro i j k c c' h1 h2
   have hget:∀(i:Nat) (c:Nat),(g.row w (l.length*sz) cap).τ[i]?=some (k,c)->g.τ[i]?=some (k,c)\/(i=g.τ.length/\k=w.heap.size):=fun i c h=>by
    simp only[G.row]at h
    rcases Nat.lt_or_ge i g.τ.length with hlt|hge
    ·rw[List.getElem?_append_left hlt]at h;exact .inl h
    ·have:=(List.getElem?_eq_some_iff.1 h).1
     simp at this
     have hi:i=g.τ.length:=by omega
     subst hi
     rw[List.getElem?_append_right (Nat.le_refl _)]at h
     simp at h
     exact .inr ⟨rfl,h.1.symm⟩
   have cross:∀(i c:Nat),g.τ[i]?=some (k,c)->k=w.heap.size->False:=fun i c h3 e=>by
    have:=hm.lt (.inr ⟨c,List.mem_of_getElem? h3⟩);omega
   rcases hget i c h1 with h3|⟨e3,h3⟩<;>rcases hget j c' h2 with h4|⟨e4,h4⟩
   ·exact hm.tN i j k c c' h3 h4
   ·exact(cross i c h3 h4).elim
   ·exact(cross j c' h4 h3).elim
   ·omega
  ·intro k c hk hr
   rcases List.mem_append.1 hk with h|h
   ·exact hm.tρ k c h hr
   ·simp at h
    have:=hm.lt (.inl hr);omega
  ·intro k o hC
   rcases hC with hC|⟨hC,_⟩
   ·have:=hm.Clt k o hC;simp;omega
   ·simp[hC]
  ·exact hm.gl.evo hevo
 ·have hVE:VE (w.alloc (.cells cur.toArray e)) (g.row w (l.length*sz) cap).C (.sl l) (.slice (some ⟨w.heap.size,0,none⟩) l.length cap):=by
   refine .slC l w.heap.size 0 cap (fun j=>cur.getD j undef) hl hcap (fun j hj=>.inr ⟨rfl,by rw[hflat]at hj;omega⟩) (fun j hj=>?_) (fun j x hx=>?_)
   ·rw[cell_of_row _ _ _ _ _ _ hnew]
    have:j<cur.length:=by omega
    simp[List.getD,this]
   ·have hj:=(List.getElem?_eq_some_iff.1 hx).1
    have hlt:j<cur.length:=by omega
    refine(hv j x _ hx (by rw[List.getElem?_eq_getElem hlt];simp[List.getD,hlt])).mono (fun _ _ h=>.inl h) fun k o h=>Y9 w _ (hm.Clt k o h) o
  refine .sl _ _ _ hVE ?_
  refine⟨⟨l.length,sz,e⟩,by simp,Nat.le_refl _,fun _=>⟨w.heap.size,cap,rfl,hτ⟩⟩
end
end Go.Av
end

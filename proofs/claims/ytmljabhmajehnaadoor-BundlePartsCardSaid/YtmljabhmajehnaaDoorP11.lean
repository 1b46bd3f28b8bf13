/- Items: which may be, their bytes, their reading; plain laws, no program in sight. -/
import Derived.Test.YtmljabhmajehnaaDoorP10
import Derived.Test.YtmljabhmajehnaaDoorP09
set_option linter.unusedVariables false
set_option linter.unusedSimpArgs false
section
open Go.RowKit Go.Pl
namespace Go.Proofs.YtmljabhmajehnaaDoor
def inB (c lo hi:Nat):Bool:=decide (lo<=c)&&decide (c<=hi)
def ptN (c:Nat):Nat:=if c<128 then 1 else if inB c 194 223 then 2 else if inB c 224 239 then 3 else if inB c 240 244 then 4 else 0
def YZ (c:Nat):Nat:=if c=224 then 160 else if c=240 then 144 else 128
def Y0 (c:Nat):Nat:=if c=237 then 159 else if c=244 then 143 else 191
def pt:List UInt8->Nat
 | []=>0
 | c::r=>match ptN c.toNat with
  | 1=>1
  | 2=>(match r with|c1::_=>if inB c1.toNat (YZ c.toNat) (Y0 c.toNat) then 2 else 0|_=>0)
  | 3=>(match r with|c1::c2::_=>if inB c1.toNat (YZ c.toNat) (Y0 c.toNat)&&inB c2.toNat 128 191 then 3 else 0|_=>0)
  | 4=>(match r with|c1::c2::c3::_=>if inB c1.toNat (YZ c.toNat) (Y0 c.toNat)&&(inB c2.toNat 128 191&&inB c3.toNat 128 191) then 4 else 0|_=>0)
  | _=>0
def Uy:Nat->List UInt8->Bool
 | _,[]=>true
 | 0,_=>false
 | f+1,c::r=>match pt (c::r) with
  | 0=>false
  | k+1=>Uy f (r.drop k)
def ZD (b:List UInt8):Bool:=Uy b.length b
theorem Jm:∀(f g:Nat) (b:List UInt8),b.length<=f->b.length<=g->Uy f b=Uy g b
 | _,_,[],_,_=>by simp[Uy]
 | 0,_,c::r,h,_=>by simp at h
 | _+1,0,c::r,_,h=>by simp at h
 | f+1,g+1,c::r,h1,h2=>by
  simp only[Uy]
  split
  ·rfl
  ·rename_i k _
   simp at h1 h2
   exact Jm f g _ (by simp;omega) (by simp;omega)
theorem Yp (c:UInt8)(r:List UInt8):ZD (c::r)=match pt (c::r) with|0=>false|k+1=>ZD (r.drop k):=by
 show Uy (r.length+1) (c::r)=_
 rw[Uy]
 split
 ·rfl
 ·exact Jm _ _ _ (by simp) (Nat.le_refl _)
theorem Lj (b:List UInt8):pt b<=b.length:=by
 unfold pt
 repeat' split
 all_goals simp
theorem GX (a b:List UInt8)(h:pt a ≠ 0):pt (a++b)=pt a:=by
 match a with
 | []=>simp[pt]at h
 | [c]=>simp only[pt]at h ⊢;revert h;simp only[List.singleton_append,List.cons_append,List.nil_append];split<;>simp
 | [c,c1]=>simp only[pt]at h ⊢;revert h;simp only[List.cons_append,List.nil_append];split<;>simp
 | [c,c1,c2]=>simp only[pt]at h ⊢;revert h;simp only[List.cons_append,List.nil_append];split<;>simp
 | c::c1::c2::c3::r=>simp only[pt,List.cons_append]
theorem U6:∀(n:Nat) (a b:List UInt8),a.length<=n->ZD a=true->ZD (a++b)=ZD b
 | n,[],b,_,_=>rfl
 | 0,c::r,b,h,_=>by simp at h
 | n+1,c::r,b,h,ha=>by
  rw[Yp]at ha
  have hp:pt (c::r) ≠ 0:=by intro e;rw[e]at ha;simp at ha
  have hl:=Lj (c::r)
  rw[List.cons_append,Yp,<- List.cons_append,GX _ _ hp]
  obtain⟨k,hk⟩:∃ k,pt (c::r)=k+1:=⟨pt (c::r)-1,by omega⟩
  rw[hk]at ha hl ⊢
  simp at h hl ha ⊢
  rw[List.drop_append_of_le_length (by omega)]
  exact U6 n _ b (by simp;omega) ha
inductive It where
 | mk (k:Int) (n:Nat) (b:List UInt8) (l:List It)
 deriving Inhabited
def It.k:It->Int | .mk k _ _ _=>k
def It.n:It->Nat | .mk _ n _ _=>n
def It.b:It->List UInt8 | .mk _ _ b _=>b
def It.l:It->List It | .mk _ _ _ l=>l
mutual
def It.beq:It->It->Bool
 | .mk k n b l,.mk k' n' b' l'=>(k==k')&&((n==n')&&((b==b')&&It.beqs l l'))
def It.beqs:List It->List It->Bool
 | [],[]=>true
 | x::l,y::l'=>match It.beq x y with|true=>It.beqs l l' | false=>false
 | _,_=>false
end
mutual
theorem It.beq_iff:∀ {x y:It},It.beq x y=true ↔ x=y
 | .mk k n b l,.mk k' n' b' l'=>by
  simp only[It.beq,Bool.and_eq_true,beq_iff_eq,It.mk.injEq]
  rw[It.beqs_iff]
theorem It.beqs_iff:∀ {l l':List It},It.beqs l l'=true ↔ l=l'
 | [],[]=>by simp[It.beqs]
 | [],y::l'=>by simp[It.beqs]
 | x::l,[]=>by simp[It.beqs]
 | x::l,y::l'=>by
  simp only[It.beqs,List.cons.injEq]
  cases h:It.beq x y with
  | true=>simp only[It.beq_iff.1 h,true_and];exact It.beqs_iff
  | false=>simp only[Bool.false_eq_true,false_iff,not_and];intro e;rw[It.beq_iff.2 e]at h;cases h
end
instance:DecidableEq It:=fun x y=>if h:It.beq x y=true then .isTrue (It.beq_iff.1 h) else .isFalse fun e=>h (It.beq_iff.2 e)
def W7 (k:Int)(n:Nat)(b:List UInt8)(l:List It):Bool:=
 if k=0 then b.isEmpty&&l.isEmpty else if k=2 then decide (n=0)&&l.isEmpty else if k=3 then decide (n=0)&&(l.isEmpty&&ZD b) else if k=4 then decide (n=0)&&b.isEmpty else false
mutual
def YS:It->Nat->Nat->Option Nat
 | .mk k n b l,d,m=>if 6<d then none else if m<1 then none else match W7 k n b l with
  | false=>none
  | true=>Yc l (d+1) (m-1)
def Yc:List It->Nat->Nat->Option Nat
 | [],_,m=>some m
 | y::l,d,m=>match YS y d m with
  | none=>none
  | some r=>Yc l d r
end
def ZI (x:It):Bool:=(YS x 1 256).isSome
mutual
def wfI:It->Prop
 | .mk _ n b l=>n<18446744073709551616/\b.length<=140737488351232/\l.length<=2199023255488/\wfs l
def wfs:List It->Prop
 | []=>True
 | x::l=>wfI x/\wfs l
end
def It.hn:It->Nat | .mk k n b l=>if k=2 then b.length else if k=3 then b.length else if k=4 then l.length else n
mutual
def ZM:It->List UInt8
 | .mk k n b l=>(if ZZ (k,(It.mk k n b l).hn,false) then ZQ (k,(It.mk k n b l).hn,false) else [])++(b++ZH l)
def ZH:List It->List UInt8
 | []=>[]
 | x::l=>ZM x++ZH l
end
abbrev Res (α:Type):=Except Nat α
def rdS:List UInt8->Res (Hd × List UInt8)
 | []=>.error 8
 | c::r=>
  if c.toNat % 32<24 then .ok (((c.toNat/32:Nat),c.toNat % 32,false),r)
  else if c.toNat % 32=31/\UY (c.toNat/32:Nat)=true then .ok (((c.toNat/32:Nat),0,true),r)
  else if 27<c.toNat % 32 then .error 3
  else if r.length<2 ^ (c.toNat % 32-24) then .error 8
  else .ok (((c.toNat/32:Nat),Wl (r.take (2 ^ (c.toNat % 32-24))),false),r.drop (2 ^ (c.toNat % 32-24)))
def Wh (h:Hd)(s:List UInt8):Res (List UInt8 × List UInt8):=
 if h.2.1<=s.length then(if h.1=3/\ZD (s.take h.2.1)=false then .error 3 else .ok (s.take h.2.1,s.drop h.2.1)) else .error 8
def Ub:List UInt8->Bool
 | c::_=>c==255
 | []=>false
def JQ (m:Int):Nat->List UInt8->List UInt8->Res (List UInt8 × List UInt8)
 | 0,_,_=>.error 99
 | f+1,acc,s=>match Ub s with
  | true=>.ok (acc,s.tail)
  | false=>match rdS s with
   | .error e=>.error e
   | .ok (p,r)=>if p.1=m/\p.2.2=false then(match Wh p r with
     | .error e=>.error e
     | .ok (c,r2)=>JQ m f (acc++c) r2) else .error 3
def UZ (it:Nat->List UInt8->Res (It × List UInt8 × Nat)):Nat->List It->Nat->List UInt8->Res (List It × List UInt8 × Nat)
 | 0,acc,m,s=>.ok (acc,s,m)
 | f+1,acc,m,s=>match it m s with
  | .error e=>.error e
  | .ok (x,r,m')=>UZ it f (acc++[x]) m' r
def QD (it:Nat->List UInt8->Res (It × List UInt8 × Nat)):Nat->List It->Nat->List UInt8->Res (List It × List UInt8 × Nat)
 | 0,_,_,_=>.error 99
 | f+1,acc,m,s=>match Ub s with
  | true=>.ok (acc,s.tail,m)
  | false=>match it m s with
   | .error e=>.error e
   | .ok (x,r,m')=>QD it f (acc++[x]) m' r
def okK (k:Int):Bool:=k==0||(k==2||(k==3||k==4))
def QE (h:Hd)(r:List UInt8):Res (List UInt8 × List UInt8):=match h.2.2 with
 | true=>JQ h.1 (r.length+1) [] r
 | false=>Wh h r
def Ju (it:Nat->List UInt8->Res (It × List UInt8 × Nat))(h:Hd)(m:Nat)(r:List UInt8):Res (List It × List UInt8 × Nat):=match h.2.2 with
 | true=>QD it (r.length+1) [] m r
 | false=>if h.2.1<=r.length then UZ it h.2.1 [] m r else .error 8
def Wm (it:Nat->List UInt8->Res (It × List UInt8 × Nat))(h:Hd)(m:Nat)(r:List UInt8):Res (It × List UInt8 × Nat):=
 if h.1=0 then .ok (.mk 0 h.2.1 [] [],r,m)
 else if h.1=4 then(match Ju it h m r with
  | .error e=>.error e
  | .ok (l,r2,m2)=>.ok (.mk 4 0 [] l,r2,m2))
 else match QE h r with
  | .error e=>.error e
  | .ok (c,r2)=>.ok (.mk h.1 0 c [],r2,m)
def ZT:Nat->Nat->List UInt8->Res (It × List UInt8 × Nat)
 | 0,m,s=>match rdS s with
  | .error e=>.error e
  | .ok (h,r)=>if okK h.1=false then .error 3 else .error 9
 | d+1,m,s=>match rdS s with
  | .error e=>.error e
  | .ok (h,r)=>if okK h.1=false then .error 3 else if m=0 then .error 2 else Wm (ZT d) h (m-1) r
def Ym (b:List UInt8)(p:Int):It × Nat × Nat:=
 if p<0\/(b.length:Int)<p then(.mk 0 0 [] [],0,1) else match ZT 6 256 (b.drop p.toNat) with
  | .error e=>(.mk 0 0 [] [],0,e)
  | .ok (x,r,_)=>(x,b.length-r.length,0)
def Wx (b:List UInt8):Bool:=match ZT 6 256 b with
 | .error _=>false
 | .ok (x,r,_)=>r.isEmpty&&ZM x==b
end Go.Proofs.YtmljabhmajehnaaDoor
end
section
open Go.RowKit Go.Pl
namespace Go.Proofs.YtmljabhmajehnaaDoor
theorem JR {s r:List UInt8}{h:Hd}(e:rdS s=.ok (h,r)):∃ pre,s=pre++r/\0<pre.length:=by
 cases s with
 | nil=>simp[rdS]at e
 | cons c t=>
  simp only[rdS]at e
  split at e
  ·injection e with e;injection e with e1 e2;subst e2;exact⟨[c],rfl,by simp⟩
  split at e
  ·injection e with e;injection e with e1 e2;subst e2;exact⟨[c],rfl,by simp⟩
  split at e
  ·cases e
  split at e
  ·cases e
  ·injection e with e;injection e with e1 e2;subst e2
   exact⟨c::t.take (2 ^ (c.toNat % 32-24)),by simp,by simp⟩
theorem Q6 (b:List UInt8)(p:Nat)(hp:p<=b.length):Yz b p=match rdS (b.drop p) with
  | .error e=>((0,0,false),0,e)
  | .ok (h,r)=>(h,b.length-r.length,0):=by
 unfold Yz
 have hl:(b.drop p).length=b.length-p:=List.length_drop ..
 cases hs:b.drop p with
 | nil=>simp[rdS]
 | cons c r=>
  rw[hs]at hl
  simp at hl
  simp only[rdS]
  by_cases h1:c.toNat % 32<24
  ·simp[h1];omega
  by_cases h2:c.toNat % 32=31/\UY (c.toNat/32:Nat)=true
  ·rw[if_neg h1,if_pos h2,if_neg h1,if_pos h2]
   simp;omega
  by_cases h3:27<c.toNat % 32
  ·rw[if_neg h1,if_neg h2,if_pos h3,if_neg h1,if_neg h2,if_pos h3]
  by_cases h4:r.length<2 ^ (c.toNat % 32-24)
  ·rw[if_neg h1,if_neg h2,if_neg h3,if_pos h4,if_neg h1,if_neg h2,if_neg h3,if_pos h4]
  ·rw[if_neg h1,if_neg h2,if_neg h3,if_neg h4,if_neg h1,if_neg h2,if_neg h3,if_neg h4]
   generalize 2 ^ (c.toNat % 32-24)=k at h4 ⊢
   simp;omega
theorem XQ (h:Hd)(hr:ZZ h=true)(hn:h.2.1<18446744073709551616)(s:List UInt8):rdS (ZQ h++s)=.ok (h,s):=by
 have e:=Ir h hr hn [] s
 simp only[List.nil_append,List.length_nil,Nat.zero_add]at e
 rw[Q6 _ 0 (Nat.zero_le _),List.drop_zero]at e
 cases hx:rdS (ZQ h++s) with
 | error c => rw [hx] at e; simp at e; have := e.2.1; have := YD h hr; have : 0 < Uo h := by unfold Uo; rw [if_pos hr]; split <;> omega
              omega
 | ok y=>
  obtain⟨h',r⟩:=y
  rw[hx]at e
  simp only[Prod.mk.injEq,and_true]at e
  obtain⟨e1,e2⟩:=e
  obtain⟨pre,hp,_⟩:=JR hx
  have hl:=congrArg List.length hp
  simp at hl e2
  have:pre.length=(ZQ h).length:=by omega
  have:=List.append_inj hp this.symm
  rw[<- this.2,e1]
theorem KI {s r:List UInt8}{h:Hd}(e:rdS s=.ok (h,r)):ZZ h=true/\h.2.1<18446744073709551616/\∃ pre,s=pre++r/\(ZQ h).length<=pre.length/\0<pre.length:=by
 have e0:=Q6 s 0 (Nat.zero_le _)
 rw[List.drop_zero,e]at e0
 dsimp only at e0
 have w:=Is s 0 (by rw[e0])
 have bd:=Ok s 0
 rw[e0]at w bd
 obtain⟨pre,hp,h0⟩:=JR e
 have hl:=congrArg List.length hp
 simp at hl
 exact⟨w.1,bd.2.1,pre,hp,by have:=w.2.1;dsimp only at this;omega,h0⟩
theorem Nu (h:Hd)(hr:ZZ h=true)(hn:h.2.1<18446744073709551616)(c:Nat)(hc:c<(ZQ h).length):rdS ((ZQ h).take c)=.error 8:=by
 cases c with
 | zero=>rfl
 | succ c=>
  obtain⟨m,n,o⟩:=h
  obtain⟨hm0,hm7⟩:=Jl hr
  cases o with
  | true=>simp[ZQ]at hc
  | false=>
   have hw:ZQ (m,n,false)=WS m.toNat (Yr n)::beN n (ZC n):=rfl
   rw[hw]at hc ⊢
   simp only[List.length_cons,Yx]at hc
   dsimp only at hm0 hm7 hn
   rw[List.take_succ_cons]
   have hi:=Oj n
   have ht:(WS m.toNat (Yr n)).toNat=32*m.toNat+Yr n:=YY _ _ (by omega) (by omega)
   rcases QB n hn with⟨_,hf,_⟩ | ⟨_,hf,h24,h27,_⟩
   ·omega
   ·simp only[rdS,ht]
    have e:(32*m.toNat+Yr n) % 32=Yr n:=by omega
    rw[e,if_neg (by omega),if_neg (by omega),if_neg (by omega),if_pos]
    rw[List.length_take,Yx,<- hf]
    omega
theorem JS {k:Int}{n:Nat}{b:List UInt8}{l:List It}(h:W7 k n b l=true):(k=0/\b=[]/\l=[])\/(k=2/\n=0/\l=[])\/(k=3/\n=0/\l=[]/\ZD b=true)\/(k=4/\n=0/\b=[]):=by
 unfold W7 at h
 by_cases h0:k=0
 ·simp[h0]at h;exact .inl ⟨h0,h⟩
 by_cases h2:k=2
 ·simp[h2]at h;exact .inr (.inl ⟨h2,h⟩)
 by_cases h3:k=3
 ·simp[h3]at h;exact .inr (.inr (.inl ⟨h3,h⟩))
 by_cases h4:k=4
 ·simp[h4]at h;exact .inr (.inr (.inr ⟨h4,h⟩))
 ·simp[h0,h2,h3,h4]at h
theorem Tc {x:It}(h:0<=x.k/\x.k<=7):0<(ZM x).length:=by
 obtain⟨k,n,b,l⟩:=x
 simp only[It.k]at h
 have hr:ZZ (k,(It.mk k n b l).hn,false)=true:=by simp[ZZ];exact h
 rw[ZM,if_pos hr,List.length_append,YD _ hr]
 unfold Uo;rw[if_pos hr];simp;omega
theorem VV {k:Int}{n:Nat}{b:List UInt8}{l:List It}{d m m':Nat}(h:YS (.mk k n b l) d m=some m'):d<=6/\1<=m/\W7 k n b l=true/\Yc l (d+1) (m-1)=some m':=by
 rw[YS]at h
 split at h
 ·cases h
 split at h
 ·cases h
 split at h
 ·cases h
 ·rename_i h3;exact⟨by omega,by omega,h3,h⟩
theorem Jy {k:Int}{n:Nat}{b:List UInt8}{l:List It}(h:W7 k n b l=true):0<=k/\k<=7:=by
 rcases JS h with⟨h,_⟩ | ⟨h,_⟩ | ⟨h,_⟩ | ⟨h,_⟩<;>omega
theorem Wo {x:It}{l:List It}{d m m':Nat}(h:Yc (x::l) d m=some m'):∃ m1,YS x d m=some m1/\Yc l d m1=some m':=by
 rw[Yc]at h
 split at h
 ·cases h
 ·rename_i m1 h1;exact⟨m1,h1,h⟩
theorem JT:∀ {l:List It} {d m m':Nat},Yc l d m=some m'->l.length<=(ZH l).length
 | [],_,_,_,_=>by simp
 | x::l,d,m,m',h=>by
  obtain⟨m1,h1,h2⟩:=Wo h
  have:=JT h2
  obtain⟨k,n,b,lx⟩:=x
  have:=Tc (x:=.mk k n b lx) (Jy (VV h1).2.2.1)
  rw[ZH];simp;omega
theorem Gc {k:Int}{n:Nat}{b:List UInt8}{l:List It}(h:W7 k n b l=true):okK k=true:=by
 rcases JS h with⟨h,_⟩ | ⟨h,_⟩ | ⟨h,_⟩ | ⟨h,_⟩<;>subst h<;>rfl
theorem Ol {k:Int}{n:Nat}{b:List UInt8}{l:List It}(h:W7 k n b l=true)(hw:wfI (.mk k n b l)):ZZ (k,(It.mk k n b l).hn,false)=true/\(It.mk k n b l).hn<18446744073709551616:=by
 refine⟨by simp[ZZ];exact Jy h,?_⟩
 obtain⟨h1,h2,h3,_⟩:=hw
 rcases JS h with⟨h,_⟩ | ⟨h,_⟩ | ⟨h,_⟩ | ⟨h,_⟩<;>subst h<;>simp[It.hn]<;>omega
mutual
theorem QF:∀(x:It) (d m m':Nat) (r:List UInt8),wfI x->d<=6->YS x (7-d) m=some m'->ZT d m (ZM x++r)=.ok (x,r,m')
 | .mk k n b l,d,m,m',r,hw,hd,h=>by
  obtain⟨h1,h2,h3,h4⟩:=VV h
  obtain⟨hr,hn⟩:=Ol h3 hw
  obtain⟨d,rfl⟩:∃ e,d=e+1:=⟨d-1,by omega⟩
  have e7:7-(d+1)+1=7-d:=by omega
  rw[e7]at h4
  rw[ZM,if_pos hr,List.append_assoc,ZT,XQ _ hr hn]
  dsimp only
  rw[Gc h3,if_neg (by simp),if_neg (by omega)]
  obtain⟨w1,w2,w3,w4⟩:=hw
  rcases JS h3 with⟨rfl,rfl,rfl⟩ | ⟨rfl,rfl,rfl⟩ | ⟨rfl,rfl,rfl,hv⟩ | ⟨rfl,rfl,rfl⟩
  ·simp only[Yc,Option.some.injEq]at h4
   simp[Wm,ZH,It.hn,h4]
  ·simp only[Yc,Option.some.injEq]at h4
   simp[Wm,ZH,It.hn,QE,Wh,h4]
  ·simp only[Yc,Option.some.injEq]at h4
   simp[Wm,ZH,It.hn,QE,Wh,h4,hv]
  ·have hl:=JT h4
   have hq:=Om l d (m-1) m' [] r w4 (by omega) h4
   show Wm (ZT d) (4,l.length,false) (m-1) ([]++ZH l++r)=_
   rw[Wm,if_neg (by simp),if_pos rfl]
   simp only[Ju,List.nil_append]
   rw[if_pos (by rw[List.length_append];omega),hq]
   rfl
theorem Om:∀(l:List It) (d m m':Nat) (acc:List It) (r:List UInt8),wfs l->d<=6->Yc l (7-d) m=some m'->UZ (ZT d) l.length acc m (ZH l++r)=.ok (acc++l,r,m')
 | [],d,m,m',acc,r,_,_,h=>by
  simp only[Yc,Option.some.injEq]at h
  simp[UZ,ZH,h]
 | x::l,d,m,m',acc,r,hw,hd,h=>by
  obtain⟨m1,h1,h2⟩:=Wo h
  rw[ZH,List.append_assoc,List.length_cons,UZ,QF x d m m1 _ hw.1 hd h1]
  dsimp only
  rw[Om l d m1 m' (acc++[x]) r hw.2 hd h2]
  simp
end
mutual
theorem Td:∀(x:It) (d m m' c:Nat),wfI x->d<=6->YS x (7-d) m=some m'->c<(ZM x).length->ZT d m ((ZM x).take c)=.error 8
 | .mk k n b l,d,m,m',c,hw,hd,h,hc=>by
  obtain⟨h1,h2,h3,h4⟩:=VV h
  obtain⟨hr,hn⟩:=Ol h3 hw
  obtain⟨d,rfl⟩:∃ e,d=e+1:=⟨d-1,by omega⟩
  have e7:7-(d+1)+1=7-d:=by omega
  rw[e7]at h4
  rw[ZM,if_pos hr]at hc ⊢
  rw[ZT]
  rcases Nat.lt_or_ge c (ZQ (k,(It.mk k n b l).hn,false)).length with hlt|hge
  ·rw[List.take_append_of_le_length (by omega),Nu _ hr hn _ hlt]
  ·rw[List.take_append,List.take_of_length_le hge,XQ _ hr hn]
   dsimp only
   rw[Gc h3,if_neg (by simp),if_neg (by omega)]
   obtain⟨w1,w2,w3,w4⟩:=hw
   generalize hc':c-(ZQ (k,(It.mk k n b l).hn,false)).length=c'
   have hlt:c'<(b++ZH l).length:=by rw[List.length_append]at hc;omega
   rcases JS h3 with⟨rfl,rfl,rfl⟩ | ⟨rfl,rfl,rfl⟩ | ⟨rfl,rfl,rfl,hv⟩ | ⟨rfl,rfl,rfl⟩
   ·simp[ZH]at hlt
   ·simp[ZH]at hlt
    show Wm (ZT d) (2,b.length,false) (m-1) ((b++[]).take c')=_
    have hx:¬ b.length<=min c' b.length:=by omega
    simp[Wm,QE,Wh,List.length_take,hx]
   ·simp[ZH]at hlt
    show Wm (ZT d) (3,b.length,false) (m-1) ((b++[]).take c')=_
    have hx:¬ b.length<=min c' b.length:=by omega
    simp[Wm,QE,Wh,List.length_take,hx]
   ·simp only[List.nil_append]at hlt
    have hq:=On l d (m-1) m' c' [] w4 (by omega) h4 hlt
    show Wm (ZT d) (4,l.length,false) (m-1) (([]++ZH l).take c')=_
    rw[Wm,if_neg (by simp),if_pos rfl]
    simp only[Ju,List.nil_append]
    by_cases hx:l.length<=((ZH l).take c').length
    ·rw[if_pos hx,hq]
    ·rw[if_neg hx]
theorem On:∀(l:List It) (d m m' c:Nat) (acc:List It),wfs l->d<=6->Yc l (7-d) m=some m'->c<(ZH l).length->UZ (ZT d) l.length acc m ((ZH l).take c)=.error 8
 | [],d,m,m',c,acc,_,_,h,hc=>by simp[ZH]at hc
 | x::l,d,m,m',c,acc,hw,hd,h,hc=>by
  obtain⟨m1,h1,h2⟩:=Wo h
  rw[ZH]at hc ⊢
  rw[List.length_cons,UZ]
  rcases Nat.lt_or_ge c (ZM x).length with hlt|hge
  ·rw[List.take_append_of_le_length (by omega),Td x d m m1 c hw.1 hd h1 hlt]
  ·rw[List.take_append,List.take_of_length_le hge,QF x d m m1 _ hw.1 hd h1]
   dsimp only
   exact On l d m1 m' _ _ hw.2 hd h2 (by rw[List.length_append]at hc;omega)
end
theorem Q7 {h:Hd}{s c r:List UInt8}(e:Wh h s=.ok (c,r)):s=c++r/\c.length=h.2.1/\(h.1=3->ZD c=true):=by
 unfold Wh at e
 split at e
 ·split at e
  ·cases e
  ·rename_i h1 h2
   injection e with e;injection e with e1 e2
   subst e1 e2
   refine⟨by simp,by simp;omega,fun h3=>?_⟩
   simpa[h3]using h2
 ·cases e
theorem Nv (a b:Nat)(h:a+b<4294967296):ZC (a+b)<=ZC a+ZC b+2:=by
 unfold ZC
 repeat' split
 all_goals omega
theorem Gd {m:Int}:∀(f:Nat) (acc s c r:List UInt8),JQ m f acc s=.ok (c,r)->(m=3->ZD acc=true)->∃(pre d:List UInt8) (q:Nat),s=pre++r/\c=acc++d/\(m=3->ZD c=true)/\pre.length=1+d.length+q /\
  (s.length<4294967296->ZC d.length<=1+q/\(d=[]\/ZC d.length+1<=q\/2<=q))
 | 0,_,_,_,_,h,_=>by simp[JQ]at h
 | f+1,acc,s,c,r,h,ha=>by
  rw[JQ]at h
  cases he:Ub s with
  | true=>
   rw[he]at h
   injection h with h;injection h with h1 h2;subst h1 h2
   obtain⟨x,t,rfl⟩:∃ x t,s=x::t:=by cases s with|nil=>simp[Ub]at he|cons x t=>exact⟨x,t,rfl⟩
   exact⟨[x],[],0,rfl,by simp,ha,by simp,fun _=>⟨by simp[ZC],.inl rfl⟩⟩
  | false=>
   rw[he]at h
   dsimp only at h
   cases hr:rdS s with
   | error e=>rw[hr]at h;cases h
   | ok y=>
    obtain⟨p,t⟩:=y
    rw[hr]at h
    dsimp only at h
    obtain⟨k1,k2,pre,k3,k4,k5⟩:=KI hr
    by_cases hp:p.1=m/\p.2.2=false
    ·rw[if_pos hp]at h
     cases hc:Wh p t with
     | error e=>rw[hc]at h;cases h
     | ok y=>
      obtain⟨c1,r2⟩:=y
      rw[hc]at h
      dsimp only at h
      obtain⟨q1,q2,q3⟩:=Q7 hc
      have hv:m=3->ZD (acc++c1)=true:=fun h3=>by
       rw[U6 _ _ _ (Nat.le_refl _) (ha h3)]
       exact q3 (hp.1.trans h3)
      obtain⟨pre2,d2,q,e1,e2,e3,e4,e5⟩:=Gd f _ _ _ _ h hv
      have hw:(ZQ p).length=1+ZC c1.length:=by
       rw[YD p k1];unfold Uo;rw[if_pos k1,hp.2,<- q2];simp
      refine⟨pre++(c1++pre2),c1++d2,pre.length+q,by rw[k3,q1,e1];simp,by rw[e2];simp,e3,by simp;omega,fun hl=>?_⟩
      have hlen:=congrArg List.length k3
      have hlen2:=congrArg List.length q1
      have hlen3:=congrArg List.length e1
      simp only[List.length_append]at hlen hlen2 hlen3 ⊢
      obtain⟨f1,f2⟩:=e5 (by omega)
      have hadd:=Nv c1.length d2.length (by omega)
      have h4:ZC (c1.length+d2.length)<=4:=by
       unfold ZC
       repeat' split
       all_goals omega
      have hz:d2=[]->ZC (c1.length+d2.length)=ZC c1.length:=fun e=>by rw[e];rfl
      rcases f2 with e|f2|f2
      ·rw[hz e];omega
      ·omega
      ·omega
    ·rw[if_neg hp]at h;cases h
theorem Uz (s:List UInt8)(h:Ub s=true):∃ x,s=x::s.tail:=by
 cases s with
 | nil=>simp[Ub]at h
 | cons x t=>exact⟨x,rfl⟩
def Te (it:Nat->List UInt8->Res (It × List UInt8 × Nat))(D:Nat):Prop:=∀(m:Nat) (s:List UInt8) (x:It) (r:List UInt8) (m':Nat),it m s=.ok (x,r,m')->s.length<=140737488351232/\m<=256->YS x D m=some m'/\wfI x/\∃ pre,s=pre++r/\0<pre.length/\(m<=256/\s.length<4294967296->(ZM x).length<=pre.length)/\(ZM x).length+8*m'<=pre.length+8*m
mutual
theorem VW:∀ {x:It} {d m m':Nat},YS x d m=some m'->m'+1<=m
 | .mk k n b l,d,m,m',h=>by
  obtain⟨_,h2,_,h4⟩:=VV h
  have:=QG h4
  omega
theorem QG:∀ {l:List It} {d m m':Nat},Yc l d m=some m'->m'+l.length<=m
 | [],d,m,m',h=>by simp only[Yc,Option.some.injEq]at h;simp[h]
 | x::l,d,m,m',h=>by
  obtain⟨m1,h1,h2⟩:=Wo h
  have:=VW h1
  have:=QG h2
  simp;omega
end
theorem Qg:∀ {l:List It} {x:It} {D m m1 m2:Nat},Yc l D m=some m1->YS x D m1=some m2->Yc (l++[x]) D m=some m2
 | [],x,D,m,m1,m2,h1,h2=>by
  simp only[Yc,Option.some.injEq]at h1
  subst h1
  simp[Yc,h2]
 | y::l,x,D,m,m1,m2,h1,h2=>by
  obtain⟨m3,h3,h4⟩:=Wo h1
  rw[List.cons_append,Yc,h3]
  exact Qg h4 h2
theorem JU:∀ {l:List It} {x:It},wfs l->wfI x->wfs (l++[x])
 | [],x,_,h=>⟨h,trivial⟩
 | y::l,x,⟨h1,h2⟩,h=>⟨h1,JU h2 h⟩
theorem UA:∀(l l':List It),ZH (l++l')=ZH l++ZH l'
 | [],l'=>rfl
 | x::l,l'=>by rw[List.cons_append,ZH,ZH,UA l l',List.append_assoc]
theorem Ge {it:Nat->List UInt8->Res (It × List UInt8 × Nat)}{D:Nat}(hit:Te it D):∀(f:Nat) (acc:List It) (m0 m:Nat) (s:List UInt8) (l:List It) (r:List UInt8) (m':Nat),UZ it f acc m s=.ok (l,r,m')->s.length<=140737488351232/\m<=256->Yc acc D m0=some m->wfs acc ->
  Yc l D m0=some m'/\wfs l/\l.length=acc.length+f/\∃ pre,s=pre++r/\(m<=256/\s.length<4294967296->(ZH l).length<=(ZH acc).length+pre.length)/\(ZH l).length+8*m'<=(ZH acc).length+pre.length+8*m
 | 0,acc,m0,m,s,l,r,m',h,hs,ha,hw=>by
  rw[UZ]at h
  injection h with h;injection h with h1 h2;injection h2 with h2 h3
  subst h1 h2 h3
  exact⟨ha,hw,rfl,[],rfl,fun _=>by simp,by simp⟩
 | f+1,acc,m0,m,s,l,r,m',h,hs,ha,hw=>by
  rw[UZ]at h
  cases hx:it m s with
  | error e=>rw[hx]at h;cases h
  | ok y=>
   obtain⟨x,r1,m1⟩:=y
   rw[hx]at h
   dsimp only at h
   obtain⟨k1,k2,pre,k3,k4,k5,k6⟩:=hit _ _ _ _ _ hx hs
   have hl:=congrArg List.length k3
   rw[List.length_append]at hl
   have hlt:=VW k1
   obtain⟨q1,q2,q3,pre2,q4,q5,q6⟩:=Ge hit f _ m0 _ _ _ _ _ h (by omega) (Qg ha k1) (JU hw k2)
   rw[UA]at q5 q6
   simp only[ZH,List.append_nil,List.length_append]at q5 q6
   refine⟨q1,q2,by rw[q3];simp;omega,pre++pre2,by rw[k3,q4];simp,fun h4=>?_,by rw[List.length_append];omega⟩
   have:=q5 (by omega)
   have:=k5 h4
   rw[List.length_append]
   omega
theorem Gf {it:Nat->List UInt8->Res (It × List UInt8 × Nat)}{D:Nat}(hit:Te it D):∀(f:Nat) (acc:List It) (m0 m:Nat) (s:List UInt8) (l:List It) (r:List UInt8) (m':Nat),QD it f acc m s=.ok (l,r,m')->s.length<=140737488351232/\m<=256->Yc acc D m0=some m->wfs acc ->
  Yc l D m0=some m'/\wfs l/\acc.length<=l.length/\∃ pre,s=pre++r/\l.length+1<=acc.length+pre.length/\(m<=256/\s.length<4294967296->(ZH l).length+1<=(ZH acc).length+pre.length)/\(ZH l).length+8*m'<=(ZH acc).length+pre.length+8*m
 | 0,acc,m0,m,s,l,r,m',h,hs,ha,hw=>by rw[QD]at h;cases h
 | f+1,acc,m0,m,s,l,r,m',h,hs,ha,hw=>by
  rw[QD]at h
  cases he:Ub s with
  | true=>
   rw[he]at h
   injection h with h;injection h with h1 h2;injection h2 with h2 h3
   subst h1 h2 h3
   obtain⟨x,hx⟩:=Uz s he
   exact⟨ha,hw,Nat.le_refl _,[x],hx,by simp,fun _=>by simp,by simp⟩
  | false=>
   rw[he]at h
   dsimp only at h
   cases hx:it m s with
   | error e=>rw[hx]at h;cases h
   | ok y=>
    obtain⟨x,r1,m1⟩:=y
    rw[hx]at h
    dsimp only at h
    obtain⟨k1,k2,pre,k3,k4,k5,k6⟩:=hit _ _ _ _ _ hx hs
    have hl:=congrArg List.length k3
    rw[List.length_append]at hl
    have hlt:=VW k1
    obtain⟨q1,q2,q3,pre2,q4,q5,q6,q7⟩:=Gf hit f _ m0 _ _ _ _ _ h (by omega) (Qg ha k1) (JU hw k2)
    rw[UA]at q6 q7
    simp only[ZH,List.append_nil,List.length_append]at q6 q7
    refine⟨q1,q2,by simp at q3;omega,pre++pre2,by rw[k3,q4];simp,by simp at q5 ⊢;omega,fun h4=>?_,by rw[List.length_append];omega⟩
    have:=q6 (by omega)
    have:=k5 h4
    rw[List.length_append]
    omega
theorem Wn {k:Int}{n:Nat}{b:List UInt8}{l:List It}(hr:ZZ (k,(It.mk k n b l).hn,false)=true):(ZM (.mk k n b l)).length=1+ZC (It.mk k n b l).hn+(b.length+(ZH l).length):=by
 rw[ZM,if_pos hr]
 simp only[List.length_append]
 rw[YD _ hr]
 unfold Uo;rw[if_pos hr];simp
theorem Oo (a:Nat):ZC a<=8:=by
 unfold ZC
 repeat' split
 all_goals omega
theorem UP {h:Hd}(hr:ZZ h=true)(ho:h.2.2=false):(ZQ h).length=1+ZC h.2.1:=by
 rw[YD h hr];unfold Uo;rw[if_pos hr,ho];rfl
theorem XR {k:Int}(h:okK k=true):k=0\/k=2\/k=3\/k=4:=by
 simpa[okK]using h
theorem QH:∀(d:Nat),d<=6->Te (ZT d) (7-d)
 | 0,_=>fun m s x r m' h hs=>by
  rw[ZT]at h
  cases hr:rdS s with
  | error e=>rw[hr]at h;cases h
  | ok y=>obtain⟨hd,t⟩:=y;rw[hr]at h;dsimp only at h;split at h<;>cases h
 | d+1,hd=>fun m s x r m' h hs=>by
  rw[ZT]at h
  cases hr:rdS s with
  | error e=>rw[hr]at h;cases h
  | ok y=>
   obtain⟨⟨k,n,o⟩,t⟩:=y
   rw[hr]at h
   dsimp only at h
   obtain⟨k1,k2,pre,k3,k4,k5⟩:=KI hr
   dsimp only at k2
   have hlen:=congrArg List.length k3
   rw[List.length_append]at hlen
   cases hk:okK k with
   | false=>rw[hk,if_pos rfl]at h;cases h
   | true=>
    rw[hk,if_neg (by simp)]at h
    by_cases hm:m=0
    ·rw[if_pos hm]at h;cases h
    ·rw[if_neg hm]at h
     have hwk:∀(k:Int) (n:Nat) (b:List UInt8) (l:List It),W7 k n b l=true->Yc l (7-d) (m-1)=some m'->YS (.mk k n b l) (7-(d+1)) m=some m':=fun k n b l ho hl=>by
      rw[YS,if_neg (by omega),if_neg (by omega),ho,show 7-(d+1)+1=7-d by omega]
      exact hl
     have hr0:∀(k:Int) (n:Nat) (b:List UInt8) (l:List It),W7 k n b l=true->ZZ (k,(It.mk k n b l).hn,false)=true:=fun k n b l ho=>by
      have:=Jy ho
      simp[ZZ];exact this
     unfold Wm at h
     dsimp only at h
     by_cases h0:k=0
     ·subst h0
      rw[if_pos rfl]at h
      injection h with h;injection h with h1 h2;injection h2 with h2 h3
      subst h1 h2 h3
      have ho:W7 0 n [] []=true:=rfl
      have hf8:=Oo n
      refine⟨hwk _ _ _ _ ho (by simp[Yc]),⟨k2,by simp,by simp,trivial⟩,pre,k3,k5,fun _=>?_,by rw[Wn (hr0 _ _ _ _ ho)];simp only[It.hn,ZH,List.length_nil];simp;omega⟩
      rw[Wn (hr0 _ _ _ _ ho)]
      have hof:o=false:=by cases o with
       | false=>rfl
       | true=>have:=(QC k1).2;simp[UY]at this
      subst hof
      have:=UP k1 rfl
      simp[It.hn,ZH]at this ⊢
      omega
     rw[if_neg h0]at h
     by_cases h4:k=4
     ·subst h4
      rw[if_pos rfl]at h
      cases hl:Ju (ZT d) (4,n,o) (m-1) t with
      | error e=>rw[hl]at h;cases h
      | ok y=>
       obtain⟨l,r2,m2⟩:=y
       rw[hl]at h
       dsimp only at h
       injection h with h;injection h with h1 h2;injection h2 with h2 h3
       subst h1 h2 h3
       have ho:W7 4 0 [] l=true:=rfl
       have hR:=QH d (by omega)
       unfold Ju at hl
       dsimp only at hl
       cases o with
       | true=>
        dsimp only at hl
        obtain⟨q1,q2,q3,pre2,q4,q5,q6,q7⟩:=Gf hR _ _ (m-1) _ _ _ _ _ hl (by omega) rfl trivial
        have hl2:=congrArg List.length q4
        rw[List.length_append]at hl2
        simp at q5
        have hc:=QG q1
        have hf8:=Oo l.length
        simp only[ZH,List.length_nil,Nat.zero_add]at q7
        refine⟨hwk _ _ _ _ ho q1,⟨by omega,by simp,by omega,q2⟩,pre++pre2,by rw[k3,q4];simp,by simp;omega,fun h4=>?_,by rw[Wn (hr0 _ _ _ _ ho)];simp[It.hn];omega⟩
        have:=q6 (by omega)
        rw[Wn (hr0 _ _ _ _ ho)]
        have hf:ZC l.length<=1:=by
         unfold ZC
         repeat' split
         all_goals omega
        simp[It.hn,ZH]at this ⊢
        omega
       | false=>
        dsimp only at hl
        split at hl
        ·obtain⟨q1,q2,q3,pre2,q4,q5,q7⟩:=Ge hR _ _ (m-1) _ _ _ _ _ hl (by omega) rfl trivial
         have hl2:=congrArg List.length q4
         rw[List.length_append]at hl2
         simp at q3
         have hc:=QG q1
         have hf8:=Oo l.length
         simp only[ZH,List.length_nil,Nat.zero_add]at q7
         refine⟨hwk _ _ _ _ ho q1,⟨by omega,by simp,by omega,q2⟩,pre++pre2,by rw[k3,q4];simp,by simp;omega,fun h4=>?_,by rw[Wn (hr0 _ _ _ _ ho)];simp[It.hn];omega⟩
         have:=q5 (by omega)
         rw[Wn (hr0 _ _ _ _ ho)]
         have:=UP k1 rfl
         simp[It.hn,ZH,q3]at this ⊢
         simp[ZH]at *
         omega
        ·cases hl
     ·rw[if_neg h4]at h
      cases hl:QE (k,n,o) t with
      | error e=>rw[hl]at h;cases h
      | ok y=>
       obtain⟨c,r2⟩:=y
       rw[hl]at h
       dsimp only at h
       injection h with h;injection h with h1 h2;injection h2 with h2 h3
       subst h1 h2 h3
       have hk':k=2\/k=3:=by rcases XR hk with h|h|h|h<;>simp_all
       have hhn:(It.mk k 0 c []).hn=c.length:=by rcases hk' with rfl|rfl<;>rfl
       have ho:(k=3->ZD c=true)->W7 k 0 c []=true:=fun hv=>by
        rcases hk' with rfl|rfl
        ·rfl
        ·simp[W7,hv]
       unfold QE at hl
       dsimp only at hl
       cases o with
       | true=>
        dsimp only at hl
        obtain⟨pre2,d2,q,e1,e2,e3,e4,e5⟩:=Gd _ _ _ _ _ hl (fun _=>rfl)
        simp only[List.nil_append]at e2
        subst e2
        have hl2:=congrArg List.length e1
        rw[List.length_append]at hl2
        have hf8:=Oo c.length
        refine⟨hwk _ _ _ _ (ho e3) rfl,⟨by omega,by omega,by simp,trivial⟩,pre++pre2,by rw[k3,e1];simp,by simp;omega,fun h4=>?_,by rw[Wn (hr0 _ _ _ _ (ho e3)),hhn];simp[ZH];omega⟩
        have:=e5 (by omega)
        rw[Wn (hr0 _ _ _ _ (ho e3)),hhn]
        simp[ZH]
        omega
       | false=>
        dsimp only at hl
        obtain⟨q1,q2,q3⟩:=Q7 hl
        dsimp only at q2 q3
        have hl2:=congrArg List.length q1
        rw[List.length_append]at hl2
        have hf8:=Oo c.length
        refine⟨hwk _ _ _ _ (ho q3) rfl,⟨by omega,by omega,by simp,trivial⟩,pre++c,by rw[k3,q1];simp,by simp;omega,fun h4=>?_,by rw[Wn (hr0 _ _ _ _ (ho q3)),hhn];simp[ZH];omega⟩
        rw[Wn (hr0 _ _ _ _ (ho q3)),hhn]
        have:=UP k1 rfl
        dsimp only at this
        have e:ZC c.length=ZC n:=by rw[q2]
        simp[ZH]
        omega
end Go.Proofs.YtmljabhmajehnaaDoor
end
section
open Go.RowKit Go.Pl Go.Av
namespace Go.Proofs.YtmljabhmajehnaaDoor
set_option maxHeartbeats 4000000
theorem VX [Known](b:List UInt8)(hb:b.length<=140737488351232):AP Tryd.prog 24 [byE b] (byE b) []:=by
 have hU:=YW b
 cases b with
 | nil=>
  refine AP.ofA (Zl Tryd.func24 Z Tryd.ntmps24 Z Z ?_)
  repeat'(first|(apply KC Za;(iterate 5 exact Z);intro b hbn)|(apply Zh Za;exact Z)|(apply Zf Za;exact Z)|(apply Zt Za;exact Z)|(apply W0;exact Z;all_goals intro hb)|refine XN Za Z Z Z Z Z Z Z Z Z Z Z Z ?_|refine Y7 Za Z Z Z Z Z Z ?_)
  all_goals exact Qe
 | cons c b=>
  refine AP.ofA (Zl Tryd.func24 Z Tryd.ntmps24 Z Z ?_)
  repeat'(first|(apply KC Za;(iterate 5 exact Z);intro b hbn;(have hbn2:=hbn (List.cons_ne_nil _ _));subst hbn2;clear hbn)|(apply Zh Za;exact Z)|(apply Zf Za;exact Z)|(apply Zt Za;exact Z)|(apply Zg;exact Z;(first|with_reducible assumption|(solve|simp only[bn])))|refine XN Za Z Z Z Z Z Z Z Z Z Z Z Z ?_|(apply ZV Za;(iterate 6 exact Z);(first|with_reducible assumption|exact Z|rotate_left);exact Z;exact Z;(first|exact Zj rfl|with_reducible assumption|rotate_left);(first|exact Zj rfl|with_reducible assumption|rotate_left);(first|exact Qb|rotate_left);(first|exact Qb|rotate_left);(first|exact Qb|rotate_left);exact Z;exact Z))
  all_goals first|(apply Zs [];(apply Zc Za;exact Z);(iterate 4 exact Z))|skip
  all_goals first|rfl|(simp at hb ⊢;(try unfold maxLen);omega)
theorem KJ [Known](a b:List UInt8):AP Tryd.prog 33 [byE a,byE b] (.bool (a==b)) []:=by
 refine AP.ofA (Zl Tryd.func33 Z Tryd.ntmps33 Z Z ?_)
 repeat'(first|(apply Zh Za;exact Z)|(apply Zf Za;exact Z)|refine KA Za Z Z Z Z Z Z Z Z Z ?_)
 all_goals exact Qe
end Go.Proofs.YtmljabhmajehnaaDoor
end

/- What a decoder of frames takes of bytes, in plain words. -/
import Derived.Test.YtkdpfkjlheajhaaF01
set_option linter.unusedVariables false
set_option linter.unusedSimpArgs false
section
namespace Go.Proofs.Ytkdpfkjlheajhaa
def Zl (b:List UInt8):Nat:=256*(b.getD 0 0).toNat+(b.getD 1 0).toNat
def Zh (b:List UInt8):List (List UInt8) × List UInt8 × Nat:=
 if b.length<2 then([],b,0)
 else if Zl b=0 then([],[],3)
 else if Zl b>1000 then([],[],2)
 else if h:b.length<Zl b+2 then([],b,0)
 else
  let r:=Zh (b.drop (2+Zl b))
  ((b.take (2+Zl b)).drop 2::r.1,r.2)
termination_by b.length
decreasing_by simp;omega
theorem ZZ {b:List UInt8}(h:b.length<2):Zh b=([],b,0):=by rw[Zh,if_pos h]
theorem ZX {b:List UInt8}(h:¬ b.length<2)(h0:Zl b=0):Zh b=([],[],3):=by rw[Zh,if_neg h,if_pos h0]
theorem Yb {b:List UInt8}(h:¬ b.length<2)(h0:Zl b>1000):Zh b=([],[],2):=by rw[Zh,if_neg h,if_neg (by omega),if_pos h0]
theorem Yc {b:List UInt8}(h:¬ b.length<2)(h0:Zl b ≠ 0)(h1:¬ Zl b>1000)(h2:b.length<Zl b+2):Zh b=([],b,0):=by rw[Zh,if_neg h,if_neg h0,if_neg h1,dif_pos h2]
theorem YD {b:List UInt8}(h:¬ b.length<2)(h0:Zl b ≠ 0)(h1:¬ Zl b>1000)(h2:¬ b.length<Zl b+2) :
  Zh b=((b.take (2+Zl b)).drop 2::(Zh (b.drop (2+Zl b))).1,(Zh (b.drop (2+Zl b))).2):=by rw[Zh,if_neg h,if_neg h0,if_neg h1,dif_neg h2]
abbrev Dec:=List UInt8 × Nat
def WB (d:Dec)(b:List UInt8):List (List UInt8) × Dec:=if d.2=0 then Zh (d.1++b) else([],d)
def VF (b:List UInt8):List UInt8:=UInt8.ofNat (b.length/256)::UInt8.ofNat (b.length % 256)::b
theorem U7 (b:List UInt8):(Zh b).2.2=0\/((Zh b).2.1=[]/\((Zh b).2.2=2\/(Zh b).2.2=3)):=by
 fun_induction Zh b with
 | case1 b h=>simp
 | case2 b h h0=>simp
 | case3 b h h0 h1=>simp
 | case4 b h h0 h1 h2=>simp
 | case5 b h h0 h1 h2 r ih=>exact ih
theorem ZJ (b:List UInt8):(Zh b).2.1.length<=b.length:=by
 fun_induction Zh b with
 | case1 b h=>simp
 | case2 b h h0=>simp
 | case3 b h h0 h1=>simp
 | case4 b h h0 h1 h2=>simp
 | case5 b h h0 h1 h2 r ih=>simp only[List.length_drop]at ih;show(Zh (b.drop (2+Zl b))).2.1.length<=_;omega
theorem Zu (b:List UInt8):(Zh b).1.length<=b.length:=by
 fun_induction Zh b with
 | case1 b h=>simp
 | case2 b h h0=>simp
 | case3 b h h0 h1=>simp
 | case4 b h h0 h1 h2=>simp
 | case5 b h h0 h1 h2 r ih=>simp only[List.length_drop]at ih;show(_::(Zh (b.drop (2+Zl b))).1).length<=_;rw[List.length_cons];omega
theorem YS {x:List UInt8}(y:List UInt8)(h:¬ x.length<2):Zl (x++y)=Zl x:=by
 match x,h with
 | a::b::r,_=>rfl
 | [_],h=>simp at h
 | [],h=>simp at h
theorem Wp (x y:List UInt8):Zh (x++y)=((Zh x).1++(WB (Zh x).2 y).1,(WB (Zh x).2 y).2):=by
 fun_induction Zh x with
 | case1 x h=>simp[WB]
 | case2 x h h0=>
  rw[ZX (by simp;omega) (by rw[YS y h];exact h0)]
  simp[WB]
 | case3 x h h0 h1=>
  rw[Yb (by simp;omega) (by rw[YS y h];exact h1)]
  simp[WB]
 | case4 x h h0 h1 h2=>simp[WB]
 | case5 x h h0 h1 h2 r ih=>
  have hl:=YS y h
  rw[YD (by simp;omega) (by rw[hl];exact h0) (by rw[hl];exact h1) (by rw[hl];simp;omega),hl]
  rw[List.take_append_of_le_length (by omega),List.drop_append_of_le_length (by omega),ih]
  rfl
end Go.Proofs.Ytkdpfkjlheajhaa
end

import Derived.Test.YtpdgokkbljiccaaGreatP2
set_option linter.unusedVariables false
set_option linter.unusedSimpArgs false
namespace Go.Am.Pu
open Go Go.Am
structure Mb (b:J1):Prop where
 g1:b.1.length≤1000000000
 q:b.2.1.length≤1000000000
 k:b.2.2.1.length≤1000000000
 v:b.2.2.2.1.length≤1000000000
 o:b.2.2.2.2.1.length≤1000000000
 g2:b.2.2.2.2.2.1.length≤1000000000
 m1:b.2.2.2.2.2.2.2.2.2.2.2.1.length≤1000000000
 m2:b.2.2.2.2.2.2.2.2.2.2.2.2.1.length≤1000000000
 m3:b.2.2.2.2.2.2.2.2.2.2.2.2.2.1.length≤1000000000
theorem HZ{l:List Int}{b:Nat}(h:l.length≤1000000000:=by omega)(a:b≤1000:=by omega):app b [] l=some l:=by
 unfold app;rw[if_pos]
 ·rfl
 ·have:l.length*b≤1000000000*1000:=Nat.mul_le_mul h a;unfold room;simp;omega
theorem da{n:Nat}{l:List Int}(h:l.length≤1000000000:=by omega):bL n l=some l:=by
 rw[wY,HZ h (by omega)];rfl
abbrev PI:=Int×Int×Int×Int×Int×Int
def Iw(s:PI):Prop:=(2≤s.1∧s.1≤512)∧(1≤s.2.1∧s.2.1≤512)∧(2≤s.2.2.1∧s.2.2.1≤64)∧(1≤s.2.2.2.2.1∧s.2.2.2.2.1≤8)∧(1≤s.2.2.2.2.2∧s.2.2.2.2.2≤256)∧1≤s.2.2.2.1∧s.2.2.1 % s.2.2.2.1=0∧s.2.2.1/s.2.2.2.1 % 2=0
instance (s:PI):Decidable (Iw s):=by unfold Iw;exact inferInstance
theorem kq{R:Type}{x y:Option R}:eN true x y=x:=rfl
end Go.Am.Pu

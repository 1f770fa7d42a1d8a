import Derived.Test.YtpdgokkbljiccaaGreatP1
set_option linter.unusedVariables false
set_option linter.unusedSimpArgs false
namespace Go.Am.Pu
open Go Go.Am
theorem mw{α:Type}{b:Nat}{l m:List α}(h:l.length+m.length≤10000000000:=by omega)(a:b≤1000:=by omega):app b l m=some (l++m):=by
 unfold app;have:(l.length+m.length)*b≤10000000000*1000:=Nat.mul_le_mul h a;rw[if_pos (by unfold room;omega)]
theorem qa{b:Nat}{n:Int}{m:Nat}(h:n=(m:Int):=by omega)(hm:m≤10000000000:=by omega)(a:b≤1000:=by omega):Gn b n=some m:=by
 unfold Gn;have:m*b≤10000000000*1000:=Nat.mul_le_mul hm a;subst h;rw[if_pos (by simp only[Int.toNat_natCast];unfold room;omega)];simp
end Go.Am.Pu
